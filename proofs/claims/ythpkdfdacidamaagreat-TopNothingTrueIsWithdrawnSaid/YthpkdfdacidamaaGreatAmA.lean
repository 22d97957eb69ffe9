/- lemmas -/
import Derived.CallsIn
import Derived.Lib.SlicesCompact
import Derived.WalkKit
import Derived.Laws.AppendOwn
import Derived.Laws.CopyRow
import Derived.Laws.MakeOwn
set_option linter.all false
set_option linter.unusedSectionVars false
set_option linter.unusedVariables false
set_option linter.unusedSimpArgs false
def cF:=@List.getElem?_eq_getElem
def cG:=@Nat.le_refl
def cH:=@Bool.and_eq_true
def cI:=@List.getElem?_eq_some_iff
def cJ:=@List.length_append
def cM:=@List.mem_append
def cN:=@List.mem_cons
def cO:=@List.mem_of_getElem?
def cP:=@List.mem_singleton
def cQ:=@Nat.eq_of_beq_eq_true
def cR:=@List.append_assoc
def cS:=@List.mem_iff_getElem
def cT:=@Int.toNat_natCast
def cV:=@List.length_eq_zero_iff
def cW:=@List.length_cons
def cX:=@Bool.false_eq_true
def cY:=@Nat.le_trans
def cZ:=@List.length_take
def dc:=@Nat.lt_of_lt_of_le
def df:=@Nat.lt_or_ge
def dg:=@List.findIdx?_eq_some_iff_getElem
def dh:=@List.append_nil
def di:=@List.mem_cons_of_mem
def dj:=@List.all_eq_true
def dk:=@Nat.add_mul
def dl:=@List.pairwise_iff_getElem
def dm:=@Nat.mul_le_mul_right
def dt:=@List.mem_map
def du:=@List.any_eq_true
def dv:=@List.mem_flatMap
def dw:=@List.mem_append_right
def dz:=@List.length_map
def dA:=@List.pairwise_cons
def dB:=@List.mem_append_left
def dC:=@Nat.zero_add
def dD:=@Bool.not_true
def dE:=@List.findIdx?_eq_none_iff
def dF:=@List.drop_eq_getElem_cons
def dG:=@List.flatMap_cons
def dH:=@List.mem_filter
def dI:=@List.length_singleton
def dJ:=@Bool.true_and
def dK:=@Option.map_some
def dL:=@List.nil_append
def dM:=@List.prefix_rfl
def dN:=@Array.toList_inj
def dO:=@List.prefix_append
def dP:=@Int.le_refl
def dQ:=@List.take_append_drop
def dR:=@Nat.zero_le
def dS:=@List.take_of_length_le
def dT:=@Array.getD_eq_getD_getElem?
def dU:=@List.find?_eq_none
def dV:=@List.length_filter_le
def dW:=@List.Nodup.length_le_of_subset
def dX:=@List.length_nil
def dY:=@List.length_pos_iff
def dZ:=@List.getElem?_take
def d9:=@List.getElem?_toArray
def ee:=@Bool.not_eq_true'
def eh:=@List.getD_eq_getElem?_getD
def ej:=@List.map_cons
def eo:=@List.getElem?_drop
def ew:=@Int.mul_le_mul_of_nonneg_right
def eA:=@List.filter_cons
def eD:=@Option.bind_some
def eE:=@Array.getElem?_push
def eF:=@List.any_eq_false
def eG:=@List.prefix_append_right_inj
def eI:=@Nat.le_of_ble_eq_true
def eJ:=@List.map_append
def eM:=@List.filter_append
def eN:=@List.getElem_mem
def eO:=@List.getElem?_append
def eP:=@Array.getElem?_eq_some_iff
def eQ:=@Bool.not_false
def eR:=@Bool.eq_false_iff
def eS:=@List.size_toArray
def eT:=@List.nodup_cons
def eV:=@List.contains_iff_mem
def eW:=@Eq.trans
def eX:=@Bool.not_eq_false'
def eY:=@Int.natCast_succ
def eZ:=@List.cons_append
def fc:=@Int.mul_assoc
def fe:=@Array.ext'
def ff:=@List.getElem?_map
def fg:=@List.getElem_take
def fh:=@List.length_set
def fi:=@Array.length_toList
def fj:=@List.map_congr_left
def fk:=@List.map_nil
def fm:=@Nat.one_mul
def fo:=@Nat.eq_zero_or_pos
def fp:=@List.length_replicate
def fq:=@Array.getElem?_append
def ft:=@List.mem_of_find?_eq_some
def fu:=@Int.add_mul
def fw:=@List.find?_cons
def fA:=@List.filter_nil
def fB:=@Nat.ne_of_lt
def fC:=@List.all_cons
def fD:=@List.take_append_of_le_length
def fE:=@List.pairwise_singleton
def fF:=@List.getElem?_cons_zero
def fG:=@List.flatMap_append
def fH:=@Array.getElem?_setIfInBounds
def fI:=@Int.natAbs_mul
def fJ:=@List.take_length
def fK:=@Int.mul_le_mul
def fL:=@Nat.add_zero
def fM:=@Int.natAbs_natCast
def fN:=@List.range_succ
def fO:=@List.foldr_cons
def fP:=@List.find?_some
def fQ:=@List.getElem?_append_right
def fR:=@List.getElem?_set
def fS:=@List.length_range
def fT:=@List.pairwise_append
def fU:=@List.mem_of_mem_take
def fV:=@Nat.mul_one
def fW:=@Nat.mul_le_mul
def fX:=@List.drop_drop
def fY:=@Array.toList_map
def fZ:=@Int.mul_comm
def f0:=@List.getElem?_range
def f5:=@List.replicate_succ
def f6:=@List.findSome?_cons
def f7:=@List.filter_cons_of_neg
def f8:=@List.filter_cons_of_pos
def f9:=@Nat.le_mul_of_pos_right
def gb:=@List.getElem?_cons_succ
def gd:=@Nat.lt_or_eq_of_le
def gg:=@List.foldl_cons
def gh:=@Nat.le_succ
def gi:=@List.drop_of_length_le
def gj:=@Int.mul_le_mul_of_nonneg_left
def gk:=@Bool.false_and
def gn:=@List.mem_range
def gq:=@List.set_append_right
def gu:=@Array.getElem?_toList
def gw:=@Int.mul_nonneg
def gy:=@Int.add_zero
def gz:=@List.nodup_nil
def gA:=@Bool.or_eq_false_iff
def gB:=@List.not_mem_nil
def gC:=@List.length_drop
def gD:=@Int.one_mul
def gE:=@List.append_toArray
def gF:=@List.filter_eq_self
def gG:=@Option.any_some
def gH:=@Bool.eq_iff_iff
def gI:=@Int.natAbs_tdiv_le_natAbs
def gJ:=@Nat.succ_pos
def gK:=@Nat.lt_succ_iff_lt_or_eq
def gL:=@Option.isSome_iff_exists
def gM:=@Nat.le_of_eq
def gN:=@List.Perm.eq_of_pairwise
def gO:=@List.drop_zero
def gP:=@List.getElem?_replicate
def gQ:=@Array.size_append
def gR:=@List.filter_eq_nil_iff
def gS:=@Option.getD_some
def gT:=@Bool.and_eq_false_iff
def gW:=@Int.lt_or_le
def gX:=@Nat.sub_self
def gY:=@Int.natCast_mul
noncomputable section
namespace Go.Am
inductive Ty where
 |unit
 |bool
 |int (k:IntKind)
 |str
 |slice (t:Ty)
 |map (k v:Ty)
 |ptr (t:Ty)
 |pair (a b:Ty)
 deriving DecidableEq
@[reducible] def Val:Ty→Type
 |.unit=>Unit
 |.bool=>Bool
 |.int _=>Int
 |.str=>ByteArray
 |.slice t=>List (Val t)
 |.map k v=>List (Val k×Val v)
 |.ptr t=>Val t
 |.pair a b=>Val a×Val b
inductive AV where
 |any
 |und
 |bool (b:Bool)
 |int (k:IntKind) (n:Int)
 |str (s:ByteArray)
 |nils
 |slc (t:Ty) (xs:List (Val t))
 |own (id g:Nat)
 |sub (id g lo n:Nat)
 |nilm
 |mp (k v:Ty) (es:List (Val k×Val v))
 |omp (id:Nat)
 |nilp
 |box (id off:Nat)
 |eptr (t:Ty) (x:Val t) (off:Nat)
 |optr (id g i off:Nat)
 |dp (id g:Nat)
 |dq (id g i:Nat)
 |dr (id g i:Nat)
 |de (id g i j:Nat)
 |nilfn
 |yld
 |fn (f:Fn) (first caps:List AV)
 |agg (cs:List AV)
 |tup (vs:List AV)
inductive Blk where
 |dead
 |cells (cs:List AV)
 |row (t:Ty) (g:Nat) (fz:Bool) (xs:List (Val t))
 |map (k v:Ty) (es:List (Val k×Val v))
 |deep (k:IntKind) (g:Nat) (xss:List (List Int))
 |acc (t:Ty) (xs:List (Val t))
structure St where
 t:List AV
 h:List Blk
def Ty.size:Ty→Nat
 |.unit=>0
 |.pair a b=>a.size+b.size
 |_=>1
def Ty.isAgg:Ty→Bool
 |.unit=>true
 |.pair _ _=>true
 |_=>false
def flat:(t:Ty)→Val t→List AV
 |.unit,_=>[]
 |.bool,b=>[.bool b]
 |.int k,n=>[.int k n]
 |.str,s=>[.str s]
 |.slice t,xs=>[.slc t xs]
 |.map k v,es=>[.mp k v es]
 |.ptr t,x=>[.eptr t x 0]
 |.pair a b,v=>flat a v.1++flat b v.2
def yu {F:Ty→Type} {a b:Ty} (h:a=b) (x:F a):F b:=h▸x
def π:(t:Ty)→List AV→Option (Val t×List AV)
 |.unit,l=>some ((),l)
 |.bool,.bool b::l=>some (b,l)
 |.int k,.int k' n::l=>match decEq k' k with
  |isTrue _=>some (n,l)
  |isFalse _=>none
 |.str,.str s::l=>some (s,l)
 |.slice _,.nils::l=>some ([],l)
 |.slice t,.slc t' xs::l=>match decEq t' t with
  |isTrue h=>some (yu (F:=fun t=>List (Val t)) h xs,l)
  |isFalse _=>none
 |.map _ _,.nilm::l=>some ([],l)
 |.map k v,.mp k' v' es::l=>match decEq (Ty.map k' v') (Ty.map k v) with
  |isTrue h=>some (yu (F:=Val) h es,l)
  |isFalse _=>none
 |.ptr t,.eptr t' x 0::l=>match decEq t' t with
  |isTrue h=>some ((yu (F:=Val) h x:Val t),l)
  |isFalse _=>none
 |.pair a b,l=>match π a l with
  |some (x,l)=>match π b l with
   |some (y,l)=>some ((x,y),l)
   |none=>none
  |none=>none
 |_,_=>none
def Û (t:Ty) (l:List AV):Option (Val t) :=
 match π t l with
 |some (x,[])=>some x
 |_=>none
def enc:(t:Ty)→Val t→AV
 |.unit,_=>.agg []
 |.pair a b,v=>.agg (flat (.pair a b) v)
 |.bool,b=>.bool b
 |.int k,n=>.int k n
 |.str,s=>.str s
 |.slice t,xs=>.slc t xs
 |.map k v,es=>.mp k v es
 |.ptr t,x=>.eptr t x 0
def Ů:AV→Option (List AV)
 |.agg cs=>some cs
 |.any=>none
 |.und=>none
 |.tup _=>none
 |v=>some [v]
def lk:List AV→Nat→AV
 |[],_=>.any
 |x::_,0=>x
 |_::xs,n+1=>lk xs n
def upd:List AV→Nat→AV→List AV
 |[],_,_=>[]
 |_::xs,0,v=>v::xs
 |x::xs,n+1,v=>x::upd xs n v
def lkB:List Blk→Nat→Blk
 |[],_=>.dead
 |x::_,0=>x
 |_::xs,n+1=>lkB xs n
def ø:List Blk→Nat→Blk→List Blk
 |[],_,_=>[]
 |_::xs,0,v=>v::xs
 |x::xs,n+1,v=>x::ø xs n v
def Oi:List AV→Nat→Nat→Option (List AV)
 |_,0,0=>some []
 |c::cs,0,n+1=>match Oi cs 0 n with
  |some l=>some (c::l)
  |none=>none
 |_::cs,o+1,n=>Oi cs o n
 |[],_,_=>none
def abh:List AV→Nat→List AV→Option (List AV)
 |cs,0,[]=>some cs
 |_::cs,0,v::vs=>match abh cs 0 vs with
  |some l=>some (v::l)
  |none=>none
 |c::cs,o+1,vs=>match abh cs o vs with
  |some l=>some (c::l)
  |none=>none
 |[],_,_=>none
def cv1:Value→AV
 |.bool b=>.bool b
 |.int k n=>.int k n
 |.string s=>.str s
 |.slice none 0 0=>.nils
 |.map none=>.nilm
 |.pointer none=>.nilp
 |.nilFunc=>.nilfn
 |_=>.any
def cv:Value→AV
 |.agg cs=>match cs.toList.all Value.oneCell' with
  |true=>.agg (cs.toList.map cv1)
  |false=>.any
 |v=>cv1 v
def ev (t:List AV):Operand→AV
 |.tmp i=>lk t i
 |.const v=>cv v
 |.func f=>.fn (.func f) [] []
 |.global _=>.any
def Oj:TypeDesc→Bool
 |.struct _=>true
 |.array _ _=>true
 |_=>false
def szP (P:Program) (t:TypeId):Option Nat :=
 match P.info? t with
 |some i=>some i.size
 |none=>none
def ldP (P:Program) (t:TypeId):Option (Bool×Nat) :=
 match P.underlying t with
 |some d=>match szP P t with
  |some n=>some (Oj d,n)
  |none=>none
 |none=>none
def mkv (agg:Bool) (cs:List AV):Option AV :=
 match agg with
 |true=>some (.agg cs)
 |false=>match cs with
  |[v]=>some v
  |_=>none
def ahs:List Ty→Ty
 |[]=>.unit
 |[t]=>t
 |t::ts=>.pair t (ahs ts)
def Xw (P:Program):Nat→TypeId→Option Ty
 |0,_=>none
 |n+1,t=>match P.underlying t with
  |some .bool=>some .bool
  |some (.int k)=>some (.int k)
  |some .string=>some .str
  |some (.slice e)=>(Xw P n e).map .slice
  |some (.map k e)=>match Xw P n k,Xw P n e with
   |some a,some b=>some (.map a b)
   |_,_=>none
  |some (.pointer e)=>(Xw P n e).map .ptr
  |some (.struct fs)=>(fs.toList.mapM fun f=>Xw P n f.type).map ahs
  |_=>none
def IG (P:Program) (t:TypeId):Option TypeId :=
 match P.underlying t with
 |some (.slice e)=>some e
 |_=>none
def JG (P:Program) (e:TypeId) (n:Nat):Bool :=
 match P.info? e with
 |some i=>i.size==n&&(decide (0<n)&&(decide (i.bytes≤32768)&&match i.zero with
  |some z=>z.cells.size==n
  |none=>false))
 |none=>false
def Ą (h:List Blk):AV→AV
 |.own id g=>match lkB h id with
  |.row t g' _ xs=>match g==g' with
   |true=>.slc t xs
   |false=>.any
  |_=>.any
 |.sub id g lo n=>match lkB h id with
  |.row t g' _ xs=>match g==g' with
   |true=>.slc t ((xs.drop lo).take n)
   |false=>.any
  |_=>.any
 |.omp id=>match lkB h id with
  |.map k v es=>.mp k v es
  |_=>.any
 |v=>v
def ZD (h:List Blk):AV→AV
 |.agg cs=>.agg (cs.map (Ą h))
 |v=>Ą h v
def sw (h:List Blk):AV→List Blk
 |.own id _=>match lkB h id with
  |.row t g _ xs=>ø h id (.row t g true xs)
  |_=>h
 |.sub id _ _ _=>match lkB h id with
  |.row t g _ xs=>ø h id (.row t g true xs)
  |_=>h
 |_=>h
def Cm (h:List Blk):List AV→List Blk
 |[]=>h
 |v::vs=>Cm (sw h v) vs
def frz (h:List Blk):AV→List Blk
 |.agg cs=>Cm h cs
 |v=>sw h v
def Lt:AV→Bool
 |.omp _=>false
 |_=>true
def adv:AV→Bool
 |.agg cs=>cs.all Lt
 |v=>Lt v
def Cw:AV→Bool
 |.bool _=>true
 |.int _ _=>true
 |.str _=>true
 |.nils=>true
 |.nilm=>true
 |.nilp=>true
 |.nilfn=>true
 |_=>false
def plain:AV→Bool
 |.agg cs=>cs.all Cw
 |v=>Cw v
def Lg:AV→Bool
 |.tup vs=>vs.all plain
 |v=>plain v
def wr64 (n:Int):Int:=IntKind.i64.wrap n
def res:IntKind→Int→Int
 |.i64,n=>wr64 n
 |k,n=>k.wrap n
def ñ (n:Nat):Bool:=decide (n≤4294967296)
def Υ:(t:Ty)→Val t→Val t→Bool
 |.bool,a,b=>a==b
 |.int _,a,b=>decide (a=b)
 |.str,a,b=>a==b
 |_,_,_=>false
def Im (P:Program) (t:TypeId) (k:Ty):Bool :=
 match P.underlying t with
 |some .bool=>match k with
  |.bool=>true
  |_=>false
 |some (.int i)=>match k with
  |.int j=>i==j
  |_=>false
 |_=>false
def Qz:AV→Bool
 |.agg _=>true
 |_=>false
def nS {k v:Ty} (x:Val k):List (Val k×Val v)→Option (Val v)
 |[]=>none
 |e::es=>match Υ k x e.1 with
  |true=>some e.2
  |false=>nS x es
def Lw {k v:Ty} (x:Val k) (y:Val v):List (Val k×Val v)→List (Val k×Val v)
 |[]=>[(x,y)]
 |e::es=>match Υ k x e.1 with
  |true=>(x,y)::es
  |false=>e::Lw x y es
section
variable {ρ:Type}
def cmpI:BinOp→Int→Int→Option Bool
 |.eql,a,b=>some (a==b)
 |.neq,a,b=>some (a != b)
 |.lss,a,b=>some (decide (a<b))
 |.leq,a,b=>some (decide (a≤b))
 |.gtr,a,b=>some (decide (a>b))
 |.geq,a,b=>some (decide (a≥b))
 |_,_,_=>none
def arI:BinOp→Int→Int→Option Int
 |.add,a,b=>some (a+b)
 |.sub,a,b=>some (a-b)
 |.mul,a,b=>some (a*b)
 |_,_,_=>none
def arK (k:IntKind) (n:Int) (K:AV→Option ρ):Option ρ :=
 K (.int k (res k n))
def eqFs (P:Program) (rec:TypeId→List AV→List AV→Option Bool→Option Bool) (cs ds:List AV):List Field→Option Bool→Option Bool
 |[],rest=>rest
 | f :: fs, rest => match f.name != "_" with
  |false=>eqFs P rec cs ds fs rest
  |true=>match szP P f.type with
   |some n=>match Oi cs f.offset n,Oi ds f.offset n with
    |some x,some y=>rec f.type x y (eqFs P rec cs ds fs rest)
    |_,_=>none
   |none=>none
def eqIs (P:Program) (rec:TypeId→List AV→List AV→Option Bool→Option Bool) (e:TypeId) (n:Nat) (cs ds:List AV):List Nat→Option Bool→Option Bool
 |[],rest=>rest
 |i::is,rest=>match Oi cs (i*n) n,Oi ds (i*n) n with
  |some x,some y=>rec e x y (eqIs P rec e n cs ds is rest)
  |_,_=>none
def aiN (P:Program):Nat→TypeId→List AV→List AV→Option Bool→Option Bool
 |0,_,_,_,_=>none
 |n+1,t,cs,ds,rest=>match P.underlying t with
  |some .bool=>match cs,ds with
   |[.bool a],[.bool b]=>match rest with
    |some r=>some ((a==b)&&r)
    |none=>none
   |_,_=>none
  |some (.int _)=>match cs,ds with
   |[.int k a],[.int k' b]=>match decEq k k' with
    |isTrue _=>match rest with
     |some r=>some (decide (a=b)&&r)
     |none=>none
    |isFalse _=>none
   |_,_=>none
  |some (.struct fs)=>match P.stoodInHeld t with
   |false=>eqFs P (aiN P n) cs ds fs.toList rest
   |true=>none
  |some (.array len el)=>match szP P el with
   |some m=>eqIs P (aiN P n) el m cs ds (List.range len) rest
   |none=>none
  |_=>none
def shlI (k:IntKind) (a b:Int):Int:=k.wrap (a*2 ^ (min b.toNat k.bits))
def jy (k:IntKind) (a b:Int):Int:=a.fdiv (2 ^ (min b.toNat k.bits))
def YI:BinOp→Option Bool
 |.shl=>some true
 |.shr=>some false
 |_=>none
def shK (left:Bool) (k:IntKind) (a b:Int) (K:AV→Option ρ):Option ρ :=
 match decide (0≤b) with
 |true=>match left with
  |true=>K (.int k (shlI k a b))
  |false=>K (.int k (jy k a b))
 |false=>none
def ahU (k:IntKind) (f:BitVec k.bits→BitVec k.bits→BitVec k.bits) (a b:Int):Int:=k.wrap (f (BitVec.ofInt k.bits a) (BitVec.ofInt k.bits b)).toNat
def andI (k:IntKind) (a b:Int):Int:=ahU k (fun a b=>a &&& b) a b
def orI (k:IntKind) (a b:Int):Int:=ahU k (fun a b=>a ||| b) a b
def xorI (k:IntKind) (a b:Int):Int:=ahU k (fun a b=>a ^^^ b) a b
def Zf (k:IntKind) (a b:Int):Int:=ahU k (fun a b=>a &&& ~~~b) a b
def aggT:Option TypeDesc→Bool
 |some (.struct _)=>true
 |some (.array _ _)=>true
 |_=>false
def binK (P:Program) (op:BinOp) (t:TypeId) (x y:AV) (K:AV→Option ρ):Option ρ :=
 match x,y with
 |.int k a,.int k' b=>match YI op with
  |some l=>shK l k a b K
  |none=>match decEq k k' with
   |isFalse _=>none
   |isTrue _=>match cmpI op a b with
    |some r=>K (.bool r)
    |none=>match arI op a b with
     |some r=>arK k r K
     |none=>match op with
      |.quo=>match decide (b=0) with
       |true=>none
       |false=>arK k (a.tdiv b) K
      |.rem=>match decide (b=0) with
       |true=>none
       |false=>K (.int k (a.tmod b))
      |.and=>K (.int k (andI k a b))
      |.or=>K (.int k (orI k a b))
      |.xor=>K (.int k (xorI k a b))
      |.andNot=>K (.int k (Zf k a b))
      |_=>none
 |.bool a,.bool b=>match P.underlying t with
  |some .bool=>match op with
   |.eql=>K (.bool (a==b))
   |.neq=>K (.bool (!(a==b)))
   |_=>none
  |_=>none
 |.str a,.str b=>match op with
  |.eql=>K (.bool (a.toList==b.toList))
  |.neq=>K (.bool (!(a.toList==b.toList)))
  |_=>none
 |.agg cs,.agg ds=>match aggT (P.underlying t) with
  |true=>match P.eqGuardType P.depth t with
   |false=>match aiN P 8 t cs ds (some true) with
    |some r=>match op with
     |.eql=>K (.bool r)
     |.neq=>K (.bool (!r))
     |_=>none
    |none=>none
   |true=>none
  |false=>none
 |_,_=>none
def abw (n:Nat):Int:=Classical.choose (⟨(n:Int),rfl⟩:∃z:Int,z=n)
def Lv (n:Nat):abw n=n:=Classical.choose_spec (⟨(n:Int),rfl⟩:∃z:Int,z=n)
def agr (d:Option TypeDesc) (h:List Blk) (x:AV) (K:AV→Option ρ):Option ρ :=
 match d with
 |some (.slice _)=>match x with
  |.slc _ xs=>K (.int .i64 (abw xs.length))
  |.nils=>K (.int .i64 0)
  |.own id g=>match lkB h id with
   |.row _ g' _ xs=>match g==g' with
    |true=>K (.int .i64 (abw xs.length))
    |false=>none
   |_=>none
  |.sub id g _ n=>match lkB h id with
   |.row _ g' _ _=>match g==g' with
    |true=>K (.int .i64 (abw n))
    |false=>none
   |_=>none
  |.dp id g=>match lkB h id with
   |.deep _ g' xss=>match g==g' with
    |true=>K (.int .i64 (abw xss.length))
    |false=>none
   |_=>none
  |.dr id g i=>match lkB h id with
   |.deep _ g' xss=>match g==g' with
    |true=>match xss[i]? with
     |some xs=>K (.int .i64 (abw xs.length))
     |none=>none
    |false=>none
   |_=>none
  |_=>none
 |some .string=>match x with
  |.str s=>K (.int .i64 (abw s.size))
  |_=>none
 |some (.map _ _)=>match x with
  |.mp _ _ es=>K (.int .i64 (abw es.length))
  |.nilm=>K (.int .i64 0)
  |.omp id=>match lkB h id with
   |.map _ _ es=>K (.int .i64 (abw es.length))
   |_=>none
  |_=>none
 |_=>none
def UC:Nat→Nat→Int→(Nat→Option ρ)→Option ρ
 |0,_,_,_=>none
 |n+1,q,j,K=>match decide (j=(q:Int)) with
  |true=>K q
  |false=>UC n (q+1) j K
def Gw (sz:Nat) (h:List Blk) (x i:AV) (K:AV→Option ρ):Option ρ :=
 match i with
 |.int _ n=>match x with
  |.slc t xs=>match t.size==sz&&decide (0≤n) with
   |true=>match xs[n.toNat]? with
    |some e=>K (.eptr t e 0)
    |none=>none
   |false=>none
  |.own id g=>match lkB h id with
   |.row t g' _ xs=>match g==g'&&t.size==sz with
    |true=>match decide (0≤n)&&decide (n<xs.length) with
     |true=>K (.optr id g n.toNat 0)
     |false=>none
    |false=>none
   |_=>none
  |.sub id g lo m=>match lkB h id with
   |.row t g' _ _=>match g==g'&&t.size==sz with
    |true=>match decide (0≤n)&&decide (n<m) with
     |true=>K (.optr id g (lo+n.toNat) 0)
     |false=>none
    |false=>none
   |_=>none
  |.dp id g=>match lkB h id with
   |.deep _ g' xss=>match g==g'&&Nat.beq 1 sz with
    |true=>match decide (0≤n)&&decide (n<xss.length) with
     |true=>K (.dq id g n.toNat)
     |false=>none
    |false=>none
   |_=>none
  |.dr id g i=>match lkB h id with
   |.deep _ g' xss=>match g==g'&&Nat.beq 1 sz with
    |true=>match xss[i]? with
     |some xs=>match decide (0≤n)&&decide (n<xs.length) with
      |true=>K (.de id g i n.toNat)
      |false=>none
     |none=>none
    |false=>none
   |_=>none
  |_=>none
 |_=>none
def Ct (h:List Blk) (x:AV) (o:Nat) (K:AV→Option ρ):Option ρ :=
 match x with
 |.box id off=>K (.box id (off+o))
 |.eptr t e off=>K (.eptr t e (off+o))
 |.optr id g i off=>match lkB h id with
  |.row _ g' _ _=>match g==g' with
   |true=>K (.optr id g i (off+o))
   |false=>none
  |_=>none
 |_=>none
def PF (P:Program) (h:List Blk) (t:TypeId) (a:AV) (K:AV→Option ρ):Option ρ :=
 match ldP P t with
 |some (agg,n)=>match a with
  |.box id off=>match lkB h id with
   |.cells c=>match Oi c off n with
    |some cs=>match mkv agg cs with
     |some v=>K v
     |none=>none
    |none=>none
   |_=>none
  |.eptr ty e off=>match Oi (flat ty e) off n with
   |some cs=>match mkv agg cs with
    |some v=>K v
    |none=>none
   |none=>none
  |.optr id g i off=>match lkB h id with
   |.row ty g' _ xs=>match g==g' with
    |true=>match xs[i]? with
     |some e=>match Oi (flat ty e) off n with
      |some cs=>match mkv agg cs with
       |some v=>K v
       |none=>none
      |none=>none
     |none=>none
    |false=>none
   |_=>none
  |.dq id g i=>match lkB h id with
   |.deep _ g' _=>match g==g'&&(!agg&&Nat.beq n 1) with
    |true=>K (.dr id g i)
    |false=>none
   |_=>none
  |.de id g i j=>match lkB h id with
   |.deep k g' xss=>match g==g'&&(!agg&&Nat.beq n 1) with
    |true=>match xss[i]? with
     |some xs=>match xs[j]? with
      |some x=>K (.int k x)
      |none=>none
     |none=>none
    |false=>none
   |_=>none
  |_=>none
 |none=>none
def yA (P:Program) (h:List Blk) (t:TypeId) (a v:AV) (K:List Blk→Option ρ):Option ρ :=
 match Ů v with
 |some vs=>match szP P t==some vs.length with
  |true=>match a with
   |.box id off=>match lkB h id with
    |.cells c=>match abh c off vs with
     |some c'=>K (ø h id (.cells c'))
     |none=>none
    |_=>none
   |.optr id g i off=>match adv v with
    |true=>match lkB (frz h v) id with
     |.row ty g' false xs=>match g==g' with
      |true=>match xs[i]? with
       |some e=>match abh (flat ty e) off (vs.map (Ą h)) with
        |some cs'=>match Û ty cs' with
         |some e'=>K (ø (frz h v) id (.row ty g' false (xs.set i e')))
         |none=>none
        |none=>none
       |none=>none
      |false=>none
     |_=>none
    |false=>none
   |.de id g i j=>match v with
    |.int k' y=>match lkB h id with
     |.deep k g' xss=>match g==g' with
      |true=>match decEq k' k with
       |isTrue _=>match xss[i]? with
        |some xs=>match xs[j]? with
         |some _=>K (ø h id (.deep k g' (xss.set i (xs.set j y))))
         |none=>none
        |none=>none
       |isFalse _=>none
      |false=>none
     |_=>none
    |_=>none
   |_=>none
  |false=>none
 |none=>none
def s8 (sz:Nat) (h:List Blk) (x:AV) (lo hi:Option AV) (eat:Bool) (K:AV→List Blk→Option ρ):Option ρ :=
 match x with
 |.slc t xs=>match t.size==sz with
  |true=>match lo,hi with
   |some (.int _ l),some (.int _ m)=>match decide (0≤l)&&(decide (l≤m)&&decide (m≤xs.length)) with
    |true=>K (.slc t ((xs.drop l.toNat).take (m-l).toNat)) h
    |false=>none
   |some (.int _ l),none=>match decide (0≤l)&&decide (l≤xs.length) with
    |true=>K (.slc t (xs.drop l.toNat)) h
    |false=>none
   |none,some (.int _ m)=>match decide (0≤m)&&decide (m≤xs.length) with
    |true=>K (.slc t (xs.take m.toNat)) h
    |false=>none
   |none,none=>K (.slc t xs) h
   |_,_=>none
  |false=>none
 |.nils=>match lo,hi with
  |none,some (.int _ m)=>match decide (m=0) with
   |true=>K .nils h
   |false=>none
  |none,none=>K .nils h
  |_,_=>none
 |.own id g=>match lkB h id with
  |.row t g' fz xs=>match g==g'&&t.size==sz with
   |true=>match eat with
    |true=>match fz with
     |true=>none
     |false=>match lo,hi with
      |some (.int _ l),none=>match decide (0≤l)&&decide (l≤xs.length) with
       |true=>K (.own id (g+1)) (ø h id (.row t (g+1) false (xs.drop l.toNat)))
       |false=>none
      |none,some (.int _ m)=>match decide (0≤m)&&decide (m≤xs.length) with
       |true=>K (.own id (g+1)) (ø h id (.row t (g+1) false (xs.take m.toNat)))
       |false=>none
      |_,_=>none
    |false=>match lo,hi with
     |some (.int _ l),some (.int _ m)=>match decide (0≤l)&&(decide (l≤m)&&decide (m≤xs.length)) with
      |true=>K (.sub id g l.toNat (m-l).toNat) h
      |false=>none
     |some (.int _ l),none=>match decide (0≤l)&&decide (l≤xs.length) with
      |true=>K (.sub id g l.toNat (xs.length-l.toNat)) h
      |false=>none
     |none,some (.int _ m)=>match decide (0≤m)&&decide (m≤xs.length) with
      |true=>K (.sub id g 0 m.toNat) h
      |false=>none
     |_,_=>none
   |false=>none
  |_=>none
 |_=>none
def Bh (P:Program) (h:List Blk) (nid:Nat) (t:TypeId) (s x:AV) (K:AV→List Blk→Option ρ):Option ρ :=
 match IG P t with
 |some e=>match Xw P 8 e with
  |some ty=>match JG P e ty.size with
   |true=>match Û (.slice ty) [Ą h x] with
    |some ys=>match s with
     |.nils=>match ñ ys.length with
      |true=>K (.own nid 0) (ø h nid (.row ty 0 false ys))
      |false=>none
     |.own id g=>match lkB h id with
      |.row ty' g' false xs=>match g==g' with
       |true=>match decEq ty ty' with
        |isTrue eq=>match ñ (xs.length+ys.length) with
         |true=>K (.own id (g+1)) (ø h id (.row ty' (g+1) false (xs++yu (F:=fun t=>List (Val t)) eq ys)))
         |false=>none
        |isFalse _=>none
       |false=>none
      |_=>none
     |_=>none
    |none=>none
   |false=>none
  |none=>none
 |none=>none
def WD (P:Program) (h:List Blk) (nid:Nat) (t:TypeId) (s:AV) (id2 g2:Nat) (K:AV→List Blk→Option ρ):Option ρ :=
 match IG P t with
 |some e=>match JG P e 1 with
  |true=>match lkB h id2 with
   |.deep k g2' yss=>match g2==g2' with
    |true=>match s with
     |.nils=>match ñ yss.length with
      |true=>K (.dp nid 0) (ø (ø h id2 (.deep k (g2+1) [])) nid (.deep k 0 yss))
      |false=>none
     |.dp id g=>match id==id2 with
      |true=>none
      |false=>match lkB h id with
       |.deep k' g' xss=>match g==g' with
        |true=>match decEq k' k with
         |isTrue _=>match ñ (xss.length+yss.length) with
          |true=>K (.dp id (g+1)) (ø (ø h id2 (.deep k (g2+1) [])) id (.deep k' (g+1) (xss++yss)))
          |false=>none
         |isFalse _=>none
        |false=>none
       |_=>none
     |_=>none
    |false=>none
   |_=>none
  |false=>none
 |none=>none
def YY (P:Program) (h:List Blk) (nid n:Nat) (t:TypeId) (ps:List (Nat×AV)) (K:AV→List Blk→Option ρ):Option ρ :=
 match ps with
 |[]=>none
 |p::l=>match l with
  |_::_=>none
  |[]=>match p.2 with
   |.own id g=>match IG P t with
    |some e=>match JG P e 1&&(Nat.beq p.1 0&&Nat.beq n 1) with
     |true=>match lkB h id with
      |.row (.int k) g' false xs=>match g==g' with
       |true=>K (.dp nid 0) (ø (ø h id (.row (.int k) (g+1) false [])) nid (.deep k 0 [xs]))
       |false=>none
      |_=>none
     |false=>none
    |none=>none
   |.dp id g=>match IG P t with
    |some e=>match JG P e 1&&(Nat.beq p.1 0&&Nat.beq n 1) with
     |true=>match lkB h id with
      |.deep k g' xss=>match g==g' with
       |true=>K (.own nid 0) (ø (ø h id (.deep k (g+1) [])) nid (.row (.slice (.slice (.int k))) 0 false [xss]))
       |false=>none
      |_=>none
     |false=>none
    |none=>none
   |_=>none
def I0 (P:Program) (h:List Blk) (nid:Nat) (t:TypeId) (s x:AV) (K:AV→List Blk→Option ρ):Option ρ :=
 match s,x,IG P t with
 |.nils,.int .i64 n,some e=>match Xw P 8 e with
  |some ty=>match JG P e ty.size with
   |true=>match (((P.info? e).bind (·.zero)).map cv).bind Ů with
    |some zs=>match Û ty zs with
     |some z=>match decide (0<n)&&ñ n.toNat with
      |true=>K (.own nid 0) (ø h nid (.row ty 0 false (List.replicate n.toNat z)))
      |false=>none
     |none=>none
    |none=>none
   |false=>none
  |none=>none
 |_,_,_=>none
def JB (P:Program) (h:List Blk) (t:TypeId) (x:AV) (K:List Blk→Option ρ):Option ρ :=
 match x,IG P t with
 |.nils,_=>K h
 |.sub id g lo n,some e=>match (((P.info? e).bind (·.zero)).map cv).bind Ů with
  |some zs=>match lkB h id with
   |.row ty g' false xs=>match g==g' with
    |true=>match Û ty zs with
     |some z=>K (ø h id (.row ty g' false (xs.take lo++List.replicate n z++xs.drop (lo+n))))
     |none=>none
    |false=>none
   |_=>none
  |none=>none
 |_,_=>none
def vk (P:Program) (h:List Blk) (t:TypeId) (m i:AV) (ok:Bool) (K:AV→Option ρ):Option ρ :=
 match P.underlying t with
 |some (.map kt et)=>match Xw P 8 kt,Xw P 8 et,((P.info? et).bind (·.zero)).map cv with
  |some k,some v,some z=>match Im P kt k,Ą h m with
   |true,.mp k' v' es=>match decEq (Ty.map k' v') (Ty.map k v) with
    |isTrue eq=>match Û k [i] with
     |some x=>match nS x (yu (F:=Val) eq es) with
      |some y=>match ok with
       |true=>K (.tup [enc v y,.bool true])
       |false=>K (enc v y)
      |none=>match ok with
       |true=>K (.tup [z,.bool false])
       |false=>K z
     |none=>none
    |isFalse _=>none
   |true,.nilm=>match Û k [i] with
    |some _=>match ok with
     |true=>K (.tup [z,.bool false])
     |false=>K z
    |none=>none
   |_,_=>none
  |_,_,_=>none
 |_=>none
def mE (P:Program) (h:List Blk) (t:TypeId) (m i x:AV) (K:List Blk→Option ρ):Option ρ :=
 match P.underlying t with
 |some (.map kt _)=>match m with
  |.omp id=>match lkB h id with
   |.map k v es=>match Im P kt k&&(adv x&&Qz x==v.isAgg) with
    |true=>match Û k [i],Ů (ZD h x) with
     |some a,some cs=>match Û v cs with
      |some b=>K (ø (frz h x) id (.map k v (Lw a b es)))
      |none=>none
     |_,_=>none
    |false=>none
   |_=>none
  |_=>none
 |_=>none
def aeu (P:Program) (fs:Array Field):List (Nat×AV)→List AV→Option (List AV)
 |[],cs=>some cs
 |(i,v)::ps,cs=>match fs[i]? with
  |some f=>match Ů v with
   |some vs=>match szP P f.type==some vs.length with
    |true=>match abh cs f.offset vs with
     |some cs=>aeu P fs ps cs
     |none=>none
    |false=>none
   |none=>none
  |none=>none
def NF (sz:Nat):List (Nat×AV)→List AV→Option (List AV)
 |[],cs=>some cs
 |(i,v)::ps,cs=>match Ů v with
  |some vs=>match vs.length==sz with
   |true=>match abh cs (i*sz) vs with
    |some cs=>NF sz ps cs
    |none=>none
   |false=>none
  |none=>none
def Om (h:List Blk) (ty:Ty):Nat→List (Nat×AV)→Option (List (Val ty))
 |_,[]=>some []
 |n,(i,v)::ps=>match i==n&&adv v with
  |true=>match Ů (ZD h v) with
   |some cs=>match Û ty cs with
    |some x=>match Om h ty (n+1) ps with
     |some xs=>some (x::xs)
     |none=>none
    |none=>none
   |none=>none
  |false=>none
def frzA (h:List Blk):List (Nat×AV)→List Blk
 |[]=>h
 |(_,v)::ps=>frzA (frz h v) ps
def PG (a b:Int):Int:=if b>a then b else a
def aai (a b:Int):Int:=if b<a then b else a
def nc (gt:Bool):AV→List AV→(AV→Option ρ)→Option ρ
 |x,[],K=>K x
 |.int k a,.int k' b::l,K=>match decEq k k' with
  |isTrue _=>match gt with
   |true=>nc true (.int k (PG a b)) l K
   |false=>nc false (.int k (aai a b)) l K
  |isFalse _=>none
 |_,_,_=>none
def isV0:AV→Bool
 |.fn _ _ _=>false
 |.agg _=>false
 |.tup _=>false
 |_=>true
def Dn:Operand→Operand→Bool
 |.tmp i,.tmp j=>i==j
 |.const (.int .i64 a),.const (.int .i64 b)=>decide (a=b)
 |_,_=>false
def opK (P:Program) (S:St) (nid:Nat) (eat:Bool) (o:Op) (K:AV→St→Option ρ):Option ρ :=
 let h (h:List Blk):St:={t:=S.t,h:=h}
 match o with
 |.move x=>K (ev S.t x) S
 |.assign x=>K (ev S.t x) S
 |.pick c a b=>match ev S.t c with
  |.bool x=>match x with
   |true=>K (ev S.t a) S
   |false=>K (ev S.t b) S
  |_=>none
 |.box el x=>match Ů (ev S.t x) with
  |some cs=>match eat with
   |true=>match Xw P 8 el with
    |some ty=>match Û ty cs with
     |some y=>K (.eptr ty y 0) S
     |none=>none
    |none=>none
   |false=>K (.box nid 0) (h (ø S.h nid (.cells cs)))
  |none=>none
 |.alloc e=>match ((P.info? e).bind (·.zero)).map cv with
  |some z=>match Ů z with
   |some cs=>K (.box nid 0) (h (ø S.h nid (.cells cs)))
   |none=>none
  |none=>none
 |.build t ps=>match P.underlying t with
  |some (.struct fs)=>match fs.toList.all (fun f=>(P.info? f.type).isSome) with
   |true=>match ((P.info? t).bind (·.zero)).map cv with
    |some z=>match Ů z with
     |some zs=>match aeu P fs (ps.toList.map fun p=>(p.1,ev S.t p.2)) zs with
      |some cs=>K (.agg cs) S
      |none=>none
     |none=>none
    |none=>none
   |false=>none
  |some (.array _ e)=>match szP P e,((P.info? t).bind (·.zero)).map cv with
   |some sz,some z=>match Ů z with
    |some zs=>match NF sz (ps.toList.map fun p=>(p.1,ev S.t p.2)) zs with
     |some cs=>K (.agg cs) S
     |none=>none
    |none=>none
   |_,_=>none
  |_=>none
 |.buildSlice t n ps=>match eat with
  |true=>YY P S.h nid n t (ps.toList.map fun p=>(p.1,ev S.t p.2)) fun v h'=>K v (h h')
  |false=>match IG P t with
  |some e=>match Xw P 8 e with
   |some ty=>match JG P e ty.size&&(ps.toList.length==n&&decide (n*ty.size≤65536)) with
    |true=>match Om S.h ty 0 (ps.toList.map fun p=>(p.1,ev S.t p.2)) with
     |some xs=>K (.own nid 0) (h (ø (frzA S.h (ps.toList.map fun p=>(p.1,ev S.t p.2))) nid (.row ty 0 false xs)))
     |none=>none
    |false=>none
   |none=>none
  |none=>none
 |.load t a=>PF P S.h t (ev S.t a) fun v=>K v S
 |.store t a v=>match eat with
  |true=>match ev S.t v with
   |.sub id g lo n=>match lkB S.h id with
    |.row ty g' false xs=>match g==g'&&decide (lo+n=xs.length) with
     |true=>yA P (ø S.h id (.row ty (g+1) false (xs.drop lo))) t (ev S.t a) (.own id (g+1)) fun h'=>K .any (h h')
     |false=>none
    |_=>none
   |_=>none
  |false=>yA P S.h t (ev S.t a) (ev S.t v) fun h'=>K .any (h h')
 |.nilCheck x=>match ev S.t x with
  |.box id off=>K (.box id off) S
  |.eptr t e off=>K (.eptr t e off) S
  |.optr id g i off=>match lkB S.h id with
   |.row _ g' _ _=>match g==g' with
    |true=>K (.optr id g i off) S
    |false=>none
   |_=>none
  |_=>none
 |.binOp op t x y _=>binK P op t (ev S.t x) (ev S.t y) fun v=>K v S
 |.unOp op _ x=>match op,ev S.t x with
  |.not,.bool b=>K (.bool (!b)) S
  |.neg,.int k n=>arK k (0-n) fun v=>K v S
  |_,_=>none
 |.convert src dst x=>match P.underlying src,P.underlying dst,ev S.t x with
  |some _,some (.int k),.int _ n=>K (.int k (k.wrap n)) S
  |_,_,_=>none
 |.makeFunc fn first captured=>match (first.toList.map (ev S.t)).all isV0&&(captured.toList.map (ev S.t)).all isV0 with
  |true=>K (.fn fn (first.toList.map (ev S.t)) (captured.toList.map (ev S.t))) S
  |false=>none
 |.makeMap t r=>match r,P.underlying t with
  |none,some (.map kt et)=>match Xw P 8 kt,Xw P 8 et with
   |some k,some v=>match (k.size==P.cellsOf kt)&&(v.size==P.cellsOf et) with
    |true=>K (.omp nid) (h (ø S.h nid (.map k v [])))
    |false=>none
   |_,_=>none
  |_,_=>none
 |.makeSlice t l c=>match Dn l c,ev S.t l,IG P t with
  |true,.int _ n,some e=>match Xw P 8 e with
   |some ty=>match JG P e ty.size with
    |true=>match (((P.info? e).bind (·.zero)).map cv).bind Ů with
     |some zs=>match Û ty zs with
      |some z=>match decide (0≤n)&&ñ n.toNat with
       |true=>K (.own nid 0) (h (ø S.h nid (.row ty 0 false (List.replicate n.toNat z))))
       |false=>none
      |none=>none
     |none=>none
    |false=>none
   |none=>none
  |_,_,_=>none
 |.slice t x lo hi mx=>match mx,P.underlying t with
  |none,some (.slice e)=>match szP P e with
   |some sz=>s8 sz S.h (ev S.t x) (lo.map (ev S.t)) (hi.map (ev S.t)) eat fun v h'=>K v (h h')
   |none=>none
  |_,_=>none
 |.fieldAddr t x f=>match P.underlying t with
  |some (.struct fs)=>match fs[f]? with
   |some fd=>match szP P fd.type with
    |some (_+1)=>Ct S.h (ev S.t x) fd.offset fun v=>K v S
    |_=>none
   |none=>none
  |_=>none
 |.field t x f=>match P.underlying t,ev S.t x with
  |some (.struct fs),.agg cs=>match fs[f]? with
   |some fd=>match ldP P fd.type with
    |some (agg,n)=>match Oi cs fd.offset n with
     |some ds=>match mkv agg ds with
      |some v=>K v S
      |none=>none
     |none=>none
    |none=>none
   |none=>none
  |_,_=>none
 |.indexAddr t x i=>match P.underlying t with
  |some (.slice e)=>match szP P e with
   |some sz=>Gw sz S.h (ev S.t x) (ev S.t i) fun v=>K v S
   |none=>none
  |some (.array n e)=>match ev S.t x,ev S.t i with
   |.box id off,.int _ j=>match szP P e with
    |some sz=>UC n 0 j fun q=>K (.box id (off+q*sz)) S
    |none=>none
   |_,_=>none
  |_=>none
 |.index t x i=>match P.underlying t,ev S.t x,ev S.t i with
  |some (.array n e),.agg cs,.int _ j=>UC n 0 j fun q=>match ldP P e with
   |some (agg,m)=>match Oi cs (q*m) m with
    |some ds=>match mkv agg ds with
     |some v=>K v S
     |none=>none
    |none=>none
   |none=>none
  |_,_,_=>none
 |.lookup t m i ok=>vk P S.h t (ev S.t m) (ev S.t i) ok fun v=>K v S
 |.mapUpdate t m i x=>mE P S.h t (ev S.t m) (ev S.t i) (ev S.t x) fun h'=>K .any (h h')
 |.extract x i=>match ev S.t x with
  |.tup vs=>match vs[i]? with
   |some v=>K v S
   |none=>none
  |_=>none
 |.call ⟨.builtin b,args,tys⟩=>match b,args.toList,tys.toList with
  |.len,[x],t::_=>agr (P.underlying t) S.h (ev S.t x) fun v=>K v S
  |.append,[s,x],[t,t']=>match t==t' with
   |true=>match ev S.t x with
    |.dp id g=>WD P S.h nid t (ev S.t s) id g fun v h'=>K v (h h')
    |y=>Bh P S.h nid t (ev S.t s) y fun v h'=>K v (h h')
   |false=>match P.underlying t' with
    |some (.int .i64)=>I0 P S.h nid t (ev S.t s) (ev S.t x) fun v h'=>K v (h h')
    |_=>none
  |.clear,[x],[t]=>match P.underlying t with
   |some _=>JB P S.h t (ev S.t x) fun h'=>K (.tup []) (h h')
   |none=>none
  |.cap,[x],t::_=>match P.underlying t,ev S.t x with
   |some (.slice _),.nils=>K (.int .i64 0) S
   |_,_=>none
  |.min,x::xs,_=>nc false (ev S.t x) (xs.map (ev S.t)) fun v=>K v S
  |.max,x::xs,_=>nc true (ev S.t x) (xs.map (ev S.t)) fun v=>K v S
  |_,_,_=>none
 |_=>none
end
end Go.Am
end

noncomputable section
namespace Go.Am
def Ė (clone:Nat→Bool):Op→Bool
 |.box _ _=>true
 |.alloc _=>true
 |.buildSlice _ _ _=>true
 |.makeMap _ _=>true
 |.makeSlice _ _ _=>true
 |.call ⟨.builtin .append,_,_⟩=>true
 |.call ⟨.value (.func f),_,_⟩=>clone f
 |_=>false
def tys:Ty→List Ty→Ty
 |t,[]=>t
 |t,u::l=>.pair t (tys u l)
def tyL:List Ty→Ty
 |[]=>.unit
 |t::l=>tys t l
structure å where
 ts:List Ty
 rs:List Ty
 F:Val (tyL ts)→Option (Val (tyL rs))
structure YFun where
 ty:Ty
 all:List (Val ty)
structure Env (ρ:Type) where
 P:Program
 eat:Nat→Nat→Bool
 clone:Nat→Bool
 sort:Nat→Bool
 compact:Nat→Bool
 inl:Nat→Bool
 fz:Nat→Bool
 pure:Nat→Option å
 loops:List Nat→Nat→Nat→Nat→St→(Exit→St→Option ρ)→Option ρ
 joins:List Nat→Nat→Nat→Nat→Option (((St→Option ρ)→Option ρ)→(St→Option ρ)→Option ρ):=fun _ _ _ _=>none
 hint:Nat→Option Nat:=fun _=>none
 stop:List Nat→Nat→Bool:=fun _ _=>false
 yld:Option YFun:=none
 ranges:List Nat→Nat→Nat→Nat→AV→St→(Exit→St→Option ρ)→Option ρ:=fun _ _ _ _ _ _ _=>none
 ext:Nat→Option (List Blk→List AV→(AV→List Blk→Option ρ)→Option ρ):=fun _=>none
section
variable {ρ:Type}
def cls (E:Env ρ):Op→Nat
 |.load _ _=>1
 |.indexAddr _ _ _=>1
 |.slice _ _ _ _ _=>1
 |.lookup _ _ _ _=>1
 |.buildSlice _ _ _=>2
 |.nilCheck _=>1
 |.fieldAddr _ _ _=>1
 |.box _ _=>1
 |.alloc _=>1
 |.makeMap _ _=>1
 |.makeSlice _ _ _=>1
 |.store _ _ _=>2
 |.mapUpdate _ _ _ _=>2
 |.call ⟨.builtin .append,_,_⟩=>2
 |.call ⟨.builtin .clear,_,_⟩=>2
 |.call ⟨.builtin _,_,_⟩=>1
 |.call ⟨.value (.func f),_,_⟩=>if E.clone f then 1 else if (E.pure f).isSome then(if E.fz f then 2 else 1) else if E.sort f||E.compact f then 2 else 3
 |.call ⟨.value (.tmp t),_,_⟩=>match E.hint t with
  |some g=>if (E.pure g).isSome&&!E.fz g then 1 else 3
  |none=>3
 |.call _=>3
 |_=>0
def PN:List Operand→List Nat
 |[]=>[]
 |.tmp t::l=>t::PN l
 |_::l=>PN l
def qD (os:List Oper) (j:Nat):Nat :=
 match os[j]? with
 |some o=>match o.dst with
  |some d=>d
  |none=>0
 |none=>0
def i8 (os:List Oper) (o:Oper):List Nat :=
 (match o.guard with|some (j,_)=>[qD os j]|none=>[])++PN o.op.operands.toList
def agf:List Nat→Option Nat→Bool
 |l,some d=>l.contains d
 |_,none=>false
def Qy:Op→Bool
 |.call ⟨.value _,_,_⟩=>true
 |_=>false
def agU (E:Env ρ) (os:List Oper) (a b:Oper):Bool :=
 (Qy a.op&&Qy b.op)||(cls E a.op==3||(cls E b.op==3&&Nat.ble 1 (cls E a.op))) ||
 agf (i8 os b) a.dst||agf (i8 os a) b.dst||(match a.dst,b.dst with|some x,some y=>x==y|_,_=>false)
def Df (E:Env ρ) (a b:Op):Bool:=(cls E a==2&&Nat.ble 1 (cls E b))||(Nat.ble 1 (cls E a)&&cls E b==2)
def χ:List Oper→List Nat→List Nat
 |[],acc=>acc
 |o::os,acc=>χ os (acc++[o.after.toList.foldl (fun s e=>if Region.binds .any e then s ||| 2 ^ e.on ||| acc.getD e.on 0 else s) 0])
def BO (E:Env ρ) (all:List Oper) (bef:List Nat):List Oper→Nat→Bool
 |[],_=>true
 |b::bs,j=>((List.range j).all fun i=>match all[i]? with
    |some a=>!agU E all a b||(bef.getD j 0).testBit i
    |none=>false)&&BO E all bef bs (j+1)
def WU:List Oper→Nat→Bool
 |[],_=>true
 |o::os,j=>o.after.toList.all (fun e=>!Region.binds .any e||decide (e.on<j))&&WU os (j+1)
def aeC (E:Env ρ) (ops:List Oper):Bool:=WU ops 0&&BO E ops (χ ops []) ops 0
def ă (t:List AV) (d:Option Nat) (v:AV):List AV :=
 match d with
 |none=>t
 |some d=>upd t d v
def A6 (P:Program) (fn:Nat) (fz:Bool) (S:St) (nid:Nat) (x:AV) (K:AV→St→Option ρ):Option ρ :=
 match P.funcs[fn]? with
 |some f=>match (f.params[0]?).bind (IG P) with
  |some e=>match Xw P 8 e with
   |some ty=>match JG P e ty.size with
    |true=>match Û (.slice ty) [Ą S.h x] with
     |some ys=>match ñ ys.length with
      |true=>match fz with
       |true=>K (.slc ty ys) S
       |false=>K (.own nid 0) {t:=S.t,h:=ø S.h nid (.row ty 0 false ys)}
      |false=>none
     |none=>none
    |false=>none
   |none=>none
  |none=>none
 |none=>none
def Er:AV→Bool
 |.own _ _=>true
 |.sub _ _ _ _=>true
 |.omp _=>true
 |.box _ _=>true
 |.optr _ _ _ _=>true
 |.dp _ _=>true
 |.dq _ _ _=>true
 |.dr _ _ _=>true
 |.de _ _ _ _=>true
 |_=>false
def Ob:AV→Bool
 |.agg cs=>cs.any Er
 |v=>Er v
def adt:AV→Bool
 |.omp _=>false
 |.box _ _=>false
 |.optr _ _ _ _=>false
 |.dp _ _=>false
 |.dq _ _ _=>false
 |.dr _ _ _=>false
 |.de _ _ _ _=>false
 |_=>true
def adu:AV→Bool
 |.agg cs=>cs.all adt
 |v=>adt v
def afH (h:List Blk) (t:Ty) (a:AV):Option (Val t) :=
 match t with
 |.ptr u=>match a with
  |.box id 0=>match lkB h id with
   |.cells cs=>Û u (cs.map (Ą h))
   |_=>none
  |.eptr t' x 0=>match decEq t' u with
   |isTrue e=>some ((yu (F:=Val) e x:Val u))
   |isFalse _=>none
  |_=>none
 |t=>match a with
  |.dp id g=>match lkB h id with
   |.deep k g' xss=>match g==g' with
    |true=>match decEq (Ty.slice (.slice (.int k))) t with
     |isTrue e=>some (yu (F:=Val) e xss)
     |isFalse _=>none
    |false=>none
   |_=>none
  |a=>match Qz a==t.isAgg with
   |true=>match Ů (ZD h a) with
    |some cs=>Û t cs
    |none=>none
   |false=>none
def aey:(l:List Ty)→(t:Ty)→Val (tys t l)→List AV
 |[],t,x=>[enc t x]
 |u::l,t,x=>enc t (x:Val t×Val (tys u l)).1::aey l u (x:Val t×Val (tys u l)).2
def YU:(l:List Ty)→Val (tyL l)→List AV
 |[],_=>[]
 |t::l,x=>aey l t x
def TX (h:List Blk):(l:List Ty)→(t:Ty)→List AV→Option (Val (tys t l))
 |[],t,as=>match as with
  |[]=>none
  |a::as=>match as with
   |[]=>afH h t a
   |_::_=>none
 |u::l,t,as=>match as with
  |[]=>none
  |a::as=>match afH h t a with
   |some x=>match TX h l u as with
    |some y=>some ((x,y):Val t×Val (tys u l))
    |none=>none
   |none=>none
def Eo (h:List Blk) (l:List Ty) (as:List AV):Option (Val (tyL l)) :=
 match l with
 |[]=>match as with
  |[]=>some ()
  |_::_=>none
 |t::l=>TX h l t as
def aio (l:List Ty) (h:List Blk) (a:AV):Option (Val (tyL l)) :=
 match l with
 |[]=>none
 |[t]=>afH h t a
 |t::u::l=>match a with
  |.tup as=>TX h (u::l) t as
  |_=>none
def Xn:(l:List Ty)→Val (tyL l)→AV
 |[],_=>.tup []
 |[t],x=>enc t x
 |t::u::l,x=>.tup (aey (u::l) t x)
def Ä {α:Type} (x:Option α) (f:α→Option ρ):Option ρ :=
 match x with
 |some y=>f y
 |none=>none
def nN:AV→List AV
 |.agg cs=>cs
 |v=>[v]
def Rh (nofz:Bool) (p:å) (h:List Blk) (args:List AV) (K:AV→List Blk→Option ρ):Option ρ :=
 match Eo h p.ts args with
 |some x=>Ä (p.F x) fun y=>match Lg (Xn p.rs y) with
  |true=>K (Xn p.rs y) h
  |false=>match args.all (fun a=>!Ob a) with
   |true=>K (Xn p.rs y) h
   |false=>match nofz||!args.all adu with
    |true=>none
    |false=>K (Xn p.rs y) (Cm h (args.flatMap nN))
 |none=>none
def agc:AV→Option AV
 |.tup _=>none
 |v=>some v
def XK (P:Program) (h:List Blk) (t:List AV):ResultVar→Option AV
 |.tmp i=>agc (lk t i)
 |.cell a ty=>match PF P h ty (lk t a) some with
  |some v=>agc v
  |none=>none
def La (P:Program) (h:List Blk) (t:List AV):List ResultVar→Option (List AV)
 |[]=>some []
 |r::rs=>match XK P h t r with
  |some v=>match La P h t rs with
   |some vs=>some (v::vs)
   |none=>none
  |none=>none
def vz (P:Program) (fn:Func) (S:St):Option AV :=
 match La P S.h S.t fn.results.toList with
 |some [v]=>some v
 |some vs=>some (.tup vs)
 |none=>none
def zp (l:List Int):List Int:=l.mergeSort (fun a b=>decide (a≤b))
def Q8 (h:List Blk) (x:AV) (K:AV→List Blk→Option ρ):Option ρ :=
 match x with
 |.own id g=>match lkB h id with
  |.row t g' false xs=>match g==g' with
   |true=>match decEq t (.int .i64) with
    |isTrue e=>match ñ xs.length with
     |true=>K (.tup []) (ø h id (.row (.int .i64) g' false (zp (yu (F:=fun t=>List (Val t)) e xs))))
     |false=>none
    |isFalse _=>none
   |false=>none
  |_=>none
 |.nils=>K (.tup []) h
 |_=>none
def BQ (l:List Int):List Int:=Go.Lib.compact l
def qI (h:List Blk) (x:AV) (K:AV→List Blk→Option ρ):Option ρ :=
 match x with
 |.own id g=>match lkB h id with
  |.row t g' false xs=>match g==g' with
   |true=>match decEq t (.int .i64) with
    |isTrue e=>match ñ xs.length with
     |true=>K (.own id (g+1)) (ø h id (.row (.int .i64) (g+1) false (BQ (yu (F:=fun t=>List (Val t)) e xs))))
     |false=>none
    |isFalse _=>none
   |false=>none
  |_=>none
 |.nils=>K .nils h
 |_=>none
def abL:Operand→Bool
 |.func _=>true
 |_=>false
def Ľ:AV→List Nat
 |.own id _=>[id]
 |.sub id _ _ _=>[id]
 |.omp id=>[id]
 |.box id _=>[id]
 |.optr id _ _ _=>[id]
 |.dp id _=>[id]
 |.dq id _ _=>[id]
 |.dr id _ _=>[id]
 |.de id _ _ _=>[id]
 |_=>[]
def ac5:AV→List Nat
 |.agg cs=>cs.flatMap Ľ
 |v=>Ľ v
def refs1:AV→List Nat
 |.agg cs=>cs.flatMap Ľ
 |.fn _ a b=>a.flatMap ac5++b.flatMap ac5
 |v=>Ľ v
def aix:AV→Bool
 |.fn _ _ _=>false
 |_=>true
def NT:Blk→List AV
 |.cells cs=>cs
 |_=>[]
def refs2 (h:List Blk) (v:AV):List Nat:=refs1 v++(refs1 v).flatMap fun id=>(NT (lkB h id)).flatMap Ľ
def aeb:Blk→Bool
 |.dead=>true
 |_=>false
def QN (E:Env ρ) (t:List AV) (o:Op):Bool :=
 match o with
 |.call ⟨.value (.tmp s),_,_⟩=>match E.hint s with
  |none=>true
  |some g=>match ev t (.tmp s) with
   |.fn (.func g') a b=>Nat.beq g' g&&(a.all aix&&b.all aix)
   |_=>false
 |_=>true
def oj (E:Env ρ) (S:St) (o:Op):Bool :=
 match Nat.ble 1 (cls E o) with
 |true=>(o.operands.toList.all fun x=>(refs2 S.h (ev S.t x)).all fun id=>!aeb (lkB S.h id))&&QN E S.t o
 |false=>true
def PH (E:Env ρ) (draw:Bool) (fid:Nat) (o:Oper):Bool :=
 match o.op with
 |.store _ _ _=>E.eat fid 0
 |_=>!draw&&E.eat fid (o.dst.getD 0)
def yg {α:Type} {ρ:Type} (all l:List α) (k:Option ρ):Option ρ:=open Classical in if l <+: all then k else none
def yldK (E:Env ρ) (h:List Blk) (x:AV) (K:AV→List Blk→Option ρ):Option ρ :=
 match E.yld with
 |some y=>match y.ty.isAgg with
  |true=>none
  |false=>match Lt x with
   |true=>match Û y.ty [Ą h x] with
    |some v=>match lkB (sw h x) 0 with
     |.acc t xs=>match decEq t y.ty with
      |isTrue e=>yg y.all (yu (F:=fun t=>List (Val t)) e xs++[v]) (K (.bool true) (ø (sw h x) 0 (.acc y.ty (yu (F:=fun t=>List (Val t)) e xs++[v]))))
      |isFalse _=>none
     |_=>none
    |none=>none
   |false=>none
 |none=>none
def iJ (E:Env ρ) (call:List Nat→Bool→Nat→List AV→List Blk→(AV→List Blk→Option ρ)→Option ρ) (fid:Nat) (path:List Nat) (draw:Bool) (S:St) (nid:Nat) (o:Oper) (K:AV→St→Option ρ):Option ρ :=
 match draw&&!oj E S o.op with
 |true=>none
 |false=>match o.op with
  |.call ⟨.value f,args,_⟩=>match ev S.t f with
   |.fn (.func g) first caps=>match E.clone g&&abL f with
    |true=>match args.toList with
     |[x]=>A6 E.P g (E.eat fid (o.dst.getD 0)) S nid (ev S.t x) K
     |_=>none
    |false=>call path draw g (first++(args.toList.map (ev S.t)++caps)) S.h fun v h=>K v {t:=S.t,h:=h}
   |.yld=>match args.toList with
    |[x]=>yldK E S.h (ev S.t x) fun v h=>K v {t:=S.t,h:=h}
    |_=>none
   |_=>none
  |op=>opK E.P S nid (PH E draw fid o) op K
def abq (E:Env ρ) (call:List Nat→Bool→Nat→List AV→List Blk→(AV→List Blk→Option ρ)→Option ρ) (fid:Nat) (path:List Nat) (draw:Bool) (all:List Oper):List Oper→Nat→Nat→St→(St→Option ρ)→Option ρ
 |[],_,_,S,K=>K S
 |o::os,i,nid,S,K =>
  let nid':=bif Ė E.clone o.op then nid+1 else nid
  match o.guard with
  |none=>iJ E call fid (path++[i]) draw S nid o fun v S=>abq E call fid path draw all os (i+1) nid' {t:=ă S.t o.dst v,h:=S.h} K
  |some (j,want)=>match lk S.t (qD all j) with
   |.bool b=>match b with
    |true=>match want with
     |true=>iJ E call fid (path++[i]) draw {t:=upd S.t (qD all j) (.bool true),h:=S.h} nid o fun v S=>abq E call fid path draw all os (i+1) nid' {t:=ă S.t o.dst v,h:=S.h} K
     |false=>abq E call fid path draw all os (i+1) nid' {t:=ă (upd S.t (qD all j) (.bool true)) o.dst .und,h:=S.h} K
    |false=>match want with
     |false=>iJ E call fid (path++[i]) draw {t:=upd S.t (qD all j) (.bool false),h:=S.h} nid o fun v S=>abq E call fid path draw all os (i+1) nid' {t:=ă S.t o.dst v,h:=S.h} K
     |true=>abq E call fid path draw all os (i+1) nid' {t:=ă (upd S.t (qD all j) (.bool false)) o.dst .und,h:=S.h} K
   |.und=>abq E call fid path draw all os (i+1) nid' {t:=ă S.t o.dst .und,h:=S.h} K
   |_=>none
def Cn (E:Env ρ) (S:St) (o:Op):List Nat :=
 match Nat.ble 1 (cls E o) with
 |true=>o.operands.toList.flatMap fun x=>refs2 S.h (ev S.t x)
 |false=>[]
def disj:List Nat→List Nat→Bool
 |[],_=>true
 |x::l,m=>!m.any (fun y=>Nat.beq y x)&&disj l m
def EN (E:Env ρ) (all:List Oper) (bef:List Nat) (j i:Nat) (Fj Fi:List Nat):Bool :=
 match all[j]?,all[i]? with
 |some a,some b=>!Df E a.op b.op||((bef.getD j 0).testBit i||((bef.getD i 0).testBit j||disj Fj Fi))
 |_,_=>false
def chk (E:Env ρ) (all:List Oper) (bef:List Nat) (acc:List (Nat×List Nat)) (i:Nat) (F:List Nat):Bool :=
 acc.all fun p=>EN E all bef p.1 i p.2 F
def ado (E:Env ρ) (call:List Nat→Bool→Nat→List AV→List Blk→(AV→List Blk→Option ρ)→Option ρ) (fid:Nat) (path:List Nat) (all:List Oper) (bef:List Nat):List Oper→Nat→Nat→List (Nat×List Nat)→St→(St→Option ρ)→Option ρ
 |[],_,_,_,S,K=>K S
 |o::os,i,nid,acc,S,K =>
  let nid':=bif Ė E.clone o.op then nid+1 else nid
  match o.guard with
  |none=>match chk E all bef acc i (Cn E S o.op) with
   |true=>iJ E call fid (path++[i]) true S nid o fun v S'=>ado E call fid path all bef os (i+1) nid' ((i,Cn E S o.op)::acc) {t:=ă S'.t o.dst v,h:=S'.h} K
   |false=>none
  |some (j,want)=>match lk S.t (qD all j) with
   |.bool b=>match b with
    |true=>match want with
     |true=>match chk E all bef acc i (Cn E S o.op) with
      |true=>iJ E call fid (path++[i]) true {t:=upd S.t (qD all j) (.bool true),h:=S.h} nid o fun v S'=>ado E call fid path all bef os (i+1) nid' ((i,Cn E S o.op)::acc) {t:=ă S'.t o.dst v,h:=S'.h} K
      |false=>none
     |false=>ado E call fid path all bef os (i+1) nid' ((i,[])::acc) {t:=ă (upd S.t (qD all j) (.bool true)) o.dst .und,h:=S.h} K
    |false=>match want with
     |false=>match chk E all bef acc i (Cn E S o.op) with
      |true=>iJ E call fid (path++[i]) true {t:=upd S.t (qD all j) (.bool false),h:=S.h} nid o fun v S'=>ado E call fid path all bef os (i+1) nid' ((i,Cn E S o.op)::acc) {t:=ă S'.t o.dst v,h:=S'.h} K
      |false=>none
     |true=>ado E call fid path all bef os (i+1) nid' ((i,[])::acc) {t:=ă (upd S.t (qD all j) (.bool false)) o.dst .und,h:=S.h} K
   |.und=>ado E call fid path all bef os (i+1) nid' ((i,[])::acc) {t:=ă S.t o.dst .und,h:=S.h} K
   |_=>none
def ja (clone:Nat→Bool):List Oper→Nat
 |[]=>0
 |o::os=>bif Ė clone o.op then ja clone os+1 else ja clone os
def ur (all:List Oper):List Oper→Bool
 |[]=>true
 |o::os=>(match o.guard with
  |none=>true
  |some (j,_)=>match all[j]? with
   |some p=>p.dst.isSome
   |none=>false)&&ur all os
def Lb (E:Env ρ) (call:List Nat→Bool→Nat→List AV→List Blk→(AV→List Blk→Option ρ)→Option ρ) (fid:Nat) (path:List Nat) (draw:Bool) (ops:List Oper) (S:St) (K:St→Option ρ):Option ρ :=
 match (draw&&!aeC E ops)||!ur ops ops with
 |true=>none
 |false=>match draw with
  |true=>ado E call fid path ops (χ ops []) ops 0 S.h.length [] {t:=S.t,h:=S.h++List.replicate (ja E.clone ops) .dead} K
  |false=>abq E call fid path false ops ops 0 S.h.length {t:=S.t,h:=S.h++List.replicate (ja E.clone ops) .dead} K
def ahH (v:AV) (k:AV→Option ρ):Option ρ :=
 match v with
 |.any=>k .any
 |.und=>k .und
 |.bool b=>k (.bool b)
 |.int i n=>k (.int i n)
 |.str s=>k (.str s)
 |.nils=>k .nils
 |.slc t xs=>k (.slc t xs)
 |.own id g=>k (.own id g)
 |.sub id g lo n=>k (.sub id g lo n)
 |.nilm=>k .nilm
 |.mp a b es=>k (.mp a b es)
 |.omp id=>k (.omp id)
 |.nilp=>k .nilp
 |.box id off=>k (.box id off)
 |.eptr t x off=>k (.eptr t x off)
 |.optr id g i off=>k (.optr id g i off)
 |.dp id g=>k (.dp id g)
 |.dq id g i=>k (.dq id g i)
 |.dr id g i=>k (.dr id g i)
 |.de id g i j=>k (.de id g i j)
 |.nilfn=>k .nilfn
 |.yld=>k .yld
 |.fn f a b=>k (.fn f a b)
 |.agg cs=>k (.agg cs)
 |.tup vs=>k (.tup vs)
def Wt:List AV→(List AV→Option ρ)→Option ρ
 |[],k=>k []
 |x::xs,k=>ahH x fun y=>Wt xs fun ys=>k (y::ys)
def GG:List Blk→(List Blk→Option ρ)→Option ρ
 |[],k=>k []
 |x::xs,k=>match x with
  |.dead=>GG xs fun ys=>k (.dead::ys)
  |.cells cs=>Wt cs fun cs=>GG xs fun ys=>k (.cells cs::ys)
  |.row t g fz es=>GG xs fun ys=>k (.row t g fz es::ys)
  |.map a b es=>GG xs fun ys=>k (.map a b es::ys)
  |.deep q g xss=>GG xs fun ys=>k (.deep q g xss::ys)
  |.acc t es=>GG xs fun ys=>k (.acc t es::ys)
def ael (S:St) (k:St→Option ρ):Option ρ:=Wt S.t fun t=>GG S.h fun h=>k {t:=t,h:=h}
def aej (v:AV) (k:AV→Option ρ):ahH v k=k v:=by cases v<;>rfl
def Nx:∀(l:List AV) (k:List AV→Option ρ),Wt l k=k l
 |[],_=>rfl
 |x::xs,k=>by simp only[Wt]; rw[aej,Nx xs]
def Wu:∀(l:List Blk) (k:List Blk→Option ρ),GG l k=k l
 |[],_=>rfl
 |x::xs,k=>by cases x<;>simp only[GG,Nx]<;>rw[Wu xs]
def aek (S:St) (k:St→Option ρ):ael S k=k S:=by
 unfold ael; rw[Nx,Wu]
def Nq:Code→Nat
 |.region rid _ _=>rid+1
 |.seq a _=>Nq a
 |.block _ b=>Nq b
 |.loop b=>Nq b
 |_=>0
def goC (E:Env ρ) (call:List Nat→Bool→Nat→List AV→List Blk→(AV→List Blk→Option ρ)→Option ρ) (fid:Nat) (path:List Nat) (m:Nat):Nat→Code→St→(Exit→St→Option ρ)→Option ρ
 |_,.skip,S,K=>K .normal S
 |_,.region rid ops draw,S,K=>Lb E call fid (path++[rid]) draw ops.toList S fun S=>ael S (K .normal)
 |bid,.seq a b,S,K=>match E.joins path fid (Nq b) m with
  |none=>goC E call fid path m bid a S fun e S=>match e with
   |.normal=>goC E call fid path m bid b S K
   |e=>K e S
  |some J=>J (fun k=>goC E call fid path m bid a S fun e S=>match e with
   |.normal=>k S
   |e=>K e S) (fun S=>goC E call fid path m bid b S K)
 |bid,.cond c a b,S,K=>match ev S.t c with
  |.bool x=>match x with
   |true=>goC E call fid path m bid a S K
   |false=>goC E call fid path m bid b S K
  |_=>none
 |_,.block id b,S,K=>goC E call fid path m id b S fun e S=>match e with
  |.exit j=>match j==id with
   |true=>K .normal S
   |false=>K (.exit j) S
  |e=>K e S
 |bid,.loop _,S,K=>E.loops path fid bid m S K
 |bid,.rangeFunc g _ _ _,S,K=>E.ranges path fid bid m (ev S.t g) S K
 |bid,.scope c,S,K=>goC E call fid path m bid c S fun e S=>match e with
  |.goto _=>none
  |e=>K e S
 |_,.exit id,S,K=>K (.exit id) S
 |_,.ret,S,K=>K .ret S
 |_,.label _,S,K=>K .normal S
 |_,_,_,_=>none
def wQ (E:Env ρ) (call:List Nat→Bool→Nat→List AV→List Blk→(AV→List Blk→Option ρ)→Option ρ) (path:List Nat) (f:Nat) (args:List AV) (h:List Blk) (K:AV→List Blk→Option ρ):Option ρ :=
 match E.P.funcs[f]? with
 |some fn=>match fn.body with
  |some c=>goC E call f path h.length 0 c {t:=args++List.replicate (fn.ntmps-args.length) .any,h:=h} fun e S=>match e with
   |.normal=>match vz E.P fn S with
    |some v=>K v S.h
    |none=>none
   |.ret=>match vz E.P fn S with
    |some v=>K v S.h
    |none=>none
   |_=>none
  |none=>none
 |none=>none
def Κ (E:Env ρ):Nat→List Nat→Bool→Nat→List AV→List Blk→(AV→List Blk→Option ρ)→Option ρ
 |0,_,_,_,_,_,_=>none
 |n+1,path,draw,f,args,h,K=>match E.pure f with
  |some g=>Rh (draw&&!E.fz f) g h args K
  |none=>match E.sort f with
   |true=>match args with
    |[x]=>Q8 h x K
    |_=>none
   |false=>match E.compact f with
   |true=>match args with
    |[x]=>qI h x K
    |_=>none
   |false=>match E.ext f with
    |some X=>X h args K
    |none=>match E.inl f with
     |true=>match E.stop path f with
      |true=>none
      |false=>wQ E (Κ E n) path f args h K
     |false=>none
def topK (E:Env ρ) (f:Nat) (args:List AV) (K:List Blk→AV→Option ρ):Option ρ :=
 wQ E (Κ E 10) [] f args [] fun v h=>K h v
def Le (p:å) (E:Env (Val (tyL p.rs))) (f:Nat):Prop :=
 ∀x:Val (tyL p.ts),topK E f (YU p.ts x) (aio p.rs)=p.F x
def ad7 {α:Type} (f:(α→Option ρ)→Option ρ) (k:α→Option ρ):Option ρ:=f k
def afG {τ:Type} (f:τ→(τ→Option ρ)→Option ρ):Nat→τ→Option ρ
 |0,_=>none
 |n+1,x=>f x (afG f n)
open Classical in
def Í {τ:Type} (f:τ→(τ→Option ρ)→Option ρ) (x:τ):Option ρ :=
 if h:∃r:Option ρ,∃N,∀n,N≤n→afG f n x=r then Classical.choose h else none
def agn {τ:Type} {f:τ→(τ→Option ρ)→Option ρ} {x:τ} {r:Option ρ} (N:Nat) (h:∀n,N≤n→afG f n x=r):Í f x=r:=by
 have hex:∃r:Option ρ,∃N,∀n,N≤n→afG f n x=r:=⟨r,N,h⟩;unfold Í;rw[dif_pos hex];obtain⟨M,hM⟩:=Classical.choose_spec hex;rw[←hM (max M N) (Nat.le_max_left _ _),h _ (Nat.le_max_right _ _)]
def abH {τ:Type} {f:τ→(τ→Option ρ)→Option ρ} {x:τ} {r:ρ} (h:Í f x=some r):∃n,afG f n x=some r:=by
 unfold Í at h
 split at h
 ·rename_i hex;obtain⟨M,hM⟩:=Classical.choose_spec hex;exact⟨M,by rw[hM M (cG _),h]⟩
 ·cases h
def Q5 (body:St→(Exit→St→Option ρ)→Option ρ):Nat→St→(Exit→St→Option ρ)→Option ρ
 |0,_,_=>none
 |n+1,S,K=>body S fun e S=>match e with
  |.normal=>Q5 body n S K
  |e=>K e S
def AQ {α β:Type} (f:α→β→(α→Option ρ)→Option ρ):List β→α→(α→Option ρ)→Option ρ
 |[],v,k=>k v
 |x::xs,v,k=>f v x fun v'=>AQ f xs v' k
inductive LI where
 |lp (b:Code)
 |rf (g:Operand) (ps:Array Tmp) (a b:Code)
def ß:Nat→Code→List (Nat×LI)
 |bid,.seq a b=>ß bid a++ß bid b
 |bid,.cond _ a b=>ß bid a++ß bid b
 |_,.block id b=>ß id b
 |bid,.loop b=>(bid,.lp b)::ß bid b
 |bid,.scope b=>ß bid b
 |bid,.rangeFunc g ps a b=>(bid,.rf g ps a b)::(ß bid a++ß bid b)
 |_,_=>[]
def LI.loops (bid:Nat):LI→List (Nat×LI)
 |.lp b=>ß bid b
 |.rf _ _ a b=>ß bid a++ß bid b
def og (c:Option Code) (bid:Nat):LI :=
 match c with
 |some c=>match (ß 0 c).find? (fun x=>x.1==bid) with
  |some x=>x.2
  |none=>.lp .skip
 |none=>.lp .skip
def wC (c:Option Code) (bid:Nat):Code :=
 match og c bid with
 |.lp b=>b
 |.rf _ _ a b=>.seq a b
structure DV where
 ty:Ty
 val:Val ty
def NU (t:Ty) (d:DV):Option (Val t) :=
 match decEq d.ty t with
 |isTrue h=>some (yu (F:=Val) h d.val)
 |isFalse _=>none
def abb:(l:List Ty)→(t:Ty)→List DV→Option (Val (tys t l))
 |[],t,ds=>match ds with
  |[]=>none
  |d::ds=>match ds with
   |[]=>NU t d
   |_::_=>none
 |u::l,t,ds=>match ds with
  |[]=>none
  |d::ds=>match NU t d with
   |some x=>match abb l u ds with
    |some y=>some ((x,y):Val t×Val (tys u l))
    |none=>none
   |none=>none
def ah5 (l:List Ty) (ds:List DV):Option (Val (tyL l)) :=
 match l with
 |[]=>match ds with
  |[]=>some ()
  |_::_=>none
 |t::l=>abb l t ds
def abu:(t:Ty)→(l:List Ty)→Val (tys t l)→List DV
 |t,[],x=>[⟨t,x⟩]
 |t,u::l,x=>⟨t,(x:Val t×Val (tys u l)).1⟩::abu u l (x:Val t×Val (tys u l)).2
def XV:(l:List Ty)→Val (tyL l)→List DV
 |[],_=>[]
 |t::l,x=>abu t l x
inductive Pat where
 |any
 |con (t:Ty)
 |var (t:Ty)
 |own (i:Nat)
 |dp (i:Nat)
 |omp (i:Nat)
 |box (i off:Nat)
 |nils
 |nilp
 |nilfn
 |yld
 |fn (f:Nat) (caps:List (Nat×Nat))
 |fnd (f:Nat) (ts:List Ty)
inductive mw where
 |dead
 |cells (ps:List Pat)
 |rowc (t:Ty)
 |rowf (t:Ty) (g:Nat)
 |rowv (t:Ty)
 |mapc (k v:Ty)
 |mapv (k v:Ty)
 |deepc (k:IntKind)
 |deepv (k:IntKind)
 |acc (t:Ty)
def aN:Nat→List Pat→List Pat
 |0,l=>l
 |n+1,l=>.any::aN n l
structure Tpl where
 n:Nat
 slots:List Pat
 heap:List mw
inductive Bd where
 |open_
 |new
 |newd
 |at_ (id:Nat)
structure Mt where
 bd:List Bd
 cons:List DV
 vars:List DV
 freed:List Nat
def jN:List Bd→Nat→Option Bd
 |[],_=>none
 |x::_,0=>some x
 |_::xs,n+1=>jN xs n
def JE:List Bd→Nat→Bd→List Bd
 |[],_,_=>[]
 |_::xs,0,v=>v::xs
 |x::xs,n+1,v=>x::JE xs n v
def N5 (M:Mt) (i id:Nat):Option Mt :=
 match jN M.bd i with
 |some .open_=>some {M with bd:=JE M.bd i (.at_ id)}
 |some (.at_ id')=>match id'==id with
  |true=>some M
  |false=>none
 |_=>none
def Zc (M:Mt) (i:Nat):Option Mt :=
 match jN M.bd i with
 |some .open_=>some {M with bd:=JE M.bd i .new}
 |_=>none
def TU (M:Mt) (i:Nat):Option Mt :=
 match jN M.bd i with
 |some .open_=>some {M with bd:=JE M.bd i .newd}
 |_=>none
def QD (h:List Blk):AV→List Nat
 |.own id _=>match lkB h id with
  |.row _ _ false _=>[id]
  |_=>[]
 |.sub id _ _ _=>match lkB h id with
  |.row _ _ false _=>[id]
  |_=>[]
 |.omp id=>[id]
 |_=>[]
def zI (h:List Blk):List (Nat×Nat)→List AV→Mt→Option Mt
 |[],[],M=>some M
 |(i,o)::ps,.box id off::vs,M=>match o==off with
  |true=>match lkB h id with
   |.cells _=>match N5 M i id with
    |some M=>zI h ps vs M
    |none=>none
   |_=>none
  |false=>none
 |_,_,_=>none
def zH:List Ty→List AV→Mt→Option Mt
 |[],[],M=>some M
 |t::ts,.eptr t' x o::vs,M=>match Nat.beq o 0 with
  |true=>match decEq t' t with
   |isTrue _=>zH ts vs {M with cons:=M.cons++[⟨.ptr t',x⟩]}
   |isFalse _=>none
  |false=>none
 |_,_,_=>none
def iy (h:List Blk) (p:Pat) (v:AV) (M:Mt):Option Mt :=
 match p with
 |.any=>some M
 |.con t=>match Û t [Ą h v] with
  |some x=>some {M with cons:=M.cons++[⟨t,x⟩],freed:=QD h v++M.freed}
  |none=>none
 |.var t=>match Û t [Ą h v] with
  |some x=>some {M with vars:=M.vars++[⟨t,x⟩],freed:=QD h v++M.freed}
  |none=>none
 |.own i=>match v with
  |.own id g=>match lkB h id with
   |.row _ g' false _=>match g==g' with
    |true=>N5 M i id
    |false=>none
   |_=>none
  |.nils=>Zc M i
  |_=>none
 |.dp i=>match v with
  |.dp id g=>match lkB h id with
   |.deep _ g' _=>match g==g' with
    |true=>N5 M i id
    |false=>none
   |_=>none
  |.nils=>TU M i
  |_=>none
 |.omp i=>match v with
  |.omp id=>match lkB h id with
   |.map _ _ _=>N5 M i id
   |_=>none
  |_=>none
 |.box i off=>match v with
  |.box id off'=>match off==off' with
   |true=>match lkB h id with
    |.cells _=>N5 M i id
    |_=>none
   |false=>none
  |_=>none
 |.nils=>match v with
  |.nils=>some M
  |_=>none
 |.nilp=>match v with
  |.nilp=>some M
  |_=>none
 |.nilfn=>match v with
  |.nilfn=>some M
  |_=>none
 |.yld=>match v with
  |.yld=>some M
  |_=>none
 |.fn f caps=>match v with
  |.fn (.func f') [] vs=>match f==f' with
   |true=>zI h caps vs M
   |false=>none
  |_=>none
 |.fnd f ts=>match v with
  |.fn (.func f') [] vs=>match f==f' with
   |true=>zH ts vs M
   |false=>none
  |_=>none
def Qd (h:List Blk):List Pat→List AV→Mt→Option Mt
 |[],_,M=>some M
 |p::ps,vs,M=>match iy h p (lk vs 0) M with
  |some M=>Qd h ps vs.tail M
  |none=>none
def qV (h:List Blk):List Pat→List AV→Mt→Option Mt
 |[],[],M=>some M
 |p::ps,v::vs,M=>match iy h p v M with
  |some M=>qV h ps vs M
  |none=>none
 |_,_,_=>none
def jO (h:List Blk) (p:mw) (i:Nat) (M:Mt):Option Mt :=
 match p with
 |.dead=>match jN M.bd i with
  |some (.at_ id)=>match lkB h id with
   |.dead=>some M
   |_=>none
  |_=>none
 |.cells ps=>match jN M.bd i with
  |some (.at_ id)=>match lkB h id with
   |.cells cs=>qV h ps cs M
   |_=>none
  |_=>none
 |.rowc t=>match jN M.bd i with
  |some (.at_ id)=>match lkB h id with
   |.row t' _ false xs=>match decEq t' t with
    |isTrue _=>some {M with cons:=M.cons++[⟨.slice t',xs⟩]}
    |isFalse _=>none
   |_=>none
  |some .new=>some {M with cons:=M.cons++[⟨.slice t,[]⟩]}
  |_=>none
 |.rowf t g=>match jN M.bd i with
  |some (.at_ id)=>match lkB h id with
   |.row t' g' true xs=>match decEq t' t with
    |isTrue _=>match decEq g' g with
     |isTrue _=>some {M with cons:=M.cons++[⟨.slice t',xs⟩]}
     |isFalse _=>none
    |isFalse _=>none
   |_=>none
  |_=>none
 |.rowv t=>match jN M.bd i with
  |some (.at_ id)=>match lkB h id with
   |.row t' _ false xs=>match decEq t' t with
    |isTrue _=>some {M with vars:=M.vars++[⟨.slice t',xs⟩]}
    |isFalse _=>none
   |_=>none
  |some .new=>some {M with vars:=M.vars++[⟨.slice t,[]⟩]}
  |_=>none
 |.mapc k v=>match jN M.bd i with
  |some (.at_ id)=>match lkB h id with
   |.map k' v' es=>match decEq (Ty.map k' v') (Ty.map k v) with
    |isTrue _=>some {M with cons:=M.cons++[⟨.map k' v',es⟩]}
    |isFalse _=>none
   |_=>none
  |_=>none
 |.mapv k v=>match jN M.bd i with
  |some (.at_ id)=>match lkB h id with
   |.map k' v' es=>match decEq (Ty.map k' v') (Ty.map k v) with
    |isTrue _=>some {M with vars:=M.vars++[⟨.map k' v',es⟩]}
    |isFalse _=>none
   |_=>none
  |_=>none
 |.deepc k=>match jN M.bd i with
  |some (.at_ id)=>match lkB h id with
   |.deep k' _ xss=>match decEq k' k with
    |isTrue _=>some {M with cons:=M.cons++[⟨.slice (.slice (.int k')),xss⟩]}
    |isFalse _=>none
   |_=>none
  |some .newd=>some {M with cons:=M.cons++[⟨.slice (.slice (.int k)),[]⟩]}
  |_=>none
 |.deepv k=>match jN M.bd i with
  |some (.at_ id)=>match lkB h id with
   |.deep k' _ xss=>match decEq k' k with
    |isTrue _=>some {M with vars:=M.vars++[⟨.slice (.slice (.int k')),xss⟩]}
    |isFalse _=>none
   |_=>none
  |some .newd=>some {M with vars:=M.vars++[⟨.slice (.slice (.int k)),[]⟩]}
  |_=>none
 |.acc t=>match jN M.bd i with
  |some (.at_ id)=>match lkB h id with
   |.acc t' xs=>match decEq t' t with
    |isTrue _=>some {M with vars:=M.vars++[⟨.slice t',xs⟩]}
    |isFalse _=>none
   |_=>none
  |_=>none
def Qe (h:List Blk):List mw→Nat→Mt→Option Mt
 |[],_,M=>some M
 |p::ps,i,M=>match jO h p i M with
  |some M=>Qe h ps (i+1) M
  |none=>none
def Dm (pin:Nat) (n:Nat):List Bd:=(List.range n).map fun i=>bif i<pin then .at_ i else .open_
def Kh:List Bd→List Nat
 |[]=>[]
 |.at_ id::l=>id::Kh l
 |_::l=>Kh l
def distinct:List Nat→Bool
 |[]=>true
 |x::l=>!l.contains x&&distinct l
def aeh (h:List Blk):Nat→Bool
 |0=>true
 |i+1=>match lkB h i with
  |.row _ (_+1) false _=>false
  |.deep _ (_+1) _=>false
  |_=>aeh h i
def yC (T:Tpl) (pin:Nat) (cs vs:List Ty) (S:St):Option (Val (tyL cs)×Val (tyL vs)) :=
 match decide (pin≤T.heap.length)&&(decide (T.slots.length≤T.n)&&(decide (T.n≤S.t.length)&&aeh S.h pin)) with
 |true=>match Qd S.h T.slots S.t {bd:=Dm pin T.heap.length,cons:=[],vars:=[],freed:=[]} with
  |some M=>match Qe S.h T.heap 0 M with
   |some M=>match distinct (Kh M.bd)&&M.freed.all (fun i=>!(Kh M.bd).contains i) with
    |true=>match ah5 cs M.cons,ah5 vs M.vars with
     |some p,some v=>some (p,v)
     |_,_=>none
    |false=>none
   |none=>none
  |none=>none
 |false=>none
structure It where
 cons:List DV
 vars:List DV
def abY:DV→AV
 |⟨.unit,_⟩=>.any
 |⟨.pair _ _,_⟩=>.any
 |⟨t,x⟩=>enc t x
def BH:List Ty→It→List AV×It
 |[],I=>([],I)
 |_::ts,I=>match I.cons with
  |d::ds=>match BH ts {I with cons:=ds} with
   |(vs,I)=>(abY d::vs,I)
  |[]=>match BH ts I with
   |(vs,I)=>(.any::vs,I)
def vp (p:Pat) (I:It):AV×It :=
 match p with
 |.any=>(.any,I)
 |.con _=>match I.cons with
  |d::ds=>(abY d,{I with cons:=ds})
  |[]=>(.any,I)
 |.var _=>match I.vars with
  |d::ds=>(abY d,{I with vars:=ds})
  |[]=>(.any,I)
 |.own i=>(.own i 0,I)
 |.dp i=>(.dp i 0,I)
 |.omp i=>(.omp i,I)
 |.box i off=>(.box i off,I)
 |.nils=>(.nils,I)
 |.nilp=>(.nilp,I)
 |.nilfn=>(.nilfn,I)
 |.yld=>(.yld,I)
 |.fn f caps=>(.fn (.func f) [] (caps.map fun c=>.box c.1 c.2),I)
 |.fnd f ts=>match BH ts I with
  |(vs,I)=>(.fn (.func f) [] vs,I)
def Ir:List Pat→It→List AV×It
 |[],I=>([],I)
 |p::ps,I=>match vp p I with
  |(v,I)=>match Ir ps I with
   |(vs,I)=>(v::vs,I)
def rowDV:DV→Blk
 |⟨.slice t,xs⟩=>.row t 0 false xs
 |_=>.dead
def rowFz (g:Nat):DV→Blk
 |⟨.slice t,xs⟩=>.row t g true xs
 |_=>.dead
def accDV:DV→Blk
 |⟨.slice t,xs⟩=>.acc t xs
 |_=>.dead
def mapDV:DV→Blk
 |⟨.map k v,es⟩=>.map k v es
 |_=>.dead
def ahK:DV→Blk
 |⟨.slice (.slice (.int k)),xss⟩=>.deep k 0 xss
 |_=>.dead
def vn (p:mw) (I:It):Blk×It :=
 match p with
 |.dead=>(.dead,I)
 |.cells ps=>match Ir ps I with
  |(cs,I)=>(.cells cs,I)
 |.rowc _=>match I.cons with
  |d::ds=>(rowDV d,{I with cons:=ds})
  |[]=>(.dead,I)
 |.rowf _ g=>match I.cons with
  |d::ds=>(rowFz g d,{I with cons:=ds})
  |[]=>(.dead,I)
 |.rowv _=>match I.vars with
  |d::ds=>(rowDV d,{I with vars:=ds})
  |[]=>(.dead,I)
 |.mapc _ _=>match I.cons with
  |d::ds=>(mapDV d,{I with cons:=ds})
  |[]=>(.dead,I)
 |.mapv _ _=>match I.vars with
  |d::ds=>(mapDV d,{I with vars:=ds})
  |[]=>(.dead,I)
 |.deepc _=>match I.cons with
  |d::ds=>(ahK d,{I with cons:=ds})
  |[]=>(.dead,I)
 |.deepv _=>match I.vars with
  |d::ds=>(ahK d,{I with vars:=ds})
  |[]=>(.dead,I)
 |.acc _=>match I.vars with
  |d::ds=>(accDV d,{I with vars:=ds})
  |[]=>(.dead,I)
def Ec:List mw→It→List Blk×It
 |[],I=>([],I)
 |p::ps,I=>match vn p I with
  |(b,I)=>match Ec ps I with
   |(bs,I)=>(b::bs,I)
def þ (T:Tpl) (cs vs:List Ty) (p:Val (tyL cs)) (v:Val (tyL vs)):St :=
 match Ir T.slots {cons:=XV cs p,vars:=XV vs v} with
 |(t,I)=>match Ec T.heap I with
  |(h,_)=>{t:=t++List.replicate (T.n-T.slots.length) .any,h:=h}
structure Ç where
 pin:Nat
 cs:List Ty
 vs:List Ty
 head:Tpl
 exits:List (Exit×Tpl×List Ty)
 alt:Bool:=false
def Ç.zs (L:Ç) (i:Nat):List Ty:=match L.exits[i]? with|some x=>x.2.2|none=>[]
def Ç.tpl (L:Ç) (i:Nat):Tpl:=match L.exits[i]? with|some x=>x.2.1|none=>⟨0,[],[]⟩
def Ç.xk (L:Ç) (i:Nat):Exit:=match L.exits[i]? with|some x=>x.1|none=>.normal
def Ks:Exit→Exit→Bool
 |.exit i,.exit j=>i==j
 |.ret,.ret=>true
 |_,_=>false
def agB:List (Exit×Tpl×List Ty)→Exit→Nat→Option Nat
 |[],_,_=>none
 |x::xs,e,i=>match Ks x.1 e with
  |true=>some i
  |false=>agB xs e (i+1)
def Hk (L:Ç) (kn:Val (tyL L.cs)→Val (tyL L.vs)→Option ρ) (kx:(i:Nat)→Val (tyL L.cs)→Val (tyL (L.zs i))→Option ρ) (e:Exit) (S:St):Option ρ :=
 match e with
 |.normal=>match yC L.head L.pin L.cs L.vs S with
  |some (p,v)=>kn p v
  |none=>none
 |e=>match agB L.exits e 0 with
  |some i=>match yC (L.tpl i) L.pin L.cs (L.zs i) S with
   |some (p,z)=>kx i p z
   |none=>none
  |none=>none
def fitsS (L:Ç) (S:St):Bool:=match L.alt with
 |false=>true
 |true=>match yC L.head L.pin L.cs L.vs S with
  |some _=>true
  |none=>false
def XJ (L:Ç) (bF:Val (tyL L.cs)→Val (tyL L.vs)→(Val (tyL L.vs)→Option ρ)→((i:Nat)→Val (tyL (L.zs i))→Option ρ)→Option ρ) (m:Nat) (S:St) (K:Exit→St→Option ρ):Option ρ :=
 match Nat.ble m L.pin with
 |true=>match yC L.head L.pin L.cs L.vs S with
  |some (p,v)=>Í (fun v kn=>bF p v kn fun i z=>K (L.xk i) (þ (L.tpl i) L.cs (L.zs i) p z)) v
  |none=>none
 |false=>none
end
end Go.Am
end

noncomputable section
namespace Go.Am
def Ă {α β:Type} (R:α→β→Prop):List α→List β→Prop
 |[],[]=>True
 |a::l,b::m=>R a b∧Ă R l m
 |_,_=>False
section
variable {α β:Type} {R R':α→β→Prop}
def Ă.length:∀{l:List α} {m:List β},Ă R l m→l.length=m.length
 |[],[],_=>rfl
 |_::_,_::_,h=>by simp[Ă.length h.2]
 |[],_::_,h=>h.elim
 |_::_,[],h=>h.elim
def Ă.mono (hr:∀a b,R a b→R' a b):∀{l:List α} {m:List β},Ă R l m→Ă R' l m
 |[],[],_=>trivial
 |_::_,_::_,h=>⟨hr _ _ h.1,Ă.mono hr h.2⟩
 |[],_::_,h=>h.elim
 |_::_,[],h=>h.elim
def Ă.append:∀{l:List α} {m:List β} {l':List α} {m':List β},Ă R l m→Ă R l' m'→Ă R (l++l') (m++m')
 |[],[],_,_,_,h=>h
 |_::_,_::_,_,_,h,h'=>⟨h.1,Ă.append h.2 h'⟩
 |[],_::_,_,_,h,_=>h.elim
 |_::_,[],_,_,h,_=>h.elim
def Ă.get:∀{l:List α} {m:List β},Ă R l m→∀{i:Nat} {a:α},l[i]?=some a→∃b,m[i]?=some b∧R a b
 |[],[],_,_,_,h=>by simp at h
 |_::_,b::_,h,0,_,e=>by simp at e; subst e; exact⟨b,by simp,h.1⟩
 |_::_,_::_,h,i+1,_,e=>by simpa using Ă.get h.2 (by simpa using e)
 |[],_::_,h,_,_,_=>h.elim
 |_::_,[],h,_,_,_=>h.elim
def Ă.get':∀{l:List α} {m:List β},Ă R l m→∀{i:Nat} {b:β},m[i]?=some b→∃a,l[i]?=some a∧R a b
 |[],[],_,_,_,h=>by simp at h
 |a::_,_::_,h,0,_,e=>by simp at e; subst e; exact⟨a,by simp,h.1⟩
 |_::_,_::_,h,i+1,_,e=>by simpa using Ă.get' h.2 (by simpa using e)
 |[],_::_,h,_,_,_=>h.elim
 |_::_,[],h,_,_,_=>h.elim
def Ă.take:∀{l:List α} {m:List β} (n:Nat),Ă R l m→Ă R (l.take n) (m.take n)
 |_,_,0,_=>by simp[Ă]
 |[],[],_+1,_=>by simp[Ă]
 |_::_,_::_,n+1,h=>by simpa using⟨h.1,Ă.take n h.2⟩
 |[],_::_,_+1,h=>h.elim
 |_::_,[],_+1,h=>h.elim
def Ă.drop:∀{l:List α} {m:List β} (n:Nat),Ă R l m→Ă R (l.drop n) (m.drop n)
 |_,_,0,h=>by simpa using h
 |[],[],_+1,_=>by simp[Ă]
 |_::_,_::_,n+1,h=>by simpa using Ă.drop n h.2
 |[],_::_,_+1,h=>h.elim
 |_::_,[],_+1,h=>h.elim
def Ă.of_get:∀{l:List α} {m:List β},l.length=m.length→(∀(i:Nat) (a:α) (b:β),l[i]?=some a→m[i]?=some b→R a b)→Ă R l m
 |[],[],_,_=>trivial
 |a::l,b::m,hl,h=>⟨h 0 a b (by simp) (by simp),Ă.of_get (by simpa using hl) fun i x y hx hy=>h (i+1) x y (by simpa using hx) (by simpa using hy)⟩
 |[],_::_,hl,_=>by simp at hl
 |_::_,[],hl,_=>by simp at hl
def Ă.nil_left {m:List β} (h:Ă R [] m):m=[]:=by cases m with|nil=>rfl|cons=>exact h.elim
def Ă.one {a:α} {m:List β} (h:Ă R [a] m):∃b,m=[b]∧R a b:=by
 cases m with
 |nil=>exact h.elim
 |cons b m=>exact⟨b,by rw[Ă.nil_left h.2],h.1⟩
def Ă.split:∀{l l':List α} {m:List β},Ă R (l++l') m→∃u v,m=u++v∧Ă R l u∧Ă R l' v
 |[],_,m,h=>⟨[],m,by simp,trivial,h⟩
 |a::l,l',b::m,h=>by
  obtain⟨u,v,rfl,h1,h2⟩:=Ă.split (l:=l) h.2;exact⟨b::u,v,by simp,⟨h.1,h1⟩,h2⟩
 |_::_,_,[],h=>h.elim
def Ă.map_left {γ:Type} {f:γ→α}:∀{l:List γ} {m:List β},Ă (fun c b=>R (f c) b) l m→Ă R (l.map f) m
 |[],[],_=>trivial
 |_::_,_::_,h=>⟨h.1,Ă.map_left h.2⟩
 |[],_::_,h=>h.elim
 |_::_,[],h=>h.elim
end
def CellsAt (w:World) (b off:Nat) (vs:List Value):Prop:=∀j v,vs[j]?=some v→w.cell? ⟨b,off+j,none⟩=some v
def zi (t:Ty) (vs:List Value):Value :=
 match t.isAgg with
 |true=>.agg vs.toArray
 |false=>vs.headD undef
def CR (w:World) (av:Nat→Prop):(t:Ty)→Val t→List Value→Prop
 |.unit,_,vs=>vs=[]
 |.bool,b,vs=>vs=[.bool b]
 |.int k,n,vs=>vs=[.int k n]
 |.str,s,vs=>vs=[.string s]
 |.slice t,xs,vs=>∃base cap,vs=[.slice base (xs:List (Val t)).length cap]∧(xs:List (Val t)).length≤cap ∧
    ((xs : List (Val t)) = [] ∨ ∃ b off, base = some ⟨b, off, none⟩ ∧ ¬ av b ∧ b < w.heap.size ∧
      ∀i x,(xs:List (Val t))[i]?=some x→∃us,CR w av t x us∧CellsAt w b (off+i*t.size) us)
 |.map k v,es,vs=>∃r,vs=[.map r]∧((r=none∧(es:List (Val k×Val v))=[]) ∨
    ∃(b:Nat) (entries:Array MapEntry) (clock:Nat),r=some b∧¬av b∧w.heap[b]?=some (.map entries clock)∧entries.size=(es:List (Val k×Val v)).length ∧
     ∀(i:Nat) (e:Val k×Val v),(es:List (Val k×Val v))[i]?=some e→∃(m:MapEntry) (us:List Value),entries[i]?=some m∧CR w av k e.1 [m.key]∧CR w av v e.2 us∧m.val=zi v us)
 |.ptr t,x,vs=>∃b off us,vs=[.pointer (some ⟨b,off,none⟩)]∧¬av b∧b<w.heap.size∧CR w av t x us∧CellsAt w b off us
 |.pair a b,v,vs=>∃us ws,vs=us++ws∧CR w av a (v:Val a×Val b).1 us∧CR w av b (v:Val a×Val b).2 ws
def IY (w:World) (av:Nat→Prop) (w':World) (av':Nat→Prop):Prop:=∀b,b<w.heap.size→¬av b→w'.heap[b]?=w.heap[b]?∧¬av' b
def Ĕ {w:World} {b:Nat} {o:Obj} (h:w.heap[b]?=some o):b<w.heap.size:=by
 rcases df b w.heap.size with h'|h'
 ·exact h'
 ·rw[Array.getElem?_eq_none h'] at h; cases h
def KA {w w':World} {b:Nat} (h:b<w.heap.size) (e:w'.heap[b]?=w.heap[b]?):b<w'.heap.size:=by
 rw[Array.getElem?_eq_getElem h] at e;exact Ĕ e
def CellsAt.keep {w w':World} {b off:Nat} {vs:List Value} (h:CellsAt w b off vs) (e:w'.heap[b]?=w.heap[b]?):CellsAt w' b off vs :=
 fun j v hj=>by rw[World.cell?_of_block (w:=w) (by exact e)]; exact h j v hj
def CR.keep {w w':World} {av av':Nat→Prop} (K:IY w av w' av'):∀{t:Ty} {x:Val t} {vs:List Value},CR w av t x vs→CR w' av' t x vs
 |.unit,_,_,h=>h
 |.bool,_,_,h=>h
 |.int _,_,_,h=>h
 |.str,_,_,h=>h
 |.slice t,xs,vs,h=>by
  obtain⟨base,cap,e,hc,h⟩:=h;refine⟨base,cap,e,hc,?_⟩;rcases h with h|⟨b,off,hb,hav,hlt,h⟩
  ·exact .inl h
  ·obtain⟨e1,e2⟩:=K b hlt hav;refine .inr ⟨b,off,hb,e2,KA hlt e1,fun i x hx=>?_⟩;obtain⟨us,h1,h2⟩:=h i x hx;exact⟨us,CR.keep K h1,h2.keep e1⟩
 |.map k v,es,vs,h=>by
  obtain⟨r,e,h⟩:=h;refine⟨r,e,?_⟩;rcases h with h|⟨b,entries,clock,hr,hav,hh,hs,h⟩
  ·exact .inl h
  ·obtain⟨e1,e2⟩:=K b (Ĕ hh) hav;refine .inr ⟨b,entries,clock,hr,e2,e1.trans hh,hs,fun i x hx=>?_⟩;obtain⟨m,us,h1,h2,h3,h4⟩:=h i x hx;exact⟨m,us,h1,CR.keep K h2,CR.keep K h3,h4⟩
 |.ptr t,x,vs,h=>by
  obtain⟨b,off,us,e,hav,hlt,h1,h2⟩:=h;obtain⟨e1,e2⟩:=K b hlt hav;exact⟨b,off,us,e,e2,KA hlt e1,CR.keep K h1,h2.keep e1⟩
 |.pair a b,x,vs,h=>by
  obtain⟨us,ws,e,h1,h2⟩:=h;exact⟨us,ws,e,CR.keep K h1,CR.keep K h2⟩
def CR.length {w:World} {av:Nat→Prop}:∀{t:Ty} {x:Val t} {vs:List Value},CR w av t x vs→vs.length=t.size
 |.unit,_,_,h=>by rw[h]; rfl
 |.bool,_,_,h=>by rw[h]; rfl
 |.int _,_,_,h=>by rw[h]; rfl
 |.str,_,_,h=>by rw[h]; rfl
 |.slice _,_,_,h=>by obtain⟨_,_,rfl,_⟩:=h; rfl
 |.map _ _,_,_,h=>by obtain⟨_,rfl,_⟩:=h; rfl
 |.ptr _,_,_,h=>by obtain⟨_,_,_,rfl,_⟩:=h; rfl
 |.pair a b,_,_,h=>by
  obtain⟨us,ws,rfl,h1,h2⟩:=h;rw[cJ,CR.length h1,CR.length h2]; rfl
def lU:Value→Option Nat
 |.pointer (some a)=>some a.block
 |.slice (some a) _ _=>some a.block
 |.map (some r)=>some r
 |_=>none
@[reducible] def ŋ:Value→Nat→Prop
 |.agg vs,b=>∃u∈vs.toList,lU u=some b
 |.pointer a,b=>lU (.pointer a)=some b
 |.slice a n c,b=>lU (.slice a n c)=some b
 |.map r,b=>lU (.map r)=some b
 |_,_=>False
def Blk.live:Blk→Bool
 |.dead=>false
 |.row _ _ fz _=>!fz
 |_=>true
def Eu (ν:Nat→Value) (h:List Blk) (b:Nat):Prop:=∃id,(lkB h id).live=true∧ŋ (ν id) b
def Oo:Obj→Bool
 |.cells _ _ _=>true
 |.map _ _=>true
 |_=>false
structure StepJ (B:Nat) (O X:Nat→Prop) (w:World) (X':Nat→Prop) (w':World):Prop where
 os:w'.os=w.os
 tape:w'.tape=w.tape
 output:w'.output=w.output
 size:w.heap.size≤w'.heap.size
 av:∀b,b<w.heap.size→¬X b→¬X' b
 dat:∀(b:Nat) (o:Obj),w.heap[b]?=some o→Oo o=true→(X b→O b)→w'.heap[b]?=some o
 nd:∀(b:Nat) (o:Obj),w.heap[b]?=some o→Oo o=false→b<B→w'.heap[b]?=some o
class Ghost where
 G:Nat→Prop
 D:List Deferred
 Q:Option Nat
 M:Nat
 L:Nat
 B:Nat
 T:Ty
 J:(O X:Nat→Prop)→List (Val T)→World→Prop
 st:∀O X X' xs w w',J O X xs w→StepJ B O X w X' w'→J O X' xs w'
@[reducible] def Ghost.re (g:Ghost) (G:Nat→Prop) (D:List Deferred) (Q:Option Nat) (M:Nat):Ghost:=⟨G,D,Q,M,g.L,g.B,g.T,g.J,g.st⟩
@[reducible] def Gh (G:Nat→Prop):Ghost:=⟨G,[],none,0,0,0,.unit,fun _ _ _ _=>False,fun _ _ _ _ _ _ h=>h.elim⟩
variable [Ghost]
def Av (ν:Nat→Value) (h:List Blk) (b:Nat):Prop:=Eu ν h b∨Ghost.G b
def VR0 (ν:Nat→Value) (h:List Blk) (w:World):AV→Value→Prop
 |.any,_=>True
 |.und,v=>v=undef
 |.bool b,v=>v=.bool b
 |.int k n,v=>v=.int k n
 |.str s,v=>v=.string s
 |.nils,v=>v=.slice none 0 0
 |.slc t xs,v=>CR w (Av ν h) (.slice t) xs [v]
 |.own id g,v=>v.oneCell'=true∧∃t g' fz xs,lkB h id=.row t g' fz xs∧g≤g'∧(g=g'→v=ν id)
 |.sub id g lo n,v=>v.oneCell'=true∧∃t g' fz xs,lkB h id=.row t g' fz xs∧g≤g'∧(g=g'→lo+n≤xs.length∧∃base cap,ν id=.slice base xs.length cap∧v=.slice (if cap=lo then base else base.map (·.add (lo*t.size))) n (cap-lo))
 |.nilm,v=>v=.map none
 |.mp k e es,v=>CR w (Av ν h) (.map k e) es [v]
 |.omp id,v=>v.oneCell'=true∧∃k e es,lkB h id=.map k e es∧v=ν id
 |.nilp,v=>v=.pointer none
 |.box id off,v=>∃cs b,lkB h id=.cells cs∧ν id=.pointer (some ⟨b,0,none⟩)∧v=.pointer (some ⟨b,off,none⟩)
 |.eptr t x off,v=>∃b o us,v=.pointer (some ⟨b,o+off,none⟩)∧¬Av ν h b∧b<w.heap.size∧CR w (Av ν h) t x us∧CellsAt w b o us
 |.optr id g i off,v=>v.oneCell'=true∧∃t g' fz xs,lkB h id=.row t g' fz xs∧g≤g'∧(g=g'→i<xs.length∧∃b o cap,ν id=.slice (some ⟨b,o,none⟩) xs.length cap∧v=.pointer (some ⟨b,o+i*t.size+off,none⟩))
 |.nilfn,v=>v=.nilFunc
 |.yld,v=>v=.func (.yield Ghost.L) #[] #[]
 |.dp id g,v=>v.oneCell'=true∧∃k g' xss,lkB h id=.deep k g' xss∧g≤g'∧(g=g'→∃us,ν id=.agg (v::us).toArray)
 |.dq id g i,v=>v.oneCell'=true∧∃k g' xss,lkB h id=.deep k g' xss∧g≤g'∧(g=g'→i<xss.length∧∃us b o n cap,ν id=.agg (Value.slice (some ⟨b,o,none⟩) n cap::us).toArray∧v=.pointer (some ⟨b,o+i,none⟩))
 |.dr id g i,v=>v.oneCell'=true∧∃k g' xss,lkB h id=.deep k g' xss∧g≤g'∧(g=g'→∃u us,ν id=.agg (u::us).toArray∧us[i]?=some v)
 |.de id g i j,v=>v.oneCell'=true∧∃k g' xss,lkB h id=.deep k g' xss∧g≤g'∧(g=g'→∃u us b o n cap,ν id=.agg (u::us).toArray∧us[i]?=some (.slice (some ⟨b,o,none⟩) n cap)∧j<n∧v=.pointer (some ⟨b,o+j,none⟩))
 |_,_=>False
def VR1 (ν:Nat→Value) (h:List Blk) (w:World):AV→Value→Prop
 |.fn f first caps,v=>∃fs cs,v=.func f fs cs∧Ă (VR0 ν h w) first fs.toList∧Ă (VR0 ν h w) caps cs.toList
 |a,v=>VR0 ν h w a v
def VRc (ν:Nat→Value) (h:List Blk) (w:World) (a:AV) (v:Value):Prop:=VR1 ν h w a v∧v.oneCell'=true
def VR2 (ν:Nat→Value) (h:List Blk) (w:World):AV→Value→Prop
 |.agg cs,v=>∃vs,v=.agg vs∧Ă (VRc ν h w) cs vs.toList
 |a,v=>VR1 ν h w a v
def VR (ν:Nat→Value) (h:List Blk) (w:World):AV→Value→Prop
 |.tup as,v=>∃vs,v=.tuple vs∧Ă (VR2 ν h w) as vs.toList
 |a,v=>VR2 ν h w a v
def AV.isFn:AV→Bool
 |.fn _ _ _=>true
 |_=>false
def AV.isAgg:AV→Bool
 |.agg _=>true
 |_=>false
def AV.isTup:AV→Bool
 |.tup _=>true
 |_=>false
def yM {ν:Nat→Value} {h:List Blk} {w:World} {a:AV} {v:Value} (hf:a.isFn=false):VR1 ν h w a v=VR0 ν h w a v:=by
 cases a<;>first|rfl|cases hf
def Bi {ν:Nat→Value} {h:List Blk} {w:World} {a:AV} {v:Value} (hf:a.isAgg=false):VR2 ν h w a v=VR1 ν h w a v:=by
 cases a<;>first|rfl|cases hf
def zc {ν:Nat→Value} {h:List Blk} {w:World} {a:AV} {v:Value} (hf:a.isTup=false):VR ν h w a v=VR2 ν h w a v:=by
 cases a<;>first|rfl|cases hf
def Zh (w:World) (k:IntKind) (xs:List Int) (u:Value):Prop:=∃base cap,u=.slice base xs.length cap∧xs.length≤cap ∧
 ((base=none∧cap=0)∨∃b off c e,base=some ⟨b,off,none⟩∧w.heap[b]?=some (.cells c e (0,0))∧off+cap≤c.size∧∀(j:Nat) (x:Int),xs[j]?=some x→c[off+j]?=some (.int k x))
def Xh (l:List Value):Prop:=l.Pairwise fun u v=>∀b,lU u=some b→lU v≠some b
def BR (ν:Nat→Value) (h:List Blk) (w:World) (id:Nat):Blk→Prop
 |.dead=>True
 |.cells cs=>∃b c e,ν id=.pointer (some ⟨b,0,none⟩)∧w.heap[b]?=some (.cells c e (0,0))∧Ă (VRc ν h w) cs c.toList
 |.row t _ false xs=>∃base cap,ν id=.slice base xs.length cap∧xs.length≤cap ∧
    ((base = none ∧ cap = 0) ∨ ∃ b off c e, base = some ⟨b, off, none⟩ ∧ w.heap[b]? = some (.cells c e (0, 0)) ∧ off + cap * t.size ≤ c.size ∧
      ∀i x,xs[i]?=some x→∃us,CR w (Av ν h) t x us∧CellsAt w b (off+i*t.size) us)
 |.row t _ true xs=>CR w (Av ν h) (.slice t) xs [ν id]
 |.map k v es=>∃(b:Nat) (entries:Array MapEntry) (clock:Nat),ν id=.map (some b)∧w.heap[b]?=some (.map entries clock)∧entries.size=(es:List (Val k×Val v)).length ∧
    ∀(i:Nat) (e:Val k×Val v),(es:List (Val k×Val v))[i]?=some e→∃(m:MapEntry) (us:List Value),entries[i]?=some m∧CR w (Av ν h) k e.1 [m.key]∧CR w (Av ν h) v e.2 us∧m.val=zi v us
 |.deep k _ xss=>∃base cap us,ν id=.agg (Value.slice base xss.length cap::us).toArray∧xss.length≤cap∧Xh (Value.slice base xss.length cap::us) ∧
    ((base=none∧cap=0)∨∃b off c e,base=some ⟨b,off,none⟩∧w.heap[b]?=some (.cells c e (0,0))∧off+cap≤c.size∧∀(i:Nat) (u:Value),us[i]?=some u→c[off+i]?=some u) ∧
    Ă (Zh w k) xss us
 |.acc t xs=>∃us,ν id=.agg us∧(∀b,ŋ (ν id) b→∃o,w.heap[b]?=some o∧Oo o=true)∧∃e:t=Ghost.T,Ghost.J (ŋ (ν id)) (Av ν h) (yu (F:=fun t=>List (Val t)) e xs) w
structure HR (ν:Nat→Value) (h:List Blk) (w:World):Prop where
 blk:∀id,BR ν h w id (lkB h id)
 inj:∀i j b,(lkB h i).live=true→(lkB h j).live=true→ŋ (ν i) b→ŋ (ν j) b→i=j
 ghlt:∀b,Ghost.G b→b<w.heap.size
 ghne:∀id b,(lkB h id).live=true→ŋ (ν id) b→¬Ghost.G b
def Blk.next (ν ν':Nat→Value) (id:Nat):Blk→Blk→Prop
 |.dead,_=>True
 |.cells _,B=>(∃cs,B=.cells cs)∧ν' id=ν id
 |.row t g _ xs,B=>∃g' fz xs',B=.row t g' fz xs'∧g≤g'∧(g=g'→ν' id=ν id∧xs'.length=xs.length)
 |.map k v _,B=>(∃es,B=.map k v es)∧ν' id=ν id
 |.deep k g xss,B=>∃g' xss',B=.deep k g' xss'∧g≤g'∧(g=g'→ν' id=ν id∧xss'.length=xss.length)
 |.acc t _,B=>∃xs,B=.acc t xs
structure Ev (m:Nat) (ν:Nat→Value) (h:List Blk) (w:World) (ν':Nat→Value) (h':List Blk) (w':World):Prop where
 os:w'.os=w.os
 tape:w'.tape=w.tape
 output:w'.output=w.output
 size:w.heap.size≤w'.heap.size
 keep:IY w (Eu ν h) w' (Eu ν' h')
 blk:∀id,id<m→(lkB h id).next ν ν' id (lkB h' id)
def Blk.next_refl (ν:Nat→Value) (id:Nat) (B:Blk):B.next ν ν id B:=by
 cases B with
 |dead=>trivial
 |cells cs=>exact⟨⟨cs,rfl⟩,rfl⟩
 |row t g fz xs=>exact⟨g,fz,xs,rfl,cG _,fun _=>⟨rfl,rfl⟩⟩
 |map k v es=>exact⟨⟨es,rfl⟩,rfl⟩
 |deep k g xss=>exact⟨g,xss,rfl,cG _,fun _=>⟨rfl,rfl⟩⟩
 |acc t xs=>exact⟨xs,rfl⟩
def Blk.next_trans {ν ν' ν'':Nat→Value} {id:Nat} {A B C:Blk} (h:A.next ν ν' id B) (k:B.next ν' ν'' id C):A.next ν ν'' id C:=by
 cases A with
 |dead=>trivial
 |cells cs =>
  obtain⟨⟨cs',rfl⟩,e⟩:=h;obtain⟨⟨cs'',rfl⟩,e'⟩:=k;exact⟨⟨cs'',rfl⟩,e'.trans e⟩
 |row t g fz xs =>
  obtain⟨g',fz',xs',rfl,hle,he⟩:=h;obtain⟨g'',fz'',xs'',rfl,hle',he'⟩:=k;refine⟨g'',fz'',xs'',rfl,cY hle hle',fun e=>?_⟩
  have e1:g=g':=by omega
  have e2:g'=g'':=by omega
  exact⟨(he' e2).1.trans (he e1).1,(he' e2).2.trans (he e1).2⟩
 |map k' v es =>
  obtain⟨⟨es',rfl⟩,e⟩:=h;obtain⟨⟨es'',rfl⟩,e'⟩:=k;exact⟨⟨es'',rfl⟩,e'.trans e⟩
 |deep q g xss =>
  obtain⟨g',xss',rfl,hle,he⟩:=h;obtain⟨g'',xss'',rfl,hle',he'⟩:=k;refine⟨g'',xss'',rfl,cY hle hle',fun e=>?_⟩
  have e1:g=g':=by omega
  have e2:g'=g'':=by omega
  exact⟨(he' e2).1.trans (he e1).1,(he' e2).2.trans (he e1).2⟩
 |acc t xs =>
  obtain⟨xs',rfl⟩:=h;exact k
def IY.refl (w:World) (av:Nat→Prop):IY w av w av:=fun _ _ h=>⟨rfl,h⟩
def IY.trans {w w' w'':World} {a a' a'':Nat→Prop} (h:IY w a w' a') (k:IY w' a' w'' a''):IY w a w'' a'' :=
 fun b hb ha=>let ⟨e1,e2⟩:=h b hb ha; let ⟨f1,f2⟩:=k b (KA hb e1) e2; ⟨f1.trans e1,f2⟩
omit [Ghost] in
def IY.or {w w':World} {a a' g:Nat→Prop} (h:IY w a w' a'):IY w (fun b=>a b∨g b) w' (fun b=>a' b∨g b) :=
 fun b hb hn=>⟨(h b hb fun q=>hn (.inl q)).1,fun q=>q.elim (h b hb fun q=>hn (.inl q)).2 fun q=>hn (.inr q)⟩
def Ev.keepA {m:Nat} {ν ν':Nat→Value} {h h':List Blk} {w w':World} (e:Ev m ν h w ν' h' w'):IY w (Av ν h) w' (Av ν' h'):=e.keep.or
def Ev.refl (m:Nat) (ν:Nat→Value) (h:List Blk) (w:World):Ev m ν h w ν h w :=
 ⟨rfl,rfl,rfl,cG _,IY.refl _ _,fun _ _=>Blk.next_refl _ _ _⟩
def Ev.trans {m m':Nat} {ν ν' ν'':Nat→Value} {h h' h'':List Blk} {w w' w'':World} (e:Ev m ν h w ν' h' w') (e':Ev m' ν' h' w' ν'' h'' w'') (hm:m≤m'):Ev m ν h w ν'' h'' w'' :=
 ⟨e'.os.trans e.os,e'.tape.trans e.tape,e'.output.trans e.output,cY e.size e'.size,e.keep.trans e'.keep,
  fun id hi=>Blk.next_trans (e.blk id hi) (e'.blk id (dc hi hm))⟩
def Ev.mono {m m':Nat} {ν ν':Nat→Value} {h h':List Blk} {w w':World} (e:Ev m ν h w ν' h' w') (hm:m'≤m):Ev m' ν h w ν' h' w' :=
 ⟨e.os,e.tape,e.output,e.size,e.keep,fun id hi=>e.blk id (dc hi hm)⟩
def Ζ:∀{h:List Blk} {id:Nat} {B:Blk},lkB h id=B→B≠.dead→id<h.length
 |[],_,B,e,hB=>absurd e.symm hB
 |_::_,0,_,_,_=>gJ _
 |_::_,_+1,_,e,hB=>Nat.succ_lt_succ (Ζ e hB)
section
variable {ν ν':Nat→Value} {h h':List Blk} {w w':World}
def VR0.ev (e:Ev h.length ν h w ν' h' w'):∀{a:AV} {v:Value},VR0 ν h w a v→VR0 ν' h' w' a v:=by
 intro a v hv
 cases a with
 |any=>trivial
 |und=>exact hv
 |bool=>exact hv
 |int=>exact hv
 |str=>exact hv
 |nils=>exact hv
 |nilm=>exact hv
 |nilp=>exact hv
 |nilfn=>exact hv
 |yld=>exact hv
 |slc t xs=>exact CR.keep e.keepA hv
 |mp k t es=>exact CR.keep e.keepA hv
 |own id g =>
  obtain⟨ho,t,g',fz,xs,hl,hle,hg⟩:=hv;have hb:=e.blk id (Ζ hl (by simp));rw[hl] at hb;obtain⟨g'',fz',xs',hl',hle',he⟩:=hb;refine⟨ho,t,g'',fz',xs',hl',cY hle hle',fun eq=>?_⟩
  have e1:g=g':=by omega
  have e2:g'=g'':=by omega
  rw[hg e1,(he e2).1]
 |sub id g lo n =>
  obtain⟨ho,t,g',fz,xs,hl,hle,hg⟩:=hv;have hb:=e.blk id (Ζ hl (by simp));rw[hl] at hb;obtain⟨g'',fz',xs',hl',hle',he⟩:=hb;refine⟨ho,t,g'',fz',xs',hl',cY hle hle',fun eq=>?_⟩
  have e1:g=g':=by omega
  have e2:g'=g'':=by omega
  obtain⟨h1,base,cap,h2,h3⟩:=hg e1;obtain⟨f1,f2⟩:=he e2;exact⟨by rw[f2]; exact h1,base,cap,by rw[f1,f2]; exact h2,h3⟩
 |omp id =>
  obtain⟨ho,k,t,es,hl,hg⟩:=hv;have hb:=e.blk id (Ζ hl (by simp));rw[hl] at hb;obtain⟨⟨es',hl'⟩,he⟩:=hb;exact⟨ho,k,t,es',hl',by rw[hg,he]⟩
 |box id off =>
  obtain⟨cs,b,hl,h1,h2⟩:=hv;have hb:=e.blk id (Ζ hl (by simp));rw[hl] at hb;obtain⟨⟨cs',hl'⟩,he⟩:=hb;exact⟨cs',b,hl',by rw[he]; exact h1,h2⟩
 |eptr t x off =>
  obtain⟨b,o,us,h1,h2,h3,h4,h5⟩:=hv;obtain⟨e1,e2⟩:=e.keepA b h3 h2;exact⟨b,o,us,h1,e2,KA h3 e1,CR.keep e.keepA h4,h5.keep e1⟩
 |optr id g i off =>
  obtain⟨ho,t,g',fz,xs,hl,hle,hg⟩:=hv;have hb:=e.blk id (Ζ hl (by simp));rw[hl] at hb;obtain⟨g'',fz',xs',hl',hle',he⟩:=hb;refine⟨ho,t,g'',fz',xs',hl',cY hle hle',fun eq=>?_⟩
  have e1:g=g':=by omega
  have e2:g'=g'':=by omega
  obtain⟨h1,b,o,cap,h2,h3⟩:=hg e1;obtain⟨f1,f2⟩:=he e2;exact⟨by rw[f2]; exact h1,b,o,cap,by rw[f1,f2]; exact h2,h3⟩
 |dp id g =>
  obtain⟨ho,k,g',xss,hl,hle,hg⟩:=hv;have hb:=e.blk id (Ζ hl (by simp));rw[hl] at hb;obtain⟨g'',xss',hl',hle',he⟩:=hb;refine⟨ho,k,g'',xss',hl',cY hle hle',fun eq=>?_⟩
  have e1:g=g':=by omega
  have e2:g'=g'':=by omega
  rw[(he e2).1];exact hg e1
 |dq id g i =>
  obtain⟨ho,k,g',xss,hl,hle,hg⟩:=hv;have hb:=e.blk id (Ζ hl (by simp));rw[hl] at hb;obtain⟨g'',xss',hl',hle',he⟩:=hb;refine⟨ho,k,g'',xss',hl',cY hle hle',fun eq=>?_⟩
  have e1:g=g':=by omega
  have e2:g'=g'':=by omega
  rw[(he e2).1,(he e2).2];exact hg e1
 |dr id g i =>
  obtain⟨ho,k,g',xss,hl,hle,hg⟩:=hv;have hb:=e.blk id (Ζ hl (by simp));rw[hl] at hb;obtain⟨g'',xss',hl',hle',he⟩:=hb;refine⟨ho,k,g'',xss',hl',cY hle hle',fun eq=>?_⟩
  have e1:g=g':=by omega
  have e2:g'=g'':=by omega
  rw[(he e2).1];exact hg e1
 |de id g i j =>
  obtain⟨ho,k,g',xss,hl,hle,hg⟩:=hv;have hb:=e.blk id (Ζ hl (by simp));rw[hl] at hb;obtain⟨g'',xss',hl',hle',he⟩:=hb;refine⟨ho,k,g'',xss',hl',cY hle hle',fun eq=>?_⟩
  have e1:g=g':=by omega
  have e2:g'=g'':=by omega
  rw[(he e2).1];exact hg e1
 |fn=>exact hv.elim
 |agg=>exact hv.elim
 |tup=>exact hv.elim
def VR1.ev (e:Ev h.length ν h w ν' h' w') {a:AV} {v:Value} (hv:VR1 ν h w a v):VR1 ν' h' w' a v:=by
 cases hf:a.isFn with
 |true =>
  cases a<;>try cases hf
  obtain⟨fs,cs,h1,h2,h3⟩:=hv;exact⟨fs,cs,h1,h2.mono fun _ _=>VR0.ev e,h3.mono fun _ _=>VR0.ev e⟩
 |false=>rw[yM hf] at hv ⊢; exact VR0.ev e hv
def VRc.ev (e:Ev h.length ν h w ν' h' w') {a:AV} {v:Value} (hv:VRc ν h w a v):VRc ν' h' w' a v:=⟨hv.1.ev e,hv.2⟩
def VR2.ev (e:Ev h.length ν h w ν' h' w') {a:AV} {v:Value} (hv:VR2 ν h w a v):VR2 ν' h' w' a v:=by
 cases hf:a.isAgg with
 |true =>
  cases a<;>try cases hf
  obtain⟨vs,h1,h2⟩:=hv;exact⟨vs,h1,h2.mono fun _ _=>VRc.ev e⟩
 |false=>rw[Bi hf] at hv ⊢; exact VR1.ev e hv
def VR.ev (e:Ev h.length ν h w ν' h' w') {a:AV} {v:Value} (hv:VR ν h w a v):VR ν' h' w' a v:=by
 cases hf:a.isTup with
 |true =>
  cases a<;>try cases hf
  obtain⟨vs,h1,h2⟩:=hv;exact⟨vs,h1,h2.mono fun _ _=>VR2.ev e⟩
 |false=>rw[zc hf] at hv ⊢; exact VR2.ev e hv
end
def mk1 (k:Nat):Deferred:={target:=.collected k,args:=#[]}
def Fr (w:World) (ds:List Deferred):Prop :=
 (∃ms:List Nat,ds=ms.map mk1++Ghost.D∧ms.Nodup∧∀k∈ms,w.heap[k]?=some (.deferred (some []))∧Ghost.M≤k) ∧
 (∀l,Ghost.Q=some l→∃r,w.heap[l]?=some (.loop r))∧Ghost.B≤Ghost.M∧Ghost.M≤w.heap.size
def Fr.keep {w w':World} {ds:List Deferred} (H:Fr w ds) (hs:w.heap.size≤w'.heap.size) (hnd:∀(b:Nat) (o:Obj),w.heap[b]?=some o→Oo o=false→w'.heap[b]?=some o):Fr w' ds:=by
 obtain⟨⟨ms,h1,h2,h3⟩,h4,h5,h6⟩:=H;exact⟨⟨ms,h1,h2,fun k hk=>⟨hnd k _ (h3 k hk).1 rfl,(h3 k hk).2⟩⟩,fun l hl=>(h4 l hl).imp fun r hr=>hnd l _ hr rfl,h5,cY h6 hs⟩
def Fr.bnd {w:World} {ds:List Deferred} (H:Fr w ds):Ghost.B≤w.heap.size:=cY H.2.2.1 H.2.2.2
structure Sim (ν:Nat→Value) (S:St) (a:Act) (w:World):Prop where
 defers:Fr w a.defers
 len:S.t.length≤a.tmps.size
 tmps:∀i,VR ν S.h w (lk S.t i) (a.tmps.getD i undef)
 heap:HR ν S.h w
def adS:∀(t:List AV) (d:Nat) (v:AV) (i:Nat),lk (upd t d v) i=if i=d∧d<t.length then v else lk t i
 |[],d,v,i=>by simp[upd,lk]
 |x::xs,0,v,0=>by simp[upd,lk]
 |x::xs,0,v,i+1=>by simp[upd,lk]
 |x::xs,d+1,v,0=>by simp[upd,lk]
 |x::xs,d+1,v,i+1=>by simp[upd,lk,adS xs d v i]
def ago:∀(t:List AV) (d:Nat),t.length≤d→lk t d=.any
 |[],_,_=>rfl
 |x::xs,0,h=>by simp at h
 |x::xs,d+1,h=>by simpa[lk] using ago xs d (by simpa using h)
def Qv:∀(t:List AV) (d:Nat) (v:AV),(upd t d v).length=t.length
 |[],_,_=>rfl
 |_::_,0,_=>rfl
 |_::xs,d+1,v=>by simp[upd,Qv xs d v]
def yi:∀(h:List Blk) (d:Nat) (B:Blk) (i:Nat),lkB (ø h d B) i=if i=d∧d<h.length then B else lkB h i
 |[],d,v,i=>by simp[ø,lkB]
 |x::xs,0,v,0=>by simp[ø,lkB]
 |x::xs,0,v,i+1=>by simp[ø,lkB]
 |x::xs,d+1,v,0=>by simp[ø,lkB]
 |x::xs,d+1,v,i+1=>by simp[ø,lkB,yi xs d v i]
def Ô:∀(h:List Blk) (d:Nat) (B:Blk),(ø h d B).length=h.length
 |[],_,_=>rfl
 |_::_,0,_=>rfl
 |_::xs,d+1,v=>by simp[ø,Ô xs d v]
end Go.Am
end

noncomputable section
namespace Go.Am
variable [Ghost]
section
variable {ν ν':Nat→Value} {h h':List Blk} {w w':World}
def aeM (v:Value):VR0 ν h w (cv1 v) v:=by
 unfold cv1; split<;>first|rfl|trivial
def WE (v:Value):(cv1 v).isFn=false:=by
 unfold cv1; split<;>rfl
def ab0 (v:Value):(cv1 v).isAgg=false:=by
 unfold cv1; split<;>rfl
def QP (v:Value):(cv1 v).isTup=false:=by
 unfold cv1; split<;>rfl
def Ă.map_self {α β:Type} {R:α→β→Prop} {f:β→α}:∀{l:List β},(∀b∈l,R (f b) b)→Ă R (l.map f) l
 |[],_=>trivial
 |b::l,h=>⟨h b (by simp),Ă.map_self fun c hc=>h c (by simp[hc])⟩
def Y0 (v:Value):VR ν h w (cv v) v:=by
 unfold cv
 split
 ·rename_i cs
  split
  ·rename_i hc;refine⟨cs,rfl,Ă.map_self fun b hb=>⟨?_,dj.1 hc b hb⟩⟩;rw[yM (WE b)]; exact aeM b
  ·trivial
 ·rw[zc (QP _),Bi (ab0 _),yM (WE _)]; exact aeM _
def aeL (v:Value):(cv v).isTup=false:=by
 unfold cv
 split
 ·split<;>rfl
 ·exact QP _
def ř {S:St} {a:Act} (H:Sim ν S a w) (x:Operand):VR ν S.h w (ev S.t x) (a.eval x):=by
 cases x with
 |tmp i=>exact H.tmps i
 |const v=>exact Y0 v
 |func f=>exact⟨#[],#[],rfl,trivial,trivial⟩
 |global g=>trivial
def VR.one {a:AV} {v:Value} (hv:VR ν h w a v) (ha:a.isAgg=false) (ht:a.isTup=false):VR1 ν h w a v:=by
 rw[zc ht,Bi ha] at hv; exact hv
def VR1.up {a:AV} {v:Value} (hv:VR1 ν h w a v):VR ν h w a v:=by
 cases ht:a.isTup with
 |true =>
  cases a<;>try cases ht
  exact hv.elim
 |false =>
  cases ha:a.isAgg with
  |true =>
   cases a<;>try cases ha
   exact hv.elim
  |false=>rw[zc ht,Bi ha]; exact hv
def VR0.up {a:AV} {v:Value} (hv:VR0 ν h w a v):VR1 ν h w a v:=by
 cases hf:a.isFn with
 |true =>
  cases a<;>try cases hf
  exact hv.elim
 |false=>rw[yM hf]; exact hv
def CR.oneCell:∀{t:Ty} {x:Val t} {vs:List Value} {av:Nat→Prop},CR w av t x vs→∀v∈vs,v.oneCell'=true
 |.unit,_,_,_,h=>by rw[show _=[] from h]; simp
 |.bool,_,_,_,h=>by rw[show _=[_] from h]; simp[Value.oneCell']
 |.int _,_,_,_,h=>by rw[show _=[_] from h]; simp[Value.oneCell']
 |.str,_,_,_,h=>by rw[show _=[_] from h]; simp[Value.oneCell']
 |.slice _,_,_,_,h=>by obtain⟨_,_,rfl,_⟩:=h; simp[Value.oneCell']
 |.map _ _,_,_,_,h=>by obtain⟨_,rfl,_⟩:=h; simp[Value.oneCell']
 |.ptr _,_,_,_,h=>by obtain⟨_,_,_,rfl,_⟩:=h; simp[Value.oneCell']
 |.pair a b,_,_,_,h=>by
  obtain⟨us,ws,rfl,h1,h2⟩:=h;intro v hv;rcases cM.1 hv with hv|hv
  ·exact CR.oneCell h1 v hv
  ·exact CR.oneCell h2 v hv
def VR1.oneCell {a:AV} {v:Value} {vs:List AV} (hv:VR1 ν h w a v) (hc:Ů a=some vs):v.oneCell'=true:=by
 cases a with
 |any=>cases hc
 |und=>cases hc
 |agg=>exact hv.elim
 |tup=>cases hc
 |bool b=>rw[show v=_ from hv]; rfl
 |int k n=>rw[show v=_ from hv]; rfl
 |str s=>rw[show v=_ from hv]; rfl
 |nils=>rw[show v=_ from hv]; rfl
 |nilm=>rw[show v=_ from hv]; rfl
 |nilp=>rw[show v=_ from hv]; rfl
 |nilfn=>rw[show v=_ from hv]; rfl
 |yld=>rw[show v=_ from hv]; rfl
 |slc t xs=>exact CR.oneCell hv v (by simp)
 |mp k t es=>exact CR.oneCell hv v (by simp)
 |own id g=>exact hv.1
 |sub id g lo n=>exact hv.1
 |omp id=>exact hv.1
 |box id off=>obtain⟨_,_,_,_,rfl⟩:=hv; rfl
 |eptr t x off=>obtain⟨_,_,_,rfl,_⟩:=hv; rfl
 |optr id g i off=>exact hv.1
 |dp id g=>exact hv.1
 |dq id g i=>exact hv.1
 |dr id g i=>exact hv.1
 |de id g i j=>exact hv.1
 |fn f fs cs=>obtain⟨_,_,rfl,_⟩:=hv; rfl
def sr {v:Value} (h:v.oneCell'=true):v.cells.toList=[v]:=by cases v<;>first|rfl|cases h
def VR.cells {a:AV} {v:Value} {vs:List AV} (hv:VR ν h w a v) (hc:Ů a=some vs):Ă (VRc ν h w) vs v.cells.toList:=by
 cases ha:a.isAgg with
 |true =>
  cases a<;>try cases ha
  obtain⟨us,rfl,h2⟩:=hv;cases hc;exact h2
 |false =>
  have ht:a.isTup=false:=by cases a<;>first|rfl|cases hc
  have h1:=hv.one ha ht;have h2:=h1.oneCell hc
  have h3:vs=[a]:=by cases a<;>simp_all[Ů,AV.isAgg]
  rw[h3,sr h2];exact⟨⟨h1,h2⟩,trivial⟩
def nF:∀{t:Ty} {x:Val t} {vs:List Value},CR w (Av ν h) t x vs→Ă (VRc ν h w) (flat t x) vs
 |.unit,_,_,hc=>by rw[show _=[] from hc]; trivial
 |.bool,_,_,hc=>by rw[show _=[_] from hc]; exact⟨⟨rfl,rfl⟩,trivial⟩
 |.int _,_,_,hc=>by rw[show _=[_] from hc]; exact⟨⟨rfl,rfl⟩,trivial⟩
 |.str,_,_,hc=>by rw[show _=[_] from hc]; exact⟨⟨rfl,rfl⟩,trivial⟩
 |.slice _,_,_,hc=>by obtain⟨_,_,rfl,h'⟩:=id hc; exact⟨⟨hc,rfl⟩,trivial⟩
 |.map _ _,_,_,hc=>by obtain⟨_,rfl,h'⟩:=id hc; exact⟨⟨hc,rfl⟩,trivial⟩
 |.ptr _,_,_,hc=>by
  obtain⟨b,off,us,rfl,h1,h2,h3,h4⟩:=id hc;exact⟨⟨⟨b,off,us,rfl,h1,h2,h3,h4⟩,rfl⟩,trivial⟩
 |.pair _ _,_,_,hc=>by
  obtain⟨us,ws,rfl,h1,h2⟩:=hc;exact(nF h1).append (nF h2)
def Jz {t:Ty} {x:Val t} {vs:List Value} (hc:CR w (Av ν h) t x vs):VR ν h w (enc t x) (zi t vs):=by
 have hf:=nF hc
 cases t with
 |unit=>exact⟨vs.toArray,rfl,by simpa[flat] using hf⟩
 |pair a b=>exact⟨vs.toArray,rfl,by simpa using hf⟩
 |bool=>obtain⟨u,rfl,h1⟩:=hf.one; exact h1.1.up
 |int k=>obtain⟨u,rfl,h1⟩:=hf.one; exact h1.1.up
 |str=>obtain⟨u,rfl,h1⟩:=hf.one; exact h1.1.up
 |slice t=>obtain⟨u,rfl,h1⟩:=hf.one; exact h1.1.up
 |map k v=>obtain⟨u,rfl,h1⟩:=hf.one; exact h1.1.up
 |ptr t=>obtain⟨u,rfl,h1⟩:=hf.one; exact h1.1.up
def VRs (w:World) (av:Nat→Prop):AV→Value→Prop
 |.bool b,v=>v=.bool b
 |.int k n,v=>v=.int k n
 |.str s,v=>v=.string s
 |.nils,v=>v=.slice none 0 0
 |.nilm,v=>v=.map none
 |.slc t xs,v=>CR w av (.slice t) xs [v]
 |.mp k e es,v=>CR w av (.map k e) es [v]
 |.eptr t x off,v=>∃b o us,v=.pointer (some ⟨b,o+off,none⟩)∧¬av b∧b<w.heap.size∧CR w av t x us∧CellsAt w b o us
 |_,_=>True
def CR.mono {av av':Nat→Prop} (hm:∀b,av' b→av b) {t:Ty} {x:Val t} {vs:List Value} (hc:CR w av t x vs):CR w av' t x vs :=
 hc.keep fun b _ hn=>⟨rfl,fun hb=>hn (hm b hb)⟩
def VRs.mono {av av':Nat→Prop} (hm:∀b,av' b→av b) {a:AV} {v:Value} (hv:VRs w av a v):VRs w av' a v:=by
 cases a<;>try exact hv
 ·exact CR.mono hm hv
 ·exact CR.mono hm hv
 ·obtain⟨b,o,us,h1,h2,h3,h4,h5⟩:=hv;exact⟨b,o,us,h1,fun hb=>h2 (hm b hb),h3,CR.mono hm h4,h5⟩
def VR1.data {a:AV} {v:Value} (hv:VR1 ν h w a v):VRs w (Av ν h) a v:=by
 cases a<;>first|exact hv|trivial
def acD {av:Nat→Prop}:∀{t:Ty} {l:List AV} {x:Val t} {l':List AV} {vs:List Value},π t l=some (x,l')→Ă (VRs w av) l vs →
 ∃us vs',vs=us++vs'∧CR w av t x us∧Ă (VRs w av) l' vs':=by
 intro t
 induction t with
 |unit=>intro l x l' vs e hl; simp only[π,Option.some.injEq,Prod.mk.injEq] at e; obtain⟨_,rfl⟩:=e; exact⟨[],vs,rfl,rfl,hl⟩
 |bool =>
  intro l x l' vs e hl
  rcases l with _|⟨a,l⟩<;>try (simp[π] at e; done)
  cases a<;>simp only[π,reduceCtorEq,Option.some.injEq,Prod.mk.injEq] at e
  obtain⟨rfl,rfl⟩:=e
  cases vs with
  |nil=>exact hl.elim
  |cons v vs=>exact⟨[v],vs,rfl,by rw[show v=_ from hl.1]; rfl,hl.2⟩
 |str =>
  intro l x l' vs e hl
  rcases l with _|⟨a,l⟩<;>try (simp[π] at e; done)
  cases a<;>simp only[π,reduceCtorEq,Option.some.injEq,Prod.mk.injEq] at e
  obtain⟨rfl,rfl⟩:=e
  cases vs with
  |nil=>exact hl.elim
  |cons v vs=>exact⟨[v],vs,rfl,by rw[show v=_ from hl.1]; rfl,hl.2⟩
 |int k =>
  intro l x l' vs e hl
  rcases l with _|⟨a,l⟩<;>try (simp[π] at e; done)
  cases a<;>simp only[π,reduceCtorEq] at e
  split at e
  ·rename_i hk _; subst hk;simp only[Option.some.injEq,Prod.mk.injEq] at e;obtain⟨rfl,rfl⟩:=e
   cases vs with
   |nil=>exact hl.elim
   |cons v vs=>exact⟨[v],vs,rfl,by rw[show v=_ from hl.1]; rfl,hl.2⟩
  ·cases e
 |slice t _ =>
  intro l x l' vs e hl
  rcases l with _|⟨a,l⟩<;>try (simp[π] at e; done)
  cases a<;>simp only[π,reduceCtorEq] at e
  ·simp only[Option.some.injEq,Prod.mk.injEq] at e;obtain⟨rfl,rfl⟩:=e
   cases vs with
   |nil=>exact hl.elim
   |cons v vs=>exact⟨[v],vs,rfl,⟨none,0,by rw[show v=_ from hl.1]; rfl,by simp,.inl rfl⟩,hl.2⟩
  ·split at e
   ·rename_i hk _; subst hk;simp only[Option.some.injEq,Prod.mk.injEq] at e;obtain⟨rfl,rfl⟩:=e
    cases vs with
    |nil=>exact hl.elim
    |cons v vs=>exact⟨[v],vs,rfl,hl.1,hl.2⟩
   ·cases e
 |map k v _ _ =>
  intro l x l' vs e hl
  rcases l with _|⟨a,l⟩<;>try (simp[π] at e; done)
  cases a<;>simp only[π,reduceCtorEq] at e
  ·simp only[Option.some.injEq,Prod.mk.injEq] at e;obtain⟨rfl,rfl⟩:=e
   cases vs with
   |nil=>exact hl.elim
   |cons v vs=>exact⟨[v],vs,rfl,⟨none,by rw[show v=_ from hl.1],.inl ⟨rfl,rfl⟩⟩,hl.2⟩
  ·split at e
   ·rename_i hk _;cases hk;simp only[Option.some.injEq,Prod.mk.injEq] at e;obtain⟨rfl,rfl⟩:=e
    cases vs with
    |nil=>exact hl.elim
    |cons v vs=>exact⟨[v],vs,rfl,hl.1,hl.2⟩
   ·cases e
 |ptr t _ =>
  intro l x l' vs e hl
  rcases l with _|⟨a,l⟩<;>try (simp[π] at e; done)
  cases a<;>try (simp[π] at e; done)
  rename_i t' x' off
  cases off<;>try (simp[π] at e; done)
  simp only[π] at e
  split at e
  ·rename_i hk _; subst hk;simp only[Option.some.injEq,Prod.mk.injEq] at e;obtain⟨rfl,rfl⟩:=e
   cases vs with
   |nil=>exact hl.elim
   |cons v vs =>
    obtain⟨b,o,us,h1,h2,h3,h4,h5⟩:=hl.1;exact⟨[v],vs,rfl,⟨b,o,us,by rw[h1]; rfl,h2,h3,h4,h5⟩,hl.2⟩
  ·cases e
 |pair a b iha ihb =>
  intro l x l' vs e hl;simp only[π] at e
  split at e
  ·rename_i x1 l1 e1
   split at e
   ·rename_i x2 l2 e2;simp only[Option.some.injEq,Prod.mk.injEq] at e;obtain⟨rfl,rfl⟩:=e;obtain⟨us,vs',rfl,h1,h2⟩:=iha e1 hl;obtain⟨ws,vs'',rfl,h3,h4⟩:=ihb e2 h2;exact⟨us++ws,vs'',by simp,⟨us,ws,rfl,h1,h3⟩,h4⟩
   ·cases e
  ·cases e
def ģ {av:Nat→Prop} {t:Ty} {l:List AV} {x:Val t} {vs:List Value} (e:Û t l=some x) (hl:Ă (VRs w av) l vs):CR w av t x vs:=by
 unfold Û at e
 split at e<;>try (cases e; done)
 rename_i y he;cases e;obtain⟨us,vs',rfl,h1,h2⟩:=acD he hl
 cases vs' with
 |nil=>simpa using h1
 |cons=>exact h2.elim
end
end Go.Am
end

noncomputable section
namespace Go.Am
variable [Ghost]
section
variable {ν ν':Nat→Value} {h h':List Blk} {w w':World}
def HR.dat (H:HR ν h w) {b:Nat} (hb:Eu ν h b):∃o,w.heap[b]?=some o∧Oo o=true:=by
 obtain⟨id,hl,hn⟩:=hb;have hB:=H.blk id
 cases e:lkB h id with
 |dead=>rw[e] at hl; cases hl
 |cells cs =>
  rw[e] at hB;obtain⟨b',c,e',h1,h2,_⟩:=hB;rw[h1] at hn; cases hn; exact⟨_,h2,rfl⟩
 |row t g fz xs =>
  rw[e] at hB hl
  cases fz with
  |true=>cases hl
  |false =>
   obtain⟨base,cap,h1,_,h2⟩:=hB;rcases h2 with⟨rfl,_⟩|⟨b',off,c,e',rfl,h2,_⟩
   ·rw[h1] at hn; cases hn
   ·rw[h1] at hn; cases hn; exact⟨_,h2,rfl⟩
 |map k v es =>
  rw[e] at hB;obtain⟨b',entries,clock,h1,h2,_⟩:=hB;rw[h1] at hn; cases hn; exact⟨_,h2,rfl⟩
 |deep k g xss =>
  rw[e] at hB;obtain⟨base,cap,us,h1,hc,ha,h2,h3⟩:=hB;rw[h1] at hn;obtain⟨u,hu,hb⟩:=hn;rcases cN.1 (by simpa using hu) with rfl|hu
  ·rcases h2 with⟨rfl,_⟩|⟨b',off,c,e',rfl,h2,_⟩
   ·cases hb
   ·cases hb; exact⟨_,h2,rfl⟩
  ·obtain⟨i,hi,rfl⟩:=cS.1 hu;obtain⟨xs,_,hr⟩:=h3.get' (cF hi);obtain⟨base',cap',e1,_,h4⟩:=hr;rw[e1] at hb;rcases h4 with⟨rfl,_⟩|⟨b',off,c,e',rfl,h4,_⟩
   ·cases hb
   ·cases hb; exact⟨_,h4,rfl⟩
 |acc t xs =>
  rw[e] at hB;obtain⟨us,h1,h2,_⟩:=hB;exact h2 b hn
def HR.lt (H:HR ν h w) {b:Nat} (hb:Eu ν h b):b<w.heap.size:=by
 obtain⟨o,h1,_⟩:=H.dat hb;exact Ĕ h1
def HR.nd {m:Nat} (H:HR ν h w) (e:Ev m ν h w ν' h' w') (b:Nat) (o:Obj) (hb:w.heap[b]?=some o) (ho:Oo o=false):w'.heap[b]?=some o :=
 ((e.keep b (Ĕ hb) fun hl=>by obtain⟨o',h1,h2⟩:=H.dat hl; rw[hb] at h1; cases h1; rw[ho] at h2; cases h2).1).trans hb
def HR.ltA (H:HR ν h w) {b:Nat} (hb:Av ν h b):b<w.heap.size:=hb.elim H.lt (H.ghlt b)
def Zh.keep {k:IntKind} {xs:List Int} {u:Value} (h:Zh w k xs u) (hk:∀b,lU u=some b→b<w.heap.size→w'.heap[b]?=w.heap[b]?):Zh w' k xs u:=by
 obtain⟨base,cap,rfl,hc,h1⟩:=h;refine⟨base,cap,rfl,hc,?_⟩;rcases h1 with h1|⟨b,off,c,e,rfl,h2,h3⟩
 ·exact .inl h1
 ·exact .inr ⟨b,off,c,e,rfl,(hk b rfl (Ĕ h2)).trans h2,h3⟩
def Ă.keepRows {k:IntKind}:∀{xss:List (List Int)} {us:List Value},Ă (Zh w k) xss us→(∀u∈us,∀b,lU u=some b→b<w.heap.size→w'.heap[b]?=w.heap[b]?)→Ă (Zh w' k) xss us
 |[],[],_,_=>trivial
 |_::_,_::_,h,hk=>⟨h.1.keep (hk _ (by simp)),Ă.keepRows h.2 fun u hu=>hk u (by simp[hu])⟩
 |[],_::_,h,_=>h.elim
 |_::_,[],h,_=>h.elim
def BR.ev (e:Ev h.length ν h w ν' h' w') (hnd:∀(b:Nat) (o:Obj),w.heap[b]?=some o→Oo o=false→w'.heap[b]?=some o) {id:Nat} (hν:ν' id=ν id)
 (hk:∀b,(lkB h id).live=true→ŋ (ν id) b→b<w.heap.size→w'.heap[b]?=w.heap[b]?) (H:BR ν h w id (lkB h id)):BR ν' h' w' id (lkB h id):=by
 cases eB:lkB h id with
 |dead=>trivial
 |cells cs =>
  rw[eB] at H hk;obtain⟨b,c,e',h1,h2,h3⟩:=H;exact⟨b,c,e',hν.trans h1,(hk b rfl (by rw[h1]; rfl) (Ĕ h2)).trans h2,h3.mono fun _ _=>VRc.ev e⟩
 |row t g fz xs =>
  rw[eB] at H hk
  cases fz with
  |true =>
   show CR w' _ _ _ [ν' id];rw[hν]; exact CR.keep e.keepA H
  |false =>
   obtain⟨base,cap,h1,hc,h2⟩:=H;refine⟨base,cap,hν.trans h1,hc,?_⟩;rcases h2 with h2|⟨b,off,c,e',rfl,h3,h4,h5⟩
   ·exact .inl h2
   ·have hw:=hk b rfl (by rw[h1]; rfl) (Ĕ h3);refine .inr ⟨b,off,c,e',rfl,hw.trans h3,h4,fun i x hx=>?_⟩;obtain⟨us,h6,h7⟩:=h5 i x hx;exact⟨us,CR.keep e.keepA h6,h7.keep hw⟩
 |map k v es =>
  rw[eB] at H hk;obtain⟨b,entries,clock,h1,h2,hs,h3⟩:=H;refine⟨b,entries,clock,hν.trans h1,(hk b rfl (by rw[h1]; rfl) (Ĕ h2)).trans h2,hs,fun i x hx=>?_⟩;obtain⟨m,us,h4,h5,h6,h7⟩:=h3 i x hx;exact⟨m,us,h4,CR.keep e.keepA h5,CR.keep e.keepA h6,h7⟩
 |deep k g xss =>
  rw[eB] at H hk;obtain⟨base,cap,us,h1,hc,ha,h2,h3⟩:=H;have own:∀u∈Value.slice base xss.length cap::us,∀b,lU u=some b→b<w.heap.size→w'.heap[b]?=w.heap[b]?:=fun u hu b hb hlt=>hk b rfl (by rw[h1]; exact⟨u,by simpa using hu,hb⟩) hlt;refine⟨base,cap,us,hν.trans h1,hc,ha,?_,h3.keepRows fun u hu=>own u (by simp[hu])⟩;rcases h2 with h2|⟨b,off,c,e',rfl,h4,h5,h6⟩
  ·exact .inl h2
  ·exact .inr ⟨b,off,c,e',rfl,(own _ (.head _) b rfl (Ĕ h4)).trans h4,h5,h6⟩
 |acc t xs =>
  rw[eB] at H hk;obtain⟨us,h1,h2,h3,h4⟩:=H;have same:∀b o,w.heap[b]?=some o→ŋ (ν id) b→w'.heap[b]?=some o:=fun b o hb ho=>(hk b rfl ho (Ĕ hb)).trans hb;refine⟨us,hν.trans h1,fun b hb=>?_,h3,?_⟩
  ·rw[hν] at hb;obtain⟨o,q1,q2⟩:=h2 b hb;exact⟨o,same b o q1 hb,q2⟩
  ·rw[hν];refine Ghost.st _ _ _ _ _ _ h4 ⟨e.os,e.tape,e.output,e.size,fun b hb hn=>(e.keepA b hb hn).2,fun b o hb _ hx=>?_,fun b o hb ho _=>hnd b o hb ho⟩
   by_cases hX:Av ν h b
   ·exact same b o hb (hx hX)
   ·exact(e.keepA b (Ĕ hb) hX).1.trans hb
def ö (ν:Nat→Value) (id:Nat) (v:Value):Nat→Value:=fun i=>if i=id then v else ν i
def Ó (ν:Nat→Value) (id:Nat) (v:Value):ö ν id v id=v:=by simp[ö]
def Ğ (ν:Nat→Value) {id j:Nat} (v:Value) (hj:j≠id):ö ν id v j=ν j:=by simp[ö,hj]
def oo (ν:Nat→Value) (id:Nat):ö ν id (ν id)=ν:=by
 funext i; unfold ö; split<;>simp_all
def ã {h:List Blk} {id:Nat} (B:Blk) (hid:id<h.length):lkB (ø h id B) id=B:=by simp[yi,hid]
def Ø {h:List Blk} {id j:Nat} (B:Blk) (hj:j≠id):lkB (ø h id B) j=lkB h j:=by simp[yi,hj]
def Ev.upd (H:HR ν h w) {id:Nat} {B:Blk} {V:Value} (hid:id<h.length) (hos:w'.os=w.os) (htape:w'.tape=w.tape) (hout:w'.output=w.output)
 (hsize:w.heap.size≤w'.heap.size)
 (hkeep:∀b,b<w.heap.size→((lkB h id).live=true→¬ŋ (ν id) b)→w'.heap[b]?=w.heap[b]?)
 (hV:B.live=true→∀b,ŋ V b→((lkB h id).live=true∧ŋ (ν id) b)∨w.heap.size≤b)
 (hnext:(lkB h id).next ν (ö ν id V) id B):Ev h.length ν h w (ö ν id V) (ø h id B) w':=by
 refine⟨hos,htape,hout,hsize,fun b hb hn=>⟨hkeep b hb fun hl he=>hn ⟨id,hl,he⟩,?_⟩,fun j hj=>?_⟩
 ·rintro⟨j,hl,he⟩
  by_cases hj:j=id
  ·subst hj;rw[ã B hid] at hl;rw[Ó] at he;rcases hV hl b he with⟨h1,h2⟩|h1
   ·exact hn ⟨j,h1,h2⟩
   ·omega
  ·rw[Ø B hj] at hl;rw[Ğ ν V hj] at he;exact hn ⟨j,hl,he⟩
 ·by_cases hj':j=id
  ·subst hj'; rw[ã B hid]; exact hnext
  ·rw[Ø B hj'];have:=Blk.next_refl ν j (lkB h j)
   cases hB:lkB h j with
   |dead=>trivial
   |cells cs=>exact⟨⟨cs,rfl⟩,Ğ ν V hj'⟩
   |row t g fz xs=>exact⟨g,fz,xs,rfl,cG _,fun _=>⟨Ğ ν V hj',rfl⟩⟩
   |map k v es=>exact⟨⟨es,rfl⟩,Ğ ν V hj'⟩
   |deep k g xss=>exact⟨g,xss,rfl,cG _,fun _=>⟨Ğ ν V hj',rfl⟩⟩
   |acc t xs=>exact⟨xs,rfl⟩
def HR.upd (H:HR ν h w) {id:Nat} {B:Blk} {V:Value} (hid:id<h.length) (e:Ev h.length ν h w (ö ν id V) (ø h id B) w')
 (hkeep:∀b,b<w.heap.size→((lkB h id).live=true→¬ŋ (ν id) b)→w'.heap[b]?=w.heap[b]?)
 (hV:B.live=true→∀b,ŋ V b→((lkB h id).live=true∧ŋ (ν id) b)∨w.heap.size≤b)
 (hB:BR (ö ν id V) (ø h id B) w' id B):HR (ö ν id V) (ø h id B) w':=by
 refine⟨fun j=>?_,fun i j b hi hj hbi hbj=>?_,fun b hb=>dc (H.ghlt b hb) e.size,fun j b hl hb=>?_⟩
 rotate_left 2
 ·by_cases hj:j=id
  ·subst hj;rw[ã B hid] at hl;rw[Ó] at hb;rcases hV hl b hb with⟨h3,h4⟩|h3
   ·exact H.ghne j b h3 h4
   ·exact fun hg=>by have:=H.ghlt b hg; omega
  ·rw[Ø B hj] at hl;rw[Ğ ν V hj] at hb;exact H.ghne j b hl hb
 ·by_cases hj:j=id
  ·subst hj; rw[ã B hid]; exact hB
  ·rw[Ø B hj];refine BR.ev e (H.nd e) (Ğ ν V hj) (fun b hl hb hlt=>hkeep b hlt fun hl' hb'=>hj (H.inj j id b hl hl' hb hb')) (H.blk j)
 ·by_cases h1:i=id<;>by_cases h2:j=id
  ·rw[h1,h2]
  ·subst h1;rw[ã B hid] at hi; rw[Ø B h2] at hj;rw[Ó] at hbi; rw[Ğ ν V h2] at hbj;rcases hV hi b hbi with⟨h3,h4⟩|h3
   ·exact H.inj i j b h3 hj h4 hbj
   ·have:=H.lt ⟨j,hj,hbj⟩; omega
  ·subst h2;rw[Ø B h1] at hi; rw[ã B hid] at hj;rw[Ğ ν V h1] at hbi; rw[Ó] at hbj;rcases hV hj b hbj with⟨h3,h4⟩|h3
   ·exact H.inj i j b hi h3 hbi h4
   ·have:=H.lt ⟨i,hi,hbi⟩; omega
  ·rw[Ø B h1] at hi; rw[Ø B h2] at hj;rw[Ğ ν V h1] at hbi; rw[Ğ ν V h2] at hbj;exact H.inj i j b hi hj hbi hbj
def Ev.new (H:HR ν h w) {id:Nat} {B:Blk} {V:Value} {o:Obj} {w':World} (hid:id<h.length) (hd:lkB h id=.dead) (hw:w'.heap=w.heap.push o) (hos:w'.os=w.os) (htape:w'.tape=w.tape) (hout:w'.output=w.output)
 (hV:∀b,ŋ V b→b=w.heap.size)
 (hB:Ev h.length ν h w (ö ν id V) (ø h id B) w'→BR (ö ν id V) (ø h id B) w' id B) :
 Ev h.length ν h w (ö ν id V) (ø h id B) w'∧HR (ö ν id V) (ø h id B) w':=by
 have hk:∀b,b<w.heap.size→((lkB h id).live=true→¬ŋ (ν id) b)→w'.heap[b]?=w.heap[b]?:=fun b hb _=>by
  rw[hw,eE]; simp[fB hb]
 have hV':B.live=true→∀b,ŋ V b→((lkB h id).live=true∧ŋ (ν id) b)∨w.heap.size≤b:=fun _ b hb=>.inr (by rw[hV b hb]; exact cG _);have e:=Ev.upd H (B:=B) (V:=V) hid hos htape hout (by rw[hw]; simp) hk hV' (by rw[hd]; trivial);exact⟨e,HR.upd H hid e hk hV' (hB e)⟩
def Ś (b off n:Nat):(⟨b,off,none⟩:Addr).add n=⟨b,off+n,none⟩:=by
 unfold Addr.add; split
 ·rename_i h; subst h; rfl
 ·rfl
def HR.row_data (H:HR ν h w) {id g:Nat} {t:Ty} {fz:Bool} {xs:List (Val t)} (hb:lkB h id=.row t g fz xs) :
 ∃base cap,ν id=.slice base xs.length cap∧xs.length≤cap∧(base=none→cap=0∨xs=[])∧((xs:List (Val t))=[]∨∃b off,base=some ⟨b,off,none⟩∧b<w.heap.size∧(fz=true→¬Av ν h b) ∧
  ∀i x,(xs:List (Val t))[i]?=some x→∃us,CR w (Av ν h) t x us∧CellsAt w b (off+i*t.size) us):=by
 have hB:=H.blk id;rw[hb] at hB
 cases fz with
 |true =>
  obtain⟨base,cap,h1,h2,h3⟩:=hB;refine⟨base,cap,by simpa using h1,h2,fun hn=>?_,?_⟩
  ·rcases h3 with h3|⟨b,off,h3,_⟩
   ·exact .inr h3
   ·rw[hn] at h3; cases h3
  ·rcases h3 with h3|⟨b,off,h3,h4,h5,h6⟩
   ·exact .inl h3
   ·exact .inr ⟨b,off,h3,h5,fun _=>h4,h6⟩
 |false =>
  obtain⟨base,cap,h1,h2,h3⟩:=hB;refine⟨base,cap,h1,h2,fun hn=>?_,?_⟩
  ·rcases h3 with⟨h3,h4⟩|⟨b,off,c,e,h3,_⟩
   ·exact .inl h4
   ·rw[hn] at h3; cases h3
  ·rcases h3 with⟨h3,h4⟩|⟨b,off,c,e,h3,h4,h5,h6⟩
   ·exact .inl (cV.1 (by omega))
   ·exact .inr ⟨b,off,h3,Ĕ h4,fun hf=>(by cases hf),h6⟩
def EF (H:HR ν h w) {av:Nat→Prop} (hav:∀b,av b→Av ν h b) {a:AV} {v:Value} (hv:VR1 ν h w a v)
 (hno:∀id b,(∃g,a=.own id g)∨(∃g lo n,a=.sub id g lo n)∨a=.omp id→(lkB h id).live=true→ŋ (ν id) b→¬av b):VRs w av (Ą h a) v:=by
 cases a with
 |own id g =>
  obtain⟨ho,t,g',fz,xs,hl,hle,hg⟩:=hv;simp only[Ą,hl]
  cases hgg:g==g' with
  |false=>trivial
  |true =>
   have he:g=g':=by simpa using hgg
   obtain⟨base,cap,h1,h2,_,h3⟩:=H.row_data hl;rw[hg he,h1];refine⟨base,cap,rfl,h2,?_⟩;rcases h3 with h3|⟨b,off,rfl,h4,h5,h6⟩
   ·exact .inl h3
   ·refine .inr ⟨b,off,rfl,?_,h4,fun i x hx=>?_⟩
    ·cases fz with
     |true=>exact fun ha=>h5 rfl (hav b ha)
     |false=>exact hno id b (.inl ⟨g,rfl⟩) (by rw[hl]; rfl) (by rw[h1]; rfl)
    ·obtain⟨us,h7,h8⟩:=h6 i x hx;exact⟨us,CR.mono hav h7,h8⟩
 |sub id g lo n =>
  obtain⟨ho,t,g',fz,xs,hl,hle,hg⟩:=hv;simp only[Ą,hl]
  cases hgg:g==g' with
  |false=>trivial
  |true =>
   have he:g=g':=by simpa using hgg
   obtain⟨hlen,base',cap',hν,hvv⟩:=hg he;obtain⟨base,cap,h1,h2,_,h3⟩:=H.row_data hl
   rw[h1] at hν; injection hν with e1 e2 e3; subst e1; subst e3
   have hn:((xs.drop lo).take n).length=n:=by simp; omega
   refine⟨_,cap-lo,by rw[hn]; exact congrArg (fun x=>[x]) hvv,by rw[hn]; omega,?_⟩
   by_cases hcl:cap=lo
   ·exact .inl (cV.1 (by rw[hn]; omega))
   rcases h3 with h3|⟨b,off,rfl,h4,h5,h6⟩
   ·exact .inl (by rw[h3]; simp)
   ·refine .inr ⟨b,off+lo*t.size,by rw[if_neg hcl]; simp[Ś],?_,h4,fun i x hx=>?_⟩
    ·cases fz with
     |true=>exact fun ha=>h5 rfl (hav b ha)
     |false=>exact hno id b (.inr (.inl ⟨g,lo,n,rfl⟩)) (by rw[hl]; rfl) (by rw[h1]; rfl)
    ·have hx':xs[lo+i]?=some x:=by
      rw[dZ] at hx
      split at hx
      ·simpa using hx
      ·cases hx
     obtain⟨us,h7,h8⟩:=h6 (lo+i) x hx';refine⟨us,CR.mono hav h7,?_⟩
     have:off+lo*t.size+i*t.size=off+(lo+i)*t.size:=by rw[dk]; omega
     rw[this]; exact h8
 |omp id =>
  obtain⟨ho,k,t,es,hl,hg⟩:=hv;simp only[Ą,hl];have hB:=H.blk id;rw[hl] at hB;obtain⟨b,entries,clock,h1,h2,hs,h3⟩:=hB;rw[hg,h1];refine⟨some b,rfl,.inr ⟨b,entries,clock,rfl,hno id b (.inr (.inr rfl)) (by rw[hl]; rfl) (by rw[h1]; rfl),h2,hs,fun i x hx=>?_⟩⟩;obtain⟨m,us,h4,h5,h6,h7⟩:=h3 i x hx;exact⟨m,us,h4,CR.mono hav h5,CR.mono hav h6,h7⟩
 |any=>trivial
 |und=>trivial
 |bool=>exact hv
 |int=>exact hv
 |str=>exact hv
 |nils=>exact hv
 |slc=>exact CR.mono hav hv
 |nilm=>exact hv
 |mp=>exact CR.mono hav hv
 |nilp=>trivial
 |box=>trivial
 |eptr=>exact VRs.mono (a:=.eptr _ _ _) hav hv
 |optr=>trivial
 |dp=>trivial
 |dq=>trivial
 |dr=>trivial
 |de=>trivial
 |nilfn=>trivial
 |yld=>trivial
 |fn=>trivial
 |agg=>exact hv.elim
 |tup=>exact hv.elim
def EE (H:HR ν h w) {a:AV} {v:Value} (hv:VR1 ν h w a v):VRs w (fun _=>False) (Ą h a) v :=
 EF H (fun _ hf=>hf.elim) hv fun _ _ _ _ _ hf=>hf
def Jv (H:HR ν h w) {id g:Nat} {t:Ty} {fz:Bool} {xs:List (Val t)} (hl:lkB h id=.row t g fz xs) :
 Ev h.length ν h w ν (ø h id (.row t g true xs)) w∧HR ν (ø h id (.row t g true xs)) w∧(∀b,Av ν (ø h id (.row t g true xs)) b→Av ν h b) ∧
  ((lkB h id).live=true→∀b,ŋ (ν id) b→¬Av ν (ø h id (.row t g true xs)) b):=by
 have hid:id<h.length:=Ζ hl (by simp)
 have hlive:∀b,Av ν (ø h id (.row t g true xs)) b→Av ν h b:=by
  rintro b (⟨j,h1,h2⟩|hg)
  ·by_cases hj:j=id
   ·subst hj; rw[ã _ hid] at h1; cases h1
   ·rw[Ø _ hj] at h1; exact .inl ⟨j,h1,h2⟩
  ·exact .inr hg
 have hkeep:∀b,b<w.heap.size→((lkB h id).live=true→¬ŋ (ν id) b)→w.heap[b]?=w.heap[b]?:=fun _ _ _=>rfl
 have hV:(Blk.row t g true xs).live=true→∀b,ŋ (ν id) b→((lkB h id).live=true∧ŋ (ν id) b)∨w.heap.size≤b:=fun hf=>by cases hf
 have e:Ev h.length ν h w (ö ν id (ν id)) (ø h id (.row t g true xs)) w:=Ev.upd H hid rfl rfl rfl (cG _) hkeep hV (by
  rw[hl]; exact⟨g,true,xs,rfl,cG _,fun _=>⟨Ó _ _ _,rfl⟩⟩)
 have hdead:∀b,ŋ (ν id) b→(lkB h id).live=true→¬Av ν (ø h id (.row t g true xs)) b:=by
  rintro b hb hlv (⟨j,h1,h2⟩|hg)
  ·by_cases hj:j=id
   ·subst hj; rw[ã _ hid] at h1; cases h1
   ·rw[Ø _ hj] at h1; exact hj (H.inj j id b h1 hlv h2 hb)
  ·exact H.ghne id b hlv hb hg
 have hr:HR (ö ν id (ν id)) (ø h id (.row t g true xs)) w:=by
  refine HR.upd H hid e hkeep hV ?_;show CR w _ (.slice t) xs [ö ν id (ν id) id];rw[oo]
  cases fz with
  |true =>
   have hB:=H.blk id;rw[hl] at hB;exact CR.mono hlive hB
  |false =>
   obtain⟨base,cap,h1,h2,_,h3⟩:=H.row_data hl;rw[h1];refine⟨base,cap,rfl,h2,?_⟩;rcases h3 with h3|⟨b,off,rfl,h4,h5,h6⟩
   ·exact .inl h3
   ·refine .inr ⟨b,off,rfl,hdead b (by rw[h1]; rfl) (by rw[hl]; rfl),h4,fun i x hx=>?_⟩;obtain⟨us,h7,h8⟩:=h6 i x hx;exact⟨us,CR.mono hlive h7,h8⟩
 rw[oo] at e hr;exact⟨e,hr,hlive,fun hlv b hb=>hdead b hb hlv⟩
def oO (h:List Blk) (a:AV):(sw h a).length=h.length:=by
 cases a<;>try rfl
 all_goals
  simp only[sw]
  split<;>first|rfl|exact Ô _ _ _
def Nu (H:HR ν h w) (a:AV):Ev h.length ν h w ν (sw h a) w∧HR ν (sw h a) w∧(∀b,Av ν (sw h a) b→Av ν h b):=by
 have hsame:Ev h.length ν h w ν h w∧HR ν h w∧(∀b,Av ν h b→Av ν h b):=⟨Ev.refl _ _ _ _,H,fun _ hb=>hb⟩
 cases a<;>try exact hsame
 ·rename_i id g;simp only[sw]
  cases hl:lkB h id<;>first|exact hsame|exact⟨(Jv H hl).1,(Jv H hl).2.1,(Jv H hl).2.2.1⟩
 ·rename_i id g lo n;simp only[sw]
  cases hl:lkB h id<;>first|exact hsame|exact⟨(Jv H hl).1,(Jv H hl).2.1,(Jv H hl).2.2.1⟩
def Nt (H:HR ν h w) {a:AV} {v:Value} (hv:VR1 ν h w a v) (hm:Lt a=true):VRs w (Av ν (sw h a)) (Ą h a) v:=by
 refine EF H (Nu H a).2.2 hv fun id b hc hl hb=>?_;rcases hc with⟨g,rfl⟩|⟨g,lo,n,rfl⟩|rfl
 ·obtain⟨ho,t,g',fz,xs,hl',_⟩:=hv;simp only[sw,hl'];exact(Jv H hl').2.2.2 hl b hb
 ·obtain⟨ho,t,g',fz,xs,hl',_⟩:=hv;simp only[sw,hl'];exact(Jv H hl').2.2.2 hl b hb
 ·cases hm
def Hn (h:List Blk) (a b:AV):Ą (sw h a) b=Ą h b:=by
 have key:∀(id g:Nat) (t:Ty) (fz:Bool) (xs:List (Val t)),lkB h id=.row t g fz xs→Ą (ø h id (.row t g true xs)) b=Ą h b:=by
  intro id g t fz xs hl;have hid:id<h.length:=Ζ hl (by simp)
  have hk:∀j,(∀{α:Type} (f:(t:Ty)→Nat→List (Val t)→α) (d:α),(match lkB (ø h id (.row t g true xs)) j with|.row t g _ xs=>f t g xs|_=>d)=(match lkB h j with|.row t g _ xs=>f t g xs|_=>d)) ∧
   (∀{α:Type} (f:(k v:Ty)→List (Val k×Val v)→α) (d:α),(match lkB (ø h id (.row t g true xs)) j with|.map k v es=>f k v es|_=>d)=(match lkB h j with|.map k v es=>f k v es|_=>d)):=by
   intro j
   by_cases hj:j=id
   ·subst hj; rw[ã _ hid,hl]; exact⟨fun _ _=>rfl,fun _ _=>rfl⟩
   ·rw[Ø _ hj]; exact⟨fun _ _=>rfl,fun _ _=>rfl⟩
  cases b with
  |own j g0=>exact(hk j).1 (fun t g' xs=>match g0==g' with|true=>AV.slc t xs|false=>.any) .any
  |sub j g0 lo n=>exact(hk j).1 (fun t g' xs=>match g0==g' with|true=>AV.slc t ((xs.drop lo).take n)|false=>.any) .any
  |omp j=>exact(hk j).2 (fun k v es=>AV.mp k v es) .any
  |_=>rfl
 cases a<;>try rfl
 all_goals
  simp only[sw]
  split
  ·exact key _ _ _ _ _ ‹_›
  ·rfl
def Ef:∀(as:List AV) {h:List Blk},HR ν h w→Ev h.length ν h w ν (Cm h as) w∧HR ν (Cm h as) w∧(∀b,Av ν (Cm h as) b→Av ν h b)
 |[],h,H=>⟨Ev.refl _ _ _ _,H,fun _ hb=>hb⟩
 |a::as,h,H=>by
  obtain⟨e,H1,hl⟩:=Nu H a;obtain⟨e',H2,hl'⟩:=Ef as H1;refine⟨e.trans e' (by rw[oO]; exact cG _),H2,fun b hb=>hl b (hl' b hb)⟩
def HR.grow (H:HR ν h w) (hk:∀b,b<w.heap.size→w'.heap[b]?=w.heap[b]?) (hz:w.heap.size≤w'.heap.size) (h1:w'.os=w.os) (h2:w'.tape=w.tape) (h3:w'.output=w.output) (m:Nat):Ev m ν h w ν h w'∧HR ν h w':=by
 have ev:∀m,Ev m ν h w ν h w':=fun m=>⟨h1,h2,h3,hz,fun b hb hn=>⟨hk b hb,hn⟩,fun _ _=>Blk.next_refl _ _ _⟩;exact⟨ev m,fun id=>BR.ev (ev _) (H.nd (ev 0)) rfl (fun b _ _ hb=>hk b hb) (H.blk id),H.inj,fun b hb=>dc (H.ghlt b hb) hz,H.ghne⟩
end
def Sim.put {ν ν':Nat→Value} {S:St} {a:Act} {w w':World} {h':List Blk} (H:Sim ν S a w) (e:Ev S.h.length ν S.h w ν' h' w') (hr:HR ν' h' w') (d:Option Nat) {v:AV} {u:Value} (hv:VR ν' h' w' v u) :
 Sim ν' {t:=ă S.t d v,h:=h'} (a.put d u) w':=by
 cases d with
 |none=>exact⟨H.defers.keep e.size (H.heap.nd e),H.len,fun i=>(H.tmps i).ev e,hr⟩
 |some d =>
  refine⟨by simpa[Act.put] using H.defers.keep e.size (H.heap.nd e),by simpa[ă,Act.put,Qv] using H.len,fun i=>?_,hr⟩;simp only[ă,adS,Act.put]
  by_cases hi:i=d∧d<S.t.length
  ·rw[if_pos hi];have hlt:d<a.tmps.size:=dc hi.2 H.len;rw[hi.1];simpa[dT,fH,hlt] using hv
  ·rw[if_neg hi]
   by_cases hd:i=d
   ·have hge:S.t.length≤d:=by
     rcases df d S.t.length with hlt|hge
     ·exact absurd ⟨hd,hlt⟩ hi
     ·exact hge
    have hany:lk S.t i=.any:=by
     rw[hd]; exact ago _ _ hge
    rw[hany]; trivial
   ·have:(a.tmps.setIfInBounds d u).getD i undef=a.tmps.getD i undef:=by
     simp[dT,fH,Ne.symm hd]
    rw[this]; exact(H.tmps i).ev e
end Go.Am
end

noncomputable section
namespace Go.Am
variable [Ghost]
section
variable {ν ν':Nat→Value} {h h':List Blk} {w w':World} {P:Program}
def pP:∀{cs:List AV} {o n:Nat} {ds:List AV},Oi cs o n=some ds→ds=(cs.drop o).take n∧ds.length=n
 |cs,0,0,ds,e=>by cases cs<;>(simp[Oi] at e; subst e; simp)
 |[],0,n+1,ds,e=>by simp[Oi] at e
 |c::cs,0,n+1,ds,e=>by
  simp only[Oi] at e
  split at e
  ·rename_i l hl;cases e;obtain⟨h1,h2⟩:=pP hl;simp at h1;exact⟨by simp[←h1],by simp[h2]⟩
  ·cases e
 |[],o+1,n,ds,e=>by cases n<;>simp[Oi] at e
 |c::cs,o+1,n,ds,e=>by
  have e':Oi cs o n=some ds:=by cases n<;>simpa[Oi] using e
  simpa using pP e'
def vy:∀{cs:List AV} {o:Nat} {vs cs':List AV},abh cs o vs=some cs'→cs'=cs.take o++vs++cs.drop (o+vs.length)∧o+vs.length≤cs.length
 |cs,0,[],cs',e=>by cases cs<;>(simp[abh] at e; subst e; simp)
 |[],0,v::vs,cs',e=>by simp[abh] at e
 |c::cs,0,v::vs,cs',e=>by
  simp only[abh] at e
  split at e
  ·rename_i l hl;cases e;obtain⟨h1,h2⟩:=vy hl;simp at h1 h2;exact⟨by simp[h1],by simpa using h2⟩
  ·cases e
 |[],o+1,vs,cs',e=>by cases vs<;>simp[abh] at e
 |c::cs,o+1,vs,cs',e=>by
  obtain⟨l,hl,rfl⟩:∃l,abh cs o vs=some l∧cs'=c::l:=by
   cases vs<;>(simp only[abh] at e; split at e<;>first|exact⟨_,‹_›,by cases e; rfl⟩|cases e)
  obtain⟨h1,h2⟩:=vy hl;refine⟨?_,by simp; omega⟩;rw[h1,show o+1+vs.length=(o+vs.length)+1 by omega];simp
def oq {t:TypeId} {n:Nat} (h:szP P t=some n) (w:World):(sizeOf t).run P w=.ok n w:=by
 unfold szP at h
 split at h
 ·rename_i i hi; cases h; simp[sizeOf,typeInfo,hi]
 ·cases h
def Tk {t:TypeId} {agg:Bool} {n:Nat} (h:ldP P t=some (agg,n)):∃d,P.underlying t=some d∧Oj d=agg∧szP P t=some n:=by
 unfold ldP at h
 split at h
 ·rename_i d hd
  split at h
  ·rename_i m hm; cases h; exact⟨d,hd,rfl,hm⟩
  ·cases h
 ·cases h
def zu {t:TypeId} {d:TypeDesc} (h:P.underlying t=some d) (w:World):(isAgg t).run P w=.ok (Oj d) w:=by
 unfold isAgg;simp only[Sem.run_bind,run_underlying h,Result.andThen_ok]
 cases d<;>rfl
def Xi (agg:Bool) (us:List Value):Value:=match agg with|true=>.agg us.toArray|false=>us.headD undef
def run_loadVar {t:TypeId} {agg:Bool} {n:Nat} (hl:ldP P t=some (agg,n)) {us:List Value} (hn:us.length=n) (ha:agg=false→n=1) {a:Addr} (hc:∀j v,us[j]?=some v→w.cell? (a.add j)=some v) :
 (loadVar t a).run P w=.ok (Xi agg us) w:=by
 obtain⟨d,hd,rfl,hs⟩:=Tk hl;unfold loadVar;simp only[Sem.run_bind,zu hd,Result.andThen_ok]
 cases hagg:Oj d with
 |true =>
  simp only[if_true,Sem.run_bind,oq hs,Result.andThen_ok,←hn,run_loadCells_list w a us hc];rfl
 |false =>
  have h1:=ha hagg;obtain⟨u,rfl⟩:=List.length_eq_one_iff.1 (hn.trans h1);have h0:=hc 0 u rfl
  have:a.add 0=a:=by simp[Addr.add]
  rw[this] at h0;simp[h0,Xi]
def ahx {agg:Bool} {cs:List AV} {us:List Value} {v:AV} (hm:mkv agg cs=some v) (hc:Ă (VRc ν h w) cs us):VR ν h w v (Xi agg us)∧(agg=false→cs.length=1):=by
 cases agg with
 |true=>cases hm; exact⟨⟨us.toArray,rfl,by simpa using hc⟩,fun hf=>by cases hf⟩
 |false =>
  simp only[mkv] at hm
  split at hm
  ·cases hm;obtain⟨u,rfl,h1⟩:=hc.one;exact⟨h1.1.up,fun _=>rfl⟩
  ·cases hm
def CellsAt.part {b off:Nat} {us:List Value} (hc:CellsAt w b off us) (o n:Nat):CellsAt w b (off+o) ((us.drop o).take n):=by
 intro j v hj;rw[dZ] at hj
 split at hj
 ·rw[eo] at hj;have:=hc (o+j) v hj
  rwa [show off+(o+j)=off+o+j by omega] at this
 ·cases hj
def CellsAt.addr {b off:Nat} {us:List Value} (hc:CellsAt w b off us):∀j v,us[j]?=some v→w.cell? ((⟨b,off,none⟩:Addr).add j)=some v:=fun j v hj=>by rw[Ś]; exact hc j v hj
def CellsAt.of_cells {b:Nat} {c:Array Value} {e:TypeId} {f:Nat×Nat} (hb:w.heap[b]?=some (.cells c e f)):CellsAt w b 0 c.toList:=by
 intro j v hj;simp[World.cell?,hb] at hj ⊢;exact hj
def Ă.get2 {α β:Type} {R:α→β→Prop}:∀{l:List α} {m:List β},Ă R l m→∀{i:Nat} {a:α} {b:β},l[i]?=some a→m[i]?=some b→R a b:=fun h _ _ _ ha hb=>by
 obtain⟨c,h1,h2⟩:=h.get ha;rw[hb] at h1;cases h1;exact h2
def HR.table (H:HR ν h w) {id g:Nat} {k:IntKind} {xss:List (List Int)} (hl:lkB h id=.deep k g xss) :
 ∃base cap us,ν id=.agg (Value.slice base xss.length cap::us).toArray∧xss.length≤cap∧Xh (Value.slice base xss.length cap::us) ∧
  ((base=none∧cap=0)∨∃b off c e,base=some ⟨b,off,none⟩∧w.heap[b]?=some (.cells c e (0,0))∧off+cap≤c.size∧∀(i:Nat) (u:Value),us[i]?=some u→c[off+i]?=some u) ∧
  Ă (Zh w k) xss us:=by
 have hB:=H.blk id;rw[hl] at hB;exact hB
def nR {l m:List Value} (h:Value.agg l.toArray=Value.agg m.toArray):l=m:=by
 injection h with h
 exact dN.2 h |> fun e=>by simpa using e
def adR {t:TypeId} {a v:AV} {ua:Value} (H:HR ν h w) (e:PF P h t a some=some v) (hv:VR ν h w a ua) :
 ∃u,(Instr.loadAt t ua).run P w=.ok u w∧VR ν h w v u:=by
 unfold PF at e
 split at e<;>try (cases e; done)
 rename_i agg n hl
 have fin:∀(b off o:Nat) (cs ds:List AV) (us:List Value),Ă (VRc ν h w) cs us→Oi cs o n=some ds→CellsAt w b off us→ua=.pointer (some ⟨b,off+o,none⟩) →
  mkv agg ds=some v→∃u,(Instr.loadAt t ua).run P w=.ok u w∧VR ν h w v u:=by
  intro b off o cs ds us hc hg hca hua hm;obtain⟨h1,h2⟩:=pP hg
  have hd:Ă (VRc ν h w) ds ((us.drop o).take n):=by rw[h1]; exact(hc.drop o).take n
  obtain⟨h3,h4⟩:=ahx hm hd;refine⟨Xi agg ((us.drop o).take n),?_,h3⟩;rw[hua];simp only[Instr.loadAt,Instr.sureAddr,Sem.run_bind,Sem.run_pure,Result.andThen_ok];exact run_loadVar hl (hd.length.symm.trans h2) (fun hf=>h2.symm.trans (h4 hf)) (hca.part o n).addr
 cases a with
 |box id off =>
  obtain⟨cs,b,h1,h2,h3⟩:=hv;simp only[h1] at e
  split at e<;>try (cases e; done)
  rename_i ds hg
  split at e<;>try (cases e; done)
  rename_i v' hm;cases e;have hB:=H.blk id;rw[h1] at hB;obtain⟨b',c,e',h4,h5,h6⟩:=hB;rw[h4] at h2; cases h2;exact fin b 0 off cs ds c.toList h6 hg (.of_cells h5) (by rw[h3]; simp) hm
 |eptr ty x off =>
  obtain⟨b,o,us,h1,h2,h3,h4,h5⟩:=hv;simp only at e
  split at e<;>try (cases e; done)
  rename_i ds hg
  split at e<;>try (cases e; done)
  rename_i v' hm;cases e;exact fin b o off (flat ty x) ds us (nF h4) hg h5 h1 hm
 |optr id g i off =>
  obtain⟨ho,ty,g',fz,xs,h1,h2,h3⟩:=hv;simp only[h1] at e
  split at e<;>try (cases e; done)
  rename_i hgg
  have hge:g=g':=by simpa using hgg
  split at e<;>try (cases e; done)
  rename_i x hx
  split at e<;>try (cases e; done)
  rename_i ds hg
  split at e<;>try (cases e; done)
  rename_i v' hm;cases e;obtain⟨hi,b,o,cap,h4,h5⟩:=h3 hge;obtain⟨base,cap',h6,h7,_,h8⟩:=H.row_data h1
  rw[h4] at h6; injection h6 with e1 e2 e3; subst e1; subst e3
  rcases h8 with h8|⟨b',o',h8,h9,h10,h11⟩
  ·rw[h8] at hx; simp at hx
  ·cases h8;obtain⟨us,h12,h13⟩:=h11 i x hx;exact fin b _ off (flat ty x) ds us (nF h12) hg h13 h5 hm
 |dq id g i =>
  obtain⟨ho,k,g',xss,h1,h2,h3⟩:=hv;simp only[h1] at e
  split at e<;>try (cases e; done)
  rename_i hgg;cases e;simp only[cH,beq_iff_eq,ee] at hgg;obtain⟨rfl,rfl,hn1⟩:=hgg;obtain rfl:=cQ hn1;obtain⟨hi,us,b,o,n,cap,h4,h5⟩:=h3 rfl;obtain⟨base,cap',us',h6,h7,h8,h9,h10⟩:=H.table h1;rw[h4] at h6;have q:=nR h6
  injection q with q1 q2
  subst q2
  injection q1 with q3 q4 q5
  subst q3;obtain⟨u,hu⟩:∃u,us[i]?=some u:=⟨us[i]'(by rw[←h10.length]; exact hi),cF _⟩;rcases h9 with⟨h9,_⟩|⟨b',o',c,e',h9,h11,h12,h13⟩
  ·cases h9
  cases h9;obtain⟨xs,hx,base2,cap2,hu2,_⟩:=h10.get' hu
  have hone:u.oneCell'=true:=by rw[hu2]; rfl
  refine⟨u,?_,hone,k,g,xss,h1,cG _,fun _=>⟨_,us,h4,hu⟩⟩;rw[h5];simp only[Instr.loadAt,Instr.sureAddr,Sem.run_bind,Sem.run_pure,Result.andThen_ok];refine run_loadVar (us:=[u]) hl rfl (fun _=>rfl) (fun j v hj=>?_)
  cases j with
  |zero =>
   simp at hj;subst hj;rw[Ś,fL];simp only[World.cell?,h11];exact h13 i _ hu
  |succ j=>simp at hj
 |de id g i j =>
  obtain⟨ho,k,g',xss,h1,h2,h3⟩:=hv;simp only[h1] at e
  split at e<;>try (cases e; done)
  rename_i hgg
  split at e<;>try (cases e; done)
  rename_i xs hxs
  split at e<;>try (cases e; done)
  rename_i x hx;cases e;simp only[cH,beq_iff_eq,ee] at hgg;obtain⟨rfl,rfl,hn1⟩:=hgg;obtain rfl:=cQ hn1;obtain⟨u,us,b,o,n,cap,h4,h5,h6,h7⟩:=h3 rfl;obtain⟨base,cap',us',h8,_,_,_,h10⟩:=H.table h1;rw[h4] at h8;have q:=nR h8
  injection q with q1 q2
  subst q2;obtain⟨base2,cap2,hu2,_,h11⟩:=h10.get2 hxs h5
  injection hu2 with q3 q4 q5
  subst q3;rcases h11 with⟨h11,_⟩|⟨b',o',c,e',h11,h12,h13,h14⟩
  ·cases h11
  cases h11;refine⟨.int k x,?_,rfl⟩;rw[h7];simp only[Instr.loadAt,Instr.sureAddr,Sem.run_bind,Sem.run_pure,Result.andThen_ok];refine run_loadVar (us:=[.int k x]) hl rfl (fun _=>rfl) (fun m v hm=>?_)
  cases m with
  |zero =>
   simp at hm;subst hm;rw[Ś,fL];simp only[World.cell?,h12];exact h14 j _ hx
  |succ m=>simp at hm
 |_=>cases e
def wZ (w:World) (g:Nat) (c:Array Value):(w.setRow g c).heap.size=w.heap.size:=by simp[World.setRow]
def Re (H:HR ν h w) {id g g' b o' cap':Nat} {t:Ty} {xs xs':List (Val t)} {c c':Array Value} {e:TypeId} (hl:lkB h id=.row t g false xs) (hb:ŋ (ν id) b)
 (hc:w.heap[b]?=some (.cells c e (0,0))) (hle:xs'.length≤cap') (hsz:o'+cap'*t.size≤c'.size)
 (hg:g<g'∨(g=g'∧Value.slice (some ⟨b,o',none⟩) xs'.length cap'=ν id∧xs'.length=xs.length))
 (hx:∀(i:Nat) (x:Val t),xs'[i]?=some x→∃us,CR w (Av ν h) t x us∧∀j v,us[j]?=some v→c'[o'+i*t.size+j]?=some v) :
 Ev h.length ν h w (ö ν id (.slice (some ⟨b,o',none⟩) xs'.length cap')) (ø h id (.row t g' false xs')) (w.setRow b c') ∧
  HR (ö ν id (.slice (some ⟨b,o',none⟩) xs'.length cap')) (ø h id (.row t g' false xs')) (w.setRow b c'):=by
 have hid:id<h.length:=Ζ hl (by simp)
 have hkeep:∀k,k<w.heap.size→((lkB h id).live=true→¬ŋ (ν id) k)→(w.setRow b c').heap[k]?=w.heap[k]?:=fun k _ hk=>by
  refine setRow_other w b k c' fun he=>hk (by rw[hl]; rfl) (by rw[he]; exact hb)
 have hV:(Blk.row t g' false xs').live=true→∀k,ŋ (Value.slice (some ⟨b,o',none⟩) xs'.length cap') k→((lkB h id).live=true∧ŋ (ν id) k)∨w.heap.size≤k:=fun _ k hk=>by
  cases hk; exact .inl ⟨by rw[hl]; rfl,hb⟩
 have ev:=Ev.upd H (B:=.row t g' false xs') (V:=.slice (some ⟨b,o',none⟩) xs'.length cap') (w':=w.setRow b c') hid rfl rfl rfl (by rw[wZ]; exact cG _) hkeep hV (by
  rw[hl]
  refine⟨g',false,xs',rfl,by rcases hg with hg|⟨hg,_⟩<;>omega,fun he=>?_⟩
  rcases hg with hg|⟨_,h1,h2⟩
  ·omega
  ·exact⟨by rw[Ó,h1],h2⟩)
 refine⟨ev,HR.upd H hid ev hkeep hV ⟨some ⟨b,o',none⟩,cap',Ó _ _ _,hle,.inr ⟨b,o',c',e,rfl,setRow_heap w b c c' e _ hc,hsz,fun i x hi=>?_⟩⟩⟩;obtain⟨us,h1,h2⟩:=hx i x hi;refine⟨us,CR.keep ev.keepA h1,fun j v hj=>?_⟩;simp only[World.cell?,setRow_heap w b c c' e _ hc];simpa using h2 j v hj
def Eg:∀(t:Ty) (x:Val t),(flat t x).length=t.size
 |.unit,_=>rfl
 |.bool,_=>rfl
 |.int _,_=>rfl
 |.str,_=>rfl
 |.slice _,_=>rfl
 |.map _ _,_=>rfl
 |.ptr _,_=>rfl
 |.pair a b,x=>by rw[flat,cJ,Eg a,Eg b]; rfl
def GC:∀{as:List AV} {h:List Blk} {vs:List Value},HR ν h w→Ă (VR1 ν h w) as vs→as.all Lt=true→Ă (VRs w (Av ν (Cm h as))) (as.map (Ą h)) vs
 |[],_,[],_,_,_=>trivial
 |[],_,_::_,_,hv,_=>hv.elim
 |_::_,_,[],_,hv,_=>hv.elim
 |a::as,h,v::vs,H,hv,hm=>by
  simp only[fC,cH] at hm;obtain⟨e,H1,hl⟩:=Nu H a;have ih:=GC (vs:=vs) H1 (hv.2.mono fun _ _=>VR1.ev e) hm.2;have he:as.map (Ą (sw h a))=as.map (Ą h):=fj fun b _=>Hn h a b;rw[he] at ih;refine⟨VRs.mono (Ef as H1).2.2 (Nt H hv.1 hm.1),ih⟩
def aei {v:AV} {vs:List AV} (hc:Ů v=some vs) (h:List Blk):frz h v=Cm h vs∧(adv v=true→vs.all Lt=true):=by
 cases v<;>simp only[Ů,Option.some.injEq,reduceCtorEq] at hc<;>subst hc<;>exact⟨rfl,fun hm=>by first|simpa[adv] using hm|rfl⟩
def ix:∀(as:List AV) (h:List Blk),(Cm h as).length=h.length
 |[],_=>rfl
 |a::as,h=>by rw[Cm,ix as,oO]
def IK {v:AV} {u:Value} {vs:List AV} (hv:VR ν h w v u) (hc:Ů v=some vs):u.cells.size=vs.length:=by
 have:=(hv.cells hc).length;simpa using this.symm
def s9 {t:TypeId} {u:Value} {n b o:Nat} {c:Array Value} {e:TypeId} (hs:szP P t=some n) (hn:u.cells.size=n) (hc:w.heap[b]?=some (.cells c e (0,0)))
 (hfit:o+n≤c.size) (h1:∀v∈u.cells.toList,v.oneCell'=true) :
 (storeVar t ⟨b,o,none⟩ u).run P w=.ok () (w.setRow b (c.toList.take o++u.cells.toList++c.toList.drop (o+n)).toArray):=by
 have:=run_storeCells_at P b o e u.cells.toList 0 c w hc (by simpa[hn] using hfit) h1;simp only[Nat.add_zero,Array.length_toList,hn] at this;unfold storeVar;simp only[Sem.run_bind,oq hs,Result.andThen_ok,hn,ne_eq,not_true,if_false,this]
def Ă.right_mem {α β:Type} {R:α→β→Prop}:∀{l:List α} {m:List β},Ă R l m→∀b∈m,∃a,R a b
 |[],[],_,b,hb=>by cases hb
 |a::_,c::_,h,b,hb=>by
  rcases cN.1 hb with rfl|hb
  ·exact⟨a,h.1⟩
  ·exact Ă.right_mem h.2 b hb
 |[],_::_,h,_,_=>h.elim
 |_::_,[],h,_,_=>h.elim
def qR {α:Type} (l m:List α) (p k:Nat) (hp:p+m.length≤l.length) :
 (l.take p++m++l.drop (p+m.length))[k]?=if k<p then l[k]? else if k<p+m.length then m[k-p]? else l[k]?:=by
 rw[eO,eO,cJ,cZ,Nat.min_eq_left (by omega:p≤l.length)]
 by_cases h1:k<p
 ·rw[if_pos (by omega),if_pos h1,if_pos h1,dZ,if_pos h1]
 ·rw[if_neg h1,if_neg h1]
  by_cases h2:k<p+m.length
  ·rw[if_pos h2,if_pos h2]
  ·rw[if_neg h2,if_neg h2,eo,show p+m.length+(k-(p+m.length))=k by omega]
def ZB {t:TypeId} {a v:AV} {ua uv:Value} (H:HR ν h w) (e:yA P h t a v some=some h') (ha:VR ν h w a ua) (hv:VR ν h w v uv) :
 ∃w',(Instr.storeAt t ua uv).run P w=.ok () w'∧HR ν h' w'∧Ev h.length ν h w ν h' w'∧h'.length=h.length:=by
 unfold yA at e
 split at e<;>try (cases e; done)
 rename_i vs hvs
 split at e<;>try (cases e; done)
 rename_i hs
 have hs:szP P t=some vs.length:=by simpa using hs
 have hcs:=hv.cells hvs;have hone:∀v∈uv.cells.toList,v.oneCell'=true:=fun v hv=>let ⟨_,h⟩:=hcs.right_mem v hv; h.2;have hsz:=IK hv hvs
 cases a with
 |box id off =>
  obtain⟨cs,b,h1,h2,h3⟩:=ha;simp only[h1] at e
  split at e<;>try (cases e; done)
  rename_i c' hset;cases e;obtain⟨rfl,h5⟩:=vy hset;have hB:=H.blk id;rw[h1] at hB;obtain⟨b',c,e',h6,h7,h8⟩:=hB;rw[h6] at h2; cases h2;have hid:id<h.length:=Ζ h1 (by simp)
  have hcl:c.size=cs.length:=by simpa using h8.length.symm
  have hrun:=s9 (P:=P) (o:=off) hs hsz h7 (by omega) hone
  have hkeep:∀k,k<w.heap.size→((lkB h id).live=true→¬ŋ (ν id) k)→(w.setRow b (c.toList.take off++uv.cells.toList++c.toList.drop (off+vs.length)).toArray).heap[k]?=w.heap[k]? :=
   fun k _ hk=>setRow_other w b k _ fun he=>hk (by rw[h1]; rfl) (by rw[h6,he]; rfl)
  have hV:(Blk.cells (cs.take off++vs++cs.drop (off+vs.length))).live=true→∀k,ŋ (ν id) k→((lkB h id).live=true∧ŋ (ν id) k)∨w.heap.size≤k:=fun _ k hk=>.inl ⟨by rw[h1]; rfl,hk⟩;have ev:=Ev.upd H (B:=.cells (cs.take off++vs++cs.drop (off+vs.length))) (V:=ν id) (w':=w.setRow b (c.toList.take off++uv.cells.toList++c.toList.drop (off+vs.length)).toArray) hid rfl rfl rfl (by rw[wZ]; exact cG _) hkeep hV (by rw[h1]; exact⟨⟨_,rfl⟩,Ó _ _ _⟩)
  have hr:=HR.upd H hid ev hkeep hV ⟨b,_,e',(Ó _ _ _).trans h6,setRow_heap w b c _ e' _ h7,by
   exact(((h8.take off).append hcs).append (h8.drop (off+vs.length))).mono fun _ _ hx=>VRc.ev ev hx⟩
  rw[oo] at ev hr;exact⟨_,by rw[h3]; simpa[Instr.storeAt,Instr.sureAddr] using hrun,hr,ev,Ô _ _ _⟩
 |optr id g i off =>
  simp only at e
  split at e<;>try (cases e; done)
  rename_i hm;obtain⟨hfe,hfm⟩:=aei hvs h;have hfm:=hfm hm;rw[hfe] at e;obtain⟨e1,H1,hlv⟩:=Ef vs H;have hsn:=GC H (hcs.mono fun _ _ hx=>hx.1) hfm;have ha1:=ha.ev e1
  split at e<;>try (cases e; done)
  rename_i ty g' xs hrow
  split at e<;>try (cases e; done)
  rename_i hgg
  have hge:g=g':=by simpa using hgg
  split at e<;>try (cases e; done)
  rename_i x hx
  split at e<;>try (cases e; done)
  rename_i cs' hset
  split at e<;>try (cases e; done)
  rename_i x' hx';cases e;obtain⟨h4,h5⟩:=vy hset;rw[dz] at h4 h5;rw[Eg] at h5;obtain⟨ho,ty2,g2,fz2,xs2,h6,h7,h8⟩:=ha1;rw[hrow] at h6;cases h6;obtain⟨hi,b,o,cap,h9,h10⟩:=h8 hge;have hB:=H1.blk id;rw[hrow] at hB;obtain⟨base,cap2,h11,h12,h13⟩:=hB
  rw[h9] at h11; injection h11 with q1 q2 q3; subst q1; subst q3
  rcases h13 with⟨h13,_⟩|⟨b2,o2,c,e2,h13,h14,h15,h16⟩
  ·cases h13
  cases h13;obtain⟨us,h17,h18⟩:=h16 i x hx;have hul:us.length=ty.size:=h17.length;have hii:(i+1)*ty.size≤cap*ty.size:=dm _ (by omega)
  have hi1:(i+1)*ty.size=i*ty.size+ty.size:=by rw[dk,fm]
  have hrun:=s9 (P:=P) (o:=o+i*ty.size+off) hs hsz h14 (by omega) hone
  have hcr:CR w (Av ν (Cm h vs)) ty x' (us.take off++uv.cells.toList++us.drop (off+vs.length)):=by
   refine ģ hx' ?_;rw[h4];have hf:=(nF h17).mono fun _ _ hx=>(VR1.data hx.1);exact((hf.take off).append hsn).append (hf.drop _)
  have huc:uv.cells.toList.length=vs.length:=by simpa using hsz
  obtain⟨ev,hr⟩:=Re H1 (xs':=xs.set i x') (g':=g') (o':=o) (cap':=cap) (c':=(c.toList.take (o+i*ty.size+off)++uv.cells.toList++c.toList.drop (o+i*ty.size+off+vs.length)).toArray) hrow (by rw[h9]; rfl) h14
   (by simpa using h12) (by simp; omega) (.inr ⟨rfl,by simpa using h9.symm,by simp⟩) (fun j y hj=>by
    have hget:∀k,(c.toList.take (o+i*ty.size+off)++uv.cells.toList++c.toList.drop (o+i*ty.size+off+vs.length)).toArray[k]? =
     if k<o+i*ty.size+off then c[k]? else if k<o+i*ty.size+off+vs.length then uv.cells.toList[k-(o+i*ty.size+off)]? else c[k]?:=by
     intro k;have:=qR c.toList uv.cells.toList (o+i*ty.size+off) k (by rw[huc]; simp; omega);rw[huc] at this;simpa using this
    rw[fR] at hj
    split at hj
    ·rename_i hij; subst hij;cases hj;refine⟨_,hcr,fun k v hk=>?_⟩;rw[hget];have hk18:=fun v hv=>h18 k v hv;simp only[World.cell?,h14] at hk18;rw[eO,eO] at hk;simp only[cJ,cZ,huc,hul] at hk;rw[Nat.min_eq_left (by omega:off≤ty.size)] at hk
     split at hk
     ·split at hk
      ·rw[if_pos (by omega)];rw[dZ,if_pos (by omega)] at hk;simpa using hk18 v hk
      ·rw[if_neg (by omega),if_pos (by omega)];rw[show o+i*ty.size+k-(o+i*ty.size+off)=k-off by omega]; exact hk
     ·rw[if_neg (by omega),if_neg (by omega)];rw[eo,show off+vs.length+(k-(off+vs.length))=k by omega] at hk;simpa using hk18 v hk
    ·rename_i hij;obtain⟨ws,h19,h20⟩:=h16 j y hj;refine⟨ws,h19,fun k v hk=>?_⟩
     have hkl:k<ty.size:=by rw[←h19.length]; exact(cI.1 hk).1
     have hk18:=h20 k v hk;simp only[World.cell?,h14] at hk18;rw[hget]
     have hne:j*ty.size+ty.size≤i*ty.size∨i*ty.size+ty.size≤j*ty.size:=by
      rcases Nat.lt_or_gt_of_ne hij with hlt|hlt
      ·right;have:=dm ty.size (show i+1≤j from hlt);rw[dk,fm] at this; exact this
      ·left;have:=dm ty.size (show j+1≤i from hlt);rw[dk,fm] at this; exact this
     split
     ·simpa using hk18
     ·rw[if_neg (by omega)]; simpa using hk18)
  have hvv:ö ν id (.slice (some ⟨b,o,none⟩) (xs.set i x').length cap)=ν:=by
   rw[fh,←h9,oo]
  rw[hvv] at ev hr;refine⟨_,by rw[h10]; simpa[Instr.storeAt,Instr.sureAddr] using hrun,hr,e1.trans ev (by rw[ix]; exact cG _),by rw[Ô,ix]⟩
 |de id g i j =>
  simp only at e
  split at e<;>try (cases e; done)
  rename_i k' y;obtain⟨ho,k,g',xss,h1,h2,h3⟩:=ha;simp only[h1] at e
  split at e<;>try (cases e; done)
  rename_i hgg
  split at e<;>try (cases e; done)
  rename_i hkk _
  split at e<;>try (cases e; done)
  rename_i xs hxs
  split at e<;>try (cases e; done)
  rename_i x hx;cases e;subst hkk
  obtain rfl:g=g':=by simpa using hgg
  cases hvs;have huv:uv=.int k' y:=hv;subst huv;obtain⟨u,us,b,o,n,cap,h4,h5,h6,h7⟩:=h3 rfl;obtain⟨base,cap',us',h8,h9,hap,hout,h10⟩:=H.table h1;rw[h4] at h8;have q:=nR h8
  injection q with q1 q2
  subst q1;subst q2;have hrow:=h10.get2 hxs h5;obtain⟨base2,cap2,hu2,hle2,h11⟩:=hrow
  injection hu2 with q3 q4 q5
  subst q3 q4 q5;rcases h11 with⟨h11,_⟩|⟨b',o',c,e',h11,h12,h13,h14⟩
  ·cases h11
  cases h11;have hid:id<h.length:=Ζ h1 (by simp);have hmem:Value.slice (some ⟨b,o,none⟩) xs.length cap∈us:=cO h5;have hjl:j<xs.length:=h6;have hrun:=s9 (P:=P) (u:=.int k' y) (o:=o+j) hs hsz h12 (by simp; omega) (by simp[Value.cells,Value.oneCell'])
  have hb:ŋ (ν id) b:=by rw[h4]; exact⟨Value.slice (some ⟨b,o,none⟩) xs.length cap,by simp[hmem],rfl⟩
  -- the cells
  let c':Array Value:=(c.toList.take (o+j)++(Value.int k' y).cells.toList++c.toList.drop (o+j+1)).toArray
  have hc':∀m,c'[m]?=if m=o+j then some (Value.int k' y) else c[m]?:=by
   intro m;have:=qR c.toList [Value.int k' y] (o+j) m (by simp; omega);have e0:(Value.int k' y).cells.toList=[Value.int k' y]:=rfl;show(c.toList.take (o+j)++(Value.int k' y).cells.toList++c.toList.drop (o+j+1)).toArray[m]?=_;rw[e0,d9];rw[show[Value.int k' y].length=1 from rfl] at this;rw[this]
   by_cases hm:m=o+j
   ·rw[if_neg (by omega),if_pos (by omega),if_pos hm,hm,gX]; rfl
   ·rw[if_neg hm]
    split
    ·simp
    ·rw[if_neg (by omega)]; simp
  have hcs:c'.size=c.size:=by
   show(c.toList.take (o+j)++(Value.int k' y).cells.toList++c.toList.drop (o+j+1)).toArray.size=c.size;have e0:(Value.int k' y).cells.toList=[Value.int k' y]:=rfl;rw[e0];simp;omega
  have hkeep:∀m,m<w.heap.size→((lkB h id).live=true→¬ŋ (ν id) m)→(w.setRow b c').heap[m]?=w.heap[m]?:=fun m _ hm =>
   setRow_other w b m c' fun he=>hm (by rw[h1]; rfl) (by rw[he]; exact hb)
  have hV:(Blk.deep k' g (xss.set i (xs.set j y))).live=true→∀m,ŋ (ν id) m→((lkB h id).live=true∧ŋ (ν id) m)∨w.heap.size≤m:=fun _ m hm=>.inl ⟨by rw[h1]; rfl,hm⟩
  have ev:=Ev.upd H (B:=.deep k' g (xss.set i (xs.set j y))) (V:=ν id) (w':=w.setRow b c') hid rfl rfl rfl (by rw[wZ]; exact cG _) hkeep hV (by
   rw[h1]; exact⟨g,_,rfl,cG _,fun _=>⟨Ó _ _ _,by simp⟩⟩)
  have hnew:(w.setRow b c').heap[b]?=some (.cells c' e' (0,0)):=setRow_heap w b c c' e' _ h12
  -- other rows, and the table itself, lie elsewhere
  have hother:∀m u',(Value.slice base xss.length cap'::us)[m]?=some u'→m≠i+1→∀q,lU u'=some q→q≠b:=by
   intro m u' hm hne q hq he;subst he
   have hi1:(Value.slice base xss.length cap'::us)[i+1]?=some (Value.slice (some ⟨q,o,none⟩) xs.length cap):=by simpa using h5
   obtain⟨m1,em⟩:=cI.1 hm;obtain⟨i1,ei⟩:=cI.1 hi1;rcases Nat.lt_or_gt_of_ne hne with hlt|hgt
   ·have:=dl.1 hap m (i+1) m1 i1 hlt q (by rw[em]; exact hq);rw[ei] at this;exact this rfl
   ·have:=dl.1 hap (i+1) m i1 m1 hgt q (by rw[ei]; rfl);rw[em] at this;exact this hq
  have hrows:Ă (Zh (w.setRow b c') k') (xss.set i (xs.set j y)) us:=by
   refine Ă.of_get (by rw[fh]; exact h10.length) fun m zs u' hz hu'=>?_;rw[fR] at hz
   by_cases hm:i=m
   ·subst hm;rw[if_pos rfl] at hz
    split at hz
    ·cases hz;rw[h5] at hu';cases hu';refine⟨some ⟨b,o,none⟩,cap,by simp,by simpa using hle2,.inr ⟨b,o,c',e',rfl,hnew,by omega,fun m x hx=>?_⟩⟩;rw[hc'];rw[fR] at hx
     by_cases hjm:j=m
     ·subst hjm;rw[if_pos rfl,if_pos hjl] at hx;cases hx;rw[if_pos rfl]
     ·rw[if_neg hjm] at hx;rw[if_neg (by omega)];exact h14 m x hx
    ·cases hz
   ·rw[if_neg hm] at hz;refine(h10.get2 hz hu').keep fun q hq hlt=>setRow_other w b q c' ?_;exact hother (m+1) u' (by simpa using hu') (by omega) q hq
  have hr:=HR.upd H hid ev hkeep hV ⟨base,cap',us,by rw[Ó,h4,fh],by rw[fh]; exact h9,by rw[fh]; exact hap,by
   rcases hout with hout|⟨b2,o2,c2,e2,rfl,g1,g2,g3⟩
   ·exact .inl hout
   ·exact .inr ⟨b2,o2,c2,e2,rfl,(setRow_other w b b2 c' (hother 0 _ rfl (by omega) b2 rfl)).trans g1,g2,g3⟩,hrows⟩
  rw[oo] at ev hr;refine⟨w.setRow b c',?_,hr,ev,Ô _ _ _⟩;rw[h7];have hrun':(storeVar t ⟨b,o+j,none⟩ (Value.int k' y)).run P w=.ok () (w.setRow b c'):=hrun;simpa only[Instr.storeAt,Instr.sureAddr,Sem.run_bind,Sem.run_pure,Result.andThen_ok] using hrun'
 |_=>cases e
end
end Go.Am
end

noncomputable section
namespace Go.Am
variable [Ghost]
section
variable {ν ν':Nat→Value} {h h':List Blk} {w w':World} {P:Program}
def SR (w:World) (av:Nat→Prop) (t:Ty) (xs:List (Val t)) (base:Option Addr) (cap:Nat):Prop :=
 xs.length≤cap∧(xs=[]∨∃b off,base=some ⟨b,off,none⟩∧b<w.heap.size∧∀(i:Nat) (x:Val t),xs[i]?=some x→∃us,CR w av t x us∧CellsAt w b (off+i*t.size) us)
def SR.part {av:Nat→Prop} {t:Ty} {xs:List (Val t)} {base:Option Addr} {cap l m:Nat} (hs:SR w av t xs base cap) (hl:l≤m) (hm:m≤xs.length) :
 SR w av t ((xs.drop l).take (m-l)) (if cap=l then base else base.map (·.add (l*t.size))) (cap-l):=by
 obtain⟨h1,h2⟩:=hs
 have hlen:((xs.drop l).take (m-l)).length=m-l:=by simp; omega
 refine⟨by rw[hlen]; omega,?_⟩
 by_cases hc:cap=l
 ·exact .inl (cV.1 (by rw[hlen]; omega))
 rcases h2 with h2|⟨b,off,rfl,h3,h4⟩
 ·exact .inl (by rw[h2]; simp)
 ·refine .inr ⟨b,off+l*t.size,by rw[if_neg hc]; simp[Ś],h3,fun i x hx=>?_⟩
  have hx':xs[l+i]?=some x:=by
   rw[dZ] at hx
   split at hx
   ·simpa using hx
   ·cases hx
  obtain⟨us,h5,h6⟩:=h4 (l+i) x hx';refine⟨us,h5,?_⟩
  have:off+l*t.size+i*t.size=off+(l+i)*t.size:=by rw[dk]; omega
  rw[this]; exact h6
def CR.slice_iff {av:Nat→Prop} {t:Ty} {xs:List (Val t)} {v:Value}:CR w av (.slice t) xs [v] ↔
 ∃base cap,v=.slice base xs.length cap∧SR w av t xs base cap∧(xs=[]∨∀b off,base=some ⟨b,off,none⟩→¬av b):=by
 constructor
 ·rintro⟨base,cap,h1,h2,h3⟩;refine⟨base,cap,by simpa using h1,⟨h2,?_⟩,?_⟩
  ·rcases h3 with h3|⟨b,off,h3,h4,h5,h6⟩
   ·exact .inl h3
   ·exact .inr ⟨b,off,h3,h5,h6⟩
  ·rcases h3 with h3|⟨b,off,h3,h4,h5,h6⟩
   ·exact .inl h3
   ·exact .inr fun b' off' hb=>by rw[h3] at hb; cases hb; exact h4
 ·rintro⟨base,cap,rfl,⟨h2,h3⟩,h4⟩;refine⟨base,cap,rfl,h2,?_⟩;rcases h3 with h3|⟨b,off,h3,h5,h6⟩
  ·exact .inl h3
  ·rcases h4 with h4|h4
   ·exact .inl h4
   ·exact .inr ⟨b,off,h3,h4 b off h3,h5,h6⟩
def CR.part {av:Nat→Prop} {t:Ty} {xs:List (Val t)} {base:Option Addr} {cap l m:Nat} (hs:CR w av (.slice t) xs [.slice base xs.length cap]) (hl:l≤m) (hm:m≤xs.length) :
 CR w av (.slice t) ((xs.drop l).take (m-l)) [.slice (if cap=l then base else base.map (·.add (l*t.size))) (m-l) (cap-l)]:=by
 obtain⟨base',cap',h1,h2,h3⟩:=CR.slice_iff.1 hs;cases h1
 have hlen:((xs.drop l).take (m-l)).length=m-l:=by simp; omega
 refine CR.slice_iff.2 ⟨_,_,by rw[hlen],h2.part hl hm,?_⟩;rcases h3 with h3|h3
 ·exact .inl (by rw[h3]; simp)
 rcases h2.2 with h4|⟨b0,off0,rfl,_⟩
 ·exact .inl (by rw[h4]; simp)
 ·right;intro b off hb;have h5:=h3 b0 off0 rfl
  split at hb
  ·cases hb; exact h5
  ·simp only[dK,Ś,Option.some.injEq,Addr.mk.injEq] at hb;rw[←hb.1]; exact h5
def aiP (H:HR ν h w) {x:AV} {ux:Value} {t:Ty} {ys:List (Val t)} (hx:VR ν h w x ux) (e:Û (.slice t) [Ą h x]=some ys) :
 ∃base cap,ux=.slice base ys.length cap∧SR w (Av ν h) t ys base cap:=by
 have hno:∀{a:AV},VRs w (Av ν h) a ux→Û (.slice t) [a]=some ys→∃base cap,ux=.slice base ys.length cap∧SR w (Av ν h) t ys base cap:=fun hs e=>by
  obtain⟨base,cap,h1,h2,_⟩:=CR.slice_iff.1 (ģ e ⟨hs,trivial⟩);exact⟨base,cap,h1,h2⟩
 have cut:∀{t':Ty} {zs:List (Val t')},Û (.slice t) [.slc t' zs]=some ys→∃e:t'=t,ys=yu (F:=fun t=>List (Val t)) e zs:=fun {t' zs} e=>by
  simp only[Û,π] at e
  split at e<;>try (cases e; done)
  rename_i y he
  split at he<;>try (cases he; done)
  rename_i ht _;cases he; cases e;exact⟨ht,rfl⟩
 cases x with
 |own id g =>
  obtain⟨ho,t',g',fz,xs,hl,hle,hg⟩:=hx;simp only[Ą,hl] at e
  split at e
  ·rename_i hgg;obtain⟨rfl,rfl⟩:=cut e;obtain⟨base,cap,h1,h2,_,h3⟩:=H.row_data hl;refine⟨base,cap,by rw[hg (by simpa using hgg),h1],h2,?_⟩;rcases h3 with h3|⟨b,off,h3,h4,_,h5⟩
   ·exact .inl h3
   ·exact .inr ⟨b,off,h3,h4,h5⟩
  ·simp[Û,π] at e
 |sub id g lo n =>
  obtain⟨ho,t',g',fz,xs,hl,hle,hg⟩:=hx;simp only[Ą,hl] at e
  split at e
  ·rename_i hgg;obtain⟨rfl,rfl⟩:=cut e;obtain⟨hlen,base',cap',hν,hvv⟩:=hg (by simpa using hgg);obtain⟨base,cap,h1,h2,_,h3⟩:=H.row_data hl
   rw[h1] at hν; injection hν with e1 e2 e3; subst e1; subst e3
   have hs:SR w (Av ν h) t' xs base cap:=⟨h2,by
    rcases h3 with h3|⟨b,off,h3,h4,_,h5⟩
    ·exact .inl h3
    ·exact .inr ⟨b,off,h3,h4,h5⟩⟩
   have hp:=hs.part (l:=lo) (m:=lo+n) (by omega) hlen;rw[Nat.add_sub_cancel_left] at hp
   have hn:((xs.drop lo).take n).length=n:=by simp; omega
   refine⟨_,_,?_,hp⟩;show ux=.slice _ ((xs.drop lo).take n).length _;rw[hn]; exact hvv
  ·simp[Û,π] at e
 |omp id =>
  simp only[Ą] at e
  split at e<;>simp[Û,π] at e
 |nils=>exact hno (a:=.nils) (VR1.data (a:=.nils) hx) e
 |slc t' xs=>exact hno (a:=.slc t' xs) (VR1.data (a:=.slc t' xs) hx) e
 |_=>simp[Ą,Û,π] at e
def flatten {av:Nat→Prop} {b:Nat} {t:Ty}:∀(ys:List (Val t)) (off:Nat),(∀(i:Nat) (y:Val t),ys[i]?=some y→∃us,CR w av t y us∧CellsAt w b (off+i*t.size) us) →
 ∃news:List Value,news.length=ys.length*t.size∧CellsAt w b off news∧(∀v∈news,v.oneCell'=true)∧∀(i:Nat) (y:Val t),ys[i]?=some y→CR w av t y ((news.drop (i*t.size)).take t.size)
 |[],off,_=>⟨[],by simp,fun j v hj=>by simp at hj,by simp,fun i y hi=>by simp at hi⟩
 |y::ys,off,H=>by
  obtain⟨us,h1,h2⟩:=H 0 y rfl
  obtain⟨news,h3,h4,h5,h6⟩:=flatten ys (off+t.size) fun i z hz=>by
   obtain⟨ws,h7,h8⟩:=H (i+1) z (by simpa using hz);refine⟨ws,h7,?_⟩;rw[show off+t.size+i*t.size=off+(i+1)*t.size by rw[dk]; omega]; exact h8
  have hus:us.length=t.size:=h1.length;refine⟨us++news,by simp[hus,h3,dk]; omega,fun j v hj=>?_,fun v hv=>?_,fun i z hz=>?_⟩
  ·rw[eO] at hj
   split at hj
   ·simpa using h2 j v hj
   ·have:=h4 _ v hj
    rwa [show off+t.size+(j-us.length)=off+j by omega] at this
  ·rcases cM.1 hv with hv|hv
   ·exact CR.oneCell h1 v hv
   ·exact h5 v hv
  ·cases i with
   |zero =>
    simp at hz; subst hz;simpa[←hus] using h1
   |succ i =>
    have:=h6 i z (by simpa using hz);rw[show(i+1)*t.size=us.length+i*t.size by rw[dk,hus]; omega,←fX,List.drop_left];exact this
def SR.flat {av:Nat→Prop} {t:Ty} {ys:List (Val t)} {base:Option Addr} {cap:Nat} (hs:SR w av t ys base cap) :
 ∃news:List Value,news.length=ys.length*t.size∧(∀a,base=some a→∀j v,news[j]?=some v→w.cell? (a.add j)=some v)∧(base=none→ys=[])∧(∀v∈news,v.oneCell'=true) ∧
  ∀(i:Nat) (y:Val t),ys[i]?=some y→CR w av t y ((news.drop (i*t.size)).take t.size):=by
 rcases hs.2 with rfl|⟨b,off,rfl,h1,h2⟩
 ·exact⟨[],by simp,fun _ _ j v hj=>by simp at hj,fun _=>rfl,by simp,fun i y hi=>by simp at hi⟩
 ·obtain⟨news,h3,h4,h5,h6⟩:=flatten ys off h2;exact⟨news,h3,fun a ha=>by cases ha; exact h4.addr,fun hf=>(by cases hf),h5,h6⟩
end
end Go.Am
end

noncomputable section
namespace Go.Am
variable [Ghost]
section
variable {ν ν':Nat→Value} {h h':List Blk} {w w':World} {P:Program}
def Cr (w:World) (av:Nat→Prop) (t:Ty) (xs:List (Val t)) (news:List Value):Prop :=
 news.length=xs.length*t.size∧∀(i:Nat) (x:Val t),xs[i]?=some x→CR w av t x ((news.drop (i*t.size)).take t.size)
def Cr.append {av:Nat→Prop} {t:Ty} {xs ys:List (Val t)} {m n:List Value} (h1:Cr w av t xs m) (h2:Cr w av t ys n):Cr w av t (xs++ys) (m++n):=by
 refine⟨by simp[h1.1,h2.1,dk],fun i x hi=>?_⟩;rw[eO] at hi
 split at hi
 ·rename_i hlt;have:=h1.2 i x hi;have hb:(i+1)*t.size≤xs.length*t.size:=dm _ hlt;rw[dk,fm] at hb;rw[List.drop_append_of_le_length (by rw[h1.1]; omega),fD (by rw[gC,h1.1]; omega)];exact this
 ·rename_i hge;have:=h2.2 _ x hi
  have:i*t.size=m.length+(i-xs.length)*t.size:=by rw[h1.1,←dk]; congr 1; omega
  rw[this,←fX,List.drop_left];exact h2.2 _ x hi
def Cr.cells {av:Nat→Prop} {t:Ty} {xs:List (Val t)} {news:List Value} (hr:Cr w av t xs news) {c:Array Value} {o:Nat} (hc:∀(j:Nat) (v:Value),news[j]?=some v→c[o+j]?=some v) :
 ∀(i:Nat) (x:Val t),xs[i]?=some x→∃us,CR w av t x us∧∀j v,us[j]?=some v→c[o+i*t.size+j]?=some v:=by
 intro i x hi;refine⟨_,hr.2 i x hi,fun j v hj=>?_⟩;rw[dZ] at hj
 split at hj
 ·rw[eo] at hj;have:=hc _ v hj
  rwa [show o+(i*t.size+j)=o+i*t.size+j by omega] at this
 ·cases hj
def Ho (H:HR ν h w) {id g' cap':Nat} {t:Ty} {xs':List (Val t)} {c':Array Value} {e:TypeId} {news:List Value} (hid:id<h.length)
 (hnext:∀V,(lkB h id).next ν (ö ν id V) id (.row t g' false xs')) (hw:w'.heap=w.heap.push (.cells c' e (0,0))) (hos:w'.os=w.os) (htape:w'.tape=w.tape) (hout:w'.output=w.output)
 (hle:xs'.length≤cap') (hsz:cap'*t.size≤c'.size) (hr:Cr w (Av ν h) t xs' news) (hn:∀(j:Nat) (v:Value),news[j]?=some v→c'[j]?=some v) :
 Ev h.length ν h w (ö ν id (.slice (some ⟨w.heap.size,0,none⟩) xs'.length cap')) (ø h id (.row t g' false xs')) w' ∧
  HR (ö ν id (.slice (some ⟨w.heap.size,0,none⟩) xs'.length cap')) (ø h id (.row t g' false xs')) w':=by
 have hkeep:∀b,b<w.heap.size→((lkB h id).live=true→¬ŋ (ν id) b)→w'.heap[b]?=w.heap[b]?:=fun b hb _=>by
  rw[hw,eE]; simp[fB hb]
 have hV:(Blk.row t g' false xs').live=true→∀k,ŋ (Value.slice (some ⟨w.heap.size,0,none⟩) xs'.length cap') k→((lkB h id).live=true∧ŋ (ν id) k)∨w.heap.size≤k:=fun _ k hk=>by
  cases hk; exact .inr (cG _)
 have ev:=Ev.upd H (B:=.row t g' false xs') (V:=.slice (some ⟨w.heap.size,0,none⟩) xs'.length cap') (w':=w') hid hos htape hout (by rw[hw]; simp) hkeep hV (hnext _)
 have hnew:w'.heap[w.heap.size]?=some (.cells c' e (0,0)):=by rw[hw]; simp
 refine⟨ev,HR.upd H hid ev hkeep hV ⟨_,cap',Ó _ _ _,hle,.inr ⟨w.heap.size,0,c',e,rfl,hnew,by omega,fun i x hi=>?_⟩⟩⟩;obtain⟨us,h1,h2⟩:=hr.cells (o:=0) (c:=c') (fun j v hj=>by simpa using hn j v hj) i x hi;refine⟨us,CR.keep ev.keepA h1,fun j v hj=>?_⟩;simp only[World.cell?,hnew];simpa using h2 j v hj
def Rf (H:HR ν h w) {id g':Nat} {t:Ty} (hid:id<h.length) (hnext:∀V,(lkB h id).next ν (ö ν id V) id (.row t g' false [])) :
 Ev h.length ν h w (ö ν id (.slice none 0 0)) (ø h id (.row t g' false [])) w∧HR (ö ν id (.slice none 0 0)) (ø h id (.row t g' false [])) w:=by
 have hkeep:∀b,b<w.heap.size→((lkB h id).live=true→¬ŋ (ν id) b)→w.heap[b]?=w.heap[b]?:=fun b hb _=>rfl
 have hV:(Blk.row t g' false []).live=true→∀k,ŋ (Value.slice none 0 0) k→((lkB h id).live=true∧ŋ (ν id) k)∨w.heap.size≤k:=fun _ k hk=>by cases hk
 have ev:=Ev.upd H (B:=.row t g' false []) (V:=.slice none 0 0) (w':=w) hid rfl rfl rfl (cG _) hkeep hV (hnext _);exact⟨ev,HR.upd H hid ev hkeep hV ⟨none,0,Ó _ _ _,cG _,.inl ⟨rfl,rfl⟩⟩⟩
def zE {id g:Nat} {t:Ty} {fz:Bool} {xs:List (Val t)} {V:Value} {h:List Blk} (hid:id<h.length) (ho:V.oneCell'=true):VR (ö ν id V) (ø h id (.row t g fz xs)) w (.own id g) V :=
 ⟨ho,t,g,fz,xs,ã _ hid,cG _,fun _=>(Ó _ _ _).symm⟩
def mz {e:TypeId} {n:Nat} (hr:JG P e n=true):∃i z,P.info? e=some i∧i.size=n∧0<n∧i.bytes≤32768∧i.zero=some z∧z.cells.size=n:=by
 unfold JG at hr
 split at hr
 ·rename_i i hi;simp only[cH,beq_iff_eq,decide_eq_true_eq] at hr;obtain⟨h1,h2,h3,h4⟩:=hr
  split at h4
  ·rename_i z hz;exact⟨i,z,hi,h1,h2,h3,hz,by simpa using h4⟩
  ·cases h4
 ·cases hr
def pV (t ty e:TypeId) (i:TypeInfo) (ht:P.underlying t=some (.slice e)) (hi:P.info? e=some i)
 {g o sLen sCap:Nat} {cur:Array Value} {e':TypeId} (hg:w.heap[g]?=some (.cells cur e' (0,0)))
 (base:Option Addr) (m c:Nat) (news:List Value) (hl:news.length=m*i.size) (hnews:∀a,base=some a→∀j u,news[j]?=some u→w.cell? (a.add j)=some u) (hb:base=none→news=[]) (h1:∀u∈news,u.oneCell'=true)
 (hroom:sLen+m≤sCap) (hfit:o+sLen*i.size+news.length≤cur.size) :
 (Builtin.append_ #[t,t] ty #[.slice (some ⟨g,o,none⟩) sLen sCap,.slice base m c]).run P w =
  .ok (.slice (some ⟨g,o,none⟩) (sLen+m) sCap) (w.setRow g (cur.toList.take (o+sLen*i.size)++news++cur.toList.drop (o+sLen*i.size+news.length)).toArray):=by
 have hf:(Builtin.firstCells i.size m (.slice base m c)).run P w=.ok news.toArray w:=by
  cases base with
  |none=>rw[hb rfl]; exact run_firstCells_none (P:=P) w _ _ _ _
  |some a=>exact run_firstCells_some (P:=P) w i.size m a m c news hl (hnews a rfl)
 have hst:=run_storeCells_at P g (o+sLen*i.size) e' news 0 cur w hg (by simpa using hfit) h1;simp only[fL] at hst;simp[Builtin.append_,run_underlying ht,sizeOf,typeInfo,hi,Builtin.lenOf,hroom,hf,Ś,hst]
def ro (t ty e:TypeId) (i:TypeInfo) (ht:P.underlying t=some (.slice e)) (hi:P.info? e=some i) (base:Option Addr) (c:Nat) :
 (Builtin.append_ #[t,t] ty #[.slice none 0 0,.slice base 0 c]).run P w=.ok (.slice none 0 0) w:=by
 have hf:(Builtin.firstCells i.size 0 (.slice base 0 c)).run P w=.ok #[] w:=by
  cases base with
  |none=>exact run_firstCells_none (P:=P) w _ _ _ _
  |some a=>exact run_firstCells_some (P:=P) w i.size 0 a 0 c [] (by simp) (fun j v hj=>by simp at hj)
 simp[Builtin.append_,run_underlying ht,sizeOf,typeInfo,hi,Builtin.lenOf,hf]
def Oa (H:HR ν h w) (t ty:TypeId) {e:TypeId} {i:TypeInfo} {z:Value} (ht:P.underlying t=some (.slice e)) (hi:P.info? e=some i) (hz:i.zero=some z) {ety:Ty} (hsz:i.size=ety.size) (hpos:0<ety.size)
 (hby:i.bytes≤32768) (hzs:z.cells.size=ety.size) {id g':Nat} (hid:id<h.length) {xs ys:List (Val ety)} (hnext:∀V,(lkB h id).next ν (ö ν id V) id (.row ety g' false (xs++ys)))
 {base:Option Addr} {cap:Nat} {by_:Option Addr} {cy:Nat} (hy:SR w (Av ν h) ety ys by_ cy)
 (hx:(base=none∧cap=0∧xs=[])∨∃g,lkB h id=.row ety g false xs∧g<g'∧ν id=.slice base xs.length cap)
 (hlen:xs.length+ys.length≤4294967296) :
 ∃V w',(Builtin.append_ #[t,t] ty #[.slice base xs.length cap,.slice by_ ys.length cy]).run P w=.ok V w'∧V.oneCell'=true ∧
  Ev h.length ν h w (ö ν id V) (ø h id (.row ety g' false (xs++ys))) w'∧HR (ö ν id V) (ø h id (.row ety g' false (xs++ys))) w':=by
 obtain⟨news,hn1,hn2,hn3,hn4,hn5⟩:=hy.flat;have hyr:Cr w (Av ν h) ety ys news:=⟨hn1,hn5⟩
 have hbytes:(xs.length+ys.length)*i.bytes≤140737488355328:=by
  have:=fW hlen hby;omega
 have hnew:∀(old:Nat) (olds:List Value),Cr w (Av ν h) ety xs olds →
  ∃V w',(Result.ok (Value.slice (some ⟨w.heap.size,0,none⟩) (xs.length+ys.length) (grownCap w (xs.length+ys.length) old e))
   (w.drew.alloc (.cells (olds.toArray++news.toArray++Builtin.zeroCells z.cells (grownCap w (xs.length+ys.length) old e-(xs.length+ys.length))) e)):Result Value)=.ok V w'∧V.oneCell'=true ∧
  Ev h.length ν h w (ö ν id V) (ø h id (.row ety g' false (xs++ys))) w'∧HR (ö ν id V) (ø h id (.row ety g' false (xs++ys))) w':=by
  intro old olds hol;have hge:=grownCap_ge w (xs.length+ys.length) old e;have hr:=hol.append hyr
  have:=Ho (w':=w.drew.alloc (.cells (olds.toArray++news.toArray++Builtin.zeroCells z.cells (grownCap w (xs.length+ys.length) old e-(xs.length+ys.length))) e))
   H (cap':=grownCap w (xs.length+ys.length) old e) (g':=g') (t:=ety) hid hnext rfl rfl rfl rfl (by simpa using hge) (by
    simp only[gQ,eS,size_zeroCells,hzs,hol.1,hyr.1,←dk]
    apply dm; omega) hr (fun j v hj=>by
     rw[←d9] at hj;rw[fq,if_pos]
     ·simpa using hj
     ·have:=(eP.1 hj).1
      simpa using this)
  rw[cJ] at this;exact⟨_,_,rfl,rfl,this⟩
 rcases hx with⟨rfl,rfl,rfl⟩|⟨g,hl,hg,hν⟩
 ·by_cases hy0:ys=[]
  ·subst hy0;have hrun:=ro (P:=P) (w:=w) t ty e i ht hi by_ cy;exact⟨_,w,hrun,rfl,Rf H hid hnext⟩
  ·have h0:0<ys.length:=dY.2 hy0
   have hb:∃a,by_=some a:=by
    cases by_ with
    |none=>exact absurd (hn3 rfl) hy0
    |some a=>exact⟨a,rfl⟩
   obtain⟨a,rfl⟩:=hb;have hrun:=run_append_nil (P:=P) w t ty e i z ht hi hz a ys.length cy news (by rw[hsz]; exact hn1) (hn2 a rfl) h0 (by simp at hlen; omega) (by simp at hbytes; omega);obtain⟨V,w',h1,h2,h3,h4⟩:=hnew 0 [] ⟨by simp,fun i x hi=>by simp at hi⟩;refine⟨V,w',?_,h2,h3,h4⟩;rw[←h1];simpa using hrun
 ·have hB:=H.blk id;rw[hl] at hB;obtain⟨base',cap',h1,h2,h3⟩:=hB
  rw[hν] at h1; injection h1 with q1 q2 q3; subst q1; subst q3
  rcases h3 with⟨rfl,rfl⟩|⟨b,off,c,e',rfl,h4,h5,h6⟩
  ·have hx0:xs=[]:=cV.1 (by omega);subst hx0
   by_cases hy0:ys=[]
   ·subst hy0;have hrun:=ro (P:=P) (w:=w) t ty e i ht hi by_ cy;exact⟨_,w,hrun,rfl,Rf H hid hnext⟩
   ·have h0:0<ys.length:=dY.2 hy0
    have hb:∃a,by_=some a:=by
     cases by_ with
     |none=>exact absurd (hn3 rfl) hy0
     |some a=>exact⟨a,rfl⟩
    obtain⟨a,rfl⟩:=hb;have hrun:=run_append_nil (P:=P) w t ty e i z ht hi hz a ys.length cy news (by rw[hsz]; exact hn1) (hn2 a rfl) h0 (by simp at hlen; omega) (by simp at hbytes; omega);obtain⟨V,w',h1,h2,h3,h4⟩:=hnew 0 [] ⟨by simp,fun i x hi=>by simp at hi⟩;refine⟨V,w',?_,h2,h3,h4⟩;rw[←h1];simpa using hrun
  ·obtain⟨olds,ho1,ho2,ho3,ho4⟩:=flatten xs off h6;have hol:Cr w (Av ν h) ety xs olds:=⟨ho1,ho4⟩
   by_cases hroom:xs.length+ys.length≤cap
   ·have hfit:off+xs.length*i.size+news.length≤c.size:=by
     have:=dm ety.size hroom;rw[hsz,hn1];rw[dk] at this;omega
    have hrun:=pV (P:=P) t ty e i ht hi h4 by_ ys.length cy news (by rw[hsz]; exact hn1) hn2 (fun hb=>by
     rw[hn3 hb] at hn1; exact cV.1 (by simpa using hn1)) hn4 hroom hfit
    have hset:=Re H (xs':=xs++ys) (g':=g') (o':=off) (cap':=cap) (c':=(c.toList.take (off+xs.length*i.size)++news++c.toList.drop (off+xs.length*i.size+news.length)).toArray) hl
     (by rw[hν]; rfl) h4 (by simpa using hroom) (by simp; omega) (.inl hg) ((hol.append hyr).cells fun j v hj=>by
      have hs:=qR c.toList news (off+xs.length*i.size) (off+j) (by simpa using hfit);rw[d9,hs];rw[eO] at hj;rw[ho1,←hsz] at hj
      split at hj
      ·rw[if_pos (by omega)];have:=ho2 j v hj;simp only[World.cell?,h4] at this;simpa using this
      ·have hjl:=(cI.1 hj).1;rw[if_neg (by omega),if_pos (by omega)]
       rw[show off+j-(off+xs.length*i.size)=j-xs.length*i.size by omega]; exact hj)
    rw[cJ] at hset;exact⟨_,_,hrun,rfl,hset⟩
   ·by_cases hy0:ys=[]
    ·subst hy0; simp at hroom; omega
    have hb:∃a,by_=some a:=by
     cases by_ with
     |none=>exact absurd (hn3 rfl) hy0
     |some a=>exact⟨a,rfl⟩
    obtain⟨a,rfl⟩:=hb;have hrun:=run_append_grow (P:=P) w t ty e i z ht hi hz ⟨b,off,none⟩ xs.length cap olds (by rw[hsz]; exact ho1) ho2.addr a ys.length cy news (by rw[hsz]; exact hn1) (hn2 a rfl) (by omega) (by omega) (growslice_fits (by omega) hbytes);obtain⟨V,w',h1,h2,h3,h4⟩:=hnew cap olds hol;exact⟨V,w',hrun.trans h1,h2,h3,h4⟩
end
end Go.Am
end

noncomputable section
namespace Go.Am
variable [Ghost]
section
variable {ν ν':Nat→Value} {h h':List Blk} {w w':World} {P:Program}
def iB (P:Program) (ν:Nat→Value) (h:List Blk) (w:World) (x:Sem Value) (v:AV) (h':List Blk):Prop :=
 ∃ν' w' u,x.run P w=.ok u w'∧VR ν' h' w' v u∧HR ν' h' w'∧Ev h.length ν h w ν' h' w'∧h'.length=h.length
def iB.still {x:Sem Value} {u:Value} {v:AV} (H:HR ν h w) (hr:x.run P w=.ok u w) (hv:VR ν h w v u):iB P ν h w x v h :=
 ⟨ν,w,u,hr,hv,H,Ev.refl _ _ _ _,rfl⟩
def kG {t e:TypeId} (h:IG P t=some e):P.underlying t=some (.slice e):=by
 unfold IG at h
 split at h
 ·rename_i e' h'; cases h; exact h'
 ·cases h
def afr {nid:Nat} {t ty:TypeId} {s x v:AV} {us ux:Value} (H:HR ν h w) (hn:nid<h.length) (hd:lkB h nid=.dead)
 (e:Bh P h nid t s x (fun v h=>some (v,h))=some (v,h')) (hs:VR ν h w s us) (hx:VR ν h w x ux):iB P ν h w (Builtin.append_ #[t,t] ty #[us,ux]) v h':=by
 unfold Bh at e
 split at e<;>try (cases e; done)
 rename_i el hel
 split at e<;>try (cases e; done)
 rename_i ety hety
 split at e<;>try (cases e; done)
 rename_i hrow;obtain⟨i,z,hi,hsz,hpos,hby,hz,hzs⟩:=mz hrow
 split at e<;>try (cases e; done)
 rename_i ys hys;obtain⟨by_,cy,rfl,hsr⟩:=aiP H hx hys;have ht:=kG hel
 split at e
 ·-- nil
  split at e<;>try (cases e; done)
  rename_i hok;cases e;have hus:us=.slice none 0 0:=hs;subst hus
  obtain⟨V,w',h1,h2,h3,h4⟩:=Oa H t ty ht hi hz hsz hpos hby hzs (id:=nid) (g':=0) hn (xs:=[]) (ys:=ys) (fun V=>by rw[hd]; trivial) (base:=none) (cap:=0) hsr (.inl ⟨rfl,rfl,rfl⟩)
   (by simp[ñ] at hok; simpa using hok)
  exact⟨_,w',V,h1,zE hn h2,h4,h3,Ô _ _ _⟩
 ·rename_i id g
  split at e<;>try (cases e; done)
  rename_i ty' g' xs hl
  split at e<;>try (cases e; done)
  rename_i hgg
  split at e<;>try (cases e; done)
  rename_i heq _;subst heq
  split at e<;>try (cases e; done)
  rename_i hok
  have hg:g=g':=by simpa using hgg
  subst hg;obtain⟨ho,t2,g2,fz2,xs2,hl2,hle,hv2⟩:=hs;rw[hl] at hl2; cases hl2;have hid:id<h.length:=Ζ hl (by simp);have hB:=H.blk id;rw[hl] at hB;obtain⟨base,cap,h1,_,_⟩:=hB
  have hus:us=.slice base xs.length cap:=by rw[hv2 rfl,h1]
  subst hus
  obtain⟨V,w',h1,h2,h3,h4⟩:=Oa H t ty ht hi hz hsz hpos hby hzs (id:=id) (g':=g+1) hid (xs:=xs) (ys:=ys) (fun V=>by
   rw[hl]; exact⟨g+1,false,xs++ys,rfl,gh _,fun hf=>by omega⟩) (base:=base) (cap:=cap) hsr (.inr ⟨g,hl,Nat.lt_succ_self _,h1⟩)
   (by simpa[ñ] using hok)
  cases e;exact⟨_,w',V,h1,zE hid h2,h4,h3,Ô _ _ _⟩
 ·cases e
def agz {t e:TypeId} {sz:Nat} {x i v:AV} {ux ui:Value} (H:HR ν h w) (ht:P.underlying t=some (.slice e)) (hs:szP P e=some sz)
 (ei:Gw sz h x i some=some v) (hx:VR ν h w x ux) (hi:VR ν h w i ui):iB P ν h w (Instr.indexAt t ux ui) v h:=by
 unfold Gw at ei
 split at ei<;>try (cases ei; done)
 rename_i k n;have hui:ui=.int k n:=hi;subst hui
 have run:∀(a:Addr) (len cap:Nat),0≤n→n<len→(Instr.indexAt t (.slice (some a) len cap) (.int k n)).run P w=.ok (.pointer (some (a.add (n.toNat*sz)))) w:=by
  intro a len cap h0 h1;simp[Instr.indexAt,asIntOf,run_underlying ht,oq hs,h0,h1]
 split at ei
 ·rename_i ty xs
  split at ei<;>try (cases ei; done)
  rename_i hc;simp only[cH,beq_iff_eq,decide_eq_true_eq] at hc;obtain⟨hsz,h0⟩:=hc
  split at ei<;>try (cases ei; done)
  rename_i y hy;cases ei;obtain⟨base,cap,rfl,hsr,hav⟩:=CR.slice_iff.1 hx;have hlt:=(cI.1 hy).1;rcases hsr.2 with h1|⟨b,off,rfl,h1,h2⟩
  ·rw[h1] at hlt; simp at hlt
  ·obtain⟨us,h3,h4⟩:=h2 _ y hy;refine iB.still H (run _ _ _ h0 (by omega)) ?_;rcases hav with hav|hav
   ·rw[hav] at hlt; simp at hlt
   ·exact⟨b,off+n.toNat*ty.size,us,by rw[Ś,hsz]; rfl,hav b off rfl,h1,h3,h4⟩
 ·rename_i id g
  split at ei<;>try (cases ei; done)
  rename_i ty g' fz xs hl
  split at ei<;>try (cases ei; done)
  rename_i hc;simp only[cH,beq_iff_eq] at hc;obtain⟨rfl,hsz⟩:=hc
  split at ei<;>try (cases ei; done)
  rename_i hn;simp only[cH,decide_eq_true_eq] at hn;cases ei;obtain⟨ho,t2,g2,fz2,xs2,hl2,hle,hv2⟩:=hx;rw[hl] at hl2; cases hl2;obtain⟨base,cap,h1,h2,_,h3⟩:=H.row_data hl
  have hux:ux=.slice base xs.length cap:=by rw[hv2 rfl,h1]
  subst hux;rcases h3 with h3|⟨b,off,rfl,h3,_,_⟩
  ·rw[h3] at hn; simp at hn; omega
  ·refine iB.still H (run _ _ _ hn.1 hn.2) ?_;refine⟨rfl,ty,g,fz,xs,hl,cG _,fun _=>⟨by omega,b,off,cap,h1,?_⟩⟩;rw[Ś,hsz]; rfl
 ·rename_i id g lo m
  split at ei<;>try (cases ei; done)
  rename_i ty g' fz xs hl
  split at ei<;>try (cases ei; done)
  rename_i hc;simp only[cH,beq_iff_eq] at hc;obtain⟨rfl,hsz⟩:=hc
  split at ei<;>try (cases ei; done)
  rename_i hn;simp only[cH,decide_eq_true_eq] at hn;cases ei;obtain⟨ho,t2,g2,fz2,xs2,hl2,hle,hv2⟩:=hx;rw[hl] at hl2; cases hl2;obtain⟨base,cap,h1,h2,_,h3⟩:=H.row_data hl;obtain⟨hlen,base',cap',hν,hvv⟩:=hv2 rfl
  rw[h1] at hν; injection hν with q1 q2 q3; subst q1; subst q3
  rcases h3 with h3|⟨b,off,rfl,h3,_,_⟩
  ·rw[h3] at hlen; simp at hlen; omega
  ·have hne:¬cap=lo:=by omega
   rw[if_neg hne] at hvv;simp only[dK,Ś] at hvv;subst hvv;refine iB.still H (run _ _ _ hn.1 hn.2) ?_;refine⟨rfl,ty,g,fz,xs,hl,cG _,fun _=>⟨by omega,b,off,cap,h1,?_⟩⟩;rw[Ś,←hsz]
   have:off+lo*ty.size+n.toNat*ty.size=off+(lo+n.toNat)*ty.size:=by rw[dk]; omega
   rw[this]; rfl
 ·rename_i id g
  split at ei<;>try (cases ei; done)
  rename_i k2 g' xss hl
  split at ei<;>try (cases ei; done)
  rename_i hc;simp only[cH,beq_iff_eq] at hc;obtain⟨rfl,hsz⟩:=hc;obtain rfl:=cQ hsz
  split at ei<;>try (cases ei; done)
  rename_i hn;simp only[cH,decide_eq_true_eq] at hn;cases ei;obtain⟨ho,k3,g2,xss2,hl2,hle,hv2⟩:=hx;rw[hl] at hl2; cases hl2;obtain⟨us,hν⟩:=hv2 rfl;obtain⟨base,cap,us',h1,h2,_,h3,_⟩:=H.table hl;rw[hν] at h1;have q:=nR h1
  injection q with q1 q2
  subst q1 q2;rcases h3 with⟨rfl,h3⟩|⟨b,off,c,e',rfl,_⟩
  ·omega
  ·refine iB.still H (run _ _ _ hn.1 hn.2) ?_;refine⟨rfl,k2,g,xss,hl,cG _,fun _=>⟨by omega,us,b,off,_,cap,hν,?_⟩⟩;rw[Ś,fV]
 ·rename_i id g i0
  split at ei<;>try (cases ei; done)
  rename_i k2 g' xss hl
  split at ei<;>try (cases ei; done)
  rename_i hc;simp only[cH,beq_iff_eq] at hc;obtain⟨rfl,hsz⟩:=hc;obtain rfl:=cQ hsz
  split at ei<;>try (cases ei; done)
  rename_i xs hxs
  split at ei<;>try (cases ei; done)
  rename_i hn;simp only[cH,decide_eq_true_eq] at hn;cases ei;obtain⟨ho,k3,g2,xss2,hl2,hle,hv2⟩:=hx;rw[hl] at hl2; cases hl2;obtain⟨u0,us,hν,hu⟩:=hv2 rfl;obtain⟨base,cap,us',h1,h2,_,_,h3⟩:=H.table hl;rw[hν] at h1;have q:=nR h1
  injection q with q1 q2
  subst q2;obtain⟨base2,cap2,rfl,hc2,h4⟩:=h3.get2 hxs hu;rcases h4 with⟨rfl,h4⟩|⟨b,off,c,e',rfl,_⟩
  ·omega
  ·refine iB.still H (run _ _ _ hn.1 hn.2) ?_;refine⟨rfl,k2,g,xss,hl,cG _,fun _=>⟨u0,us,b,off,_,cap2,hν,hu,by omega,?_⟩⟩;rw[Ś,fV]
 ·cases ei
def qU {b:Nat} {es:Array MapEntry} {c:Nat} (hb:w.heap[b]?=some (.map es c)):(getObj b).run P w=.ok (.map es c) w:=by simp[getObj,Sem.run,hb]
def len_ok {t ty:TypeId} {x v:AV} {ux:Value} (H:HR ν h w) (e:agr (P.underlying t) h x some=some v) (hx:VR ν h w x ux) {ts:Array TypeId} (hts:ts[0]?=some t):iB P ν h w (Builtin.len_ ts ty #[ux]) v h:=by
 unfold agr at e;simp only[Lv] at e
 split at e
 ·rename_i el ht
  have run:∀(b:Option Addr) (n c:Nat),(Builtin.len_ ts ty #[.slice b n c]).run P w=.ok (.int .i64 n) w:=fun b n c=>by
   simp[Builtin.len_,hts,run_underlying ht,goInt]
  split at e<;>try (cases e; done)
  ·cases e;obtain⟨base,cap,rfl,_⟩:=CR.slice_iff.1 hx;exact iB.still H (run _ _ _) rfl
  ·cases e;have:ux=.slice none 0 0:=hx;subst this;exact iB.still H (run _ _ _) rfl
  ·split at e<;>try (cases e; done)
   rename_i ty' g' fz xs hl
   split at e<;>try (cases e; done)
   rename_i hgg;cases e;obtain⟨ho,t2,g2,fz2,xs2,hl2,hle,hv2⟩:=hx;rw[hl] at hl2; cases hl2;obtain⟨base,cap,h1,_⟩:=H.row_data hl;rw[hv2 (by simpa using hgg),h1];exact iB.still H (run _ _ _) rfl
  ·split at e<;>try (cases e; done)
   rename_i ty' g' fz xs hl
   split at e<;>try (cases e; done)
   rename_i hgg;cases e;obtain⟨ho,t2,g2,fz2,xs2,hl2,hle,hv2⟩:=hx;rw[hl] at hl2; cases hl2;obtain⟨_,base,cap,_,rfl⟩:=hv2 (by simpa using hgg);exact iB.still H (run _ _ _) rfl
  ·split at e<;>try (cases e; done)
   rename_i k2 g' xss hl
   split at e<;>try (cases e; done)
   rename_i hgg;cases e;obtain⟨ho,k3,g2,xss2,hl2,hle,hv2⟩:=hx;rw[hl] at hl2; cases hl2;obtain⟨us,hν⟩:=hv2 (by simpa using hgg);obtain⟨base,cap,us',h1,_⟩:=H.table hl;rw[hν] at h1;have q:=nR h1
   injection q with q1 q2
   subst q1;exact iB.still H (run _ _ _) rfl
  ·split at e<;>try (cases e; done)
   rename_i k2 g' xss hl
   split at e<;>try (cases e; done)
   rename_i hgg
   split at e<;>try (cases e; done)
   rename_i xs hxs;cases e;obtain⟨ho,k3,g2,xss2,hl2,hle,hv2⟩:=hx;rw[hl] at hl2; cases hl2;obtain⟨u0,us,hν,hu⟩:=hv2 (by simpa using hgg);obtain⟨base,cap,us',h1,h2,_,_,h3⟩:=H.table hl;rw[hν] at h1;have q:=nR h1
   injection q with q1 q2
   subst q2;obtain⟨base2,cap2,rfl,hc2,h4⟩:=h3.get2 hxs hu;exact iB.still H (run _ _ _) rfl
 ·rename_i ht
  split at e<;>try (cases e; done)
  cases e;have:ux=.string _:=hx;subst this;exact iB.still H (by simp[Builtin.len_,hts,run_underlying ht,goInt]) rfl
 ·rename_i k el ht
  split at e<;>try (cases e; done)
  ·cases e;obtain⟨r,hr,h1⟩:=hx;cases hr;rcases h1 with⟨rfl,rfl⟩|⟨b,entries,clock,rfl,_,h2,h3,_⟩
   ·exact iB.still H (by simp[Builtin.len_,hts,run_underlying ht,goInt]) rfl
   ·exact iB.still H (by simp[Builtin.len_,hts,run_underlying ht,goInt,qU h2,h3]) rfl
  ·cases e;have:ux=.map none:=hx;subst this;exact iB.still H (by simp[Builtin.len_,hts,run_underlying ht,goInt]) rfl
  ·split at e<;>try (cases e; done)
   rename_i k' v' es hl;cases e;obtain⟨ho,k2,v2,es2,hl2,hv2⟩:=hx;rw[hl] at hl2; cases hl2;have hB:=H.blk ‹Nat›;rw[hl] at hB;obtain⟨b,entries,clock,h1,h2,h3,_⟩:=hB;rw[hv2,h1];exact iB.still H (by simp[Builtin.len_,hts,run_underlying ht,goInt,qU h2,h3]) rfl
 ·cases e
def Uu {k:IntKind} {n:Int} {y:Nat} {code:BoundsCode} (h0:0≤n) (h1:n≤y) (w:World):(Instr.sliceBound (.int k n) y code).run P w=.ok n.toNat w:=by
 simp[Instr.sliceBound,asIntOf,h0,h1]
def Lo (low:Option Value) (l m:Nat):Prop:=(low=none∧l=0)∨∃k n,low=some (.int k n)∧0≤n∧n≤(m:Int)∧l=n.toNat
def Hi (high:Option Value) (len cap m:Nat):Prop:=(high=none∧m=len)∨∃k n,high=some (.int k n)∧0≤n∧n≤(cap:Int)∧m=n.toNat
def zr {t e:TypeId} {sz:Nat} (ht:P.underlying t=some (.slice e)) (hs:szP P e=some sz) {low high:Option Value} {a:Option Addr} {len cap l m:Nat} (hl:Lo low l m) (hh:Hi high len cap m) (w:World) :
 (Instr.sliceAt t (.slice a len cap) low high none).run P w=.ok (.slice (if cap=l then a else a.map (·.add (l*sz))) (m-l) (cap-l)) w:=by
 rcases hl with⟨rfl,rfl⟩|⟨k,n,rfl,h1,h2,rfl⟩<;>rcases hh with⟨rfl,rfl⟩|⟨k',n',rfl,h3,h4,rfl⟩ <;>
  simp[Instr.sliceAt,run_underlying ht,Instr.slice,Instr.sliceBounds,oq hs,Uu, *]
 rw[Uu h1 h2]; rfl
def afV {t e:TypeId} {sz:Nat} {x v:AV} {lo hi:Option AV} {ulo uhi:Option Value} {ux:Value} {eat:Bool} (H:HR ν h w) (ht:P.underlying t=some (.slice e)) (hs:szP P e=some sz)
 (ei:s8 sz h x lo hi eat (fun v h=>some (v,h))=some (v,h')) (hx:VR ν h w x ux)
 (hlo:∀a,lo=some a→∃u,ulo=some u∧VR ν h w a u) (hlo':lo=none→ulo=none) (hhi:∀a,hi=some a→∃u,uhi=some u∧VR ν h w a u) (hhi':hi=none→uhi=none) :
 iB P ν h w (Instr.sliceAt t ux ulo uhi none) v h':=by
 have lo1:∀{k:IntKind} {n:Int} {m:Nat},lo=some (.int k n)→0≤n→n≤(m:Int)→Lo ulo n.toNat m:=fun e h0 h1=>by
  obtain⟨u,h2,h3⟩:=hlo _ e;have:u=_:=h3;subst this;exact .inr ⟨_,_,h2,h0,h1,rfl⟩
 have hi1:∀{k:IntKind} {n:Int} {len cap:Nat},hi=some (.int k n)→0≤n→n≤(cap:Int)→Hi uhi len cap n.toNat:=fun e h0 h1=>by
  obtain⟨u,h2,h3⟩:=hhi _ e;have:u=_:=h3;subst this;exact .inr ⟨_,_,h2,h0,h1,rfl⟩
 unfold s8 at ei
 split at ei
 ·rename_i ty xs
  split at ei<;>try (cases ei; done)
  rename_i hsz
  have hsz:ty.size=sz:=by simpa using hsz
  obtain⟨base,cap,rfl,hsr,_⟩:=CR.slice_iff.1 hx
  have fin:∀(l m:Nat),Lo ulo l m→Hi uhi xs.length cap m→l≤m→m≤xs.length→iB P ν h w (Instr.sliceAt t (.slice base xs.length cap) ulo uhi none) (.slc ty ((xs.drop l).take (m-l))) h:=fun l m hl hm h1 h2=>by
   refine iB.still H (zr ht hs hl hm w) ?_;rw[←hsz];exact CR.part hx h1 h2
  have hcap:=hsr.1
  split at ei<;>try (cases ei; done)
  ·split at ei<;>try (cases ei; done)
   rename_i hb;simp only[cH,decide_eq_true_eq] at hb;cases ei;have:=fin _ _ (lo1 rfl hb.1 (by omega)) (hi1 rfl (by omega) (by omega)) (by omega) (by omega)
   rw[show ∀a b:Int,0≤a→a≤b→(b-a).toNat=b.toNat-a.toNat from fun a b _ _=>by omega]<;>first|exact this|omega
  ·split at ei<;>try (cases ei; done)
   rename_i hb;simp only[cH,decide_eq_true_eq] at hb;cases ei;have:=fin _ xs.length (lo1 rfl hb.1 (by omega)) (.inl ⟨hhi' rfl,rfl⟩) (by omega) (cG _)
   rwa [dS (by simp)] at this
  ·split at ei<;>try (cases ei; done)
   rename_i hb;simp only[cH,decide_eq_true_eq] at hb;cases ei;have:=fin 0 _ (.inl ⟨hlo' rfl,rfl⟩) (hi1 rfl (by omega) (by omega)) (dR _) (by omega);simpa using this
  ·cases ei;have:=fin 0 xs.length (.inl ⟨hlo' rfl,rfl⟩) (.inl ⟨hhi' rfl,rfl⟩) (dR _) (cG _);simpa using this
 ·have hux:ux=.slice none 0 0:=hx;subst hux
  split at ei<;>try (cases ei; done)
  ·split at ei<;>try (cases ei; done)
   rename_i hb;simp only[decide_eq_true_eq] at hb;cases ei;subst hb;refine iB.still H (zr ht hs (.inl ⟨hlo' rfl,rfl⟩) (hi1 rfl (by omega) (by omega)) w) ?_;simp; rfl
  ·cases ei;refine iB.still H (zr ht hs (l:=0) (m:=0) (.inl ⟨hlo' rfl,rfl⟩) (.inl ⟨hhi' rfl,rfl⟩) w) ?_;simp; rfl
 ·rename_i id g
  split at ei<;>try (cases ei; done)
  rename_i ty g' fz xs hl
  split at ei<;>try (cases ei; done)
  rename_i hc;simp only[cH,beq_iff_eq] at hc;obtain⟨rfl,hsz⟩:=hc;obtain⟨ho,t2,g2,fz2,xs2,hl2,hle,hv2⟩:=hx;rw[hl] at hl2; cases hl2;obtain⟨base,cap,h1,h2,h3,h4⟩:=H.row_data hl
  have hux:ux=.slice base xs.length cap:=by rw[hv2 rfl,h1]
  subst hux
  split at ei
  ·-- the cut replaces the row
   split at ei<;>try (cases ei; done)
   have hid:id<h.length:=Ζ hl (by simp)
   have eats:∀(l m:Nat),Lo ulo l m→Hi uhi xs.length cap m→l≤m→m≤xs.length→iB P ν h w (Instr.sliceAt t (.slice base xs.length cap) ulo uhi none) (.own id (g+1)) (ø h id (.row ty (g+1) false ((xs.drop l).take (m-l)))):=fun l m hlo hhi hlm hm=>by
    have hB:=H.blk id;rw[hl] at hB;obtain⟨base',cap',q1,_,q2⟩:=hB
    rw[h1] at q1; injection q1 with e1 e2 e3; subst e1; subst e3
    have hlen:((xs.drop l).take (m-l)).length=m-l:=by simp; omega
    have hblk:∀b,ŋ (Value.slice (if cap=l then base else base.map (·.add (l*sz))) (m-l) (cap-l)) b→ŋ (ν id) b:=fun b hb=>by
     rw[h1]
     cases base with
     |none=>split at hb<;>cases hb
     |some a =>
      split at hb
      ·exact hb
      ·have:(a.add (l*sz)).block=a.block:=by unfold Addr.add; split<;>rfl
       simp only[ŋ,lU,dK,Option.some.injEq] at hb ⊢;rw[←hb,this]
    have hkeep:∀b,b<w.heap.size→((lkB h id).live=true→¬ŋ (ν id) b)→w.heap[b]?=w.heap[b]?:=fun _ _ _=>rfl
    have hV:(Blk.row ty (g+1) false ((xs.drop l).take (m-l))).live=true→∀b,ŋ (Value.slice (if cap=l then base else base.map (·.add (l*sz))) (m-l) (cap-l)) b→((lkB h id).live=true∧ŋ (ν id) b)∨w.heap.size≤b :=
     fun _ b hb=>.inl ⟨by rw[hl]; rfl,hblk b hb⟩
    have ev:=Ev.upd H (B:=.row ty (g+1) false ((xs.drop l).take (m-l))) (V:=.slice (if cap=l then base else base.map (·.add (l*sz))) (m-l) (cap-l)) (w':=w) hid rfl rfl rfl (cG _) hkeep hV (by
     rw[hl]; exact⟨g+1,false,_,rfl,gh _,fun hf=>by omega⟩)
    refine⟨_,w,_,zr ht hs hlo hhi w,zE hid rfl,HR.upd H hid ev hkeep hV ⟨_,cap-l,by rw[Ó,hlen],by rw[hlen]; omega,?_⟩,ev,Ô _ _ _⟩;rcases q2 with⟨rfl,rfl⟩|⟨b,off,c,e',rfl,q3,q4,q5⟩
    ·left; exact⟨by split<;>rfl,by omega⟩
    ·right
     by_cases hcl:cap=l
     ·refine⟨b,off,c,e',by rw[if_pos hcl],q3,by rw[hcl,gX,Nat.zero_mul]; omega,fun i x hx=>?_⟩;have:=(cI.1 hx).1;rw[hlen] at this; omega
     ·refine⟨b,off+l*ty.size,c,e',by rw[if_neg hcl]; simp[Ś,hsz],q3,?_,fun i x hx=>?_⟩
      ·have:(cap-l)*ty.size=cap*ty.size-l*ty.size:=Nat.sub_mul _ _ _;have h5:l*ty.size≤cap*ty.size:=dm _ (by omega);omega
      ·have hx':xs[l+i]?=some x:=by
        rw[dZ] at hx
        split at hx
        ·simpa using hx
        ·cases hx
       obtain⟨us,q6,q7⟩:=q5 (l+i) x hx';refine⟨us,CR.keep ev.keepA q6,?_⟩
       have:off+l*ty.size+i*ty.size=off+(l+i)*ty.size:=by rw[dk]; omega
       rw[this]; exact q7
   split at ei<;>try (cases ei; done)
   ·split at ei<;>try (cases ei; done)
    rename_i hb;simp only[cH,decide_eq_true_eq] at hb;cases ei;have:=eats _ xs.length (lo1 rfl hb.1 (by omega)) (.inl ⟨hhi' rfl,rfl⟩) (by omega) (cG _)
    rwa [dS (by simp)] at this
   ·split at ei<;>try (cases ei; done)
    rename_i hb;simp only[cH,decide_eq_true_eq] at hb;cases ei;have:=eats 0 _ (.inl ⟨hlo' rfl,rfl⟩) (hi1 rfl (by omega) (by omega)) (dR _) (by omega);simpa using this
  ·have fin:∀(l m:Nat),Lo ulo l m→Hi uhi xs.length cap m→l≤m→m≤xs.length→iB P ν h w (Instr.sliceAt t (.slice base xs.length cap) ulo uhi none) (.sub id g l (m-l)) h:=fun l m hlo hhi hlm hm=>by
    refine iB.still H (zr ht hs hlo hhi w) ?_;refine⟨rfl,ty,g,fz,xs,hl,cG _,fun _=>⟨by omega,base,cap,h1,by rw[hsz]⟩⟩
   split at ei<;>try (cases ei; done)
   ·split at ei<;>try (cases ei; done)
    rename_i hb;simp only[cH,decide_eq_true_eq] at hb;cases ei;have:=fin _ _ (lo1 rfl hb.1 (by omega)) (hi1 rfl (by omega) (by omega)) (by omega) (by omega)
    rw[show ∀a b:Int,0≤a→a≤b→(b-a).toNat=b.toNat-a.toNat from fun a b _ _=>by omega]<;>first|exact this|omega
   ·split at ei<;>try (cases ei; done)
    rename_i hb;simp only[cH,decide_eq_true_eq] at hb;cases ei;exact fin _ xs.length (lo1 rfl hb.1 (by omega)) (.inl ⟨hhi' rfl,rfl⟩) (by omega) (cG _)
   ·split at ei<;>try (cases ei; done)
    rename_i hb;simp only[cH,decide_eq_true_eq] at hb;cases ei;have:=fin 0 _ (.inl ⟨hlo' rfl,rfl⟩) (hi1 rfl (by omega) (by omega)) (dR _) (by omega);simpa using this
 ·cases ei
def aiQ (H:HR ν h w) {id g lo n:Nat} {ty:Ty} {xs:List (Val ty)} {u:Value} (hl:lkB h id=.row ty g false xs) (hn:lo+n=xs.length) (hv:VR ν h w (.sub id g lo n) u) :
 ∃ν',VR ν' (ø h id (.row ty (g+1) false (xs.drop lo))) w (.own id (g+1)) u∧HR ν' (ø h id (.row ty (g+1) false (xs.drop lo))) w∧Ev h.length ν h w ν' (ø h id (.row ty (g+1) false (xs.drop lo))) w:=by
 obtain⟨ho,t2,g2,fz2,xs2,hl2,hle,hv2⟩:=hv;rw[hl] at hl2; cases hl2;obtain⟨_,base,cap,h1,hu⟩:=hv2 rfl;have hid:id<h.length:=Ζ hl (by simp);have hB:=H.blk id;rw[hl] at hB;obtain⟨base',cap',q1,qc,q2⟩:=hB
 rw[h1] at q1; injection q1 with e1 e2 e3; subst e1; subst e3
 have hlen:(xs.drop lo).length=n:=by simp; omega
 have hblk:∀b,ŋ u b→ŋ (ν id) b:=fun b hb=>by
  rw[h1];rw[hu] at hb
  cases base with
  |none=>split at hb<;>cases hb
  |some a =>
   split at hb
   ·exact hb
   ·have:(a.add (lo*ty.size)).block=a.block:=by unfold Addr.add; split<;>rfl
    simp only[ŋ,lU,dK,Option.some.injEq] at hb ⊢;rw[←hb,this]
 have hkeep:∀b,b<w.heap.size→((lkB h id).live=true→¬ŋ (ν id) b)→w.heap[b]?=w.heap[b]?:=fun _ _ _=>rfl
 have hV:(Blk.row ty (g+1) false (xs.drop lo)).live=true→∀b,ŋ u b→((lkB h id).live=true∧ŋ (ν id) b)∨w.heap.size≤b :=
  fun _ b hb=>.inl ⟨by rw[hl]; rfl,hblk b hb⟩
 have ev:=Ev.upd H (B:=.row ty (g+1) false (xs.drop lo)) (V:=u) (w':=w) hid rfl rfl rfl (cG _) hkeep hV (by
  rw[hl]; exact⟨g+1,false,_,rfl,gh _,fun hf=>by omega⟩)
 refine⟨_,zE hid ho,HR.upd H hid ev hkeep hV ⟨_,cap-lo,by rw[Ó,hlen,hu],by rw[hlen]; omega,?_⟩,ev⟩;rcases q2 with⟨rfl,rfl⟩|⟨b,off,c,e',rfl,q3,q4,q5⟩
 ·left; exact⟨by split<;>rfl,by omega⟩
 ·right
  by_cases hcl:cap=lo
  ·refine⟨b,off,c,e',by rw[if_pos hcl],q3,by rw[hcl,gX,Nat.zero_mul]; omega,fun i x hx=>?_⟩;have:=(cI.1 hx).1;rw[hlen] at this; omega
  ·refine⟨b,off+lo*ty.size,c,e',by rw[if_neg hcl]; simp[Ś],q3,?_,fun i x hx=>?_⟩
   ·have:(cap-lo)*ty.size=cap*ty.size-lo*ty.size:=Nat.sub_mul _ _ _;have h5:lo*ty.size≤cap*ty.size:=dm _ (by omega);omega
   ·have hx':xs[lo+i]?=some x:=by simpa using hx
    obtain⟨us,q6,q7⟩:=q5 (lo+i) x hx';refine⟨us,CR.keep ev.keepA q6,?_⟩
    have:off+lo*ty.size+i*ty.size=off+(lo+i)*ty.size:=by rw[dk]; omega
    rw[this]; exact q7
end
end Go.Am
end

noncomputable section
namespace Go.Am
variable [Ghost]
section
variable {ν ν':Nat→Value} {h h':List Blk} {w w':World} {P:Program}
def Ol {z:Array Value} {n i:Nat} (hi:i<n):((Builtin.zeroCells z n).toList.drop (i*z.size)).take z.size=z.toList:=by
 have hb:i*z.size+z.size≤n*z.size:=by
  have:=dm z.size (show i+1≤n from hi)
  rwa [dk,fm] at this
 apply List.ext_getElem?
 intro j;rw[dZ]
 split
 ·rename_i hj;rw[eo];simp only[Builtin.zeroCells,fY,Array.toList_range,ff];rw[f0 (by omega)];simp only[dK]
  have hm:(i*z.size+j) % z.size=j:=by rw[Nat.mul_comm,Nat.mul_add_mod]; exact Nat.mod_eq_of_lt hj
  rw[hm];simp[getElem!_pos,hj]
 ·rename_i hj;rw[List.getElem?_eq_none]; simpa using hj
def Xq {e:TypeId} {t:Ty} {i:TypeInfo} {z:Value} {zs:List AV} {x:Val t} {av:Nat→Prop} (hi:P.info? e=some i) (hz:i.zero=some z)
 (h1:(((P.info? e).bind (·.zero)).map cv).bind Ů=some zs) (h2:Û t zs=some x) (H:HR ν h w) (hav:∀b,av b→Av ν h b):CR w av t x z.cells.toList:=by
 simp only[hi,hz,eD,dK] at h1;have:=(Y0 (ν:=ν) (h:=h) (w:=w) z).cells h1;exact CR.mono hav (ģ h2 (this.mono fun _ _ hx=>VR1.data hx.1))
def KR {t:Ty} {x:Val t} {z:Array Value} {av:Nat→Prop} (hz:z.size=t.size) (hx:CR w av t x z.toList) (n:Nat):Cr w av t (List.replicate n x) (Builtin.zeroCells z n).toList:=by
 refine⟨by simp[Builtin.zeroCells,hz],fun i y hi=>?_⟩
 have hlt:i<n:=by simpa using(cI.1 hi).1
 rw[gP,if_pos hlt] at hi;cases hi;rw[←hz,Ol hlt];exact hx
def EY {n:Nat} (h:0<n):Builtin.nextslicecap n 0=n:=by simp[Builtin.nextslicecap]; omega
def Zq {n:Int} (h1 : -9223372036854775808≤n) (h2:n≤9223372036854775807):IntKind.i64.wrap n=n:=by
 have e:IntKind.i64.wrap n=if n % 18446744073709551616≥9223372036854775808 then n % 18446744073709551616-18446744073709551616 else n % 18446744073709551616:=by
  simp[IntKind.wrap,IntKind.bits,IntKind.signed]
 rw[e]
 split<;>omega
def afI {nid:Nat} {t t' ty:TypeId} {k:IntKind} {s x v:AV} {us ux:Value} (H:HR ν h w) (hn:nid<h.length) (hd:lkB h nid=.dead) (ht':P.underlying t'=some (.int k))
 (e:I0 P h nid t s x (fun v h=>some (v,h))=some (v,h')) (hs:VR ν h w s us) (hx:VR ν h w x ux):iB P ν h w (Builtin.append_ #[t,t'] ty #[us,ux]) v h':=by
 unfold I0 at e
 split at e<;>try (cases e; done)
 rename_i n el hel
 split at e<;>try (cases e; done)
 rename_i ety hety
 split at e<;>try (cases e; done)
 rename_i hrow;obtain⟨i,z,hi,hsz,hpos,hby,hz,hzs⟩:=mz hrow
 split at e<;>try (cases e; done)
 rename_i zs hzz
 split at e<;>try (cases e; done)
 rename_i zv hzv
 split at e<;>try (cases e; done)
 rename_i hok;cases e;have ht:=kG hel;have hus:us=.slice none 0 0:=hs;have hux:ux=.int .i64 n:=hx;subst hus hux;simp only[cH,decide_eq_true_eq,ñ] at hok;have hzc:=Xq hi hz hzz hzv H (av:=Av ν h) fun _ hb=>hb;have hr:=KR (by rw[hzs]) hzc n.toNat;have hw:IntKind.i64.wrap n=n:=Zq (by omega) (by omega);have hge:=grownCap_ge w n.toNat 0 el
 have hnew:=Ho (w':=w.drew.alloc (.cells ((Builtin.zeroCells z.cells n.toNat)++Builtin.zeroCells z.cells (grownCap w n.toNat 0 el-n.toNat)) el)) H (id:=nid) (g':=0) (xs':=List.replicate n.toNat zv) (cap':=grownCap w n.toNat 0 el) hn
  (fun V=>by rw[hd]; trivial) rfl rfl rfl rfl (by simpa using hge) (by
   simp only[gQ,size_zeroCells,hzs,←dk]
   apply dm; omega) hr (fun j v hj=>by
    have hj':(Builtin.zeroCells z.cells n.toNat)[j]?=some v:=by simpa using hj
    rw[fq,if_pos (eP.1 hj').1]; exact hj')
 rw[fp] at hnew;refine⟨_,_,_,?_,zE hn rfl,hnew.2,hnew.1,Ô _ _ _⟩
 have hb:n.toNat*i.bytes≤140737488355328:=by
  have:=fW hok.2 hby;omega
 have h48:¬(281474976710656:Int)<n*(i.bytes:Int):=by
  have:((n.toNat*i.bytes:Nat):Int)=n*i.bytes:=by
   rw[gY,Int.toNat_of_nonneg (by omega)]
  omega
 have h48':¬(281474976710656<Builtin.nextslicecap n.toNat 0*i.bytes):=by rw[EY (by omega)]; omega
 have h0:¬n<0:=by omega
 have h1:n.toNat≠0:=by omega
 have hm:IntKind.i64.max=9223372036854775807:=rfl
 have h63:¬(9223372036854775807:Int)<(n.toNat:Int):=by omega
 have hsz0:¬i.size=0:=by omega
 simp[Builtin.append_,run_underlying ht,run_underlying ht',sizeOf,typeInfo,zeroValue,hi,hz,asInt,asIntOf,hw,h0,h48,h48',h1,hm,h63,hsz0,Builtin.firstCells,Question.forced,newRow,grownCap];rw[if_neg (by omega),if_neg (by omega),if_neg (Nat.mul_ne_zero h1 hsz0)]
def U7 {nid:Nat} {t el:TypeId} {k:IntKind} {n:Int} {ety:Ty} {zs:List AV} {zv:Val ety} (H:HR ν h w) (hn:nid<h.length) (hd:lkB h nid=.dead) (hel:IG P t=some el)
 (hrow:JG P el ety.size=true) (hzz:(((P.info? el).bind (·.zero)).map cv).bind Ů=some zs) (hzv:Û ety zs=some zv) (h0:0≤n) (hok:n.toNat≤4294967296) :
 iB P ν h w (Instr.makeSlice t (.int k n) (.int k n)) (.own nid 0) (ø h nid (.row ety 0 false (List.replicate n.toNat zv))):=by
 obtain⟨i,z,hi,hsz,hpos,hby,hz,hzs⟩:=mz hrow;have ht:=kG hel;have hzc:=Xq hi hz hzz hzv H (av:=Av ν h) fun _ hb=>hb;have hr:=KR (by rw[hzs]) hzc n.toNat;have hw:IntKind.i64.wrap n=n:=Zq (by omega) (by omega)
 have hnew:=Ho (w':=w.alloc (.cells (Builtin.zeroCells z.cells n.toNat) el)) H (id:=nid) (g':=0) (xs':=List.replicate n.toNat zv) (cap':=n.toNat) hn
  (fun V=>by rw[hd]; trivial) rfl rfl rfl rfl (by simp) (by simp[size_zeroCells,hzs]) hr (fun j v hj=>by simpa using hj)
 rw[fp] at hnew;refine⟨_,_,_,?_,zE hn rfl,hnew.2,hnew.1,Ô _ _ _⟩
 have h48:¬(281474976710656:Int)<(i.bytes:Int)*n:=by
  have hb:n.toNat*i.bytes≤140737488355328:=by
   have:=fW hok hby;omega
  have:((n.toNat*i.bytes:Nat):Int)=i.bytes*n:=by
   rw[gY,Int.toNat_of_nonneg h0,fZ]
  omega
 have h0':¬n<0:=by omega
 by_cases hn0:n.toNat*i.size=0
 ·have hnn:n.toNat=0:=by
   rcases Nat.mul_eq_zero.1 hn0 with h|h
   ·exact h
   ·omega
  have hn00:n=0:=by omega
  subst hn00;simp[Instr.makeSlice,run_underlying ht,sizeOf,typeInfo,zeroValue,hi,hz,asInt,asIntOf,hw,newRow,Builtin.zeroCells];congr 2;apply fe;simp[Array.toList_range]
 ·have hsz':z.cells.size=i.size:=by rw[hzs,hsz]
  simp[Instr.makeSlice,run_underlying ht,sizeOf,typeInfo,zeroValue,hi,hz,asInt,asIntOf,hw,h0',h48,newRow,Builtin.zeroCells,hsz',hn0]
def Ua:∀(h:List Blk) (id:Nat),ø h id (lkB h id)=h
 |[],_=>rfl
 |_::_,0=>rfl
 |x::h,id+1=>by simp[ø,lkB,Ua h id]
def agS {t ty:TypeId} {ts:Array TypeId} (hts:ts[0]?=some t) {x:AV} {ux:Value} (H:HR ν h w) (e:JB P h t x some=some h') (hun:(P.underlying t).isSome=true) (hx:VR ν h w x ux) :
 iB P ν h w (Builtin.clear_ ts ty #[ux]) (.tup []) h':=by
 obtain⟨d,hd⟩:=Option.isSome_iff_exists.1 hun;unfold JB at e
 split at e
 ·cases e;have:ux=.slice none 0 0:=hx;subst this;refine iB.still H (u:=.tuple #[]) ?_ ⟨#[],rfl,trivial⟩
  cases d<;>simp[Builtin.clear_,hts,run_underlying hd]
 ·rename_i id g lo n el hel;have ht:=kG hel
  split at e<;>try (cases e; done)
  rename_i zs hzz
  split at e<;>try (cases e; done)
  rename_i ety g' xs hl
  split at e<;>try (cases e; done)
  rename_i hgg
  split at e<;>try (cases e; done)
  rename_i zv hzv;cases e
  have hge:g=g':=by simpa using hgg
  subst hge;obtain⟨ho,t2,g2,fz2,xs2,hl2,hle,hv2⟩:=hx;rw[hl] at hl2; cases hl2;obtain⟨hlen,base,cap,hν,hvv⟩:=hv2 rfl;have hB:=H.blk id;rw[hl] at hB;obtain⟨base',cap',q1,q0,q2⟩:=hB
  rw[hν] at q1; injection q1 with e1 e2 e3; subst e1; subst e3
  by_cases hn0:n=0
  ·-- nothing to clear
   subst hn0
   have hsame:xs.take lo++List.replicate 0 zv++xs.drop (lo+0)=xs:=by simp
   rw[hsame];have hid:id<h.length:=Ζ hl (by simp)
   have hupd:ø h id (.row ety g false xs)=h:=by rw[←hl]; exact Ua h id
   rw[hupd];refine iB.still H (u:=.tuple #[]) ?_ ⟨#[],rfl,trivial⟩;rw[hvv];generalize (if cap=lo then base else Option.map (fun x=>x.add (lo*ety.size)) base)=bb;generalize cap-lo=cc
   cases bb<;>(simp only[Builtin.clear_,hts]; simp[run_underlying ht])
  rcases q2 with⟨rfl,rfl⟩|⟨b,off,c,e',rfl,q3,q4,q5⟩
  ·omega
  have hne:¬cap=lo:=by omega
  rw[if_neg hne] at hvv;simp only[dK,Ś] at hvv
  cases hi:P.info? el with
  |none=>simp[hi] at hzz
  |some i =>
  cases hz:i.zero with
  |none=>simp[hi,hz] at hzz
  |some z =>
  have hzc:=Xq hi hz hzz hzv H (av:=Av ν h) fun _ hb=>hb
  have hzs:z.cells.size=ety.size:=by simpa using hzc.length
  have hrow:=KR (by rw[hzs]) hzc n
  have hone:∀v∈(Builtin.zeroCells z.cells n).toList,v.oneCell'=true:=by
   intro v hv;obtain⟨j,hj⟩:=List.mem_iff_getElem?.1 hv;simp only[Builtin.zeroCells,fY,Array.toList_range,ff] at hj
   have hjl:j<n*z.cells.size:=by
    cases h1:(List.range (n*z.cells.size))[j]? with
    |none=>simp[h1] at hj
    |some q=>simpa using(cI.1 h1).1
   rw[f0 hjl] at hj;simp only[dK,Option.some.injEq] at hj
   have hpos:0<z.cells.size:=by
    rcases fo z.cells.size with h0|h0
    ·rw[h0] at hjl; simp at hjl
    ·exact h0
   have hm:=Nat.mod_lt j hpos;refine CR.oneCell hzc v ?_;rw[←hj,getElem!_pos z.cells (j % z.cells.size) hm];simp
  have hcl:(Builtin.zeroCells z.cells n).toList.length=n*ety.size:=by simp[Builtin.zeroCells,hzs]
  have hln:lo*ety.size+n*ety.size≤cap*ety.size:=by rw[←dk]; exact dm _ (by omega)
  have hfit:off+lo*ety.size+(Builtin.zeroCells z.cells n).toList.length≤c.size:=by rw[hcl]; omega
  have hst:=run_storeCells_at P b (off+lo*ety.size) e' (Builtin.zeroCells z.cells n).toList 0 c w q3 (by simpa using hfit) hone;simp only[fL] at hst
  have hlen':(xs.take lo++List.replicate n zv++xs.drop (lo+n)).length=xs.length:=by simp; omega
  obtain⟨ev,hr⟩:=Re H (xs':=xs.take lo++List.replicate n zv++xs.drop (lo+n)) (g':=g) (o':=off) (cap':=cap)
   (c':=(c.toList.take (off+lo*ety.size)++(Builtin.zeroCells z.cells n).toList++c.toList.drop (off+lo*ety.size+(Builtin.zeroCells z.cells n).toList.length)).toArray) hl (by rw[hν]; rfl) q3
   (by rw[hlen']; omega) (by simp only[eS,cJ,cZ,gC,fi]; omega) (.inr ⟨rfl,by rw[hlen',hν],hlen'⟩) (fun j y hj=>by
    have hget:=fun k=>qR c.toList (Builtin.zeroCells z.cells n).toList (off+lo*ety.size) k (by simpa using hfit);have hj2:=qR xs (List.replicate n zv) lo j (by simpa using hlen);rw[fp] at hj2;rw[hj2] at hj
    have old:∀(y:Val ety),xs[j]?=some y→(j<lo∨lo+n≤j)→∃us,CR w (Av ν h) ety y us∧∀(k:Nat) (v:Value),us[k]?=some v→(c.toList.take (off+lo*ety.size)++(Builtin.zeroCells z.cells n).toList++c.toList.drop (off+lo*ety.size+(Builtin.zeroCells z.cells n).toList.length)).toArray[off+j*ety.size+k]?=some v:=fun y hy hjj=>by
     obtain⟨us,q6,q7⟩:=q5 j y hy;refine⟨us,q6,fun k v hk=>?_⟩
     have hkl:k<ety.size:=by rw[←q6.length]; exact(cI.1 hk).1
     have:=q7 k v hk;simp only[World.cell?,q3] at this;rw[d9,hget,hcl];rcases hjj with hjj|hjj
     ·have h5:=dm ety.size (show j+1≤lo from hjj);rw[dk,fm] at h5;rw[if_pos (by omega)];simpa using this
     ·have h5:=dm ety.size hjj;rw[dk] at h5;rw[if_neg (by omega),if_neg (by omega)];simpa using this
    split at hj
    ·exact old y hj (.inl ‹_›)
    ·split at hj
     ·rename_i h1 h2;obtain⟨us,q6,q7⟩:=hrow.cells (c:=(Builtin.zeroCells z.cells n)) (o:=0) (fun k v hk=>by simpa using hk) (j-lo) y (by simpa using hj);refine⟨us,q6,fun k v hk=>?_⟩
      have hkl:k<ety.size:=by rw[←q6.length]; exact(cI.1 hk).1
      have h7:=q7 k v hk
      have h5:j*ety.size=lo*ety.size+(j-lo)*ety.size:=by rw[←dk]; congr 1; omega
      have h6:=dm ety.size (show j-lo+1≤n by omega);rw[dk,fm] at h6;rw[d9,hget,hcl,if_neg (by omega),if_pos (by omega)];rw[show off+j*ety.size+k-(off+lo*ety.size)=0+(j-lo)*ety.size+k by omega];simpa using h7
     ·exact old y hj (.inr (by omega)))
  have hvs:ö ν id (.slice (some ⟨b,off,none⟩) (xs.take lo++List.replicate n zv++xs.drop (lo+n)).length cap)=ν:=by rw[hlen',←hν,oo]
  rw[hvs] at ev hr;refine⟨ν,_,.tuple #[],?_,⟨#[],rfl,trivial⟩,hr,ev,Ô _ _ _⟩;rw[hvv];obtain⟨m,rfl⟩:∃m,n=m+1:=⟨n-1,by omega⟩;simp only[Builtin.clear_,hts];simp[run_underlying ht,zeroValue,typeInfo,hi,hz,hst]
 ·cases e
def box_ok {nid:Nat} {x:AV} {ux:Value} {cs:List AV} {el:TypeId} (H:HR ν h w) (hn:nid<h.length) (hd:lkB h nid=.dead) (hc:Ů x=some cs) (hx:VR ν h w x ux) :
 iB P ν h w (Instr.box el ux) (.box nid 0) (ø h nid (.cells cs)):=by
 have hcs:=hx.cells hc
 obtain⟨ev,hr⟩:=Ev.new (w':=w.alloc (.cells ux.cells el)) (o:=.cells ux.cells el) H (id:=nid) (B:=.cells cs) (V:=.pointer (some ⟨w.heap.size,0,none⟩)) hn hd rfl rfl rfl rfl (fun b hb=>by cases hb; rfl) fun ev =>
  ⟨w.heap.size,ux.cells,el,Ó _ _ _,heap_alloc_new w _,hcs.mono fun _ _=>VRc.ev ev⟩
 refine⟨_,_,.pointer (some ⟨w.heap.size,0,none⟩),?_,⟨cs,w.heap.size,ã _ hn,Ó _ _ _,rfl⟩,hr,ev,Ô _ _ _⟩;simp[Instr.box,newVar,newRow]
def ai3 {x:AV} {ux:Value} {cs:List AV} {el:TypeId} {ty:Ty} {y:Val ty} (H:HR ν h w) (hc:Ů x=some cs) (hy:Û ty cs=some y) (hx:VR ν h w x ux) :
 iB P ν h w (Instr.box el ux) (.eptr ty y 0) h:=by
 have hcs:=hx.cells hc;have e0:(w.alloc (.cells ux.cells el)).heap=w.heap.push (.cells ux.cells el):=rfl;have hG:=H.grow (w':=w.alloc (.cells ux.cells el)) (fun b hb=>by rw[e0]; simp[eE,fB hb]) (by rw[e0]; simp) rfl rfl rfl h.length;refine⟨ν,_,.pointer (some ⟨w.heap.size,0,none⟩),?_,⟨w.heap.size,0,ux.cells.toList,rfl,fun hb=>absurd (H.ltA hb) (Nat.lt_irrefl _),by rw[e0]; simp,?_,?_⟩,hG.2,hG.1,rfl⟩
 ·simp[Instr.box,newVar,newRow]
 ·exact CR.keep hG.1.keepA (ģ hy (hcs.mono fun _ _ hu=>hu.1.data))
 ·exact CellsAt.of_cells (heap_alloc_new w _)
def aha {nid:Nat} {z:AV} {cs:List AV} {el:TypeId} (H:HR ν h w) (hn:nid<h.length) (hd:lkB h nid=.dead) (hz:((P.info? el).bind (·.zero)).map cv=some z) (hc:Ů z=some cs) :
 iB P ν h w (Instr.alloc el true (.tuple #[])) (.box nid 0) (ø h nid (.cells cs)):=by
 cases hi:P.info? el with
 |none=>simp[hi] at hz
 |some i =>
  cases hzo:i.zero with
  |none=>simp[hi,hzo] at hz
  |some zv =>
   simp only[hi,hzo,eD,dK,Option.some.injEq] at hz;subst hz;have hcs:=(Y0 (ν:=ν) (h:=h) (w:=w) zv).cells hc
   obtain⟨ev,hr⟩:=Ev.new (w':=w.alloc (.cells zv.cells el)) (o:=.cells zv.cells el) H (id:=nid) (B:=.cells cs) (V:=.pointer (some ⟨w.heap.size,0,none⟩)) hn hd rfl rfl rfl rfl (fun b hb=>by cases hb; rfl) fun ev =>
    ⟨w.heap.size,zv.cells,el,Ó _ _ _,heap_alloc_new w _,hcs.mono fun _ _=>VRc.ev ev⟩
   refine⟨_,_,.pointer (some ⟨w.heap.size,0,none⟩),?_,⟨cs,w.heap.size,ã _ hn,Ó _ _ _,rfl⟩,hr,ev,Ô _ _ _⟩;simp[Instr.alloc,zeroValue,typeInfo,hi,hzo,newVar,newRow]
def abA {nid:Nat} {t:TypeId} (k v:Ty) (H:HR ν h w) (hn:nid<h.length) (hd:lkB h nid=.dead):iB P ν h w (Instr.makeMap t none) (.omp nid) (ø h nid (.map k v [])):=by
 obtain⟨ev,hr⟩:=Ev.new (w':=w.alloc (.map #[] 0)) (o:=.map #[] 0) H (id:=nid) (B:=.map k v []) (V:=.map (some w.heap.size)) hn hd rfl rfl rfl rfl (fun b hb=>by cases hb; rfl) fun ev =>
  ⟨w.heap.size,#[],0,Ó _ _ _,heap_alloc_new w _,rfl,fun i e hi=>by simp at hi⟩
 refine⟨_,_,.map (some w.heap.size),?_,⟨rfl,k,v,[],ã _ hn,(Ó _ _ _).symm⟩,hr,ev,Ô _ _ _⟩;simp[Instr.makeMap]
end
end Go.Am
end

noncomputable section
namespace Go.Am
variable [Ghost]
section
variable {ν ν':Nat→Value} {h h':List Blk} {w w':World} {P:Program}
def Nz (off:Nat):∀(vs:List Value) (k:Nat) (cells:Array Value),off+k+vs.length≤cells.size →
 ((vs.zipIdx k).foldl (fun cs (p:Value×Nat)=>cs.setIfInBounds (off+p.2) p.1) cells).toList=cells.toList.take (off+k)++vs++cells.toList.drop (off+k+vs.length)
 |[],k,cells,_=>by simp
 |v::vs,k,cells,hl=>by
  simp only[cW] at hl;have ih:=Nz off vs (k+1) (cells.setIfInBounds (off+k) v) (by simp; omega);simp only[List.zipIdx_cons,gg,ih,Array.toList_setIfInBounds]
  have hlt:off+k<cells.toList.length:=by simp; omega
  have h1:(cells.toList.set (off+k) v).take (off+(k+1))=cells.toList.take (off+k)++[v]:=by
   rw[show off+(k+1)=off+k+1 by omega,List.take_add_one];rw[List.take_set_of_le (by omega),List.getElem?_set_self hlt]; rfl
  have h2:(cells.toList.set (off+k) v).drop (off+(k+1)+vs.length)=cells.toList.drop (off+k+(v::vs).length):=by
   rw[List.drop_set_of_lt (by omega)];simp only[cW];congr 1; omega
  rw[h1,h2];simp
def AR {place:Nat→Option (Nat×Nat)} {cells:Array Value} {i:Nat} {v:Value} {rest:List (Nat×Value)} {off size:Nat} (hp:place i=some (off,size)) (hs:v.cells.size=size) (hf:off+size≤cells.size) :
 Instr.fill place cells ((i,v)::rest)=Instr.fill place (cells.toList.take off++v.cells.toList++cells.toList.drop (off+size)).toArray rest:=by
 have h0:¬(v.cells.size≠size∨off+v.cells.size>cells.size):=by omega
 have h1:=Nz off v.cells.toList 0 cells (by simp; omega);simp only[Instr.fill,hp];rw[if_neg (by simpa using h0)];congr 1;apply fe;simp only[fL,fi,hs] at h1;rw[←h1,←Array.foldl_toList,Array.toList_zipIdx]
def aay {fs:Array Field} {places:Nat→Option (Nat×Nat)} (hp:∀i f n,fs[i]?=some f→szP P f.type=some n→places i=some (f.offset,n)) :
 ∀(ps:List (Nat×AV)) (us:List (Nat×Value)) (cs cs':List AV) (c:Array Value),aeu P fs ps cs=some cs'→Ă (fun a b=>a.1=b.1∧VR ν h w a.2 b.2) ps us→Ă (VRc ν h w) cs c.toList →
  ∃c',Instr.fill places c us=some c'∧Ă (VRc ν h w) cs' c'.toList
 |[],[],cs,cs',c,e,_,hc=>by cases e; exact⟨c,rfl,hc⟩
 |[],_::_,_,_,_,_,hu,_=>hu.elim
 |_::_,[],_,_,_,_,hu,_=>hu.elim
 |(i,v)::ps,(j,u)::us,cs,cs',c,e,hu,hc=>by
  obtain⟨⟨hij,hvu⟩,hu⟩:=hu;simp only at hij; subst hij;simp only[aeu] at e
  split at e<;>try (cases e; done)
  rename_i f hf
  split at e<;>try (cases e; done)
  rename_i vs hvs
  split at e<;>try (cases e; done)
  rename_i hs
  split at e<;>try (cases e; done)
  rename_i cs1 hset;obtain⟨rfl,h2⟩:=vy hset;have hcs:=hvu.cells hvs;have hsz:=IK hvu hvs;have hl:=hc.length;simp at hl
  have hs:szP P f.type=some vs.length:=by simpa using hs
  rw[AR (hp i f _ hf hs) hsz (by omega)];exact aay hp ps us _ cs' _ e hu (((hc.take _).append hcs).append (hc.drop _))
def QL {sz:Nat} {places:Nat→Option (Nat×Nat)} (hp:∀i,places i=some (i*sz,sz)) :
 ∀(ps:List (Nat×AV)) (us:List (Nat×Value)) (cs cs':List AV) (c:Array Value),NF sz ps cs=some cs'→Ă (fun a b=>a.1=b.1∧VR ν h w a.2 b.2) ps us→Ă (VRc ν h w) cs c.toList →
  ∃c',Instr.fill places c us=some c'∧Ă (VRc ν h w) cs' c'.toList
 |[],[],cs,cs',c,e,_,hc=>by cases e; exact⟨c,rfl,hc⟩
 |[],_::_,_,_,_,_,hu,_=>hu.elim
 |_::_,[],_,_,_,_,hu,_=>hu.elim
 |(i,v)::ps,(j,u)::us,cs,cs',c,e,hu,hc=>by
  obtain⟨⟨hij,hvu⟩,hu⟩:=hu;simp only at hij; subst hij;simp only[NF] at e
  split at e<;>try (cases e; done)
  rename_i vs hvs
  split at e<;>try (cases e; done)
  rename_i hs
  split at e<;>try (cases e; done)
  rename_i cs1 hset;obtain⟨rfl,h2⟩:=vy hset;have hcs:=hvu.cells hvs;have hsz:=IK hvu hvs;have hl:=hc.length;simp at hl
  have hs:vs.length=sz:=by simpa using hs
  subst hs;rw[AR (hp i) hsz (by omega)];exact QL hp ps us _ cs' _ e hu (((hc.take _).append hcs).append (hc.drop _))
def EK {S:St} {a:Act} (H:Sim ν S a w):∀(ps:List (Nat×Operand)),Ă (fun(x:Nat×AV) (y:Nat×Value)=>x.1=y.1∧VR ν S.h w x.2 y.2) (ps.map fun p=>(p.1,ev S.t p.2)) (ps.map fun p=>(p.1,a.eval p.2))
 |[]=>trivial
 |p::ps=>⟨⟨rfl,ř H p.2⟩,EK H ps⟩
def Cu (w:World):∀(fs:List Field),fs.all (fun f=>(P.info? f.type).isSome)=true →
 ∃l:List (Nat×Nat),(fs.mapM (m:=Sem) fun(f:Field)=>do pure (f.offset,←sizeOf f.type)).run P w=.ok l w∧∀(i:Nat),l[i]?=(fs[i]?).bind fun(f:Field)=>(szP P f.type).map fun n=>(f.offset,n)
 |[],_=>⟨[],rfl,fun i=>by simp⟩
 |f::fs,ha=>by
  simp only[fC,cH] at ha;obtain⟨i,hi⟩:=gL.1 ha.1;obtain⟨l,h1,h2⟩:=Cu w fs ha.2
  have hs:szP P f.type=some i.size:=by simp[szP,hi]
  refine⟨(f.offset,i.size)::l,?_,fun j=>?_⟩
  ·simp only[List.mapM_cons,Sem.run_bind,oq hs,Result.andThen_ok,Sem.run_pure];rw[h1]; rfl
  ·cases j with
   |zero=>simp[hs]
   |succ j=>simpa using h2 j
def PL {S:St} {a:Act} {t:TypeId} {fs:Array Field} {ps:Array (Nat×Operand)} {z:AV} {zs cs:List AV} (H:Sim ν S a w) (ht:P.underlying t=some (.struct fs)) (hfs:fs.toList.all (fun f=>(P.info? f.type).isSome)=true)
 (hz:((P.info? t).bind (·.zero)).map cv=some z) (hzs:Ů z=some zs) (hf:aeu P fs (ps.toList.map fun p=>(p.1,ev S.t p.2)) zs=some cs) :
 iB P ν S.h w (Instr.build t (ps.map fun(i,x)=>(i,a.eval x))) (.agg cs) S.h:=by
 cases hi:P.info? t with
 |none=>simp[hi] at hz
 |some i =>
 cases hzo:i.zero with
 |none=>simp[hi,hzo] at hz
 |some zv =>
 simp only[hi,hzo,eD,dK,Option.some.injEq] at hz;subst hz;have hc:=(Y0 (ν:=ν) (h:=S.h) (w:=w) zv).cells hzs;obtain⟨l,hl1,hl2⟩:=Cu (P:=P) w fs.toList hfs
 obtain⟨c',h1,h2⟩:=aay (ν:=ν) (h:=S.h) (w:=w) (P:=P) (fs:=fs) (places:=fun j=>l[j]?) (fun j f n hj hn=>by
  show l[j]?=_
  rw[hl2 j]; simp only[gu]; rw[hj]; simp[hn]) _ _ zs cs zv.cells hf (EK H ps.toList) hc
 refine iB.still H.heap (u:=.agg c') ?_ ⟨c',rfl,h2⟩
 have hm:(fs.mapM (m:=Sem) fun f=>do pure (f.offset,←sizeOf f.type)).run P w=.ok l.toArray w:=by
  rw[Array.mapM_eq_mapM_toList,Sem.run_map,hl1]; rfl
 have hp:(ps.map fun(x:Nat×Operand)=>(x.1,a.eval x.2)).toList=ps.toList.map fun p=>(p.1,a.eval p.2):=by simp
 simp only[Instr.build,Sem.run_bind,zeroValue,typeInfo,run_program,Result.andThen_ok,hi,hzo,Sem.run_pure,run_underlying ht];rw[hm];simp only[Result.andThen_ok]
 have h1':Instr.fill (fun x=>l.toArray[x]?) zv.cells (ps.map fun(x:Nat×Operand)=>(x.1,a.eval x.2)).toList=some c':=by
  rw[hp]; simpa using h1
 erw [h1']
 rfl
end
end Go.Am
end

noncomputable section
namespace Go.Am
variable [Ghost]
section
variable {ν ν':Nat→Value} {h h':List Blk} {w w':World} {P:Program}
def Za {S:St} {a:Act} {t e:TypeId} {n sz:Nat} {ps:Array (Nat×Operand)} {z:AV} {zs cs:List AV} (H:Sim ν S a w) (ht:P.underlying t=some (.array n e)) (hs:szP P e=some sz)
 (hz:((P.info? t).bind (·.zero)).map cv=some z) (hzs:Ů z=some zs) (hf:NF sz (ps.toList.map fun p=>(p.1,ev S.t p.2)) zs=some cs) :
 iB P ν S.h w (Instr.build t (ps.map fun(i,x)=>(i,a.eval x))) (.agg cs) S.h:=by
 cases hi:P.info? t with
 |none=>simp[hi] at hz
 |some i =>
 cases hzo:i.zero with
 |none=>simp[hi,hzo] at hz
 |some zv =>
 simp only[hi,hzo,eD,dK,Option.some.injEq] at hz;subst hz;have hc:=(Y0 (ν:=ν) (h:=S.h) (w:=w) zv).cells hzs;obtain⟨c',h1,h2⟩:=QL (ν:=ν) (h:=S.h) (w:=w) (sz:=sz) (places:=fun j=>some (j*sz,sz)) (fun j=>rfl) _ _ zs cs zv.cells hf (EK H ps.toList) hc;refine iB.still H.heap (u:=.agg c') ?_ ⟨c',rfl,h2⟩
 have hp:(ps.map fun(x:Nat×Operand)=>(x.1,a.eval x.2)).toList=ps.toList.map fun p=>(p.1,a.eval p.2):=by simp
 simp only[Instr.build,Sem.run_bind,zeroValue,typeInfo,run_program,Result.andThen_ok,hi,hzo,Sem.run_pure,run_underlying ht,oq hs]
 have h1':Instr.fill (fun j=>some (j*sz,sz)) zv.cells (ps.map fun(x:Nat×Operand)=>(x.1,a.eval x.2)).toList=some c':=by rw[hp]; exact h1
 erw [h1']
 rfl
def adf {t:TypeId} {agg:Bool} {n o:Nat} {cs ds:List AV} {v:AV} {us:Array Value} (H:HR ν h w) (hl:ldP P t=some (agg,n)) (hg:Oi cs o n=some ds) (hm:mkv agg ds=some v) (hc:Ă (VRc ν h w) cs us.toList) :
 iB P ν h w (part t us o) v h:=by
 obtain⟨d,hd,rfl,hs⟩:=Tk hl;obtain⟨h1,h2⟩:=pP hg
 have hds:Ă (VRc ν h w) ds ((us.toList.drop o).take n):=by rw[h1]; exact(hc.drop o).take n
 obtain⟨h3,h4⟩:=ahx hm hds;refine iB.still H ?_ h3;unfold part;simp only[Sem.run_bind,zu hd,Result.andThen_ok]
 cases hagg:Oj d with
 |true =>
  simp only[if_true,Sem.run_bind,oq hs,Result.andThen_ok,Sem.run_pure,Xi];congr 2;apply fe;rw[Array.toList_extract,List.extract_eq_take_drop];congr 1; omega
 |false =>
  have hn:n=1:=by rw[←h2]; exact h4 hagg
  subst hn;simp only[Xi]
  cases hu:us.toList.drop o with
  |nil=>rw[hu] at hds; have:=hds.length; rw[h2] at this; simp at this
  |cons u rest =>
   have hget:us[o]?=some u:=by
    have:=congrArg (fun l=>l[0]?) hu;simpa using this
   simp[hget]
def agE {t:TypeId} {f:Nat} {fs:Array Field} {fd:Field} {agg:Bool} {n:Nat} {cs ds:List AV} {v:AV} {ux:Value} (H:HR ν h w) (ht:P.underlying t=some (.struct fs)) (hf:fs[f]?=some fd)
 (hl:ldP P fd.type=some (agg,n)) (hg:Oi cs fd.offset n=some ds) (hm:mkv agg ds=some v) (hx:VR ν h w (.agg cs) ux):iB P ν h w (Instr.field t ux f) v h:=by
 obtain⟨us,rfl,hc⟩:=hx;obtain⟨ν',w',u,h1,h2⟩:=adf (P:=P) H hl hg hm hc;refine⟨ν',w',u,?_,h2⟩;simp only[Instr.field,Sem.run_bind,run_underlying ht,Result.andThen_ok,hf,asAgg,Sem.run_pure];exact h1
def YL {t e:TypeId} {n m:Nat} {k:IntKind} {j:Int} {agg:Bool} {cs ds:List AV} {v:AV} {ux:Value} (H:HR ν h w) (ht:P.underlying t=some (.array n e))
 (hj:0≤j∧j<n) (hl:ldP P e=some (agg,m)) (hg:Oi cs (j.toNat*m) m=some ds) (hm:mkv agg ds=some v) (hx:VR ν h w (.agg cs) ux):iB P ν h w (Instr.index t ux (.int k j)) v h:=by
 obtain⟨us,rfl,hc⟩:=hx;obtain⟨ν',w',u,h1,h2⟩:=adf (P:=P) H hl hg hm hc;obtain⟨d,hd,_,hs⟩:=Tk hl;refine⟨ν',w',u,?_,h2⟩;simp only[Instr.index,asIntOf,Sem.run_bind,Sem.run_pure,run_underlying ht,Result.andThen_ok,hj,and_self,if_true,oq hs];exact h1
def shift_ok {x v:AV} {ux:Value} {o:Nat} (e:Ct h x o some=some v) (hx:VR ν h w x ux):∃a,ux=.pointer (some a)∧VR ν h w v (.pointer (some (a.add o))):=by
 unfold Ct at e
 split at e<;>try (cases e; done)
 ·cases e;obtain⟨cs,b,h1,h2,rfl⟩:=hx;exact⟨_,rfl,cs,b,h1,h2,by rw[Ś]⟩
 ·cases e;obtain⟨b,o',us,rfl,h1,h2,h3,h4⟩:=hx;exact⟨_,rfl,b,o',us,by rw[Ś,Nat.add_assoc],h1,h2,h3,h4⟩
 ·split at e<;>try (cases e; done)
  rename_i t g' fz xs hl
  split at e<;>try (cases e; done)
  rename_i hgg;cases e;obtain⟨ho,t2,g2,fz2,xs2,h1,h2,h3⟩:=hx;rw[hl] at h1; cases h1;have hg:=eq_of_beq hgg;subst hg;obtain⟨hi,b,o',cap,h4,rfl⟩:=h3 rfl;exact⟨_,rfl,by rw[Ś]; rfl,_,_,_,_,hl,cG _,fun _=>⟨hi,b,o',cap,h4,by rw[Ś,Nat.add_assoc]⟩⟩
def Wx {t:TypeId} {f:Nat} {fs:Array Field} {fd:Field} {n:Nat} {x v:AV} {ux:Value} (H:HR ν h w) (ht:P.underlying t=some (.struct fs)) (hf:fs[f]?=some fd)
 (hs:szP P fd.type=some (n+1)) (e:Ct h x fd.offset some=some v) (hx:VR ν h w x ux):iB P ν h w (Instr.fieldAt t ux f) v h:=by
 obtain⟨a,rfl,h1⟩:=shift_ok e hx;refine iB.still H ?_ h1;simp[Instr.fieldAt,Instr.sureAddr,run_underlying ht,hf,fieldPlace,oq hs]
def No {t e:TypeId} {n sz id off:Nat} {k:IntKind} {j:Int} {ux:Value} (H:HR ν h w) (ht:P.underlying t=some (.array n e)) (hj:0≤j∧j<n) (hs:szP P e=some sz) (hx:VR ν h w (.box id off) ux) :
 iB P ν h w (Instr.indexAt t ux (.int k j)) (.box id (off+j.toNat*sz)) h:=by
 obtain⟨cs,b,h1,h2,rfl⟩:=hx;refine iB.still H (u:=.pointer (some ⟨b,off+j.toNat*sz,none⟩)) ?_ ⟨cs,b,h1,h2,rfl⟩;simp[Instr.indexAt,Instr.sureAddr,asIntOf,run_underlying ht,oq hs,hj,Ś]
def TZ {k:IntKind} {n:Int} {v:AV} (e:arK k n some=some v):v=.int k (k.wrap n):=by
 unfold arK at e;cases e
 cases k<;>rfl
def Ly {gt:Bool} {f:Value→Value→Sem Value} (hf:∀(k:IntKind) (a b:Int),(f (.int k a) (.int k b)).run P w=.ok (.int k (match gt with|true=>PG a b|false=>aai a b)) w) :
 ∀(l:List AV) (us:List Value) (x v:AV) (ux:Value),nc gt x l some=some v→VR ν h w x ux→Ă (VR ν h w) l us→∃u,(us.foldlM f ux).run P w=.ok u w∧VR ν h w v u
 |[],[],x,v,ux,e,hx,_=>by cases e; exact⟨ux,rfl,hx⟩
 |[],_::_,_,_,_,_,_,hu=>hu.elim
 |_::_,[],_,_,_,_,_,hu=>hu.elim
 |y::l,uy::us,x,v,ux,e,hx,hu=>by
  cases x<;>try (simp[nc] at e; done)
  cases y<;>try (simp[nc] at e; done)
  rename_i k a k' b;simp only[nc] at e
  split at e<;>try (cases e; done)
  rename_i hk _;subst hk
  have key:∀g:Bool,(match g with|true=>nc true (.int k (PG a b)) l some|false=>nc false (.int k (aai a b)) l some)=some v→nc g (.int k (match g with|true=>PG a b|false=>aai a b)) l some=some v:=fun g h=>by cases g<;>exact h
  have e:=key gt e;have h1:ux=.int k a:=hx;have h2:uy=.int k b:=hu.1;subst h1 h2;obtain⟨u,h3,h4⟩:=Ly hf l us _ v _ e (show VR ν h w (.int k _) (.int k _) from rfl) hu.2;refine⟨u,?_,h4⟩;simp only[List.foldlM_cons,Sem.run_bind,hf,Result.andThen_ok];exact h3
end
end Go.Am
end

noncomputable section
namespace Go.Am
variable [Ghost]
section
variable {ν ν':Nat→Value} {h h':List Blk} {w w':World} {P:Program}
def oN {t:TypeId} {k:Ty} (hk:Im P t k=true) :
 (P.underlying t=some .bool∧k=.bool)∨(∃i,P.underlying t=some (.int i)∧k=.int i):=by
 unfold Im at hk
 split at hk<;>try (cases hk; done)
 ·split at hk<;>try (cases hk; done)
  exact .inl ⟨‹_›,rfl⟩
 ·split at hk<;>try (cases hk; done)
  have:=eq_of_beq hk;subst this;exact .inr ⟨_,‹_›,rfl⟩
def keyVal:(k:Ty)→Val k→Value
 |.bool,b=>.bool b
 |.int i,n=>.int i n
 |.str,s=>.string s
 |_,_=>undef
def CR.keyVal {av:Nat→Prop} {t:TypeId} {k:Ty} {x:Val k} {v:Value} (hk:Im P t k=true) (hc:CR w av k x [v]):v=keyVal k x:=by
 rcases oN hk with⟨_,rfl⟩|⟨i,_,rfl⟩
 all_goals
  have:[v]=[_]:=hc;simpa[Am.keyVal] using this
def ad5 {av:Nat→Prop} {t:TypeId} {k:Ty} {x:Val k} (hk:Im P t k=true):CR w av k x [keyVal k x]:=by
 rcases oN hk with⟨_,rfl⟩|⟨i,_,rfl⟩<;>exact(rfl:[_]=[_])
def I8 {t:TypeId} {k:Ty} {x:Val k} {empty:Bool} (hk:Im P t k=true) (m:Nat):(Instr.checkKey empty (m+1) t (keyVal k x)).run P w=.ok () w:=by
 rcases oN hk with⟨h1,rfl⟩|⟨i,h1,rfl⟩<;>simp[Instr.checkKey,run_underlying h1,keyVal]
def Dp {t:TypeId} {k:Ty} (hk:Im P t k=true):∃d,P.underlying t=some d∧∀x y:Val k,Instr.sameNow d (keyVal k x) (keyVal k y)=some (Υ k x y):=by
 rcases oN hk with⟨h1,rfl⟩|⟨i,h1,rfl⟩
 ·exact⟨_,h1,fun _ _=>rfl⟩
 ·refine⟨_,h1,fun x y=>?_⟩;simp only[Instr.sameNow,keyVal,Υ,if_true];congr 1
def Ents (w:World) (av:Nat→Prop) (k v:Ty) (es:List (Val k×Val v)) (entries:List MapEntry):Prop :=
 Ă (fun(e:Val k×Val v) (m:MapEntry)=>m.key=keyVal k e.1∧∃us,CR w av v e.2 us∧m.val=zi v us) es entries
def Iz {d:TypeDesc} {av:Nat→Prop} {k v:Ty} {x:Val k} (hd:∀y,Instr.sameNow d (keyVal k x) (keyVal k y)=some (Υ k x y)):∀(es:List (Val k×Val v)) (ms:List MapEntry) (i:Nat),Ents w av k v es ms →
 (nS x es=none∧Instr.findNow d (keyVal k x) ms i=some none) ∨
 ∃y j us,nS x es=some y∧Instr.findNow d (keyVal k x) ms i=some (some (i+j,zi v us))∧CR w av v y us∧j<es.length∧(∀b,Lw x b es=es.set j (x,b))∧∃e,es[j]?=some e∧Υ k x e.1=true
 |[],[],i,_=>.inl ⟨rfl,rfl⟩
 |[],_::_,_,hE=>hE.elim
 |_::_,[],_,hE=>hE.elim
 |e::es,m::ms,i,hE=>by
  obtain⟨⟨h1,us,h2,h3⟩,hE⟩:=hE;have hs:=hd e.1;rw[←h1] at hs
  cases hk:Υ k x e.1 with
  |true =>
   rw[hk] at hs;exact .inr ⟨e.2,0,us,by simp[nS,hk],by simp[Instr.findNow,hs,h3],h2,by simp,fun b=>by simp[Lw,hk],e,rfl,hk⟩
  |false =>
   rw[hk] at hs;rcases Iz hd es ms (i+1) hE with⟨h4,h5⟩|⟨y,j,us',h4,h5,h6,h7,h8,e',h9,h10⟩
   ·exact .inl ⟨by simp[nS,hk,h4],by simp[Instr.findNow,hs,h5]⟩
   ·refine .inr ⟨y,j+1,us',by simp[nS,hk,h4],by simp[Instr.findNow,hs,h5]; omega,h6,by simp; omega,fun b=>by simp[Lw,hk,h8],e',by simpa using h9,h10⟩
def UY {k v:Ty} {x:Val k} {b:Val v}:∀{es:List (Val k×Val v)},nS x es=none→Lw x b es=es++[(x,b)]
 |[],_=>rfl
 |e::es,hn=>by
  cases hk:Υ k x e.1 with
  |true=>simp[nS,hk] at hn
  |false=>simp only[nS,hk] at hn; simp[Lw,hk,UY hn]
def ents (H:HR ν h w) {t:TypeId} {m:AV} {um:Value} {k v:Ty} {es:List (Val k×Val v)} (hk:Im P t k=true) (hm:VR ν h w m um) (e:Ą h m=.mp k v es) :
 ∃r,um=.map r∧((r=none∧es=[])∨∃b entries clock,r=some b∧w.heap[b]?=some (.map entries clock)∧Ents w (Av ν h) k v es entries.toList):=by
 have fin:∀(entries:Array MapEntry),entries.size=es.length→(∀(i:Nat) (e:Val k×Val v),es[i]?=some e→∃(m:MapEntry) (us:List Value),entries[i]?=some m∧CR w (Av ν h) k e.1 [m.key]∧CR w (Av ν h) v e.2 us∧m.val=zi v us) →
  Ents w (Av ν h) k v es entries.toList:=fun entries hs hE=>by
  refine Ă.of_get (by simpa using hs.symm) fun i a b ha hb=>?_;obtain⟨m,us,h1,h2,h3,h4⟩:=hE i a ha
  have:b=m:=by simp at hb; rw[h1] at hb; exact(Option.some.inj hb).symm
  subst this;exact⟨CR.keyVal hk h2,us,h3,h4⟩
 cases m with
 |mp k' v' es' =>
  simp only[Ą] at e;cases e;obtain⟨r,h1,h2⟩:=hm;refine⟨r,by simpa using h1,?_⟩;rcases h2 with h2|⟨b,entries,clock,h2,_,h3,h4,h5⟩
  ·exact .inl h2
  ·exact .inr ⟨b,entries,clock,h2,h3,fin entries h4 h5⟩
 |omp id =>
  obtain⟨ho,k',v',es',hl,hv⟩:=hm;simp only[Ą,hl] at e;cases e;have hB:=H.blk id;rw[hl] at hB;obtain⟨b,entries,clock,h1,h2,h3,h4⟩:=hB;exact⟨some b,by rw[hv,h1],.inr ⟨b,entries,clock,rfl,h2,fin entries h3 h4⟩⟩
 |own id g=>simp only[Ą] at e; (repeat' split at e)<;>cases e
 |sub id g lo n=>simp only[Ą] at e; (repeat' split at e)<;>cases e
 |_=>simp[Ą] at e
def Hj {t:TypeId} {k:Ty} {i:AV} {ui:Value} {x:Val k} (hk:Im P t k=true) (hi:VR ν h w i ui) (e:Û k [i]=some x):ui=keyVal k x:=by
 rcases oN hk with⟨_,rfl⟩|⟨j,_,rfl⟩
 ·cases i<;>simp[Û,π] at e; subst e; exact hi
 ·cases i<;>try (simp[Û,π] at e; done)
  rename_i j' n;simp only[Û,π] at e
  split at e<;>try (cases e; done)
  rename_i y he
  split at he<;>try (cases he; done)
  rename_i hj _;subst hj; cases he; cases e; exact hi
def adT (ok:Bool) (y:AV) (b:Bool):Option AV:=match ok with|true=>some (.tup [y,.bool b])|false=>some y
def adM {t:TypeId} {m i v:AV} {um ui:Value} {ok:Bool} (H:HR ν h w) (e:vk P h t m i ok some=some v) (hm:VR ν h w m um) (hi:VR ν h w i ui):∃u,(Instr.lookup t um ui ok).run P w=.ok u w∧VR ν h w v u:=by
 unfold vk at e
 split at e<;>try (cases e; done)
 rename_i kt et ht
 split at e<;>try (cases e; done)
 rename_i k v0 z hkt het hz
 cases hin:P.info? et with
 |none=>simp[hin] at hz
 |some info =>
 cases hzo:info.zero with
 |none=>simp[hin,hzo] at hz
 |some zv =>
 simp only[hin,hzo,eD,dK,Option.some.injEq] at hz;subst hz
 -- what the run does, once the search is known
 have run:∀(x:Val k) (r:Option Nat) (ms:List MapEntry),Im P kt k=true→ui=keyVal k x→um=.map r→(r=none∧ms=[]∨∃b entries clock,r=some b∧w.heap[b]?=some (.map entries clock)∧entries.toList=ms) →
  ∀d,P.underlying kt=some d →
  (∀y j,Instr.findNow d (keyVal k x) ms 0=some (some (j,y))→(Instr.lookup t um ui ok).run P w=.ok (if ok then .tuple #[y,.bool true] else y) w) ∧
  (Instr.findNow d (keyVal k x) ms 0=some none→(Instr.lookup t um ui ok).run P w=.ok (if ok then .tuple #[zv,.bool false] else zv) w):=by
  intro x r ms hk hui hum hr d hd;subst hui hum;have hck:=fun em=>I8 (P:=P) (w:=w) (x:=x) (empty:=em) hk 9999;have hck:∀em,(Instr.checkKey em 10000 kt (keyVal k x)).run P w=.ok () w:=hck;rcases hr with⟨rfl,rfl⟩|⟨b,entries,clock,rfl,hb,rfl⟩
  ·constructor
   ·intro y j hf; simp[Instr.findNow] at hf
   ·intro hf;simp only[Instr.lookup,Sem.run_bind,run_underlying ht,Result.andThen_ok,Sem.run_pure,hck];simp[Instr.findKey,run_underlying hd,Instr.findNow,zeroValue,typeInfo,hin,hzo]
  ·constructor
   ·intro y j hf;simp only[Instr.lookup,Sem.run_bind,run_underlying ht,Result.andThen_ok,Sem.run_pure,qU hb,hck];simp[Instr.findKey,run_underlying hd,hf]
   ·intro hf;simp only[Instr.lookup,Sem.run_bind,run_underlying ht,Result.andThen_ok,Sem.run_pure,qU hb,hck];simp[Instr.findKey,run_underlying hd,hf,zeroValue,typeInfo,hin,hzo]
 have vrz:∀{V:AV},adT ok (cv zv) false=some V→VR ν h w V (if ok then .tuple #[zv,.bool false] else zv):=fun {V} hV=>by
  cases ok with
  |false=>cases hV; exact Y0 zv
  |true =>
   cases hV;refine⟨#[zv,.bool false],rfl,?_,rfl,trivial⟩;have:=Y0 (ν:=ν) (h:=h) (w:=w) zv
   cases ht:(cv zv).isTup with
   |true=>exact absurd ht (by rw[aeL]; simp)
   |false=>rwa [zc ht] at this
 split at e<;>try (cases e; done)
 ·rename_i k' v' es hk hsn
  split at e<;>try (cases e; done)
  rename_i heq _;cases heq
  split at e<;>try (cases e; done)
  rename_i x hx;have hux:=Hj hk hi hx;obtain⟨d,hd,hsame⟩:=Dp (P:=P) (t:=kt) (k:=k) hk;obtain⟨r,hum,hr⟩:=ents H hk hm hsn
  have hr':∃ms,Ents w (Av ν h) k v0 es ms∧(r=none∧ms=[]∨∃b entries clock,r=some b∧w.heap[b]?=some (.map entries clock)∧entries.toList=ms):=by
   rcases hr with⟨rfl,rfl⟩|⟨b,entries,clock,rfl,hb,hE⟩
   ·exact⟨[],trivial,.inl ⟨rfl,rfl⟩⟩
   ·exact⟨_,hE,.inr ⟨b,entries,clock,rfl,hb,rfl⟩⟩
  obtain⟨ms,hE,hms⟩:=hr';obtain⟨r1,r2⟩:=run x r ms hk hux hum hms d hd;rcases Iz (hsame x) es ms 0 hE with⟨h4,h5⟩|⟨y,j,us,h4,h5,h6,_⟩
  ·have e':(match (nS x es:Option (Val v0)) with|some y=>adT ok (enc v0 y) true|none=>adT ok (cv zv) false)=some v:=e;rw[h4] at e';exact⟨_,r2 h5,vrz e'⟩
  ·have e':(match (nS x es:Option (Val v0)) with|some y=>adT ok (enc v0 y) true|none=>adT ok (cv zv) false)=some v:=e;rw[h4] at e';refine⟨_,r1 _ _ h5,?_⟩;have hv:=Jz h6
   cases ok with
   |false=>cases e'; exact hv
   |true =>
    cases e';refine⟨#[zi v0 us,.bool true],rfl,?_,rfl,trivial⟩
    have ht:(enc v0 y).isTup=false:=by cases v0<;>rfl
    rwa [zc ht] at hv
 ·rename_i hk hsn
  split at e<;>try (cases e; done)
  rename_i x hx;have hux:=Hj hk hi hx;obtain⟨d,hd,hsame⟩:=Dp (P:=P) (t:=kt) (k:=k) hk
  have hum:um=.map none:=by
   cases m with
   |nilm=>exact hm
   |own id g=>simp only[Ą] at hsn; (repeat' split at hsn)<;>cases hsn
   |sub id g lo n=>simp only[Ą] at hsn; (repeat' split at hsn)<;>cases hsn
   |omp id=>simp only[Ą] at hsn; (repeat' split at hsn)<;>cases hsn
   |_=>simp[Ą] at hsn
  obtain⟨r1,r2⟩:=run x none [] hk hux hum (.inl ⟨rfl,rfl⟩) d hd;exact⟨_,r2 rfl,vrz e⟩
def adL {t:TypeId} {m i v:AV} {um ui:Value} {ok:Bool} (H:HR ν h w) (e:vk P h t m i ok some=some v) (hm:VR ν h w m um) (hi:VR ν h w i ui):iB P ν h w (Instr.lookup t um ui ok) v h:=by
 obtain⟨u,h1,h2⟩:=adM H e hm hi;exact iB.still H h1 h2
def Hm {x:AV} {cs:List AV} (e:Ů (ZD h x)=some cs):∃vs,Ů x=some vs∧cs=vs.map (Ą h):=by
 cases x with
 |agg l=>simp only[ZD,Ů,Option.some.injEq] at e; exact⟨l,rfl,e.symm⟩
 |any=>cases e
 |und=>cases e
 |tup=>cases e
 |own id g =>
  refine⟨_,rfl,?_⟩;simp only[ZD] at e
  have:Ą h (.own id g)=.any∨∃t xs,Ą h (.own id g)=.slc t xs:=by
   simp only[Ą]; (repeat' split)<;>first|exact .inl rfl|exact .inr ⟨_,_,rfl⟩
  rcases this with h1|⟨t,xs,h1⟩<;>rw[h1] at e<;>cases e
  simp[h1]
 |sub id g lo n =>
  refine⟨_,rfl,?_⟩;simp only[ZD] at e
  have:Ą h (.sub id g lo n)=.any∨∃t xs,Ą h (.sub id g lo n)=.slc t xs:=by
   simp only[Ą]; (repeat' split)<;>first|exact .inl rfl|exact .inr ⟨_,_,rfl⟩
  rcases this with h1|⟨t,xs,h1⟩<;>rw[h1] at e<;>cases e
  simp[h1]
 |omp id =>
  refine⟨_,rfl,?_⟩;simp only[ZD] at e
  have:Ą h (.omp id)=.any∨∃k v xs,Ą h (.omp id)=.mp k v xs:=by
   simp only[Ą]; (repeat' split)<;>first|exact .inl rfl|exact .inr ⟨_,_,_,rfl⟩
  rcases this with h1|⟨k,v,xs,h1⟩<;>rw[h1] at e<;>cases e
  simp[h1]
 |_=>cases e; exact⟨_,rfl,rfl⟩
def aat {a:AV} {id:Nat} {k v:Ty} {es:List (Val k×Val v)} (hl:lkB h id=.map k v es):lkB (sw h a) id=.map k v es:=by
 have key:∀(j g:Nat) (t:Ty) (fz:Bool) (xs:List (Val t)),lkB h j=.row t g fz xs→lkB (ø h j (.row t g true xs)) id=.map k v es:=fun j g t fz xs hr=>by
  by_cases hj:id=j
  ·subst hj; rw[hl] at hr; cases hr
  ·rw[Ø _ hj]; exact hl
 cases a<;>try exact hl
 all_goals
  simp only[sw]
  split
  ·exact key _ _ _ _ _ ‹_›
  ·exact hl
def Tu {id:Nat} {k v:Ty} {es:List (Val k×Val v)}:∀(as:List AV) {h:List Blk},lkB h id=.map k v es→lkB (Cm h as) id=.map k v es
 |[],_,hl=>hl
 |a::as,_,hl=>Tu as (aat hl)
def agt {t:TypeId} {k:Ty} (hk:Im P t k=true) {x y:Val k} (e:Υ k x y=true):x=y:=by
 rcases oN hk with⟨_,rfl⟩|⟨j,_,rfl⟩
 ·simpa[Υ] using e
 ·simpa[Υ] using e
def Ut {t:TypeId} {k:Ty} (hk:Im P t k=true) (x:Val k) (m:Nat):Instr.sameBits m (keyVal k x) (keyVal k x)=true:=by
 rcases oN hk with⟨_,rfl⟩|⟨j,_,rfl⟩<;>simp[Instr.sameBits,keyVal]
def Ă.set {α β:Type} {R:α→β→Prop}:∀{l:List α} {m:List β} (i:Nat) {a:α} {b:β},Ă R l m→R a b→Ă R (l.set i a) (m.set i b)
 |[],[],_,_,_,_,_=>trivial
 |_::_,_::_,0,_,_,h,hr=>⟨hr,h.2⟩
 |_::_,_::_,i+1,_,_,h,hr=>⟨h.1,Ă.set i h.2 hr⟩
 |[],_::_,_,_,_,h,_=>h.elim
 |_::_,[],_,_,_,h,_=>h.elim
def U6 {t:TypeId} {m i x:AV} {um ui ux:Value} (H:HR ν h w) (e:mE P h t m i x some=some h') (hm:VR ν h w m um) (hi:VR ν h w i ui) (hx:VR ν h w x ux) :
 ∃w',(Instr.mapUpdate t um ui ux).run P w=.ok () w'∧HR ν h' w'∧Ev h.length ν h w ν h' w'∧h'.length=h.length:=by
 unfold mE at e
 split at e<;>try (cases e; done)
 rename_i kt et ht
 split at e<;>try (cases e; done)
 rename_i id
 split at e<;>try (cases e; done)
 rename_i k v es hl
 split at e<;>try (cases e; done)
 rename_i hc;simp only[cH,beq_iff_eq] at hc;obtain⟨hk,hnm,hagg⟩:=hc
 split at e<;>try (cases e; done)
 rename_i a cs ha hcs
 split at e<;>try (cases e; done)
 rename_i b hb;cases e;obtain⟨vs,hvs,rfl⟩:=Hm hcs;obtain⟨hfe,hfm⟩:=aei hvs h;have hcx:=hx.cells hvs;have hsn:=GC H (hcx.mono fun _ _ q=>q.1) (hfm hnm);obtain⟨e1,H1,hlv⟩:=Ef vs H;rw[hfe];have hl1:=Tu vs hl;have hbc:=ģ hb hsn
 have hval:ux=zi v ux.cells.toList:=by
  unfold zi;rw[←hagg]
  cases x with
  |agg l=>obtain⟨us,rfl,_⟩:=hx; rfl
  |any=>cases hvs
  |und=>cases hvs
  |tup=>cases hvs
  |_ =>
   rw[sr ((hx.one rfl rfl).oneCell hvs)]; rfl
 obtain⟨ho,k2,v2,es2,hl2,hmv⟩:=hm;rw[hl] at hl2; cases hl2;have hB:=H1.blk id;rw[hl1] at hB;obtain⟨bk,entries,clock,h1,h2,h3,h4⟩:=hB;rw[hmv,h1];have hui:=Hj hk hi ha;subst hui
 have hE:Ents w (Av ν (Cm h vs)) k v es entries.toList:=by
  obtain⟨r,q1,q2⟩:=ents H1 (m:=.omp id) (um:=.map (some bk)) (k:=k) (v:=v) (es:=es) hk ⟨rfl,k,v,es,hl1,h1.symm⟩ (by simp only[Ą,hl1]);cases q1;rcases q2 with⟨q2,_⟩|⟨b',en',cl',q2,q3,q4⟩
  ·cases q2
  ·cases q2;rw[h2] at q3;cases q3;exact q4
 obtain⟨d,hd,hsame⟩:=Dp (P:=P) (t:=kt) (k:=k) hk;have hid:id<(Cm h vs).length:=Ζ hl1 (by simp)
 -- the map with other entries
 have fin:∀(entries':Array MapEntry) (clock':Nat) (es':List (Val k×Val v)),Ents w (Av ν (Cm h vs)) k v es' entries'.toList →
  HR ν (ø (Cm h vs) id (.map k v es')) {w with heap:=w.heap.setIfInBounds bk (.map entries' clock')} ∧
  Ev (Cm h vs).length ν (Cm h vs) w ν (ø (Cm h vs) id (.map k v es')) {w with heap:=w.heap.setIfInBounds bk (.map entries' clock')}:=by
  intro entries' clock' es' hE';have hlt:=Ĕ h2
  have hkeep:∀q,q<w.heap.size→((lkB (Cm h vs) id).live=true→¬ŋ (ν id) q)→({w with heap:=w.heap.setIfInBounds bk (.map entries' clock')}:World).heap[q]?=w.heap[q]?:=fun q _ hq=>by
   have:bk≠q:=fun he=>hq (by rw[hl1]; rfl) (by rw[h1,he]; rfl);simp[fH,this]
  have hV:(Blk.map k v es').live=true→∀q,ŋ (ν id) q→((lkB (Cm h vs) id).live=true∧ŋ (ν id) q)∨w.heap.size≤q:=fun _ q hq=>.inl ⟨by rw[hl1]; rfl,hq⟩;have ev:=Ev.upd H1 (B:=.map k v es') (V:=ν id) (w':={w with heap:=w.heap.setIfInBounds bk (.map entries' clock')}) hid rfl rfl rfl (by simp) hkeep hV (by rw[hl1]; exact⟨⟨es',rfl⟩,Ó _ _ _⟩)
  have hr:=HR.upd H1 hid ev hkeep hV ⟨bk,entries',clock',(Ó _ _ _).trans h1,by simp[hlt],by simpa using hE'.length.symm,fun j q hj=>by
   obtain⟨m,q1,q2,us,q3,q4⟩:=hE'.get hj;refine⟨m,us,by simpa using q1,?_,CR.keep ev.keepA q3,q4⟩
   rw[q2]; exact ad5 hk⟩
  rw[oo] at ev hr;exact⟨hr,ev⟩
 have hck:∀em,(Instr.checkKey em 10000 kt (keyVal k a)).run P w=.ok () w:=fun em=>I8 (P:=P) (w:=w) (x:=a) (empty:=em) hk 9999;rcases Iz (hsame a) es entries.toList 0 hE with⟨h5,h6⟩|⟨y,j,us,h5,h6,h7,h8,h9,e',h10,h11⟩
 ·rw[UY h5]
  obtain⟨hr,ev⟩:=fin (entries.push {key:=keyVal k a,val:=ux,born:=clock}) (clock+1) (es++[(a,b)]) (by
   rw[Array.toList_push]
   exact Ă.append hE ⟨⟨rfl,_,hbc,hval⟩,trivial⟩)
  refine⟨_,?_,hr,e1.trans ev (by rw[ix]; exact cG _),by rw[Ô,ix]⟩;simp only[Instr.mapUpdate,Sem.run_bind,run_underlying ht,Result.andThen_ok,qU h2,hck];simp[Instr.findKey,run_underlying hd,h6,setObj,Sem.run,h2]
 ·rw[h9];obtain⟨m,q1,q2,us',q3,q4⟩:=hE.get h10
  have q1':entries[j]?=some m:=by simpa using q1
  obtain⟨hr,ev⟩:=fin (entries.modify j fun e=>{e with key:=keyVal k a,val:=ux}) clock (es.set j (a,b)) (by
   rw[Array.toList_modify]
   have:(entries.toList.modify j fun e=>{e with key:=keyVal k a,val:=ux})=entries.toList.set j {m with key:=keyVal k a,val:=ux}:=by
    apply List.ext_getElem?
    intro q;rw[List.getElem?_modify,fR]
    by_cases hq:j=q
    ·subst hq;have hlt:=(cI.1 q1).1;simp only[if_true,q1,hlt];rfl
    ·simp[hq]
   rw[this]
   exact Ă.set j hE ⟨rfl,_,hbc,hval⟩)
  refine⟨_,?_,hr,e1.trans ev (by rw[ix]; exact cG _),by rw[Ô,ix]⟩
  have hkey:m.key=keyVal k a:=by rw[q2,←agt hk h11]
  simp only[Instr.mapUpdate,Sem.run_bind,run_underlying ht,Result.andThen_ok,qU h2,hck];simp only[dC] at h6;have hsb:Instr.sameBits 10000 (keyVal k a) (keyVal k a)=true:=Ut hk a 10000;simp[Instr.findKey,run_underlying hd,h6,q1',hkey,Instr.keyThatStays,hsb,setObj,Sem.run,h2]
end
end Go.Am
end
