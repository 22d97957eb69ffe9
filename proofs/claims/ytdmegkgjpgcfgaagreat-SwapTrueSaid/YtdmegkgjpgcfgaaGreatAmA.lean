/- lemmas -/
import Derived.CallsIn
import Derived.Lib.SlicesCompact
import Derived.WalkKit
import Derived.Laws.AppendOwn
import Derived.Laws.CopyRow
import Derived.Laws.MakeOwn
set_option linter.all false
set_option linter.unusedSectionVars false
set_option linter.unusedVariables false
set_option linter.unusedSimpArgs false
def cF:=@List.getElem?_eq_getElem
def cG:=@Nat.le_refl
def cH:=@Bool.and_eq_true
def cI:=@List.getElem?_eq_some_iff
def cJ:=@List.length_append
def cM:=@List.mem_append
def cN:=@List.mem_cons
def cO:=@List.mem_of_getElem?
def cP:=@List.mem_singleton
def cQ:=@List.append_assoc
def cR:=@Nat.eq_of_beq_eq_true
def cS:=@List.mem_iff_getElem
def cT:=@Int.toNat_natCast
def cV:=@Bool.false_eq_true
def cW:=@List.length_cons
def cX:=@List.length_eq_zero_iff
def cY:=@Nat.le_trans
def cZ:=@List.length_take
def dc:=@Nat.lt_of_lt_of_le
def df:=@List.mem_map
def dg:=@Nat.lt_or_ge
def dh:=@List.append_nil
def di:=@List.all_eq_true
def dj:=@List.any_eq_true
def dk:=@List.mem_flatMap
def dl:=@Nat.add_mul
def dm:=@List.pairwise_iff_getElem
def dt:=@List.pairwise_cons
def du:=@List.mem_cons_of_mem
def dv:=@Nat.mul_le_mul_right
def dw:=@Nat.zero_add
def dz:=@List.flatMap_cons
def dA:=@List.length_map
def dB:=@Bool.not_true
def dC:=@List.mem_append_right
def dD:=@List.mem_append_left
def dE:=@List.drop_eq_getElem_cons
def dF:=@List.findIdx?_eq_none_iff
def dG:=@List.length_singleton
def dH:=@List.mem_filter
def dI:=@List.findIdx?_eq_some_iff_getElem
def dJ:=@Array.toList_inj
def dK:=@List.prefix_rfl
def dL:=@Option.map_some
def dM:=@List.any_eq_false
def dN:=@List.prefix_append
def dO:=@List.getElem?_take
def dP:=@Int.le_refl
def dQ:=@Nat.zero_le
def dR:=@List.take_append_drop
def dS:=@List.nil_append
def dT:=@List.filter_cons
def dU:=@List.take_of_length_le
def dV:=@List.getElem?_drop
def dW:=@Array.getD_eq_getD_getElem?
def dX:=@List.length_filter_le
def dY:=@List.Nodup.length_le_of_subset
def dZ:=@List.length_nil
def d8:=@List.length_pos_iff
def d9:=@List.getD_eq_getElem?_getD
def ee:=@Bool.not_eq_true'
def eh:=@Bool.eq_false_iff
def ej:=@List.find?_eq_none
def eA:=@Eq.trans
def eD:=@List.getElem?_toArray
def eE:=@List.map_cons
def eF:=@Bool.true_and
def eG:=@List.filter_nil
def eM:=@List.nodup_cons
def eN:=@List.filter_append
def eO:=@Option.bind_some
def eP:=@Array.getElem?_push
def eQ:=@List.getElem?_map
def eR:=@List.prefix_append_right_inj
def eT:=@List.getElem?_append
def eV:=@Array.getElem?_eq_some_iff
def eX:=@List.getElem_take
def eY:=@List.size_toArray
def eZ:=@Nat.le_of_ble_eq_true
def fc:=@List.take_append_of_le_length
def fe:=@List.getElem_mem
def ff:=@Bool.not_eq_false'
def fg:=@Bool.not_false
def fh:=@Array.ext'
def fi:=@List.getElem?_cons_succ
def fj:=@List.map_append
def fk:=@List.length_set
def fm:=@Array.length_toList
def fo:=@List.map_congr_left
def fp:=@List.map_nil
def fq:=@Nat.one_mul
def ft:=@List.cons_append
def fu:=@List.contains_iff_mem
def fw:=@List.length_replicate
def fA:=@List.drop_drop
def fB:=@Array.getElem?_append
def fC:=@List.mem_of_find?_eq_some
def fD:=@Nat.ne_of_lt
def fE:=@Int.mul_le_mul_of_nonneg_right
def fF:=@List.find?_cons
def fG:=@Nat.add_zero
def fH:=@List.getElem?_set
def fI:=@List.all_cons
def fJ:=@Int.eq_ofNat_of_zero_le
def fK:=@List.pairwise_singleton
def fL:=@List.getElem?_cons_zero
def fM:=@List.filter_eq_self
def fN:=@List.flatMap_append
def fO:=@List.mem_range
def fP:=@List.take_length
def fQ:=@Int.natAbs_mul
def fR:=@Array.getElem?_setIfInBounds
def fS:=@Int.natAbs_natCast
def fT:=@List.range_succ
def fU:=@List.getElem?_append_right
def fV:=@List.length_range
def fW:=@List.pairwise_append
def fX:=@List.mem_of_mem_take
def fY:=@Nat.mul_one
def fZ:=@Nat.mul_le_mul
def f0:=@Int.mul_le_mul
def f5:=@Array.toList_map
def f6:=@Option.getD_some
def f7:=@List.not_mem_nil
def f8:=@List.getElem?_range
def f9:=@List.replicate_succ
def gb:=@List.findSome?_cons
def gd:=@Nat.le_mul_of_pos_right
def gg:=@List.foldl_cons
def gh:=@Nat.eq_zero_or_pos
def gi:=@Nat.lt_or_eq_of_le
def gj:=@List.find?_some
def gk:=@List.drop_of_length_le
def gn:=@Int.add_mul
def gq:=@Nat.le_succ
def gu:=@List.nodup_nil
def gw:=@List.set_append_right
def gy:=@Array.getElem?_toList
def gz:=@Int.natCast_succ
def gA:=@BitVec.ofInt_natCast
def gB:=@Bool.or_eq_false_iff
def gC:=@List.length_drop
def gD:=@Int.one_mul
def gE:=@List.drop_set_of_lt
def gF:=@List.append_toArray
def gG:=@List.take_set_of_le
def gH:=@List.take_succ_cons
def gI:=@Bool.eq_iff_iff
def gJ:=@Int.add_zero
def gK:=@Nat.le_of_eq
def gL:=@Option.isSome_iff_exists
def gM:=@Nat.lt_succ_iff_lt_or_eq
def gN:=@Int.mul_nonneg
def gO:=@List.drop_zero
def gP:=@List.all_eq_not_any_not
def gQ:=@List.getElem?_replicate
def gR:=@Array.size_append
def gS:=@List.length_pos_of_mem
def gT:=@List.filter_eq_nil_iff
def gW:=@Bool.and_eq_false_iff
def gX:=@Int.lt_or_le
def gY:=@Int.mul_comm
def gZ:=@Nat.sub_self
def g8:=@Nat.succ_pos
def g9:=@Int.natCast_mul
def hZ:=@Nat.add_comm
noncomputable section
namespace Go.Am
inductive Ty where
 |unit
 |bool
 |int (k:IntKind)
 |str
 |slice (t:Ty)
 |map (k v:Ty)
 |ptr (t:Ty)
 |pair (a b:Ty)
 deriving DecidableEq
@[reducible] def Val:Ty→Type
 |.unit=>Unit
 |.bool=>Bool
 |.int _=>Int
 |.str=>ByteArray
 |.slice t=>List (Val t)
 |.map k v=>List (Val k×Val v)
 |.ptr t=>Val t
 |.pair a b=>Val a×Val b
inductive AV where
 |any
 |und
 |bool (b:Bool)
 |int (k:IntKind) (n:Int)
 |str (s:ByteArray)
 |nils
 |slc (t:Ty) (xs:List (Val t))
 |own (id g:Nat)
 |sub (id g lo n:Nat)
 |nilm
 |mp (k v:Ty) (es:List (Val k×Val v))
 |omp (id:Nat)
 |nilp
 |box (id off:Nat)
 |eptr (t:Ty) (x:Val t) (off:Nat)
 |optr (id g i off:Nat)
 |dp (id g:Nat)
 |dq (id g i:Nat)
 |dr (id g i:Nat)
 |de (id g i j:Nat)
 |nilfn
 |yld
 |fn (f:Fn) (first caps:List AV)
 |agg (cs:List AV)
 |tup (vs:List AV)
inductive Blk where
 |dead
 |cells (cs:List AV)
 |row (t:Ty) (g:Nat) (fz:Bool) (xs:List (Val t))
 |map (k v:Ty) (es:List (Val k×Val v))
 |deep (k:IntKind) (g:Nat) (xss:List (List Int))
 |acc (t:Ty) (xs:List (Val t))
structure St where
 t:List AV
 h:List Blk
def Ty.size:Ty→Nat
 |.unit=>0
 |.pair a b=>a.size+b.size
 |_=>1
def Ty.isAgg:Ty→Bool
 |.unit=>true
 |.pair _ _=>true
 |_=>false
def flat:(t:Ty)→Val t→List AV
 |.unit,_=>[]
 |.bool,b=>[.bool b]
 |.int k,n=>[.int k n]
 |.str,s=>[.str s]
 |.slice t,xs=>[.slc t xs]
 |.map k v,es=>[.mp k v es]
 |.ptr t,x=>[.eptr t x 0]
 |.pair a b,v=>flat a v.1++flat b v.2
def wE {F:Ty→Type} {a b:Ty} (h:a=b) (x:F a):F b:=h▸x
def Ε:(t:Ty)→List AV→Option (Val t×List AV)
 |.unit,l=>some ((),l)
 |.bool,.bool b::l=>some (b,l)
 |.int k,.int k' n::l=>match decEq k' k with
  |isTrue _=>some (n,l)
  |isFalse _=>none
 |.str,.str s::l=>some (s,l)
 |.slice _,.nils::l=>some ([],l)
 |.slice t,.slc t' xs::l=>match decEq t' t with
  |isTrue h=>some (wE (F:=fun t=>List (Val t)) h xs,l)
  |isFalse _=>none
 |.map _ _,.nilm::l=>some ([],l)
 |.map k v,.mp k' v' es::l=>match decEq (Ty.map k' v') (Ty.map k v) with
  |isTrue h=>some (wE (F:=Val) h es,l)
  |isFalse _=>none
 |.ptr t,.eptr t' x 0::l=>match decEq t' t with
  |isTrue h=>some ((wE (F:=Val) h x:Val t),l)
  |isFalse _=>none
 |.pair a b,l=>match Ε a l with
  |some (x,l)=>match Ε b l with
   |some (y,l)=>some ((x,y),l)
   |none=>none
  |none=>none
 |_,_=>none
def Ú (t:Ty) (l:List AV):Option (Val t) :=
 match Ε t l with
 |some (x,[])=>some x
 |_=>none
def enc:(t:Ty)→Val t→AV
 |.unit,_=>.agg []
 |.pair a b,v=>.agg (flat (.pair a b) v)
 |.bool,b=>.bool b
 |.int k,n=>.int k n
 |.str,s=>.str s
 |.slice t,xs=>.slc t xs
 |.map k v,es=>.mp k v es
 |.ptr t,x=>.eptr t x 0
def ś:AV→Option (List AV)
 |.agg cs=>some cs
 |.any=>none
 |.und=>none
 |.tup _=>none
 |v=>some [v]
def lk:List AV→Nat→AV
 |[],_=>.any
 |x::_,0=>x
 |_::xs,n+1=>lk xs n
def upd:List AV→Nat→AV→List AV
 |[],_,_=>[]
 |_::xs,0,v=>v::xs
 |x::xs,n+1,v=>x::upd xs n v
def lkB:List Blk→Nat→Blk
 |[],_=>.dead
 |x::_,0=>x
 |_::xs,n+1=>lkB xs n
def ð:List Blk→Nat→Blk→List Blk
 |[],_,_=>[]
 |_::xs,0,v=>v::xs
 |x::xs,n+1,v=>x::ð xs n v
def NL:List AV→Nat→Nat→Option (List AV)
 |_,0,0=>some []
 |c::cs,0,n+1=>match NL cs 0 n with
  |some l=>some (c::l)
  |none=>none
 |_::cs,o+1,n=>NL cs o n
 |[],_,_=>none
def abQ:List AV→Nat→List AV→Option (List AV)
 |cs,0,[]=>some cs
 |_::cs,0,v::vs=>match abQ cs 0 vs with
  |some l=>some (v::l)
  |none=>none
 |c::cs,o+1,vs=>match abQ cs o vs with
  |some l=>some (c::l)
  |none=>none
 |[],_,_=>none
def cv1:Value→AV
 |.bool b=>.bool b
 |.int k n=>.int k n
 |.string s=>.str s
 |.slice none 0 0=>.nils
 |.map none=>.nilm
 |.pointer none=>.nilp
 |.nilFunc=>.nilfn
 |_=>.any
def cv:Value→AV
 |.agg cs=>match cs.toList.all Value.oneCell' with
  |true=>.agg (cs.toList.map cv1)
  |false=>.any
 |v=>cv1 v
def ev (t:List AV):Operand→AV
 |.tmp i=>lk t i
 |.const v=>cv v
 |.func f=>.fn (.func f) [] []
 |.global _=>.any
def NM:TypeDesc→Bool
 |.struct _=>true
 |.array _ _=>true
 |_=>false
def szP (P:Program) (t:TypeId):Option Nat :=
 match P.info? t with
 |some i=>some i.size
 |none=>none
def ldP (P:Program) (t:TypeId):Option (Bool×Nat) :=
 match P.underlying t with
 |some d=>match szP P t with
  |some n=>some (NM d,n)
  |none=>none
 |none=>none
def mkv (agg:Bool) (cs:List AV):Option AV :=
 match agg with
 |true=>some (.agg cs)
 |false=>match cs with
  |[v]=>some v
  |_=>none
def aia:List Ty→Ty
 |[]=>.unit
 |[t]=>t
 |t::ts=>.pair t (aia ts)
def XP (P:Program):Nat→TypeId→Option Ty
 |0,_=>none
 |n+1,t=>match P.underlying t with
  |some .bool=>some .bool
  |some (.int k)=>some (.int k)
  |some .string=>some .str
  |some (.slice e)=>(XP P n e).map .slice
  |some (.map k e)=>match XP P n k,XP P n e with
   |some a,some b=>some (.map a b)
   |_,_=>none
  |some (.pointer e)=>(XP P n e).map .ptr
  |some (.struct fs)=>(fs.toList.mapM fun f=>XP P n f.type).map aia
  |_=>none
def Ho (P:Program) (t:TypeId):Option TypeId :=
 match P.underlying t with
 |some (.slice e)=>some e
 |_=>none
def Iw (P:Program) (e:TypeId) (n:Nat):Bool :=
 match P.info? e with
 |some i=>i.size==n&&(decide (0<n)&&(decide (i.bytes≤32768)&&match i.zero with
  |some z=>z.cells.size==n
  |none=>false))
 |none=>false
def ÿ (h:List Blk):AV→AV
 |.own id g=>match lkB h id with
  |.row t g' _ xs=>match g==g' with
   |true=>.slc t xs
   |false=>.any
  |_=>.any
 |.sub id g lo n=>match lkB h id with
  |.row t g' _ xs=>match g==g' with
   |true=>.slc t ((xs.drop lo).take n)
   |false=>.any
  |_=>.any
 |.omp id=>match lkB h id with
  |.map k v es=>.mp k v es
  |_=>.any
 |v=>v
def aaa (h:List Blk):AV→AV
 |.agg cs=>.agg (cs.map (ÿ h))
 |v=>ÿ h v
def qG (h:List Blk):AV→List Blk
 |.own id _=>match lkB h id with
  |.row t g _ xs=>ð h id (.row t g true xs)
  |_=>h
 |.sub id _ _ _=>match lkB h id with
  |.row t g _ xs=>ð h id (.row t g true xs)
  |_=>h
 |_=>h
def AC (h:List Blk):List AV→List Blk
 |[]=>h
 |v::vs=>AC (qG h v) vs
def frz (h:List Blk):AV→List Blk
 |.agg cs=>AC h cs
 |v=>qG h v
def Ku:AV→Bool
 |.omp _=>false
 |_=>true
def aec:AV→Bool
 |.agg cs=>cs.all Ku
 |v=>Ku v
def AJ:AV→Bool
 |.bool _=>true
 |.int _ _=>true
 |.str _=>true
 |.nils=>true
 |.nilm=>true
 |.nilp=>true
 |.nilfn=>true
 |_=>false
def plain:AV→Bool
 |.agg cs=>cs.all AJ
 |v=>AJ v
def Kh:AV→Bool
 |.tup vs=>vs.all plain
 |v=>plain v
def wr64 (n:Int):Int:=IntKind.i64.wrap n
def res:IntKind→Int→Int
 |.i64,n=>wr64 n
 |k,n=>k.wrap n
def ê (n:Nat):Bool:=decide (n≤4294967296)
def ž:(t:Ty)→Val t→Val t→Bool
 |.bool,a,b=>a==b
 |.int _,a,b=>decide (a=b)
 |.str,a,b=>a==b
 |_,_,_=>false
def G8 (P:Program) (t:TypeId) (k:Ty):Bool :=
 match P.underlying t with
 |some .bool=>match k with
  |.bool=>true
  |_=>false
 |some (.int i)=>match k with
  |.int j=>i==j
  |_=>false
 |_=>false
def Qm:AV→Bool
 |.agg _=>true
 |_=>false
def l5 {k v:Ty} (x:Val k):List (Val k×Val v)→Option (Val v)
 |[]=>none
 |e::es=>match ž k x e.1 with
  |true=>some e.2
  |false=>l5 x es
def Kx {k v:Ty} (x:Val k) (y:Val v):List (Val k×Val v)→List (Val k×Val v)
 |[]=>[(x,y)]
 |e::es=>match ž k x e.1 with
  |true=>(x,y)::es
  |false=>e::Kx x y es
section
variable {ρ:Type}
def cmpI:BinOp→Int→Int→Option Bool
 |.eql,a,b=>some (a==b)
 |.neq,a,b=>some (a != b)
 |.lss,a,b=>some (decide (a<b))
 |.leq,a,b=>some (decide (a≤b))
 |.gtr,a,b=>some (decide (a>b))
 |.geq,a,b=>some (decide (a≥b))
 |_,_,_=>none
def arI:BinOp→Int→Int→Option Int
 |.add,a,b=>some (a+b)
 |.sub,a,b=>some (a-b)
 |.mul,a,b=>some (a*b)
 |_,_,_=>none
def arK (k:IntKind) (n:Int) (K:AV→Option ρ):Option ρ :=
 K (.int k (res k n))
def eqFs (P:Program) (rec:TypeId→List AV→List AV→Option Bool→Option Bool) (cs ds:List AV):List Field→Option Bool→Option Bool
 |[],rest=>rest
 | f :: fs, rest => match f.name != "_" with
  |false=>eqFs P rec cs ds fs rest
  |true=>match szP P f.type with
   |some n=>match NL cs f.offset n,NL ds f.offset n with
    |some x,some y=>rec f.type x y (eqFs P rec cs ds fs rest)
    |_,_=>none
   |none=>none
def eqIs (P:Program) (rec:TypeId→List AV→List AV→Option Bool→Option Bool) (e:TypeId) (n:Nat) (cs ds:List AV):List Nat→Option Bool→Option Bool
 |[],rest=>rest
 |i::is,rest=>match NL cs (i*n) n,NL ds (i*n) n with
  |some x,some y=>rec e x y (eqIs P rec e n cs ds is rest)
  |_,_=>none
def ajv (P:Program):Nat→TypeId→List AV→List AV→Option Bool→Option Bool
 |0,_,_,_,_=>none
 |n+1,t,cs,ds,rest=>match P.underlying t with
  |some .bool=>match cs,ds with
   |[.bool a],[.bool b]=>match rest with
    |some r=>some ((a==b)&&r)
    |none=>none
   |_,_=>none
  |some (.int _)=>match cs,ds with
   |[.int k a],[.int k' b]=>match decEq k k' with
    |isTrue _=>match rest with
     |some r=>some (decide (a=b)&&r)
     |none=>none
    |isFalse _=>none
   |_,_=>none
  |some (.struct fs)=>match P.stoodInHeld t with
   |false=>eqFs P (ajv P n) cs ds fs.toList rest
   |true=>none
  |some (.array len el)=>match szP P el with
   |some m=>eqIs P (ajv P n) el m cs ds (List.range len) rest
   |none=>none
  |_=>none
def shlI (k:IntKind) (a b:Int):Int:=k.wrap (a*2 ^ (min b.toNat k.bits))
def iC (k:IntKind) (a b:Int):Int:=a.fdiv (2 ^ (min b.toNat k.bits))
def Y7:BinOp→Option Bool
 |.shl=>some true
 |.shr=>some false
 |_=>none
def shK (left:Bool) (k:IntKind) (a b:Int) (K:AV→Option ρ):Option ρ :=
 match decide (0≤b) with
 |true=>match left with
  |true=>K (.int k (shlI k a b))
  |false=>K (.int k (iC k a b))
 |false=>none
def agt (k:IntKind) (f:BitVec k.bits→BitVec k.bits→BitVec k.bits) (a b:Int):Int:=k.wrap (f (BitVec.ofInt k.bits a) (BitVec.ofInt k.bits b)).toNat
def andI (k:IntKind) (a b:Int):Int:=agt k (fun a b=>a &&& b) a b
def orI (k:IntKind) (a b:Int):Int:=agt k (fun a b=>a ||| b) a b
def xorI (k:IntKind) (a b:Int):Int:=agt k (fun a b=>a ^^^ b) a b
def Hz (k:IntKind) (a b:Int):Int:=agt k (fun a b=>a &&& ~~~b) a b
def aggT:Option TypeDesc→Bool
 |some (.struct _)=>true
 |some (.array _ _)=>true
 |_=>false
def binK (P:Program) (op:BinOp) (t:TypeId) (x y:AV) (K:AV→Option ρ):Option ρ :=
 match x,y with
 |.int k a,.int k' b=>match Y7 op with
  |some l=>shK l k a b K
  |none=>match decEq k k' with
   |isFalse _=>none
   |isTrue _=>match cmpI op a b with
    |some r=>K (.bool r)
    |none=>match arI op a b with
     |some r=>arK k r K
     |none=>match op with
      |.quo=>match decide (b=0) with
       |true=>none
       |false=>arK k (a.tdiv b) K
      |.rem=>match decide (b=0) with
       |true=>none
       |false=>K (.int k (a.tmod b))
      |.and=>K (.int k (andI k a b))
      |.or=>K (.int k (orI k a b))
      |.xor=>K (.int k (xorI k a b))
      |.andNot=>K (.int k (Hz k a b))
      |_=>none
 |.bool a,.bool b=>match P.underlying t with
  |some .bool=>match op with
   |.eql=>K (.bool (a==b))
   |.neq=>K (.bool (!(a==b)))
   |_=>none
  |_=>none
 |.str a,.str b=>match op with
  |.eql=>K (.bool (a.toList==b.toList))
  |.neq=>K (.bool (!(a.toList==b.toList)))
  |_=>none
 |.agg cs,.agg ds=>match aggT (P.underlying t) with
  |true=>match P.eqGuardType P.depth t with
   |false=>match ajv P 8 t cs ds (some true) with
    |some r=>match op with
     |.eql=>K (.bool r)
     |.neq=>K (.bool (!r))
     |_=>none
    |none=>none
   |true=>none
  |false=>none
 |_,_=>none
def ab4 (n:Nat):Int:=Classical.choose (⟨(n:Int),rfl⟩:∃z:Int,z=n)
def Kw (n:Nat):ab4 n=n:=Classical.choose_spec (⟨(n:Int),rfl⟩:∃z:Int,z=n)
def ahb (d:Option TypeDesc) (h:List Blk) (x:AV) (K:AV→Option ρ):Option ρ :=
 match d with
 |some (.slice _)=>match x with
  |.slc _ xs=>K (.int .i64 (ab4 xs.length))
  |.nils=>K (.int .i64 0)
  |.own id g=>match lkB h id with
   |.row _ g' _ xs=>match g==g' with
    |true=>K (.int .i64 (ab4 xs.length))
    |false=>none
   |_=>none
  |.sub id g _ n=>match lkB h id with
   |.row _ g' _ _=>match g==g' with
    |true=>K (.int .i64 (ab4 n))
    |false=>none
   |_=>none
  |.dp id g=>match lkB h id with
   |.deep _ g' xss=>match g==g' with
    |true=>K (.int .i64 (ab4 xss.length))
    |false=>none
   |_=>none
  |.dr id g i=>match lkB h id with
   |.deep _ g' xss=>match g==g' with
    |true=>match xss[i]? with
     |some xs=>K (.int .i64 (ab4 xs.length))
     |none=>none
    |false=>none
   |_=>none
  |_=>none
 |some .string=>match x with
  |.str s=>K (.int .i64 (ab4 s.size))
  |_=>none
 |some (.map _ _)=>match x with
  |.mp _ _ es=>K (.int .i64 (ab4 es.length))
  |.nilm=>K (.int .i64 0)
  |.omp id=>match lkB h id with
   |.map _ _ es=>K (.int .i64 (ab4 es.length))
   |_=>none
  |_=>none
 |_=>none
def UL:Nat→Nat→Int→(Nat→Option ρ)→Option ρ
 |0,_,_,_=>none
 |n+1,q,j,K=>match decide (j=(q:Int)) with
  |true=>K q
  |false=>UL n (q+1) j K
def EU (sz:Nat) (h:List Blk) (x i:AV) (K:AV→Option ρ):Option ρ :=
 match i with
 |.int _ n=>match x with
  |.slc t xs=>match t.size==sz&&decide (0≤n) with
   |true=>match xs[n.toNat]? with
    |some e=>K (.eptr t e 0)
    |none=>none
   |false=>none
  |.own id g=>match lkB h id with
   |.row t g' _ xs=>match g==g'&&t.size==sz with
    |true=>match decide (0≤n)&&decide (n<xs.length) with
     |true=>K (.optr id g n.toNat 0)
     |false=>none
    |false=>none
   |_=>none
  |.sub id g lo m=>match lkB h id with
   |.row t g' _ _=>match g==g'&&t.size==sz with
    |true=>match decide (0≤n)&&decide (n<m) with
     |true=>K (.optr id g (lo+n.toNat) 0)
     |false=>none
    |false=>none
   |_=>none
  |.dp id g=>match lkB h id with
   |.deep _ g' xss=>match g==g'&&Nat.beq 1 sz with
    |true=>match decide (0≤n)&&decide (n<xss.length) with
     |true=>K (.dq id g n.toNat)
     |false=>none
    |false=>none
   |_=>none
  |.dr id g i=>match lkB h id with
   |.deep _ g' xss=>match g==g'&&Nat.beq 1 sz with
    |true=>match xss[i]? with
     |some xs=>match decide (0≤n)&&decide (n<xs.length) with
      |true=>K (.de id g i n.toNat)
      |false=>none
     |none=>none
    |false=>none
   |_=>none
  |_=>none
 |_=>none
def AG (h:List Blk) (x:AV) (o:Nat) (K:AV→Option ρ):Option ρ :=
 match x with
 |.box id off=>K (.box id (off+o))
 |.eptr t e off=>K (.eptr t e (off+o))
 |.optr id g i off=>match lkB h id with
  |.row _ g' _ _=>match g==g' with
   |true=>K (.optr id g i (off+o))
   |false=>none
  |_=>none
 |_=>none
def Pe (P:Program) (h:List Blk) (t:TypeId) (a:AV) (K:AV→Option ρ):Option ρ :=
 match ldP P t with
 |some (agg,n)=>match a with
  |.box id off=>match lkB h id with
   |.cells c=>match NL c off n with
    |some cs=>match mkv agg cs with
     |some v=>K v
     |none=>none
    |none=>none
   |_=>none
  |.eptr ty e off=>match NL (flat ty e) off n with
   |some cs=>match mkv agg cs with
    |some v=>K v
    |none=>none
   |none=>none
  |.optr id g i off=>match lkB h id with
   |.row ty g' _ xs=>match g==g' with
    |true=>match xs[i]? with
     |some e=>match NL (flat ty e) off n with
      |some cs=>match mkv agg cs with
       |some v=>K v
       |none=>none
      |none=>none
     |none=>none
    |false=>none
   |_=>none
  |.dq id g i=>match lkB h id with
   |.deep _ g' _=>match g==g'&&(!agg&&Nat.beq n 1) with
    |true=>K (.dr id g i)
    |false=>none
   |_=>none
  |.de id g i j=>match lkB h id with
   |.deep k g' xss=>match g==g'&&(!agg&&Nat.beq n 1) with
    |true=>match xss[i]? with
     |some xs=>match xs[j]? with
      |some x=>K (.int k x)
      |none=>none
     |none=>none
    |false=>none
   |_=>none
  |_=>none
 |none=>none
def wK (P:Program) (h:List Blk) (t:TypeId) (a v:AV) (K:List Blk→Option ρ):Option ρ :=
 match ś v with
 |some vs=>match szP P t==some vs.length with
  |true=>match a with
   |.box id off=>match lkB h id with
    |.cells c=>match abQ c off vs with
     |some c'=>K (ð h id (.cells c'))
     |none=>none
    |_=>none
   |.optr id g i off=>match aec v with
    |true=>match lkB (frz h v) id with
     |.row ty g' false xs=>match g==g' with
      |true=>match xs[i]? with
       |some e=>match abQ (flat ty e) off (vs.map (ÿ h)) with
        |some cs'=>match Ú ty cs' with
         |some e'=>K (ð (frz h v) id (.row ty g' false (xs.set i e')))
         |none=>none
        |none=>none
       |none=>none
      |false=>none
     |_=>none
    |false=>none
   |.de id g i j=>match v with
    |.int k' y=>match lkB h id with
     |.deep k g' xss=>match g==g' with
      |true=>match decEq k' k with
       |isTrue _=>match xss[i]? with
        |some xs=>match xs[j]? with
         |some _=>K (ð h id (.deep k g' (xss.set i (xs.set j y))))
         |none=>none
        |none=>none
       |isFalse _=>none
      |false=>none
     |_=>none
    |_=>none
   |_=>none
  |false=>none
 |none=>none
def qU (sz:Nat) (h:List Blk) (x:AV) (lo hi:Option AV) (eat:Bool) (K:AV→List Blk→Option ρ):Option ρ :=
 match x with
 |.slc t xs=>match t.size==sz with
  |true=>match lo,hi with
   |some (.int _ l),some (.int _ m)=>match decide (0≤l)&&(decide (l≤m)&&decide (m≤xs.length)) with
    |true=>K (.slc t ((xs.drop l.toNat).take (m-l).toNat)) h
    |false=>none
   |some (.int _ l),none=>match decide (0≤l)&&decide (l≤xs.length) with
    |true=>K (.slc t (xs.drop l.toNat)) h
    |false=>none
   |none,some (.int _ m)=>match decide (0≤m)&&decide (m≤xs.length) with
    |true=>K (.slc t (xs.take m.toNat)) h
    |false=>none
   |none,none=>K (.slc t xs) h
   |_,_=>none
  |false=>none
 |.nils=>match lo,hi with
  |none,some (.int _ m)=>match decide (m=0) with
   |true=>K .nils h
   |false=>none
  |none,none=>K .nils h
  |_,_=>none
 |.own id g=>match lkB h id with
  |.row t g' fz xs=>match g==g'&&t.size==sz with
   |true=>match eat with
    |true=>match fz with
     |true=>none
     |false=>match lo,hi with
      |some (.int _ l),none=>match decide (0≤l)&&decide (l≤xs.length) with
       |true=>K (.own id (g+1)) (ð h id (.row t (g+1) false (xs.drop l.toNat)))
       |false=>none
      |none,some (.int _ m)=>match decide (0≤m)&&decide (m≤xs.length) with
       |true=>K (.own id (g+1)) (ð h id (.row t (g+1) false (xs.take m.toNat)))
       |false=>none
      |_,_=>none
    |false=>match lo,hi with
     |some (.int _ l),some (.int _ m)=>match decide (0≤l)&&(decide (l≤m)&&decide (m≤xs.length)) with
      |true=>K (.sub id g l.toNat (m-l).toNat) h
      |false=>none
     |some (.int _ l),none=>match decide (0≤l)&&decide (l≤xs.length) with
      |true=>K (.sub id g l.toNat (xs.length-l.toNat)) h
      |false=>none
     |none,some (.int _ m)=>match decide (0≤m)&&decide (m≤xs.length) with
      |true=>K (.sub id g 0 m.toNat) h
      |false=>none
     |_,_=>none
   |false=>none
  |_=>none
 |_=>none
def zm (P:Program) (h:List Blk) (nid:Nat) (t:TypeId) (s x:AV) (K:AV→List Blk→Option ρ):Option ρ :=
 match Ho P t with
 |some e=>match XP P 8 e with
  |some ty=>match Iw P e ty.size with
   |true=>match Ú (.slice ty) [ÿ h x] with
    |some ys=>match s with
     |.nils=>match ê ys.length with
      |true=>K (.own nid 0) (ð h nid (.row ty 0 false ys))
      |false=>none
     |.own id g=>match lkB h id with
      |.row ty' g' false xs=>match g==g' with
       |true=>match decEq ty ty' with
        |isTrue eq=>match ê (xs.length+ys.length) with
         |true=>K (.own id (g+1)) (ð h id (.row ty' (g+1) false (xs++wE (F:=fun t=>List (Val t)) eq ys)))
         |false=>none
        |isFalse _=>none
       |false=>none
      |_=>none
     |_=>none
    |none=>none
   |false=>none
  |none=>none
 |none=>none
def W7 (P:Program) (h:List Blk) (nid:Nat) (t:TypeId) (s:AV) (id2 g2:Nat) (K:AV→List Blk→Option ρ):Option ρ :=
 match Ho P t with
 |some e=>match Iw P e 1 with
  |true=>match lkB h id2 with
   |.deep k g2' yss=>match g2==g2' with
    |true=>match s with
     |.nils=>match ê yss.length with
      |true=>K (.dp nid 0) (ð (ð h id2 (.deep k (g2+1) [])) nid (.deep k 0 yss))
      |false=>none
     |.dp id g=>match id==id2 with
      |true=>none
      |false=>match lkB h id with
       |.deep k' g' xss=>match g==g' with
        |true=>match decEq k' k with
         |isTrue _=>match ê (xss.length+yss.length) with
          |true=>K (.dp id (g+1)) (ð (ð h id2 (.deep k (g2+1) [])) id (.deep k' (g+1) (xss++yss)))
          |false=>none
         |isFalse _=>none
        |false=>none
       |_=>none
     |_=>none
    |false=>none
   |_=>none
  |false=>none
 |none=>none
def Zs (P:Program) (h:List Blk) (nid n:Nat) (t:TypeId) (ps:List (Nat×AV)) (K:AV→List Blk→Option ρ):Option ρ :=
 match ps with
 |[]=>none
 |p::l=>match l with
  |_::_=>none
  |[]=>match p.2 with
   |.own id g=>match Ho P t with
    |some e=>match Iw P e 1&&(Nat.beq p.1 0&&Nat.beq n 1) with
     |true=>match lkB h id with
      |.row (.int k) g' false xs=>match g==g' with
       |true=>K (.dp nid 0) (ð (ð h id (.row (.int k) (g+1) false [])) nid (.deep k 0 [xs]))
       |false=>none
      |_=>none
     |false=>none
    |none=>none
   |.dp id g=>match Ho P t with
    |some e=>match Iw P e 1&&(Nat.beq p.1 0&&Nat.beq n 1) with
     |true=>match lkB h id with
      |.deep k g' xss=>match g==g' with
       |true=>K (.own nid 0) (ð (ð h id (.deep k (g+1) [])) nid (.row (.slice (.slice (.int k))) 0 false [xss]))
       |false=>none
      |_=>none
     |false=>none
    |none=>none
   |_=>none
def HE (P:Program) (h:List Blk) (nid:Nat) (t:TypeId) (s x:AV) (K:AV→List Blk→Option ρ):Option ρ :=
 match s,x,Ho P t with
 |.nils,.int .i64 n,some e=>match XP P 8 e with
  |some ty=>match Iw P e ty.size with
   |true=>match (((P.info? e).bind (·.zero)).map cv).bind ś with
    |some zs=>match Ú ty zs with
     |some z=>match decide (0<n)&&ê n.toNat with
      |true=>K (.own nid 0) (ð h nid (.row ty 0 false (List.replicate n.toNat z)))
      |false=>none
     |none=>none
    |none=>none
   |false=>none
  |none=>none
 |_,_,_=>none
def Io (P:Program) (h:List Blk) (t:TypeId) (x:AV) (K:List Blk→Option ρ):Option ρ :=
 match x,Ho P t with
 |.nils,_=>K h
 |.sub id g lo n,some e=>match (((P.info? e).bind (·.zero)).map cv).bind ś with
  |some zs=>match lkB h id with
   |.row ty g' false xs=>match g==g' with
    |true=>match Ú ty zs with
     |some z=>K (ð h id (.row ty g' false (xs.take lo++List.replicate n z++xs.drop (lo+n))))
     |none=>none
    |false=>none
   |_=>none
  |none=>none
 |_,_=>none
def s8 (P:Program) (h:List Blk) (t:TypeId) (m i:AV) (ok:Bool) (K:AV→Option ρ):Option ρ :=
 match P.underlying t with
 |some (.map kt et)=>match XP P 8 kt,XP P 8 et,((P.info? et).bind (·.zero)).map cv with
  |some k,some v,some z=>match G8 P kt k,ÿ h m with
   |true,.mp k' v' es=>match decEq (Ty.map k' v') (Ty.map k v) with
    |isTrue eq=>match Ú k [i] with
     |some x=>match l5 x (wE (F:=Val) eq es) with
      |some y=>match ok with
       |true=>K (.tup [enc v y,.bool true])
       |false=>K (enc v y)
      |none=>match ok with
       |true=>K (.tup [z,.bool false])
       |false=>K z
     |none=>none
    |isFalse _=>none
   |true,.nilm=>match Ú k [i] with
    |some _=>match ok with
     |true=>K (.tup [z,.bool false])
     |false=>K z
    |none=>none
   |_,_=>none
  |_,_,_=>none
 |_=>none
def kP (P:Program) (h:List Blk) (t:TypeId) (m i x:AV) (K:List Blk→Option ρ):Option ρ :=
 match P.underlying t with
 |some (.map kt _)=>match m with
  |.omp id=>match lkB h id with
   |.map k v es=>match G8 P kt k&&(aec x&&Qm x==v.isAgg) with
    |true=>match Ú k [i],ś (aaa h x) with
     |some a,some cs=>match Ú v cs with
      |some b=>K (ð (frz h x) id (.map k v (Kx a b es)))
      |none=>none
     |_,_=>none
    |false=>none
   |_=>none
  |_=>none
 |_=>none
def ae4 (P:Program) (fs:Array Field):List (Nat×AV)→List AV→Option (List AV)
 |[],cs=>some cs
 |(i,v)::ps,cs=>match fs[i]? with
  |some f=>match ś v with
   |some vs=>match szP P f.type==some vs.length with
    |true=>match abQ cs f.offset vs with
     |some cs=>ae4 P fs ps cs
     |none=>none
    |false=>none
   |none=>none
  |none=>none
def M5 (sz:Nat):List (Nat×AV)→List AV→Option (List AV)
 |[],cs=>some cs
 |(i,v)::ps,cs=>match ś v with
  |some vs=>match vs.length==sz with
   |true=>match abQ cs (i*sz) vs with
    |some cs=>M5 sz ps cs
    |none=>none
   |false=>none
  |none=>none
def NP (h:List Blk) (ty:Ty):Nat→List (Nat×AV)→Option (List (Val ty))
 |_,[]=>some []
 |n,(i,v)::ps=>match i==n&&aec v with
  |true=>match ś (aaa h v) with
   |some cs=>match Ú ty cs with
    |some x=>match NP h ty (n+1) ps with
     |some xs=>some (x::xs)
     |none=>none
    |none=>none
   |none=>none
  |false=>none
def frzA (h:List Blk):List (Nat×AV)→List Blk
 |[]=>h
 |(_,v)::ps=>frzA (frz h v) ps
def Zc (a b:Int):Int:=if b>a then b else a
def aaR (a b:Int):Int:=if b<a then b else a
def lm (gt:Bool):AV→List AV→(AV→Option ρ)→Option ρ
 |x,[],K=>K x
 |.int k a,.int k' b::l,K=>match decEq k k' with
  |isTrue _=>match gt with
   |true=>lm true (.int k (Zc a b)) l K
   |false=>lm false (.int k (aaR a b)) l K
  |isFalse _=>none
 |_,_,_=>none
def isV0:AV→Bool
 |.fn _ _ _=>false
 |.agg _=>false
 |.tup _=>false
 |_=>true
def BI:Operand→Operand→Bool
 |.tmp i,.tmp j=>i==j
 |.const (.int .i64 a),.const (.int .i64 b)=>decide (a=b)
 |_,_=>false
def opK (P:Program) (S:St) (nid:Nat) (eat:Bool) (o:Op) (K:AV→St→Option ρ):Option ρ :=
 let h (h:List Blk):St:={t:=S.t,h:=h}
 match o with
 |.move x=>K (ev S.t x) S
 |.assign x=>K (ev S.t x) S
 |.pick c a b=>match ev S.t c with
  |.bool x=>match x with
   |true=>K (ev S.t a) S
   |false=>K (ev S.t b) S
  |_=>none
 |.box el x=>match ś (ev S.t x) with
  |some cs=>match eat with
   |true=>match XP P 8 el with
    |some ty=>match Ú ty cs with
     |some y=>K (.eptr ty y 0) S
     |none=>none
    |none=>none
   |false=>K (.box nid 0) (h (ð S.h nid (.cells cs)))
  |none=>none
 |.alloc e=>match ((P.info? e).bind (·.zero)).map cv with
  |some z=>match ś z with
   |some cs=>K (.box nid 0) (h (ð S.h nid (.cells cs)))
   |none=>none
  |none=>none
 |.build t ps=>match P.underlying t with
  |some (.struct fs)=>match fs.toList.all (fun f=>(P.info? f.type).isSome) with
   |true=>match ((P.info? t).bind (·.zero)).map cv with
    |some z=>match ś z with
     |some zs=>match ae4 P fs (ps.toList.map fun p=>(p.1,ev S.t p.2)) zs with
      |some cs=>K (.agg cs) S
      |none=>none
     |none=>none
    |none=>none
   |false=>none
  |some (.array _ e)=>match szP P e,((P.info? t).bind (·.zero)).map cv with
   |some sz,some z=>match ś z with
    |some zs=>match M5 sz (ps.toList.map fun p=>(p.1,ev S.t p.2)) zs with
     |some cs=>K (.agg cs) S
     |none=>none
    |none=>none
   |_,_=>none
  |_=>none
 |.buildSlice t n ps=>match eat with
  |true=>Zs P S.h nid n t (ps.toList.map fun p=>(p.1,ev S.t p.2)) fun v h'=>K v (h h')
  |false=>match Ho P t with
  |some e=>match XP P 8 e with
   |some ty=>match Iw P e ty.size&&(ps.toList.length==n&&decide (n*ty.size≤65536)) with
    |true=>match NP S.h ty 0 (ps.toList.map fun p=>(p.1,ev S.t p.2)) with
     |some xs=>K (.own nid 0) (h (ð (frzA S.h (ps.toList.map fun p=>(p.1,ev S.t p.2))) nid (.row ty 0 false xs)))
     |none=>none
    |false=>none
   |none=>none
  |none=>none
 |.load t a=>Pe P S.h t (ev S.t a) fun v=>K v S
 |.store t a v=>match eat with
  |true=>match ev S.t v with
   |.sub id g lo n=>match lkB S.h id with
    |.row ty g' false xs=>match g==g'&&decide (lo+n=xs.length) with
     |true=>wK P (ð S.h id (.row ty (g+1) false (xs.drop lo))) t (ev S.t a) (.own id (g+1)) fun h'=>K .any (h h')
     |false=>none
    |_=>none
   |_=>none
  |false=>wK P S.h t (ev S.t a) (ev S.t v) fun h'=>K .any (h h')
 |.nilCheck x=>match ev S.t x with
  |.box id off=>K (.box id off) S
  |.eptr t e off=>K (.eptr t e off) S
  |.optr id g i off=>match lkB S.h id with
   |.row _ g' _ _=>match g==g' with
    |true=>K (.optr id g i off) S
    |false=>none
   |_=>none
  |_=>none
 |.binOp op t x y _=>binK P op t (ev S.t x) (ev S.t y) fun v=>K v S
 |.unOp op _ x=>match op,ev S.t x with
  |.not,.bool b=>K (.bool (!b)) S
  |.neg,.int k n=>arK k (0-n) fun v=>K v S
  |_,_=>none
 |.convert src dst x=>match P.underlying src,P.underlying dst,ev S.t x with
  |some _,some (.int k),.int _ n=>K (.int k (k.wrap n)) S
  |_,_,_=>none
 |.makeFunc fn first captured=>match (first.toList.map (ev S.t)).all isV0&&(captured.toList.map (ev S.t)).all isV0 with
  |true=>K (.fn fn (first.toList.map (ev S.t)) (captured.toList.map (ev S.t))) S
  |false=>none
 |.makeMap t r=>match r,P.underlying t with
  |none,some (.map kt et)=>match XP P 8 kt,XP P 8 et with
   |some k,some v=>match (k.size==P.cellsOf kt)&&(v.size==P.cellsOf et) with
    |true=>K (.omp nid) (h (ð S.h nid (.map k v [])))
    |false=>none
   |_,_=>none
  |_,_=>none
 |.makeSlice t l c=>match BI l c,ev S.t l,Ho P t with
  |true,.int _ n,some e=>match XP P 8 e with
   |some ty=>match Iw P e ty.size with
    |true=>match (((P.info? e).bind (·.zero)).map cv).bind ś with
     |some zs=>match Ú ty zs with
      |some z=>match decide (0≤n)&&ê n.toNat with
       |true=>K (.own nid 0) (h (ð S.h nid (.row ty 0 false (List.replicate n.toNat z))))
       |false=>none
      |none=>none
     |none=>none
    |false=>none
   |none=>none
  |_,_,_=>none
 |.slice t x lo hi mx=>match mx,P.underlying t with
  |none,some (.slice e)=>match szP P e with
   |some sz=>qU sz S.h (ev S.t x) (lo.map (ev S.t)) (hi.map (ev S.t)) eat fun v h'=>K v (h h')
   |none=>none
  |_,_=>none
 |.fieldAddr t x f=>match P.underlying t with
  |some (.struct fs)=>match fs[f]? with
   |some fd=>match szP P fd.type with
    |some (_+1)=>AG S.h (ev S.t x) fd.offset fun v=>K v S
    |_=>none
   |none=>none
  |_=>none
 |.field t x f=>match P.underlying t,ev S.t x with
  |some (.struct fs),.agg cs=>match fs[f]? with
   |some fd=>match ldP P fd.type with
    |some (agg,n)=>match NL cs fd.offset n with
     |some ds=>match mkv agg ds with
      |some v=>K v S
      |none=>none
     |none=>none
    |none=>none
   |none=>none
  |_,_=>none
 |.indexAddr t x i=>match P.underlying t with
  |some (.slice e)=>match szP P e with
   |some sz=>EU sz S.h (ev S.t x) (ev S.t i) fun v=>K v S
   |none=>none
  |some (.array n e)=>match ev S.t x,ev S.t i with
   |.box id off,.int _ j=>match szP P e with
    |some sz=>UL n 0 j fun q=>K (.box id (off+q*sz)) S
    |none=>none
   |_,_=>none
  |_=>none
 |.index t x i=>match P.underlying t,ev S.t x,ev S.t i with
  |some (.array n e),.agg cs,.int _ j=>UL n 0 j fun q=>match ldP P e with
   |some (agg,m)=>match NL cs (q*m) m with
    |some ds=>match mkv agg ds with
     |some v=>K v S
     |none=>none
    |none=>none
   |none=>none
  |_,_,_=>none
 |.lookup t m i ok=>s8 P S.h t (ev S.t m) (ev S.t i) ok fun v=>K v S
 |.mapUpdate t m i x=>kP P S.h t (ev S.t m) (ev S.t i) (ev S.t x) fun h'=>K .any (h h')
 |.extract x i=>match ev S.t x with
  |.tup vs=>match vs[i]? with
   |some v=>K v S
   |none=>none
  |_=>none
 |.call ⟨.builtin b,args,tys⟩=>match b,args.toList,tys.toList with
  |.len,[x],t::_=>ahb (P.underlying t) S.h (ev S.t x) fun v=>K v S
  |.append,[s,x],[t,t']=>match t==t' with
   |true=>match ev S.t x with
    |.dp id g=>W7 P S.h nid t (ev S.t s) id g fun v h'=>K v (h h')
    |y=>zm P S.h nid t (ev S.t s) y fun v h'=>K v (h h')
   |false=>match P.underlying t' with
    |some (.int .i64)=>HE P S.h nid t (ev S.t s) (ev S.t x) fun v h'=>K v (h h')
    |_=>none
  |.clear,[x],[t]=>match P.underlying t with
   |some _=>Io P S.h t (ev S.t x) fun h'=>K (.tup []) (h h')
   |none=>none
  |.cap,[x],t::_=>match P.underlying t,ev S.t x with
   |some (.slice _),.nils=>K (.int .i64 0) S
   |_,_=>none
  |.min,x::xs,_=>lm false (ev S.t x) (xs.map (ev S.t)) fun v=>K v S
  |.max,x::xs,_=>lm true (ev S.t x) (xs.map (ev S.t)) fun v=>K v S
  |_,_,_=>none
 |_=>none
end
end Go.Am
end

noncomputable section
namespace Go.Am
def Ē (clone:Nat→Bool):Op→Bool
 |.box _ _=>true
 |.alloc _=>true
 |.buildSlice _ _ _=>true
 |.makeMap _ _=>true
 |.makeSlice _ _ _=>true
 |.call ⟨.builtin .append,_,_⟩=>true
 |.call ⟨.value (.func f),_,_⟩=>clone f
 |_=>false
def tys:Ty→List Ty→Ty
 |t,[]=>t
 |t,u::l=>.pair t (tys u l)
def tyL:List Ty→Ty
 |[]=>.unit
 |t::l=>tys t l
structure ã where
 ts:List Ty
 rs:List Ty
 F:Val (tyL ts)→Option (Val (tyL rs))
structure YFun where
 ty:Ty
 all:List (Val ty)
structure Env (ρ:Type) where
 P:Program
 eat:Nat→Nat→Bool
 clone:Nat→Bool
 sort:Nat→Bool
 compact:Nat→Bool
 inl:Nat→Bool
 fz:Nat→Bool
 pure:Nat→Option ã
 loops:List Nat→Nat→Nat→Nat→St→(Exit→St→Option ρ)→Option ρ
 joins:List Nat→Nat→Nat→Nat→Option (((St→Option ρ)→Option ρ)→(St→Option ρ)→Option ρ):=fun _ _ _ _=>none
 hint:Nat→Option Nat:=fun _=>none
 stop:List Nat→Nat→Bool:=fun _ _=>false
 yld:Option YFun:=none
 ranges:List Nat→Nat→Nat→Nat→AV→St→(Exit→St→Option ρ)→Option ρ:=fun _ _ _ _ _ _ _=>none
 ext:Nat→Option (List Blk→List AV→(AV→List Blk→Option ρ)→Option ρ):=fun _=>none
section
variable {ρ:Type}
def cls (E:Env ρ):Op→Nat
 |.load _ _=>1
 |.indexAddr _ _ _=>1
 |.slice _ _ _ _ _=>1
 |.lookup _ _ _ _=>1
 |.buildSlice _ _ _=>2
 |.nilCheck _=>1
 |.fieldAddr _ _ _=>1
 |.box _ _=>1
 |.alloc _=>1
 |.makeMap _ _=>1
 |.makeSlice _ _ _=>1
 |.store _ _ _=>2
 |.mapUpdate _ _ _ _=>2
 |.call ⟨.builtin .append,_,_⟩=>2
 |.call ⟨.builtin .clear,_,_⟩=>2
 |.call ⟨.builtin _,_,_⟩=>1
 |.call ⟨.value (.func f),_,_⟩=>if E.clone f then 1 else if (E.pure f).isSome then(if E.fz f then 2 else 1) else if E.sort f||E.compact f then 2 else 3
 |.call ⟨.value (.tmp t),_,_⟩=>match E.hint t with
  |some g=>if (E.pure g).isSome&&!E.fz g then 1 else 3
  |none=>3
 |.call _=>3
 |_=>0
def Pv:List Operand→List Nat
 |[]=>[]
 |.tmp t::l=>t::Pv l
 |_::l=>Pv l
def pm (os:List Oper) (j:Nat):Nat :=
 match os[j]? with
 |some o=>match o.dst with
  |some d=>d
  |none=>0
 |none=>0
def iD (os:List Oper) (o:Oper):List Nat :=
 (match o.guard with|some (j,_)=>[pm os j]|none=>[])++Pv o.op.operands.toList
def ag4:List Nat→Option Nat→Bool
 |l,some d=>l.contains d
 |_,none=>false
def Ql:Op→Bool
 |.call ⟨.value _,_,_⟩=>true
 |_=>false
def ahE (E:Env ρ) (os:List Oper) (a b:Oper):Bool :=
 (Ql a.op&&Ql b.op)||(cls E a.op==3||(cls E b.op==3&&Nat.ble 1 (cls E a.op))) ||
 ag4 (iD os b) a.dst||ag4 (iD os a) b.dst||(match a.dst,b.dst with|some x,some y=>x==y|_,_=>false)
def BB (E:Env ρ) (a b:Op):Bool:=(cls E a==2&&Nat.ble 1 (cls E b))||(Nat.ble 1 (cls E a)&&cls E b==2)
def Θ:List Oper→List Nat→List Nat
 |[],acc=>acc
 |o::os,acc=>Θ os (acc++[o.after.toList.foldl (fun s e=>if Region.binds .any e then s ||| 2 ^ e.on ||| acc.getD e.on 0 else s) 0])
def zX (E:Env ρ) (all:List Oper) (bef:List Nat):List Oper→Nat→Bool
 |[],_=>true
 |b::bs,j=>((List.range j).all fun i=>match all[i]? with
    |some a=>!ahE E all a b||(bef.getD j 0).testBit i
    |none=>false)&&zX E all bef bs (j+1)
def Xr:List Oper→Nat→Bool
 |[],_=>true
 |o::os,j=>o.after.toList.all (fun e=>!Region.binds .any e||decide (e.on<j))&&Xr os (j+1)
def afc (E:Env ρ) (ops:List Oper):Bool:=Xr ops 0&&zX E ops (Θ ops []) ops 0
def þ (t:List AV) (d:Option Nat) (v:AV):List AV :=
 match d with
 |none=>t
 |some d=>upd t d v
def zc (P:Program) (fn:Nat) (fz:Bool) (S:St) (nid:Nat) (x:AV) (K:AV→St→Option ρ):Option ρ :=
 match P.funcs[fn]? with
 |some f=>match (f.params[0]?).bind (Ho P) with
  |some e=>match XP P 8 e with
   |some ty=>match Iw P e ty.size with
    |true=>match Ú (.slice ty) [ÿ S.h x] with
     |some ys=>match ê ys.length with
      |true=>match fz with
       |true=>K (.slc ty ys) S
       |false=>K (.own nid 0) {t:=S.t,h:=ð S.h nid (.row ty 0 false ys)}
      |false=>none
     |none=>none
    |false=>none
   |none=>none
  |none=>none
 |none=>none
def CU:AV→Bool
 |.own _ _=>true
 |.sub _ _ _ _=>true
 |.omp _=>true
 |.box _ _=>true
 |.optr _ _ _ _=>true
 |.dp _ _=>true
 |.dq _ _ _=>true
 |.dr _ _ _=>true
 |.de _ _ _ _=>true
 |_=>false
def NE:AV→Bool
 |.agg cs=>cs.any CU
 |v=>CU v
def aea:AV→Bool
 |.omp _=>false
 |.box _ _=>false
 |.optr _ _ _ _=>false
 |.dp _ _=>false
 |.dq _ _ _=>false
 |.dr _ _ _=>false
 |.de _ _ _ _=>false
 |_=>true
def aeb:AV→Bool
 |.agg cs=>cs.all aea
 |v=>aea v
def agu (h:List Blk) (t:Ty) (a:AV):Option (Val t) :=
 match t with
 |.ptr u=>match a with
  |.box id 0=>match lkB h id with
   |.cells cs=>Ú u (cs.map (ÿ h))
   |_=>none
  |.eptr t' x 0=>match decEq t' u with
   |isTrue e=>some ((wE (F:=Val) e x:Val u))
   |isFalse _=>none
  |_=>none
 |t=>match a with
  |.dp id g=>match lkB h id with
   |.deep k g' xss=>match g==g' with
    |true=>match decEq (Ty.slice (.slice (.int k))) t with
     |isTrue e=>some (wE (F:=Val) e xss)
     |isFalse _=>none
    |false=>none
   |_=>none
  |a=>match Qm a==t.isAgg with
   |true=>match ś (aaa h a) with
    |some cs=>Ú t cs
    |none=>none
   |false=>none
def ae8:(l:List Ty)→(t:Ty)→Val (tys t l)→List AV
 |[],t,x=>[enc t x]
 |u::l,t,x=>enc t (x:Val t×Val (tys u l)).1::ae8 l u (x:Val t×Val (tys u l)).2
def Zn:(l:List Ty)→Val (tyL l)→List AV
 |[],_=>[]
 |t::l,x=>ae8 l t x
def TY (h:List Blk):(l:List Ty)→(t:Ty)→List AV→Option (Val (tys t l))
 |[],t,as=>match as with
  |[]=>none
  |a::as=>match as with
   |[]=>agu h t a
   |_::_=>none
 |u::l,t,as=>match as with
  |[]=>none
  |a::as=>match agu h t a with
   |some x=>match TY h l u as with
    |some y=>some ((x,y):Val t×Val (tys u l))
    |none=>none
   |none=>none
def CS (h:List Blk) (l:List Ty) (as:List AV):Option (Val (tyL l)) :=
 match l with
 |[]=>match as with
  |[]=>some ()
  |_::_=>none
 |t::l=>TY h l t as
def ai2 (l:List Ty) (h:List Blk) (a:AV):Option (Val (tyL l)) :=
 match l with
 |[]=>none
 |[t]=>agu h t a
 |t::u::l=>match a with
  |.tup as=>TY h (u::l) t as
  |_=>none
def XI:(l:List Ty)→Val (tyL l)→AV
 |[],_=>.tup []
 |[t],x=>enc t x
 |t::u::l,x=>.tup (ae8 (u::l) t x)
def Ä {α:Type} (x:Option α) (f:α→Option ρ):Option ρ :=
 match x with
 |some y=>f y
 |none=>none
def lV:AV→List AV
 |.agg cs=>cs
 |v=>[v]
def QZ (nofz:Bool) (p:ã) (h:List Blk) (args:List AV) (K:AV→List Blk→Option ρ):Option ρ :=
 match CS h p.ts args with
 |some x=>Ä (p.F x) fun y=>match Kh (XI p.rs y) with
  |true=>K (XI p.rs y) h
  |false=>match args.all (fun a=>!NE a) with
   |true=>K (XI p.rs y) h
   |false=>match nofz||!args.all aeb with
    |true=>none
    |false=>K (XI p.rs y) (AC h (args.flatMap lV))
 |none=>none
def ag2:AV→Option AV
 |.tup _=>none
 |v=>some v
def XZ (P:Program) (h:List Blk) (t:List AV):ResultVar→Option AV
 |.tmp i=>ag2 (lk t i)
 |.cell a ty=>match Pe P h ty (lk t a) some with
  |some v=>ag2 v
  |none=>none
def Kb (P:Program) (h:List Blk) (t:List AV):List ResultVar→Option (List AV)
 |[]=>some []
 |r::rs=>match XZ P h t r with
  |some v=>match Kb P h t rs with
   |some vs=>some (v::vs)
   |none=>none
  |none=>none
def tr (P:Program) (fn:Func) (S:St):Option AV :=
 match Kb P S.h S.t fn.results.toList with
 |some [v]=>some v
 |some vs=>some (.tup vs)
 |none=>none
def xy (l:List Int):List Int:=l.mergeSort (fun a b=>decide (a≤b))
def QP (h:List Blk) (x:AV) (K:AV→List Blk→Option ρ):Option ρ :=
 match x with
 |.own id g=>match lkB h id with
  |.row t g' false xs=>match g==g' with
   |true=>match decEq t (.int .i64) with
    |isTrue e=>match ê xs.length with
     |true=>K (.tup []) (ð h id (.row (.int .i64) g' false (xy (wE (F:=fun t=>List (Val t)) e xs))))
     |false=>none
    |isFalse _=>none
   |false=>none
  |_=>none
 |.nils=>K (.tup []) h
 |_=>none
def zZ (l:List Int):List Int:=Go.Lib.compact l
def pw (h:List Blk) (x:AV) (K:AV→List Blk→Option ρ):Option ρ :=
 match x with
 |.own id g=>match lkB h id with
  |.row t g' false xs=>match g==g' with
   |true=>match decEq t (.int .i64) with
    |isTrue e=>match ê xs.length with
     |true=>K (.own id (g+1)) (ð h id (.row (.int .i64) (g+1) false (zZ (wE (F:=fun t=>List (Val t)) e xs))))
     |false=>none
    |isFalse _=>none
   |false=>none
  |_=>none
 |.nils=>K .nils h
 |_=>none
def acl:Operand→Bool
 |.func _=>true
 |_=>false
def ĭ:AV→List Nat
 |.own id _=>[id]
 |.sub id _ _ _=>[id]
 |.omp id=>[id]
 |.box id _=>[id]
 |.optr id _ _ _=>[id]
 |.dp id _=>[id]
 |.dq id _ _=>[id]
 |.dr id _ _=>[id]
 |.de id _ _ _=>[id]
 |_=>[]
def adL:AV→List Nat
 |.agg cs=>cs.flatMap ĭ
 |v=>ĭ v
def refs1:AV→List Nat
 |.agg cs=>cs.flatMap ĭ
 |.fn _ a b=>a.flatMap adL++b.flatMap adL
 |v=>ĭ v
def ajb:AV→Bool
 |.fn _ _ _=>false
 |_=>true
def No:Blk→List AV
 |.cells cs=>cs
 |_=>[]
def refs2 (h:List Blk) (v:AV):List Nat:=refs1 v++(refs1 v).flatMap fun id=>(No (lkB h id)).flatMap ĭ
def aeM:Blk→Bool
 |.dead=>true
 |_=>false
def QA (E:Env ρ) (t:List AV) (o:Op):Bool :=
 match o with
 |.call ⟨.value (.tmp s),_,_⟩=>match E.hint s with
  |none=>true
  |some g=>match ev t (.tmp s) with
   |.fn (.func g') a b=>Nat.beq g' g&&(a.all ajb&&b.all ajb)
   |_=>false
 |_=>true
def mq (E:Env ρ) (S:St) (o:Op):Bool :=
 match Nat.ble 1 (cls E o) with
 |true=>(o.operands.toList.all fun x=>(refs2 S.h (ev S.t x)).all fun id=>!aeM (lkB S.h id))&&QA E S.t o
 |false=>true
def Pj (E:Env ρ) (draw:Bool) (fid:Nat) (o:Oper):Bool :=
 match o.op with
 |.store _ _ _=>E.eat fid 0
 |_=>!draw&&E.eat fid (o.dst.getD 0)
def yg {α:Type} {ρ:Type} (all l:List α) (k:Option ρ):Option ρ:=open Classical in if l <+: all then k else none
def yldK (E:Env ρ) (h:List Blk) (x:AV) (K:AV→List Blk→Option ρ):Option ρ :=
 match E.yld with
 |some y=>match y.ty.isAgg with
  |true=>none
  |false=>match Ku x with
   |true=>match Ú y.ty [ÿ h x] with
    |some v=>match lkB (qG h x) 0 with
     |.acc t xs=>match decEq t y.ty with
      |isTrue e=>yg y.all (wE (F:=fun t=>List (Val t)) e xs++[v]) (K (.bool true) (ð (qG h x) 0 (.acc y.ty (wE (F:=fun t=>List (Val t)) e xs++[v]))))
      |isFalse _=>none
     |_=>none
    |none=>none
   |false=>none
 |none=>none
def χ (E:Env ρ) (call:List Nat→Bool→Nat→List AV→List Blk→(AV→List Blk→Option ρ)→Option ρ) (fid:Nat) (path:List Nat) (draw:Bool) (S:St) (nid:Nat) (o:Oper) (K:AV→St→Option ρ):Option ρ :=
 match draw&&!mq E S o.op with
 |true=>none
 |false=>match o.op with
  |.call ⟨.value f,args,_⟩=>match ev S.t f with
   |.fn (.func g) first caps=>match E.clone g&&acl f with
    |true=>match args.toList with
     |[x]=>zc E.P g (E.eat fid (o.dst.getD 0)) S nid (ev S.t x) K
     |_=>none
    |false=>call path draw g (first++(args.toList.map (ev S.t)++caps)) S.h fun v h=>K v {t:=S.t,h:=h}
   |.yld=>match args.toList with
    |[x]=>yldK E S.h (ev S.t x) fun v h=>K v {t:=S.t,h:=h}
    |_=>none
   |_=>none
  |op=>opK E.P S nid (Pj E draw fid o) op K
def abZ (E:Env ρ) (call:List Nat→Bool→Nat→List AV→List Blk→(AV→List Blk→Option ρ)→Option ρ) (fid:Nat) (path:List Nat) (draw:Bool) (all:List Oper):List Oper→Nat→Nat→St→(St→Option ρ)→Option ρ
 |[],_,_,S,K=>K S
 |o::os,i,nid,S,K =>
  let nid':=bif Ē E.clone o.op then nid+1 else nid
  match o.guard with
  |none=>χ E call fid (path++[i]) draw S nid o fun v S=>abZ E call fid path draw all os (i+1) nid' {t:=þ S.t o.dst v,h:=S.h} K
  |some (j,want)=>match lk S.t (pm all j) with
   |.bool b=>match b with
    |true=>match want with
     |true=>χ E call fid (path++[i]) draw {t:=upd S.t (pm all j) (.bool true),h:=S.h} nid o fun v S=>abZ E call fid path draw all os (i+1) nid' {t:=þ S.t o.dst v,h:=S.h} K
     |false=>abZ E call fid path draw all os (i+1) nid' {t:=þ (upd S.t (pm all j) (.bool true)) o.dst .und,h:=S.h} K
    |false=>match want with
     |false=>χ E call fid (path++[i]) draw {t:=upd S.t (pm all j) (.bool false),h:=S.h} nid o fun v S=>abZ E call fid path draw all os (i+1) nid' {t:=þ S.t o.dst v,h:=S.h} K
     |true=>abZ E call fid path draw all os (i+1) nid' {t:=þ (upd S.t (pm all j) (.bool false)) o.dst .und,h:=S.h} K
   |.und=>abZ E call fid path draw all os (i+1) nid' {t:=þ S.t o.dst .und,h:=S.h} K
   |_=>none
def AD (E:Env ρ) (S:St) (o:Op):List Nat :=
 match Nat.ble 1 (cls E o) with
 |true=>o.operands.toList.flatMap fun x=>refs2 S.h (ev S.t x)
 |false=>[]
def disj:List Nat→List Nat→Bool
 |[],_=>true
 |x::l,m=>!m.any (fun y=>Nat.beq y x)&&disj l m
def Dc (E:Env ρ) (all:List Oper) (bef:List Nat) (j i:Nat) (Fj Fi:List Nat):Bool :=
 match all[j]?,all[i]? with
 |some a,some b=>!BB E a.op b.op||((bef.getD j 0).testBit i||((bef.getD i 0).testBit j||disj Fj Fi))
 |_,_=>false
def chk (E:Env ρ) (all:List Oper) (bef:List Nat) (acc:List (Nat×List Nat)) (i:Nat) (F:List Nat):Bool :=
 acc.all fun p=>Dc E all bef p.1 i p.2 F
def ad5 (E:Env ρ) (call:List Nat→Bool→Nat→List AV→List Blk→(AV→List Blk→Option ρ)→Option ρ) (fid:Nat) (path:List Nat) (all:List Oper) (bef:List Nat):List Oper→Nat→Nat→List (Nat×List Nat)→St→(St→Option ρ)→Option ρ
 |[],_,_,_,S,K=>K S
 |o::os,i,nid,acc,S,K =>
  let nid':=bif Ē E.clone o.op then nid+1 else nid
  match o.guard with
  |none=>match chk E all bef acc i (AD E S o.op) with
   |true=>χ E call fid (path++[i]) true S nid o fun v S'=>ad5 E call fid path all bef os (i+1) nid' ((i,AD E S o.op)::acc) {t:=þ S'.t o.dst v,h:=S'.h} K
   |false=>none
  |some (j,want)=>match lk S.t (pm all j) with
   |.bool b=>match b with
    |true=>match want with
     |true=>match chk E all bef acc i (AD E S o.op) with
      |true=>χ E call fid (path++[i]) true {t:=upd S.t (pm all j) (.bool true),h:=S.h} nid o fun v S'=>ad5 E call fid path all bef os (i+1) nid' ((i,AD E S o.op)::acc) {t:=þ S'.t o.dst v,h:=S'.h} K
      |false=>none
     |false=>ad5 E call fid path all bef os (i+1) nid' ((i,[])::acc) {t:=þ (upd S.t (pm all j) (.bool true)) o.dst .und,h:=S.h} K
    |false=>match want with
     |false=>match chk E all bef acc i (AD E S o.op) with
      |true=>χ E call fid (path++[i]) true {t:=upd S.t (pm all j) (.bool false),h:=S.h} nid o fun v S'=>ad5 E call fid path all bef os (i+1) nid' ((i,AD E S o.op)::acc) {t:=þ S'.t o.dst v,h:=S'.h} K
      |false=>none
     |true=>ad5 E call fid path all bef os (i+1) nid' ((i,[])::acc) {t:=þ (upd S.t (pm all j) (.bool false)) o.dst .und,h:=S.h} K
   |.und=>ad5 E call fid path all bef os (i+1) nid' ((i,[])::acc) {t:=þ S.t o.dst .und,h:=S.h} K
   |_=>none
def iE (clone:Nat→Bool):List Oper→Nat
 |[]=>0
 |o::os=>bif Ē clone o.op then iE clone os+1 else iE clone os
def su (all:List Oper):List Oper→Bool
 |[]=>true
 |o::os=>(match o.guard with
  |none=>true
  |some (j,_)=>match all[j]? with
   |some p=>p.dst.isSome
   |none=>false)&&su all os
def Kc (E:Env ρ) (call:List Nat→Bool→Nat→List AV→List Blk→(AV→List Blk→Option ρ)→Option ρ) (fid:Nat) (path:List Nat) (draw:Bool) (ops:List Oper) (S:St) (K:St→Option ρ):Option ρ :=
 match (draw&&!afc E ops)||!su ops ops with
 |true=>none
 |false=>match draw with
  |true=>ad5 E call fid path ops (Θ ops []) ops 0 S.h.length [] {t:=S.t,h:=S.h++List.replicate (iE E.clone ops) .dead} K
  |false=>abZ E call fid path false ops ops 0 S.h.length {t:=S.t,h:=S.h++List.replicate (iE E.clone ops) .dead} K
def aio (v:AV) (k:AV→Option ρ):Option ρ :=
 match v with
 |.any=>k .any
 |.und=>k .und
 |.bool b=>k (.bool b)
 |.int i n=>k (.int i n)
 |.str s=>k (.str s)
 |.nils=>k .nils
 |.slc t xs=>k (.slc t xs)
 |.own id g=>k (.own id g)
 |.sub id g lo n=>k (.sub id g lo n)
 |.nilm=>k .nilm
 |.mp a b es=>k (.mp a b es)
 |.omp id=>k (.omp id)
 |.nilp=>k .nilp
 |.box id off=>k (.box id off)
 |.eptr t x off=>k (.eptr t x off)
 |.optr id g i off=>k (.optr id g i off)
 |.dp id g=>k (.dp id g)
 |.dq id g i=>k (.dq id g i)
 |.dr id g i=>k (.dr id g i)
 |.de id g i j=>k (.de id g i j)
 |.nilfn=>k .nilfn
 |.yld=>k .yld
 |.fn f a b=>k (.fn f a b)
 |.agg cs=>k (.agg cs)
 |.tup vs=>k (.tup vs)
def WW:List AV→(List AV→Option ρ)→Option ρ
 |[],k=>k []
 |x::xs,k=>aio x fun y=>WW xs fun ys=>k (y::ys)
def E6:List Blk→(List Blk→Option ρ)→Option ρ
 |[],k=>k []
 |x::xs,k=>match x with
  |.dead=>E6 xs fun ys=>k (.dead::ys)
  |.cells cs=>WW cs fun cs=>E6 xs fun ys=>k (.cells cs::ys)
  |.row t g fz es=>E6 xs fun ys=>k (.row t g fz es::ys)
  |.map a b es=>E6 xs fun ys=>k (.map a b es::ys)
  |.deep q g xss=>E6 xs fun ys=>k (.deep q g xss::ys)
  |.acc t es=>E6 xs fun ys=>k (.acc t es::ys)
def aeW (S:St) (k:St→Option ρ):Option ρ:=WW S.t fun t=>E6 S.h fun h=>k {t:=t,h:=h}
def aeU (v:AV) (k:AV→Option ρ):aio v k=k v:=by cases v<;>rfl
def MU:∀(l:List AV) (k:List AV→Option ρ),WW l k=k l
 |[],_=>rfl
 |x::xs,k=>by simp only[WW]; rw[aeU,MU xs]
def WX:∀(l:List Blk) (k:List Blk→Option ρ),E6 l k=k l
 |[],_=>rfl
 |x::xs,k=>by cases x<;>simp only[E6,MU]<;>rw[WX xs]
def aeV (S:St) (k:St→Option ρ):aeW S k=k S:=by
 unfold aeW; rw[MU,WX]
def MN:Code→Nat
 |.region rid _ _=>rid+1
 |.seq a _=>MN a
 |.block _ b=>MN b
 |.loop b=>MN b
 |_=>0
def goC (E:Env ρ) (call:List Nat→Bool→Nat→List AV→List Blk→(AV→List Blk→Option ρ)→Option ρ) (fid:Nat) (path:List Nat) (m:Nat):Nat→Code→St→(Exit→St→Option ρ)→Option ρ
 |_,.skip,S,K=>K .normal S
 |_,.region rid ops draw,S,K=>Kc E call fid (path++[rid]) draw ops.toList S fun S=>aeW S (K .normal)
 |bid,.seq a b,S,K=>match E.joins path fid (MN b) m with
  |none=>goC E call fid path m bid a S fun e S=>match e with
   |.normal=>goC E call fid path m bid b S K
   |e=>K e S
  |some J=>J (fun k=>goC E call fid path m bid a S fun e S=>match e with
   |.normal=>k S
   |e=>K e S) (fun S=>goC E call fid path m bid b S K)
 |bid,.cond c a b,S,K=>match ev S.t c with
  |.bool x=>match x with
   |true=>goC E call fid path m bid a S K
   |false=>goC E call fid path m bid b S K
  |_=>none
 |_,.block id b,S,K=>goC E call fid path m id b S fun e S=>match e with
  |.exit j=>match j==id with
   |true=>K .normal S
   |false=>K (.exit j) S
  |e=>K e S
 |bid,.loop _,S,K=>E.loops path fid bid m S K
 |bid,.rangeFunc g _ _ _,S,K=>E.ranges path fid bid m (ev S.t g) S K
 |bid,.scope c,S,K=>goC E call fid path m bid c S fun e S=>match e with
  |.goto _=>none
  |e=>K e S
 |_,.exit id,S,K=>K (.exit id) S
 |_,.ret,S,K=>K .ret S
 |_,.label _,S,K=>K .normal S
 |_,_,_,_=>none
def uU (E:Env ρ) (call:List Nat→Bool→Nat→List AV→List Blk→(AV→List Blk→Option ρ)→Option ρ) (path:List Nat) (f:Nat) (args:List AV) (h:List Blk) (K:AV→List Blk→Option ρ):Option ρ :=
 match E.P.funcs[f]? with
 |some fn=>match fn.body with
  |some c=>goC E call f path h.length 0 c {t:=args++List.replicate (fn.ntmps-args.length) .any,h:=h} fun e S=>match e with
   |.normal=>match tr E.P fn S with
    |some v=>K v S.h
    |none=>none
   |.ret=>match tr E.P fn S with
    |some v=>K v S.h
    |none=>none
   |_=>none
  |none=>none
 |none=>none
def ŵ (E:Env ρ):Nat→List Nat→Bool→Nat→List AV→List Blk→(AV→List Blk→Option ρ)→Option ρ
 |0,_,_,_,_,_,_=>none
 |n+1,path,draw,f,args,h,K=>match E.pure f with
  |some g=>QZ (draw&&!E.fz f) g h args K
  |none=>match E.sort f with
   |true=>match args with
    |[x]=>QP h x K
    |_=>none
   |false=>match E.compact f with
   |true=>match args with
    |[x]=>pw h x K
    |_=>none
   |false=>match E.ext f with
    |some X=>X h args K
    |none=>match E.inl f with
     |true=>match E.stop path f with
      |true=>none
      |false=>uU E (ŵ E n) path f args h K
     |false=>none
def topK (E:Env ρ) (f:Nat) (args:List AV) (K:List Blk→AV→Option ρ):Option ρ :=
 uU E (ŵ E 10) [] f args [] fun v h=>K h v
def Ke (p:ã) (E:Env (Val (tyL p.rs))) (f:Nat):Prop :=
 ∀x:Val (tyL p.ts),topK E f (Zn p.ts x) (ai2 p.rs)=p.F x
def agr {τ:Type} (f:τ→(τ→Option ρ)→Option ρ):Nat→τ→Option ρ
 |0,_=>none
 |n+1,x=>f x (agr f n)
open Classical in
def Ë {τ:Type} (f:τ→(τ→Option ρ)→Option ρ) (x:τ):Option ρ :=
 if h:∃r:Option ρ,∃N,∀n,N≤n→agr f n x=r then Classical.choose h else none
def ag7 {τ:Type} {f:τ→(τ→Option ρ)→Option ρ} {x:τ} {r:Option ρ} (N:Nat) (h:∀n,N≤n→agr f n x=r):Ë f x=r:=by
 have hex:∃r:Option ρ,∃N,∀n,N≤n→agr f n x=r:=⟨r,N,h⟩;unfold Ë;rw[dif_pos hex];obtain⟨M,hM⟩:=Classical.choose_spec hex;rw[←hM (max M N) (Nat.le_max_left _ _),h _ (Nat.le_max_right _ _)]
def aci {τ:Type} {f:τ→(τ→Option ρ)→Option ρ} {x:τ} {r:ρ} (h:Ë f x=some r):∃n,agr f n x=some r:=by
 unfold Ë at h
 split at h
 ·rename_i hex;obtain⟨M,hM⟩:=Classical.choose_spec hex;exact⟨M,by rw[hM M (cG _),h]⟩
 ·cases h
def QM (body:St→(Exit→St→Option ρ)→Option ρ):Nat→St→(Exit→St→Option ρ)→Option ρ
 |0,_,_=>none
 |n+1,S,K=>body S fun e S=>match e with
  |.normal=>QM body n S K
  |e=>K e S
def yV {α β:Type} (f:α→β→(α→Option ρ)→Option ρ):List β→α→(α→Option ρ)→Option ρ
 |[],v,k=>k v
 |x::xs,v,k=>f v x fun v'=>yV f xs v' k
inductive LI where
 |lp (b:Code)
 |rf (g:Operand) (ps:Array Tmp) (a b:Code)
def Ý:Nat→Code→List (Nat×LI)
 |bid,.seq a b=>Ý bid a++Ý bid b
 |bid,.cond _ a b=>Ý bid a++Ý bid b
 |_,.block id b=>Ý id b
 |bid,.loop b=>(bid,.lp b)::Ý bid b
 |bid,.scope b=>Ý bid b
 |bid,.rangeFunc g ps a b=>(bid,.rf g ps a b)::(Ý bid a++Ý bid b)
 |_,_=>[]
def LI.loops (bid:Nat):LI→List (Nat×LI)
 |.lp b=>Ý bid b
 |.rf _ _ a b=>Ý bid a++Ý bid b
def mj (c:Option Code) (bid:Nat):LI :=
 match c with
 |some c=>match (Ý 0 c).find? (fun x=>x.1==bid) with
  |some x=>x.2
  |none=>.lp .skip
 |none=>.lp .skip
def uF (c:Option Code) (bid:Nat):Code :=
 match mj c bid with
 |.lp b=>b
 |.rf _ _ a b=>.seq a b
structure DV where
 ty:Ty
 val:Val ty
def Np (t:Ty) (d:DV):Option (Val t) :=
 match decEq d.ty t with
 |isTrue h=>some (wE (F:=Val) h d.val)
 |isFalse _=>none
def abK:(l:List Ty)→(t:Ty)→List DV→Option (Val (tys t l))
 |[],t,ds=>match ds with
  |[]=>none
  |d::ds=>match ds with
   |[]=>Np t d
   |_::_=>none
 |u::l,t,ds=>match ds with
  |[]=>none
  |d::ds=>match Np t d with
   |some x=>match abK l u ds with
    |some y=>some ((x,y):Val t×Val (tys u l))
    |none=>none
   |none=>none
def aiL (l:List Ty) (ds:List DV):Option (Val (tyL l)) :=
 match l with
 |[]=>match ds with
  |[]=>some ()
  |_::_=>none
 |t::l=>abK l t ds
def ab2:(t:Ty)→(l:List Ty)→Val (tys t l)→List DV
 |t,[],x=>[⟨t,x⟩]
 |t,u::l,x=>⟨t,(x:Val t×Val (tys u l)).1⟩::ab2 u l (x:Val t×Val (tys u l)).2
def Yc:(l:List Ty)→Val (tyL l)→List DV
 |[],_=>[]
 |t::l,x=>ab2 t l x
inductive Pat where
 |any
 |con (t:Ty)
 |var (t:Ty)
 |own (i:Nat)
 |dp (i:Nat)
 |omp (i:Nat)
 |box (i off:Nat)
 |nils
 |nilp
 |nilfn
 |yld
 |fn (f:Nat) (caps:List (Nat×Nat))
 |fnd (f:Nat) (ts:List Ty)
inductive jW where
 |dead
 |cells (ps:List Pat)
 |rowc (t:Ty)
 |rowf (t:Ty) (g:Nat)
 |rowv (t:Ty)
 |mapc (k v:Ty)
 |mapv (k v:Ty)
 |deepc (k:IntKind)
 |deepv (k:IntKind)
 |acc (t:Ty)
def aN:Nat→List Pat→List Pat
 |0,l=>l
 |n+1,l=>.any::aN n l
structure Tpl where
 n:Nat
 slots:List Pat
 heap:List jW
inductive Bd where
 |open_
 |new
 |newd
 |at_ (id:Nat)
structure Mt where
 bd:List Bd
 cons:List DV
 vars:List DV
 freed:List Nat
def jd:List Bd→Nat→Option Bd
 |[],_=>none
 |x::_,0=>some x
 |_::xs,n+1=>jd xs n
def Ir:List Bd→Nat→Bd→List Bd
 |[],_,_=>[]
 |_::xs,0,v=>v::xs
 |x::xs,n+1,v=>x::Ir xs n v
def Nx (M:Mt) (i id:Nat):Option Mt :=
 match jd M.bd i with
 |some .open_=>some {M with bd:=Ir M.bd i (.at_ id)}
 |some (.at_ id')=>match id'==id with
  |true=>some M
  |false=>none
 |_=>none
def ZH (M:Mt) (i:Nat):Option Mt :=
 match jd M.bd i with
 |some .open_=>some {M with bd:=Ir M.bd i .new}
 |_=>none
def TV (M:Mt) (i:Nat):Option Mt :=
 match jd M.bd i with
 |some .open_=>some {M with bd:=Ir M.bd i .newd}
 |_=>none
def Qq (h:List Blk):AV→List Nat
 |.own id _=>match lkB h id with
  |.row _ _ false _=>[id]
  |_=>[]
 |.sub id _ _ _=>match lkB h id with
  |.row _ _ false _=>[id]
  |_=>[]
 |.omp id=>[id]
 |_=>[]
def xQ (h:List Blk):List (Nat×Nat)→List AV→Mt→Option Mt
 |[],[],M=>some M
 |(i,o)::ps,.box id off::vs,M=>match o==off with
  |true=>match lkB h id with
   |.cells _=>match Nx M i id with
    |some M=>xQ h ps vs M
    |none=>none
   |_=>none
  |false=>none
 |_,_,_=>none
def xP:List Ty→List AV→Mt→Option Mt
 |[],[],M=>some M
 |t::ts,.eptr t' x o::vs,M=>match Nat.beq o 0 with
  |true=>match decEq t' t with
   |isTrue _=>xP ts vs {M with cons:=M.cons++[⟨.ptr t',x⟩]}
   |isFalse _=>none
  |false=>none
 |_,_,_=>none
def θ (h:List Blk) (p:Pat) (v:AV) (M:Mt):Option Mt :=
 match p with
 |.any=>some M
 |.con t=>match Ú t [ÿ h v] with
  |some x=>some {M with cons:=M.cons++[⟨t,x⟩],freed:=Qq h v++M.freed}
  |none=>none
 |.var t=>match Ú t [ÿ h v] with
  |some x=>some {M with vars:=M.vars++[⟨t,x⟩],freed:=Qq h v++M.freed}
  |none=>none
 |.own i=>match v with
  |.own id g=>match lkB h id with
   |.row _ g' false _=>match g==g' with
    |true=>Nx M i id
    |false=>none
   |_=>none
  |.nils=>ZH M i
  |_=>none
 |.dp i=>match v with
  |.dp id g=>match lkB h id with
   |.deep _ g' _=>match g==g' with
    |true=>Nx M i id
    |false=>none
   |_=>none
  |.nils=>TV M i
  |_=>none
 |.omp i=>match v with
  |.omp id=>match lkB h id with
   |.map _ _ _=>Nx M i id
   |_=>none
  |_=>none
 |.box i off=>match v with
  |.box id off'=>match off==off' with
   |true=>match lkB h id with
    |.cells _=>Nx M i id
    |_=>none
   |false=>none
  |_=>none
 |.nils=>match v with
  |.nils=>some M
  |_=>none
 |.nilp=>match v with
  |.nilp=>some M
  |_=>none
 |.nilfn=>match v with
  |.nilfn=>some M
  |_=>none
 |.yld=>match v with
  |.yld=>some M
  |_=>none
 |.fn f caps=>match v with
  |.fn (.func f') [] vs=>match f==f' with
   |true=>xQ h caps vs M
   |false=>none
  |_=>none
 |.fnd f ts=>match v with
  |.fn (.func f') [] vs=>match f==f' with
   |true=>xP ts vs M
   |false=>none
  |_=>none
def PX (h:List Blk):List Pat→List AV→Mt→Option Mt
 |[],_,M=>some M
 |p::ps,vs,M=>match θ h p (lk vs 0) M with
  |some M=>PX h ps vs.tail M
  |none=>none
def pI (h:List Blk):List Pat→List AV→Mt→Option Mt
 |[],[],M=>some M
 |p::ps,v::vs,M=>match θ h p v M with
  |some M=>pI h ps vs M
  |none=>none
 |_,_,_=>none
def ji (h:List Blk) (p:jW) (i:Nat) (M:Mt):Option Mt :=
 match p with
 |.dead=>match jd M.bd i with
  |some (.at_ id)=>match lkB h id with
   |.dead=>some M
   |_=>none
  |_=>none
 |.cells ps=>match jd M.bd i with
  |some (.at_ id)=>match lkB h id with
   |.cells cs=>pI h ps cs M
   |_=>none
  |_=>none
 |.rowc t=>match jd M.bd i with
  |some (.at_ id)=>match lkB h id with
   |.row t' _ false xs=>match decEq t' t with
    |isTrue _=>some {M with cons:=M.cons++[⟨.slice t',xs⟩]}
    |isFalse _=>none
   |_=>none
  |some .new=>some {M with cons:=M.cons++[⟨.slice t,[]⟩]}
  |_=>none
 |.rowf t g=>match jd M.bd i with
  |some (.at_ id)=>match lkB h id with
   |.row t' g' true xs=>match decEq t' t with
    |isTrue _=>match decEq g' g with
     |isTrue _=>some {M with cons:=M.cons++[⟨.slice t',xs⟩]}
     |isFalse _=>none
    |isFalse _=>none
   |_=>none
  |_=>none
 |.rowv t=>match jd M.bd i with
  |some (.at_ id)=>match lkB h id with
   |.row t' _ false xs=>match decEq t' t with
    |isTrue _=>some {M with vars:=M.vars++[⟨.slice t',xs⟩]}
    |isFalse _=>none
   |_=>none
  |some .new=>some {M with vars:=M.vars++[⟨.slice t,[]⟩]}
  |_=>none
 |.mapc k v=>match jd M.bd i with
  |some (.at_ id)=>match lkB h id with
   |.map k' v' es=>match decEq (Ty.map k' v') (Ty.map k v) with
    |isTrue _=>some {M with cons:=M.cons++[⟨.map k' v',es⟩]}
    |isFalse _=>none
   |_=>none
  |_=>none
 |.mapv k v=>match jd M.bd i with
  |some (.at_ id)=>match lkB h id with
   |.map k' v' es=>match decEq (Ty.map k' v') (Ty.map k v) with
    |isTrue _=>some {M with vars:=M.vars++[⟨.map k' v',es⟩]}
    |isFalse _=>none
   |_=>none
  |_=>none
 |.deepc k=>match jd M.bd i with
  |some (.at_ id)=>match lkB h id with
   |.deep k' _ xss=>match decEq k' k with
    |isTrue _=>some {M with cons:=M.cons++[⟨.slice (.slice (.int k')),xss⟩]}
    |isFalse _=>none
   |_=>none
  |some .newd=>some {M with cons:=M.cons++[⟨.slice (.slice (.int k)),[]⟩]}
  |_=>none
 |.deepv k=>match jd M.bd i with
  |some (.at_ id)=>match lkB h id with
   |.deep k' _ xss=>match decEq k' k with
    |isTrue _=>some {M with vars:=M.vars++[⟨.slice (.slice (.int k')),xss⟩]}
    |isFalse _=>none
   |_=>none
  |some .newd=>some {M with vars:=M.vars++[⟨.slice (.slice (.int k)),[]⟩]}
  |_=>none
 |.acc t=>match jd M.bd i with
  |some (.at_ id)=>match lkB h id with
   |.acc t' xs=>match decEq t' t with
    |isTrue _=>some {M with vars:=M.vars++[⟨.slice t',xs⟩]}
    |isFalse _=>none
   |_=>none
  |_=>none
def PY (h:List Blk):List jW→Nat→Mt→Option Mt
 |[],_,M=>some M
 |p::ps,i,M=>match ji h p i M with
  |some M=>PY h ps (i+1) M
  |none=>none
def BH (pin:Nat) (n:Nat):List Bd:=(List.range n).map fun i=>bif i<pin then .at_ i else .open_
def Jn:List Bd→List Nat
 |[]=>[]
 |.at_ id::l=>id::Jn l
 |_::l=>Jn l
def distinct:List Nat→Bool
 |[]=>true
 |x::l=>!l.contains x&&distinct l
def aeS (h:List Blk):Nat→Bool
 |0=>true
 |i+1=>match lkB h i with
  |.row _ (_+1) false _=>false
  |.deep _ (_+1) _=>false
  |_=>aeS h i
def AR (T:Tpl) (pin:Nat) (cs vs:List Ty) (S:St):Option (Val (tyL cs)×Val (tyL vs)) :=
 match decide (pin≤T.heap.length)&&(decide (T.slots.length≤T.n)&&(decide (T.n≤S.t.length)&&aeS S.h pin)) with
 |true=>match PX S.h T.slots S.t {bd:=BH pin T.heap.length,cons:=[],vars:=[],freed:=[]} with
  |some M=>match PY S.h T.heap 0 M with
   |some M=>match distinct (Jn M.bd)&&M.freed.all (fun i=>!(Jn M.bd).contains i) with
    |true=>match aiL cs M.cons,aiL vs M.vars with
     |some p,some v=>some (p,v)
     |_,_=>none
    |false=>none
   |none=>none
  |none=>none
 |false=>none
structure It where
 cons:List DV
 vars:List DV
def acz:DV→AV
 |⟨.unit,_⟩=>.any
 |⟨.pair _ _,_⟩=>.any
 |⟨t,x⟩=>enc t x
def zM:List Ty→It→List AV×It
 |[],I=>([],I)
 |_::ts,I=>match I.cons with
  |d::ds=>match zM ts {I with cons:=ds} with
   |(vs,I)=>(acz d::vs,I)
  |[]=>match zM ts I with
   |(vs,I)=>(.any::vs,I)
def td (p:Pat) (I:It):AV×It :=
 match p with
 |.any=>(.any,I)
 |.con _=>match I.cons with
  |d::ds=>(acz d,{I with cons:=ds})
  |[]=>(.any,I)
 |.var _=>match I.vars with
  |d::ds=>(acz d,{I with vars:=ds})
  |[]=>(.any,I)
 |.own i=>(.own i 0,I)
 |.dp i=>(.dp i 0,I)
 |.omp i=>(.omp i,I)
 |.box i off=>(.box i off,I)
 |.nils=>(.nils,I)
 |.nilp=>(.nilp,I)
 |.nilfn=>(.nilfn,I)
 |.yld=>(.yld,I)
 |.fn f caps=>(.fn (.func f) [] (caps.map fun c=>.box c.1 c.2),I)
 |.fnd f ts=>match zM ts I with
  |(vs,I)=>(.fn (.func f) [] vs,I)
def Hb:List Pat→It→List AV×It
 |[],I=>([],I)
 |p::ps,I=>match td p I with
  |(v,I)=>match Hb ps I with
   |(vs,I)=>(v::vs,I)
def rowDV:DV→Blk
 |⟨.slice t,xs⟩=>.row t 0 false xs
 |_=>.dead
def rowFz (g:Nat):DV→Blk
 |⟨.slice t,xs⟩=>.row t g true xs
 |_=>.dead
def accDV:DV→Blk
 |⟨.slice t,xs⟩=>.acc t xs
 |_=>.dead
def mapDV:DV→Blk
 |⟨.map k v,es⟩=>.map k v es
 |_=>.dead
def aip:DV→Blk
 |⟨.slice (.slice (.int k)),xss⟩=>.deep k 0 xss
 |_=>.dead
def tc (p:jW) (I:It):Blk×It :=
 match p with
 |.dead=>(.dead,I)
 |.cells ps=>match Hb ps I with
  |(cs,I)=>(.cells cs,I)
 |.rowc _=>match I.cons with
  |d::ds=>(rowDV d,{I with cons:=ds})
  |[]=>(.dead,I)
 |.rowf _ g=>match I.cons with
  |d::ds=>(rowFz g d,{I with cons:=ds})
  |[]=>(.dead,I)
 |.rowv _=>match I.vars with
  |d::ds=>(rowDV d,{I with vars:=ds})
  |[]=>(.dead,I)
 |.mapc _ _=>match I.cons with
  |d::ds=>(mapDV d,{I with cons:=ds})
  |[]=>(.dead,I)
 |.mapv _ _=>match I.vars with
  |d::ds=>(mapDV d,{I with vars:=ds})
  |[]=>(.dead,I)
 |.deepc _=>match I.cons with
  |d::ds=>(aip d,{I with cons:=ds})
  |[]=>(.dead,I)
 |.deepv _=>match I.vars with
  |d::ds=>(aip d,{I with vars:=ds})
  |[]=>(.dead,I)
 |.acc _=>match I.vars with
  |d::ds=>(accDV d,{I with vars:=ds})
  |[]=>(.dead,I)
def CH:List jW→It→List Blk×It
 |[],I=>([],I)
 |p::ps,I=>match tc p I with
  |(b,I)=>match CH ps I with
   |(bs,I)=>(b::bs,I)
def ü (T:Tpl) (cs vs:List Ty) (p:Val (tyL cs)) (v:Val (tyL vs)):St :=
 match Hb T.slots {cons:=Yc cs p,vars:=Yc vs v} with
 |(t,I)=>match CH T.heap I with
  |(h,_)=>{t:=t++List.replicate (T.n-T.slots.length) .any,h:=h}
structure Æ where
 pin:Nat
 cs:List Ty
 vs:List Ty
 head:Tpl
 exits:List (Exit×Tpl×List Ty)
 alt:Bool:=false
def Æ.zs (L:Æ) (i:Nat):List Ty:=match L.exits[i]? with|some x=>x.2.2|none=>[]
def Æ.tpl (L:Æ) (i:Nat):Tpl:=match L.exits[i]? with|some x=>x.2.1|none=>⟨0,[],[]⟩
def Æ.xk (L:Æ) (i:Nat):Exit:=match L.exits[i]? with|some x=>x.1|none=>.normal
def Jy:Exit→Exit→Bool
 |.exit i,.exit j=>i==j
 |.ret,.ret=>true
 |_,_=>false
def aho:List (Exit×Tpl×List Ty)→Exit→Nat→Option Nat
 |[],_,_=>none
 |x::xs,e,i=>match Jy x.1 e with
  |true=>some i
  |false=>aho xs e (i+1)
def FR (L:Æ) (kn:Val (tyL L.cs)→Val (tyL L.vs)→Option ρ) (kx:(i:Nat)→Val (tyL L.cs)→Val (tyL (L.zs i))→Option ρ) (e:Exit) (S:St):Option ρ :=
 match e with
 |.normal=>match AR L.head L.pin L.cs L.vs S with
  |some (p,v)=>kn p v
  |none=>none
 |e=>match aho L.exits e 0 with
  |some i=>match AR (L.tpl i) L.pin L.cs (L.zs i) S with
   |some (p,z)=>kx i p z
   |none=>none
  |none=>none
def fitsS (L:Æ) (S:St):Bool:=match L.alt with
 |false=>true
 |true=>match AR L.head L.pin L.cs L.vs S with
  |some _=>true
  |none=>false
def XY (L:Æ) (bF:Val (tyL L.cs)→Val (tyL L.vs)→(Val (tyL L.vs)→Option ρ)→((i:Nat)→Val (tyL (L.zs i))→Option ρ)→Option ρ) (m:Nat) (S:St) (K:Exit→St→Option ρ):Option ρ :=
 match Nat.ble m L.pin with
 |true=>match AR L.head L.pin L.cs L.vs S with
  |some (p,v)=>Ë (fun v kn=>bF p v kn fun i z=>K (L.xk i) (ü (L.tpl i) L.cs (L.zs i) p z)) v
  |none=>none
 |false=>none
end
end Go.Am
end

noncomputable section
namespace Go.Am
def ý {α β:Type} (R:α→β→Prop):List α→List β→Prop
 |[],[]=>True
 |a::l,b::m=>R a b∧ý R l m
 |_,_=>False
section
variable {α β:Type} {R R':α→β→Prop}
def ý.length:∀{l:List α} {m:List β},ý R l m→l.length=m.length
 |[],[],_=>rfl
 |_::_,_::_,h=>by simp[ý.length h.2]
 |[],_::_,h=>h.elim
 |_::_,[],h=>h.elim
def ý.mono (hr:∀a b,R a b→R' a b):∀{l:List α} {m:List β},ý R l m→ý R' l m
 |[],[],_=>trivial
 |_::_,_::_,h=>⟨hr _ _ h.1,ý.mono hr h.2⟩
 |[],_::_,h=>h.elim
 |_::_,[],h=>h.elim
def ý.append:∀{l:List α} {m:List β} {l':List α} {m':List β},ý R l m→ý R l' m'→ý R (l++l') (m++m')
 |[],[],_,_,_,h=>h
 |_::_,_::_,_,_,h,h'=>⟨h.1,ý.append h.2 h'⟩
 |[],_::_,_,_,h,_=>h.elim
 |_::_,[],_,_,h,_=>h.elim
def ý.get:∀{l:List α} {m:List β},ý R l m→∀{i:Nat} {a:α},l[i]?=some a→∃b,m[i]?=some b∧R a b
 |[],[],_,_,_,h=>by simp at h
 |_::_,b::_,h,0,_,e=>by simp at e; subst e; exact⟨b,by simp,h.1⟩
 |_::_,_::_,h,i+1,_,e=>by simpa using ý.get h.2 (by simpa using e)
 |[],_::_,h,_,_,_=>h.elim
 |_::_,[],h,_,_,_=>h.elim
def ý.get':∀{l:List α} {m:List β},ý R l m→∀{i:Nat} {b:β},m[i]?=some b→∃a,l[i]?=some a∧R a b
 |[],[],_,_,_,h=>by simp at h
 |a::_,_::_,h,0,_,e=>by simp at e; subst e; exact⟨a,by simp,h.1⟩
 |_::_,_::_,h,i+1,_,e=>by simpa using ý.get' h.2 (by simpa using e)
 |[],_::_,h,_,_,_=>h.elim
 |_::_,[],h,_,_,_=>h.elim
def ý.take:∀{l:List α} {m:List β} (n:Nat),ý R l m→ý R (l.take n) (m.take n)
 |_,_,0,_=>by simp[ý]
 |[],[],_+1,_=>by simp[ý]
 |_::_,_::_,n+1,h=>by simpa using⟨h.1,ý.take n h.2⟩
 |[],_::_,_+1,h=>h.elim
 |_::_,[],_+1,h=>h.elim
def ý.drop:∀{l:List α} {m:List β} (n:Nat),ý R l m→ý R (l.drop n) (m.drop n)
 |_,_,0,h=>by simpa using h
 |[],[],_+1,_=>by simp[ý]
 |_::_,_::_,n+1,h=>by simpa using ý.drop n h.2
 |[],_::_,_+1,h=>h.elim
 |_::_,[],_+1,h=>h.elim
def ý.of_get:∀{l:List α} {m:List β},l.length=m.length→(∀(i:Nat) (a:α) (b:β),l[i]?=some a→m[i]?=some b→R a b)→ý R l m
 |[],[],_,_=>trivial
 |a::l,b::m,hl,h=>⟨h 0 a b (by simp) (by simp),ý.of_get (by simpa using hl) fun i x y hx hy=>h (i+1) x y (by simpa using hx) (by simpa using hy)⟩
 |[],_::_,hl,_=>by simp at hl
 |_::_,[],hl,_=>by simp at hl
def ý.nil_left {m:List β} (h:ý R [] m):m=[]:=by cases m with|nil=>rfl|cons=>exact h.elim
def ý.one {a:α} {m:List β} (h:ý R [a] m):∃b,m=[b]∧R a b:=by
 cases m with
 |nil=>exact h.elim
 |cons b m=>exact⟨b,by rw[ý.nil_left h.2],h.1⟩
def ý.split:∀{l l':List α} {m:List β},ý R (l++l') m→∃u v,m=u++v∧ý R l u∧ý R l' v
 |[],_,m,h=>⟨[],m,by simp,trivial,h⟩
 |a::l,l',b::m,h=>by
  obtain⟨u,v,rfl,h1,h2⟩:=ý.split (l:=l) h.2;exact⟨b::u,v,by simp,⟨h.1,h1⟩,h2⟩
 |_::_,_,[],h=>h.elim
def ý.map_left {γ:Type} {f:γ→α}:∀{l:List γ} {m:List β},ý (fun c b=>R (f c) b) l m→ý R (l.map f) m
 |[],[],_=>trivial
 |_::_,_::_,h=>⟨h.1,ý.map_left h.2⟩
 |[],_::_,h=>h.elim
 |_::_,[],h=>h.elim
end
def CellsAt (w:World) (b off:Nat) (vs:List Value):Prop:=∀j v,vs[j]?=some v→w.cell? ⟨b,off+j,none⟩=some v
def xr (t:Ty) (vs:List Value):Value :=
 match t.isAgg with
 |true=>.agg vs.toArray
 |false=>vs.headD undef
def CR (w:World) (av:Nat→Prop):(t:Ty)→Val t→List Value→Prop
 |.unit,_,vs=>vs=[]
 |.bool,b,vs=>vs=[.bool b]
 |.int k,n,vs=>vs=[.int k n]
 |.str,s,vs=>vs=[.string s]
 |.slice t,xs,vs=>∃base cap,vs=[.slice base (xs:List (Val t)).length cap]∧(xs:List (Val t)).length≤cap ∧
    ((xs : List (Val t)) = [] ∨ ∃ b off, base = some ⟨b, off, none⟩ ∧ ¬ av b ∧ b < w.heap.size ∧
      ∀i x,(xs:List (Val t))[i]?=some x→∃us,CR w av t x us∧CellsAt w b (off+i*t.size) us)
 |.map k v,es,vs=>∃r,vs=[.map r]∧((r=none∧(es:List (Val k×Val v))=[]) ∨
    ∃(b:Nat) (entries:Array MapEntry) (clock:Nat),r=some b∧¬av b∧w.heap[b]?=some (.map entries clock)∧entries.size=(es:List (Val k×Val v)).length ∧
     ∀(i:Nat) (e:Val k×Val v),(es:List (Val k×Val v))[i]?=some e→∃(m:MapEntry) (us:List Value),entries[i]?=some m∧CR w av k e.1 [m.key]∧CR w av v e.2 us∧m.val=xr v us)
 |.ptr t,x,vs=>∃b off us,vs=[.pointer (some ⟨b,off,none⟩)]∧¬av b∧b<w.heap.size∧CR w av t x us∧CellsAt w b off us
 |.pair a b,v,vs=>∃us ws,vs=us++ws∧CR w av a (v:Val a×Val b).1 us∧CR w av b (v:Val a×Val b).2 ws
def HC (w:World) (av:Nat→Prop) (w':World) (av':Nat→Prop):Prop:=∀b,b<w.heap.size→¬av b→w'.heap[b]?=w.heap[b]?∧¬av' b
def ď {w:World} {b:Nat} {o:Obj} (h:w.heap[b]?=some o):b<w.heap.size:=by
 rcases dg b w.heap.size with h'|h'
 ·exact h'
 ·rw[Array.getElem?_eq_none h'] at h; cases h
def JG {w w':World} {b:Nat} (h:b<w.heap.size) (e:w'.heap[b]?=w.heap[b]?):b<w'.heap.size:=by
 rw[Array.getElem?_eq_getElem h] at e;exact ď e
def CellsAt.keep {w w':World} {b off:Nat} {vs:List Value} (h:CellsAt w b off vs) (e:w'.heap[b]?=w.heap[b]?):CellsAt w' b off vs :=
 fun j v hj=>by rw[World.cell?_of_block (w:=w) (by exact e)]; exact h j v hj
def CR.keep {w w':World} {av av':Nat→Prop} (K:HC w av w' av'):∀{t:Ty} {x:Val t} {vs:List Value},CR w av t x vs→CR w' av' t x vs
 |.unit,_,_,h=>h
 |.bool,_,_,h=>h
 |.int _,_,_,h=>h
 |.str,_,_,h=>h
 |.slice t,xs,vs,h=>by
  obtain⟨base,cap,e,hc,h⟩:=h;refine⟨base,cap,e,hc,?_⟩;rcases h with h|⟨b,off,hb,hav,hlt,h⟩
  ·exact .inl h
  ·obtain⟨e1,e2⟩:=K b hlt hav;refine .inr ⟨b,off,hb,e2,JG hlt e1,fun i x hx=>?_⟩;obtain⟨us,h1,h2⟩:=h i x hx;exact⟨us,CR.keep K h1,h2.keep e1⟩
 |.map k v,es,vs,h=>by
  obtain⟨r,e,h⟩:=h;refine⟨r,e,?_⟩;rcases h with h|⟨b,entries,clock,hr,hav,hh,hs,h⟩
  ·exact .inl h
  ·obtain⟨e1,e2⟩:=K b (ď hh) hav;refine .inr ⟨b,entries,clock,hr,e2,e1.trans hh,hs,fun i x hx=>?_⟩;obtain⟨m,us,h1,h2,h3,h4⟩:=h i x hx;exact⟨m,us,h1,CR.keep K h2,CR.keep K h3,h4⟩
 |.ptr t,x,vs,h=>by
  obtain⟨b,off,us,e,hav,hlt,h1,h2⟩:=h;obtain⟨e1,e2⟩:=K b hlt hav;exact⟨b,off,us,e,e2,JG hlt e1,CR.keep K h1,h2.keep e1⟩
 |.pair a b,x,vs,h=>by
  obtain⟨us,ws,e,h1,h2⟩:=h;exact⟨us,ws,e,CR.keep K h1,CR.keep K h2⟩
def CR.length {w:World} {av:Nat→Prop}:∀{t:Ty} {x:Val t} {vs:List Value},CR w av t x vs→vs.length=t.size
 |.unit,_,_,h=>by rw[h]; rfl
 |.bool,_,_,h=>by rw[h]; rfl
 |.int _,_,_,h=>by rw[h]; rfl
 |.str,_,_,h=>by rw[h]; rfl
 |.slice _,_,_,h=>by obtain⟨_,_,rfl,_⟩:=h; rfl
 |.map _ _,_,_,h=>by obtain⟨_,rfl,_⟩:=h; rfl
 |.ptr _,_,_,h=>by obtain⟨_,_,_,rfl,_⟩:=h; rfl
 |.pair a b,_,_,h=>by
  obtain⟨us,ws,rfl,h1,h2⟩:=h;rw[cJ,CR.length h1,CR.length h2]; rfl
def kg:Value→Option Nat
 |.pointer (some a)=>some a.block
 |.slice (some a) _ _=>some a.block
 |.map (some r)=>some r
 |_=>none
@[reducible] def Ļ:Value→Nat→Prop
 |.agg vs,b=>∃u∈vs.toList,kg u=some b
 |.pointer a,b=>kg (.pointer a)=some b
 |.slice a n c,b=>kg (.slice a n c)=some b
 |.map r,b=>kg (.map r)=some b
 |_,_=>False
def Blk.live:Blk→Bool
 |.dead=>false
 |.row _ _ fz _=>!fz
 |_=>true
def CW (ν:Nat→Value) (h:List Blk) (b:Nat):Prop:=∃id,(lkB h id).live=true∧Ļ (ν id) b
def NR:Obj→Bool
 |.cells _ _ _=>true
 |.map _ _=>true
 |_=>false
structure StepJ (B:Nat) (O X:Nat→Prop) (w:World) (X':Nat→Prop) (w':World):Prop where
 os:w'.os=w.os
 tape:w'.tape=w.tape
 output:w'.output=w.output
 size:w.heap.size≤w'.heap.size
 av:∀b,b<w.heap.size→¬X b→¬X' b
 dat:∀(b:Nat) (o:Obj),w.heap[b]?=some o→NR o=true→(X b→O b)→w'.heap[b]?=some o
 nd:∀(b:Nat) (o:Obj),w.heap[b]?=some o→NR o=false→b<B→w'.heap[b]?=some o
class Ghost where
 G:Nat→Prop
 D:List Deferred
 Q:Option Nat
 M:Nat
 L:Nat
 B:Nat
 T:Ty
 J:(O X:Nat→Prop)→List (Val T)→World→Prop
 st:∀O X X' xs w w',J O X xs w→StepJ B O X w X' w'→J O X' xs w'
@[reducible] def Ghost.re (g:Ghost) (G:Nat→Prop) (D:List Deferred) (Q:Option Nat) (M:Nat):Ghost:=⟨G,D,Q,M,g.L,g.B,g.T,g.J,g.st⟩
@[reducible] def Gh (G:Nat→Prop):Ghost:=⟨G,[],none,0,0,0,.unit,fun _ _ _ _=>False,fun _ _ _ _ _ _ h=>h.elim⟩
variable [Ghost]
def Av (ν:Nat→Value) (h:List Blk) (b:Nat):Prop:=CW ν h b∨Ghost.G b
def VR0 (ν:Nat→Value) (h:List Blk) (w:World):AV→Value→Prop
 |.any,_=>True
 |.und,v=>v=undef
 |.bool b,v=>v=.bool b
 |.int k n,v=>v=.int k n
 |.str s,v=>v=.string s
 |.nils,v=>v=.slice none 0 0
 |.slc t xs,v=>CR w (Av ν h) (.slice t) xs [v]
 |.own id g,v=>v.oneCell'=true∧∃t g' fz xs,lkB h id=.row t g' fz xs∧g≤g'∧(g=g'→v=ν id)
 |.sub id g lo n,v=>v.oneCell'=true∧∃t g' fz xs,lkB h id=.row t g' fz xs∧g≤g'∧(g=g'→lo+n≤xs.length∧∃base cap,ν id=.slice base xs.length cap∧v=.slice (if cap=lo then base else base.map (·.add (lo*t.size))) n (cap-lo))
 |.nilm,v=>v=.map none
 |.mp k e es,v=>CR w (Av ν h) (.map k e) es [v]
 |.omp id,v=>v.oneCell'=true∧∃k e es,lkB h id=.map k e es∧v=ν id
 |.nilp,v=>v=.pointer none
 |.box id off,v=>∃cs b,lkB h id=.cells cs∧ν id=.pointer (some ⟨b,0,none⟩)∧v=.pointer (some ⟨b,off,none⟩)
 |.eptr t x off,v=>∃b o us,v=.pointer (some ⟨b,o+off,none⟩)∧¬Av ν h b∧b<w.heap.size∧CR w (Av ν h) t x us∧CellsAt w b o us
 |.optr id g i off,v=>v.oneCell'=true∧∃t g' fz xs,lkB h id=.row t g' fz xs∧g≤g'∧(g=g'→i<xs.length∧∃b o cap,ν id=.slice (some ⟨b,o,none⟩) xs.length cap∧v=.pointer (some ⟨b,o+i*t.size+off,none⟩))
 |.nilfn,v=>v=.nilFunc
 |.yld,v=>v=.func (.yield Ghost.L) #[] #[]
 |.dp id g,v=>v.oneCell'=true∧∃k g' xss,lkB h id=.deep k g' xss∧g≤g'∧(g=g'→∃us,ν id=.agg (v::us).toArray)
 |.dq id g i,v=>v.oneCell'=true∧∃k g' xss,lkB h id=.deep k g' xss∧g≤g'∧(g=g'→i<xss.length∧∃us b o n cap,ν id=.agg (Value.slice (some ⟨b,o,none⟩) n cap::us).toArray∧v=.pointer (some ⟨b,o+i,none⟩))
 |.dr id g i,v=>v.oneCell'=true∧∃k g' xss,lkB h id=.deep k g' xss∧g≤g'∧(g=g'→∃u us,ν id=.agg (u::us).toArray∧us[i]?=some v)
 |.de id g i j,v=>v.oneCell'=true∧∃k g' xss,lkB h id=.deep k g' xss∧g≤g'∧(g=g'→∃u us b o n cap,ν id=.agg (u::us).toArray∧us[i]?=some (.slice (some ⟨b,o,none⟩) n cap)∧j<n∧v=.pointer (some ⟨b,o+j,none⟩))
 |_,_=>False
def VR1 (ν:Nat→Value) (h:List Blk) (w:World):AV→Value→Prop
 |.fn f first caps,v=>∃fs cs,v=.func f fs cs∧ý (VR0 ν h w) first fs.toList∧ý (VR0 ν h w) caps cs.toList
 |a,v=>VR0 ν h w a v
def VRc (ν:Nat→Value) (h:List Blk) (w:World) (a:AV) (v:Value):Prop:=VR1 ν h w a v∧v.oneCell'=true
def VR2 (ν:Nat→Value) (h:List Blk) (w:World):AV→Value→Prop
 |.agg cs,v=>∃vs,v=.agg vs∧ý (VRc ν h w) cs vs.toList
 |a,v=>VR1 ν h w a v
def VR (ν:Nat→Value) (h:List Blk) (w:World):AV→Value→Prop
 |.tup as,v=>∃vs,v=.tuple vs∧ý (VR2 ν h w) as vs.toList
 |a,v=>VR2 ν h w a v
def AV.isFn:AV→Bool
 |.fn _ _ _=>true
 |_=>false
def AV.isAgg:AV→Bool
 |.agg _=>true
 |_=>false
def AV.isTup:AV→Bool
 |.tup _=>true
 |_=>false
def xd {ν:Nat→Value} {h:List Blk} {w:World} {a:AV} {v:Value} (hf:a.isFn=false):VR1 ν h w a v=VR0 ν h w a v:=by
 cases a<;>first|rfl|cases hf
def zn {ν:Nat→Value} {h:List Blk} {w:World} {a:AV} {v:Value} (hf:a.isAgg=false):VR2 ν h w a v=VR1 ν h w a v:=by
 cases a<;>first|rfl|cases hf
def xp {ν:Nat→Value} {h:List Blk} {w:World} {a:AV} {v:Value} (hf:a.isTup=false):VR ν h w a v=VR2 ν h w a v:=by
 cases a<;>first|rfl|cases hf
def ZM (w:World) (k:IntKind) (xs:List Int) (u:Value):Prop:=∃base cap,u=.slice base xs.length cap∧xs.length≤cap ∧
 ((base=none∧cap=0)∨∃b off c e,base=some ⟨b,off,none⟩∧w.heap[b]?=some (.cells c e (0,0))∧off+cap≤c.size∧∀(j:Nat) (x:Int),xs[j]?=some x→c[off+j]?=some (.int k x))
def XD (l:List Value):Prop:=l.Pairwise fun u v=>∀b,kg u=some b→kg v≠some b
def BR (ν:Nat→Value) (h:List Blk) (w:World) (id:Nat):Blk→Prop
 |.dead=>True
 |.cells cs=>∃b c e,ν id=.pointer (some ⟨b,0,none⟩)∧w.heap[b]?=some (.cells c e (0,0))∧ý (VRc ν h w) cs c.toList
 |.row t _ false xs=>∃base cap,ν id=.slice base xs.length cap∧xs.length≤cap ∧
    ((base = none ∧ cap = 0) ∨ ∃ b off c e, base = some ⟨b, off, none⟩ ∧ w.heap[b]? = some (.cells c e (0, 0)) ∧ off + cap * t.size ≤ c.size ∧
      ∀i x,xs[i]?=some x→∃us,CR w (Av ν h) t x us∧CellsAt w b (off+i*t.size) us)
 |.row t _ true xs=>CR w (Av ν h) (.slice t) xs [ν id]
 |.map k v es=>∃(b:Nat) (entries:Array MapEntry) (clock:Nat),ν id=.map (some b)∧w.heap[b]?=some (.map entries clock)∧entries.size=(es:List (Val k×Val v)).length ∧
    ∀(i:Nat) (e:Val k×Val v),(es:List (Val k×Val v))[i]?=some e→∃(m:MapEntry) (us:List Value),entries[i]?=some m∧CR w (Av ν h) k e.1 [m.key]∧CR w (Av ν h) v e.2 us∧m.val=xr v us
 |.deep k _ xss=>∃base cap us,ν id=.agg (Value.slice base xss.length cap::us).toArray∧xss.length≤cap∧XD (Value.slice base xss.length cap::us) ∧
    ((base=none∧cap=0)∨∃b off c e,base=some ⟨b,off,none⟩∧w.heap[b]?=some (.cells c e (0,0))∧off+cap≤c.size∧∀(i:Nat) (u:Value),us[i]?=some u→c[off+i]?=some u) ∧
    ý (ZM w k) xss us
 |.acc t xs=>∃us,ν id=.agg us∧(∀b,Ļ (ν id) b→∃o,w.heap[b]?=some o∧NR o=true)∧∃e:t=Ghost.T,Ghost.J (Ļ (ν id)) (Av ν h) (wE (F:=fun t=>List (Val t)) e xs) w
structure HR (ν:Nat→Value) (h:List Blk) (w:World):Prop where
 blk:∀id,BR ν h w id (lkB h id)
 inj:∀i j b,(lkB h i).live=true→(lkB h j).live=true→Ļ (ν i) b→Ļ (ν j) b→i=j
 ghlt:∀b,Ghost.G b→b<w.heap.size
 ghne:∀id b,(lkB h id).live=true→Ļ (ν id) b→¬Ghost.G b
def Blk.next (ν ν':Nat→Value) (id:Nat):Blk→Blk→Prop
 |.dead,_=>True
 |.cells _,B=>(∃cs,B=.cells cs)∧ν' id=ν id
 |.row t g _ xs,B=>∃g' fz xs',B=.row t g' fz xs'∧g≤g'∧(g=g'→ν' id=ν id∧xs'.length=xs.length)
 |.map k v _,B=>(∃es,B=.map k v es)∧ν' id=ν id
 |.deep k g xss,B=>∃g' xss',B=.deep k g' xss'∧g≤g'∧(g=g'→ν' id=ν id∧xss'.length=xss.length)
 |.acc t _,B=>∃xs,B=.acc t xs
structure Ev (m:Nat) (ν:Nat→Value) (h:List Blk) (w:World) (ν':Nat→Value) (h':List Blk) (w':World):Prop where
 os:w'.os=w.os
 tape:w'.tape=w.tape
 output:w'.output=w.output
 size:w.heap.size≤w'.heap.size
 keep:HC w (CW ν h) w' (CW ν' h')
 blk:∀id,id<m→(lkB h id).next ν ν' id (lkB h' id)
def Blk.next_refl (ν:Nat→Value) (id:Nat) (B:Blk):B.next ν ν id B:=by
 cases B with
 |dead=>trivial
 |cells cs=>exact⟨⟨cs,rfl⟩,rfl⟩
 |row t g fz xs=>exact⟨g,fz,xs,rfl,cG _,fun _=>⟨rfl,rfl⟩⟩
 |map k v es=>exact⟨⟨es,rfl⟩,rfl⟩
 |deep k g xss=>exact⟨g,xss,rfl,cG _,fun _=>⟨rfl,rfl⟩⟩
 |acc t xs=>exact⟨xs,rfl⟩
def Blk.next_trans {ν ν' ν'':Nat→Value} {id:Nat} {A B C:Blk} (h:A.next ν ν' id B) (k:B.next ν' ν'' id C):A.next ν ν'' id C:=by
 cases A with
 |dead=>trivial
 |cells cs =>
  obtain⟨⟨cs',rfl⟩,e⟩:=h;obtain⟨⟨cs'',rfl⟩,e'⟩:=k;exact⟨⟨cs'',rfl⟩,e'.trans e⟩
 |row t g fz xs =>
  obtain⟨g',fz',xs',rfl,hle,he⟩:=h;obtain⟨g'',fz'',xs'',rfl,hle',he'⟩:=k;refine⟨g'',fz'',xs'',rfl,cY hle hle',fun e=>?_⟩
  have e1:g=g':=by omega
  have e2:g'=g'':=by omega
  exact⟨(he' e2).1.trans (he e1).1,(he' e2).2.trans (he e1).2⟩
 |map k' v es =>
  obtain⟨⟨es',rfl⟩,e⟩:=h;obtain⟨⟨es'',rfl⟩,e'⟩:=k;exact⟨⟨es'',rfl⟩,e'.trans e⟩
 |deep q g xss =>
  obtain⟨g',xss',rfl,hle,he⟩:=h;obtain⟨g'',xss'',rfl,hle',he'⟩:=k;refine⟨g'',xss'',rfl,cY hle hle',fun e=>?_⟩
  have e1:g=g':=by omega
  have e2:g'=g'':=by omega
  exact⟨(he' e2).1.trans (he e1).1,(he' e2).2.trans (he e1).2⟩
 |acc t xs =>
  obtain⟨xs',rfl⟩:=h;exact k
def HC.refl (w:World) (av:Nat→Prop):HC w av w av:=fun _ _ h=>⟨rfl,h⟩
def HC.trans {w w' w'':World} {a a' a'':Nat→Prop} (h:HC w a w' a') (k:HC w' a' w'' a''):HC w a w'' a'' :=
 fun b hb ha=>let ⟨e1,e2⟩:=h b hb ha; let ⟨f1,f2⟩:=k b (JG hb e1) e2; ⟨f1.trans e1,f2⟩
omit [Ghost] in
def HC.or {w w':World} {a a' g:Nat→Prop} (h:HC w a w' a'):HC w (fun b=>a b∨g b) w' (fun b=>a' b∨g b) :=
 fun b hb hn=>⟨(h b hb fun q=>hn (.inl q)).1,fun q=>q.elim (h b hb fun q=>hn (.inl q)).2 fun q=>hn (.inr q)⟩
def Ev.keepA {m:Nat} {ν ν':Nat→Value} {h h':List Blk} {w w':World} (e:Ev m ν h w ν' h' w'):HC w (Av ν h) w' (Av ν' h'):=e.keep.or
def Ev.refl (m:Nat) (ν:Nat→Value) (h:List Blk) (w:World):Ev m ν h w ν h w :=
 ⟨rfl,rfl,rfl,cG _,HC.refl _ _,fun _ _=>Blk.next_refl _ _ _⟩
def Ev.trans {m m':Nat} {ν ν' ν'':Nat→Value} {h h' h'':List Blk} {w w' w'':World} (e:Ev m ν h w ν' h' w') (e':Ev m' ν' h' w' ν'' h'' w'') (hm:m≤m'):Ev m ν h w ν'' h'' w'' :=
 ⟨e'.os.trans e.os,e'.tape.trans e.tape,e'.output.trans e.output,cY e.size e'.size,e.keep.trans e'.keep,
  fun id hi=>Blk.next_trans (e.blk id hi) (e'.blk id (dc hi hm))⟩
def Ev.mono {m m':Nat} {ν ν':Nat→Value} {h h':List Blk} {w w':World} (e:Ev m ν h w ν' h' w') (hm:m'≤m):Ev m' ν h w ν' h' w' :=
 ⟨e.os,e.tape,e.output,e.size,e.keep,fun id hi=>e.blk id (dc hi hm)⟩
def Ű:∀{h:List Blk} {id:Nat} {B:Blk},lkB h id=B→B≠.dead→id<h.length
 |[],_,B,e,hB=>absurd e.symm hB
 |_::_,0,_,_,_=>g8 _
 |_::_,_+1,_,e,hB=>Nat.succ_lt_succ (Ű e hB)
section
variable {ν ν':Nat→Value} {h h':List Blk} {w w':World}
def VR0.ev (e:Ev h.length ν h w ν' h' w'):∀{a:AV} {v:Value},VR0 ν h w a v→VR0 ν' h' w' a v:=by
 intro a v hv
 cases a with
 |any=>trivial
 |und=>exact hv
 |bool=>exact hv
 |int=>exact hv
 |str=>exact hv
 |nils=>exact hv
 |nilm=>exact hv
 |nilp=>exact hv
 |nilfn=>exact hv
 |yld=>exact hv
 |slc t xs=>exact CR.keep e.keepA hv
 |mp k t es=>exact CR.keep e.keepA hv
 |own id g =>
  obtain⟨ho,t,g',fz,xs,hl,hle,hg⟩:=hv;have hb:=e.blk id (Ű hl (by simp));rw[hl] at hb;obtain⟨g'',fz',xs',hl',hle',he⟩:=hb;refine⟨ho,t,g'',fz',xs',hl',cY hle hle',fun eq=>?_⟩
  have e1:g=g':=by omega
  have e2:g'=g'':=by omega
  rw[hg e1,(he e2).1]
 |sub id g lo n =>
  obtain⟨ho,t,g',fz,xs,hl,hle,hg⟩:=hv;have hb:=e.blk id (Ű hl (by simp));rw[hl] at hb;obtain⟨g'',fz',xs',hl',hle',he⟩:=hb;refine⟨ho,t,g'',fz',xs',hl',cY hle hle',fun eq=>?_⟩
  have e1:g=g':=by omega
  have e2:g'=g'':=by omega
  obtain⟨h1,base,cap,h2,h3⟩:=hg e1;obtain⟨f1,f2⟩:=he e2;exact⟨by rw[f2]; exact h1,base,cap,by rw[f1,f2]; exact h2,h3⟩
 |omp id =>
  obtain⟨ho,k,t,es,hl,hg⟩:=hv;have hb:=e.blk id (Ű hl (by simp));rw[hl] at hb;obtain⟨⟨es',hl'⟩,he⟩:=hb;exact⟨ho,k,t,es',hl',by rw[hg,he]⟩
 |box id off =>
  obtain⟨cs,b,hl,h1,h2⟩:=hv;have hb:=e.blk id (Ű hl (by simp));rw[hl] at hb;obtain⟨⟨cs',hl'⟩,he⟩:=hb;exact⟨cs',b,hl',by rw[he]; exact h1,h2⟩
 |eptr t x off =>
  obtain⟨b,o,us,h1,h2,h3,h4,h5⟩:=hv;obtain⟨e1,e2⟩:=e.keepA b h3 h2;exact⟨b,o,us,h1,e2,JG h3 e1,CR.keep e.keepA h4,h5.keep e1⟩
 |optr id g i off =>
  obtain⟨ho,t,g',fz,xs,hl,hle,hg⟩:=hv;have hb:=e.blk id (Ű hl (by simp));rw[hl] at hb;obtain⟨g'',fz',xs',hl',hle',he⟩:=hb;refine⟨ho,t,g'',fz',xs',hl',cY hle hle',fun eq=>?_⟩
  have e1:g=g':=by omega
  have e2:g'=g'':=by omega
  obtain⟨h1,b,o,cap,h2,h3⟩:=hg e1;obtain⟨f1,f2⟩:=he e2;exact⟨by rw[f2]; exact h1,b,o,cap,by rw[f1,f2]; exact h2,h3⟩
 |dp id g =>
  obtain⟨ho,k,g',xss,hl,hle,hg⟩:=hv;have hb:=e.blk id (Ű hl (by simp));rw[hl] at hb;obtain⟨g'',xss',hl',hle',he⟩:=hb;refine⟨ho,k,g'',xss',hl',cY hle hle',fun eq=>?_⟩
  have e1:g=g':=by omega
  have e2:g'=g'':=by omega
  rw[(he e2).1];exact hg e1
 |dq id g i =>
  obtain⟨ho,k,g',xss,hl,hle,hg⟩:=hv;have hb:=e.blk id (Ű hl (by simp));rw[hl] at hb;obtain⟨g'',xss',hl',hle',he⟩:=hb;refine⟨ho,k,g'',xss',hl',cY hle hle',fun eq=>?_⟩
  have e1:g=g':=by omega
  have e2:g'=g'':=by omega
  rw[(he e2).1,(he e2).2];exact hg e1
 |dr id g i =>
  obtain⟨ho,k,g',xss,hl,hle,hg⟩:=hv;have hb:=e.blk id (Ű hl (by simp));rw[hl] at hb;obtain⟨g'',xss',hl',hle',he⟩:=hb;refine⟨ho,k,g'',xss',hl',cY hle hle',fun eq=>?_⟩
  have e1:g=g':=by omega
  have e2:g'=g'':=by omega
  rw[(he e2).1];exact hg e1
 |de id g i j =>
  obtain⟨ho,k,g',xss,hl,hle,hg⟩:=hv;have hb:=e.blk id (Ű hl (by simp));rw[hl] at hb;obtain⟨g'',xss',hl',hle',he⟩:=hb;refine⟨ho,k,g'',xss',hl',cY hle hle',fun eq=>?_⟩
  have e1:g=g':=by omega
  have e2:g'=g'':=by omega
  rw[(he e2).1];exact hg e1
 |fn=>exact hv.elim
 |agg=>exact hv.elim
 |tup=>exact hv.elim
def VR1.ev (e:Ev h.length ν h w ν' h' w') {a:AV} {v:Value} (hv:VR1 ν h w a v):VR1 ν' h' w' a v:=by
 cases hf:a.isFn with
 |true =>
  cases a<;>try cases hf
  obtain⟨fs,cs,h1,h2,h3⟩:=hv;exact⟨fs,cs,h1,h2.mono fun _ _=>VR0.ev e,h3.mono fun _ _=>VR0.ev e⟩
 |false=>rw[xd hf] at hv ⊢; exact VR0.ev e hv
def VRc.ev (e:Ev h.length ν h w ν' h' w') {a:AV} {v:Value} (hv:VRc ν h w a v):VRc ν' h' w' a v:=⟨hv.1.ev e,hv.2⟩
def VR2.ev (e:Ev h.length ν h w ν' h' w') {a:AV} {v:Value} (hv:VR2 ν h w a v):VR2 ν' h' w' a v:=by
 cases hf:a.isAgg with
 |true =>
  cases a<;>try cases hf
  obtain⟨vs,h1,h2⟩:=hv;exact⟨vs,h1,h2.mono fun _ _=>VRc.ev e⟩
 |false=>rw[zn hf] at hv ⊢; exact VR1.ev e hv
def VR.ev (e:Ev h.length ν h w ν' h' w') {a:AV} {v:Value} (hv:VR ν h w a v):VR ν' h' w' a v:=by
 cases hf:a.isTup with
 |true =>
  cases a<;>try cases hf
  obtain⟨vs,h1,h2⟩:=hv;exact⟨vs,h1,h2.mono fun _ _=>VR2.ev e⟩
 |false=>rw[xp hf] at hv ⊢; exact VR2.ev e hv
end
def mk1 (k:Nat):Deferred:={target:=.collected k,args:=#[]}
def Fr (w:World) (ds:List Deferred):Prop :=
 (∃ms:List Nat,ds=ms.map mk1++Ghost.D∧ms.Nodup∧∀k∈ms,w.heap[k]?=some (.deferred (some []))∧Ghost.M≤k) ∧
 (∀l,Ghost.Q=some l→∃r,w.heap[l]?=some (.loop r))∧Ghost.B≤Ghost.M∧Ghost.M≤w.heap.size
def Fr.keep {w w':World} {ds:List Deferred} (H:Fr w ds) (hs:w.heap.size≤w'.heap.size) (hnd:∀(b:Nat) (o:Obj),w.heap[b]?=some o→NR o=false→w'.heap[b]?=some o):Fr w' ds:=by
 obtain⟨⟨ms,h1,h2,h3⟩,h4,h5,h6⟩:=H;exact⟨⟨ms,h1,h2,fun k hk=>⟨hnd k _ (h3 k hk).1 rfl,(h3 k hk).2⟩⟩,fun l hl=>(h4 l hl).imp fun r hr=>hnd l _ hr rfl,h5,cY h6 hs⟩
def Fr.bnd {w:World} {ds:List Deferred} (H:Fr w ds):Ghost.B≤w.heap.size:=cY H.2.2.1 H.2.2.2
structure Sim (ν:Nat→Value) (S:St) (a:Act) (w:World):Prop where
 defers:Fr w a.defers
 len:S.t.length≤a.tmps.size
 tmps:∀i,VR ν S.h w (lk S.t i) (a.tmps.getD i undef)
 heap:HR ν S.h w
def aez:∀(t:List AV) (d:Nat) (v:AV) (i:Nat),lk (upd t d v) i=if i=d∧d<t.length then v else lk t i
 |[],d,v,i=>by simp[upd,lk]
 |x::xs,0,v,0=>by simp[upd,lk]
 |x::xs,0,v,i+1=>by simp[upd,lk]
 |x::xs,d+1,v,0=>by simp[upd,lk]
 |x::xs,d+1,v,i+1=>by simp[upd,lk,aez xs d v i]
def ag9:∀(t:List AV) (d:Nat),t.length≤d→lk t d=.any
 |[],_,_=>rfl
 |x::xs,0,h=>by simp at h
 |x::xs,d+1,h=>by simpa[lk] using ag9 xs d (by simpa using h)
def Qj:∀(t:List AV) (d:Nat) (v:AV),(upd t d v).length=t.length
 |[],_,_=>rfl
 |_::_,0,_=>rfl
 |_::xs,d+1,v=>by simp[upd,Qj xs d v]
def wo:∀(h:List Blk) (d:Nat) (B:Blk) (i:Nat),lkB (ð h d B) i=if i=d∧d<h.length then B else lkB h i
 |[],d,v,i=>by simp[ð,lkB]
 |x::xs,0,v,0=>by simp[ð,lkB]
 |x::xs,0,v,i+1=>by simp[ð,lkB]
 |x::xs,d+1,v,0=>by simp[ð,lkB]
 |x::xs,d+1,v,i+1=>by simp[ð,lkB,wo xs d v i]
def Ñ:∀(h:List Blk) (d:Nat) (B:Blk),(ð h d B).length=h.length
 |[],_,_=>rfl
 |_::_,0,_=>rfl
 |_::xs,d+1,v=>by simp[ð,Ñ xs d v]
end Go.Am
end

noncomputable section
namespace Go.Am
variable [Ghost]
section
variable {ν ν':Nat→Value} {h h':List Blk} {w w':World}
def afm (v:Value):VR0 ν h w (cv1 v) v:=by
 unfold cv1; split<;>first|rfl|trivial
def W8 (v:Value):(cv1 v).isFn=false:=by
 unfold cv1; split<;>rfl
def acC (v:Value):(cv1 v).isAgg=false:=by
 unfold cv1; split<;>rfl
def QC (v:Value):(cv1 v).isTup=false:=by
 unfold cv1; split<;>rfl
def ý.map_self {α β:Type} {R:α→β→Prop} {f:β→α}:∀{l:List β},(∀b∈l,R (f b) b)→ý R (l.map f) l
 |[],_=>trivial
 |b::l,h=>⟨h b (by simp),ý.map_self fun c hc=>h c (by simp[hc])⟩
def Zu (v:Value):VR ν h w (cv v) v:=by
 unfold cv
 split
 ·rename_i cs
  split
  ·rename_i hc;refine⟨cs,rfl,ý.map_self fun b hb=>⟨?_,di.1 hc b hb⟩⟩;rw[xd (W8 b)]; exact afm b
  ·trivial
 ·rw[xp (QC _),zn (acC _),xd (W8 _)]; exact afm _
def afl (v:Value):(cv v).isTup=false:=by
 unfold cv
 split
 ·split<;>rfl
 ·exact QC _
def Ņ {S:St} {a:Act} (H:Sim ν S a w) (x:Operand):VR ν S.h w (ev S.t x) (a.eval x):=by
 cases x with
 |tmp i=>exact H.tmps i
 |const v=>exact Zu v
 |func f=>exact⟨#[],#[],rfl,trivial,trivial⟩
 |global g=>trivial
def VR.one {a:AV} {v:Value} (hv:VR ν h w a v) (ha:a.isAgg=false) (ht:a.isTup=false):VR1 ν h w a v:=by
 rw[xp ht,zn ha] at hv; exact hv
def VR1.up {a:AV} {v:Value} (hv:VR1 ν h w a v):VR ν h w a v:=by
 cases ht:a.isTup with
 |true =>
  cases a<;>try cases ht
  exact hv.elim
 |false =>
  cases ha:a.isAgg with
  |true =>
   cases a<;>try cases ha
   exact hv.elim
  |false=>rw[xp ht,zn ha]; exact hv
def VR0.up {a:AV} {v:Value} (hv:VR0 ν h w a v):VR1 ν h w a v:=by
 cases hf:a.isFn with
 |true =>
  cases a<;>try cases hf
  exact hv.elim
 |false=>rw[xd hf]; exact hv
def CR.oneCell:∀{t:Ty} {x:Val t} {vs:List Value} {av:Nat→Prop},CR w av t x vs→∀v∈vs,v.oneCell'=true
 |.unit,_,_,_,h=>by rw[show _=[] from h]; simp
 |.bool,_,_,_,h=>by rw[show _=[_] from h]; simp[Value.oneCell']
 |.int _,_,_,_,h=>by rw[show _=[_] from h]; simp[Value.oneCell']
 |.str,_,_,_,h=>by rw[show _=[_] from h]; simp[Value.oneCell']
 |.slice _,_,_,_,h=>by obtain⟨_,_,rfl,_⟩:=h; simp[Value.oneCell']
 |.map _ _,_,_,_,h=>by obtain⟨_,rfl,_⟩:=h; simp[Value.oneCell']
 |.ptr _,_,_,_,h=>by obtain⟨_,_,_,rfl,_⟩:=h; simp[Value.oneCell']
 |.pair a b,_,_,_,h=>by
  obtain⟨us,ws,rfl,h1,h2⟩:=h;intro v hv;rcases cM.1 hv with hv|hv
  ·exact CR.oneCell h1 v hv
  ·exact CR.oneCell h2 v hv
def VR1.oneCell {a:AV} {v:Value} {vs:List AV} (hv:VR1 ν h w a v) (hc:ś a=some vs):v.oneCell'=true:=by
 cases a with
 |any=>cases hc
 |und=>cases hc
 |agg=>exact hv.elim
 |tup=>cases hc
 |bool b=>rw[show v=_ from hv]; rfl
 |int k n=>rw[show v=_ from hv]; rfl
 |str s=>rw[show v=_ from hv]; rfl
 |nils=>rw[show v=_ from hv]; rfl
 |nilm=>rw[show v=_ from hv]; rfl
 |nilp=>rw[show v=_ from hv]; rfl
 |nilfn=>rw[show v=_ from hv]; rfl
 |yld=>rw[show v=_ from hv]; rfl
 |slc t xs=>exact CR.oneCell hv v (by simp)
 |mp k t es=>exact CR.oneCell hv v (by simp)
 |own id g=>exact hv.1
 |sub id g lo n=>exact hv.1
 |omp id=>exact hv.1
 |box id off=>obtain⟨_,_,_,_,rfl⟩:=hv; rfl
 |eptr t x off=>obtain⟨_,_,_,rfl,_⟩:=hv; rfl
 |optr id g i off=>exact hv.1
 |dp id g=>exact hv.1
 |dq id g i=>exact hv.1
 |dr id g i=>exact hv.1
 |de id g i j=>exact hv.1
 |fn f fs cs=>obtain⟨_,_,rfl,_⟩:=hv; rfl
def qD {v:Value} (h:v.oneCell'=true):v.cells.toList=[v]:=by cases v<;>first|rfl|cases h
def VR.cells {a:AV} {v:Value} {vs:List AV} (hv:VR ν h w a v) (hc:ś a=some vs):ý (VRc ν h w) vs v.cells.toList:=by
 cases ha:a.isAgg with
 |true =>
  cases a<;>try cases ha
  obtain⟨us,rfl,h2⟩:=hv;cases hc;exact h2
 |false =>
  have ht:a.isTup=false:=by cases a<;>first|rfl|cases hc
  have h1:=hv.one ha ht;have h2:=h1.oneCell hc
  have h3:vs=[a]:=by cases a<;>simp_all[ś,AV.isAgg]
  rw[h3,qD h2];exact⟨⟨h1,h2⟩,trivial⟩
def lR:∀{t:Ty} {x:Val t} {vs:List Value},CR w (Av ν h) t x vs→ý (VRc ν h w) (flat t x) vs
 |.unit,_,_,hc=>by rw[show _=[] from hc]; trivial
 |.bool,_,_,hc=>by rw[show _=[_] from hc]; exact⟨⟨rfl,rfl⟩,trivial⟩
 |.int _,_,_,hc=>by rw[show _=[_] from hc]; exact⟨⟨rfl,rfl⟩,trivial⟩
 |.str,_,_,hc=>by rw[show _=[_] from hc]; exact⟨⟨rfl,rfl⟩,trivial⟩
 |.slice _,_,_,hc=>by obtain⟨_,_,rfl,h'⟩:=id hc; exact⟨⟨hc,rfl⟩,trivial⟩
 |.map _ _,_,_,hc=>by obtain⟨_,rfl,h'⟩:=id hc; exact⟨⟨hc,rfl⟩,trivial⟩
 |.ptr _,_,_,hc=>by
  obtain⟨b,off,us,rfl,h1,h2,h3,h4⟩:=id hc;exact⟨⟨⟨b,off,us,rfl,h1,h2,h3,h4⟩,rfl⟩,trivial⟩
 |.pair _ _,_,_,hc=>by
  obtain⟨us,ws,rfl,h1,h2⟩:=hc;exact(lR h1).append (lR h2)
def Il {t:Ty} {x:Val t} {vs:List Value} (hc:CR w (Av ν h) t x vs):VR ν h w (enc t x) (xr t vs):=by
 have hf:=lR hc
 cases t with
 |unit=>exact⟨vs.toArray,rfl,by simpa[flat] using hf⟩
 |pair a b=>exact⟨vs.toArray,rfl,by simpa using hf⟩
 |bool=>obtain⟨u,rfl,h1⟩:=hf.one; exact h1.1.up
 |int k=>obtain⟨u,rfl,h1⟩:=hf.one; exact h1.1.up
 |str=>obtain⟨u,rfl,h1⟩:=hf.one; exact h1.1.up
 |slice t=>obtain⟨u,rfl,h1⟩:=hf.one; exact h1.1.up
 |map k v=>obtain⟨u,rfl,h1⟩:=hf.one; exact h1.1.up
 |ptr t=>obtain⟨u,rfl,h1⟩:=hf.one; exact h1.1.up
def VRs (w:World) (av:Nat→Prop):AV→Value→Prop
 |.bool b,v=>v=.bool b
 |.int k n,v=>v=.int k n
 |.str s,v=>v=.string s
 |.nils,v=>v=.slice none 0 0
 |.nilm,v=>v=.map none
 |.slc t xs,v=>CR w av (.slice t) xs [v]
 |.mp k e es,v=>CR w av (.map k e) es [v]
 |.eptr t x off,v=>∃b o us,v=.pointer (some ⟨b,o+off,none⟩)∧¬av b∧b<w.heap.size∧CR w av t x us∧CellsAt w b o us
 |_,_=>True
def CR.mono {av av':Nat→Prop} (hm:∀b,av' b→av b) {t:Ty} {x:Val t} {vs:List Value} (hc:CR w av t x vs):CR w av' t x vs :=
 hc.keep fun b _ hn=>⟨rfl,fun hb=>hn (hm b hb)⟩
def VRs.mono {av av':Nat→Prop} (hm:∀b,av' b→av b) {a:AV} {v:Value} (hv:VRs w av a v):VRs w av' a v:=by
 cases a<;>try exact hv
 ·exact CR.mono hm hv
 ·exact CR.mono hm hv
 ·obtain⟨b,o,us,h1,h2,h3,h4,h5⟩:=hv;exact⟨b,o,us,h1,fun hb=>h2 (hm b hb),h3,CR.mono hm h4,h5⟩
def VR1.data {a:AV} {v:Value} (hv:VR1 ν h w a v):VRs w (Av ν h) a v:=by
 cases a<;>first|exact hv|trivial
def adj {av:Nat→Prop}:∀{t:Ty} {l:List AV} {x:Val t} {l':List AV} {vs:List Value},Ε t l=some (x,l')→ý (VRs w av) l vs →
 ∃us vs',vs=us++vs'∧CR w av t x us∧ý (VRs w av) l' vs':=by
 intro t
 induction t with
 |unit=>intro l x l' vs e hl; simp only[Ε,Option.some.injEq,Prod.mk.injEq] at e; obtain⟨_,rfl⟩:=e; exact⟨[],vs,rfl,rfl,hl⟩
 |bool =>
  intro l x l' vs e hl
  rcases l with _|⟨a,l⟩<;>try (simp[Ε] at e; done)
  cases a<;>simp only[Ε,reduceCtorEq,Option.some.injEq,Prod.mk.injEq] at e
  obtain⟨rfl,rfl⟩:=e
  cases vs with
  |nil=>exact hl.elim
  |cons v vs=>exact⟨[v],vs,rfl,by rw[show v=_ from hl.1]; rfl,hl.2⟩
 |str =>
  intro l x l' vs e hl
  rcases l with _|⟨a,l⟩<;>try (simp[Ε] at e; done)
  cases a<;>simp only[Ε,reduceCtorEq,Option.some.injEq,Prod.mk.injEq] at e
  obtain⟨rfl,rfl⟩:=e
  cases vs with
  |nil=>exact hl.elim
  |cons v vs=>exact⟨[v],vs,rfl,by rw[show v=_ from hl.1]; rfl,hl.2⟩
 |int k =>
  intro l x l' vs e hl
  rcases l with _|⟨a,l⟩<;>try (simp[Ε] at e; done)
  cases a<;>simp only[Ε,reduceCtorEq] at e
  split at e
  ·rename_i hk _; subst hk;simp only[Option.some.injEq,Prod.mk.injEq] at e;obtain⟨rfl,rfl⟩:=e
   cases vs with
   |nil=>exact hl.elim
   |cons v vs=>exact⟨[v],vs,rfl,by rw[show v=_ from hl.1]; rfl,hl.2⟩
  ·cases e
 |slice t _ =>
  intro l x l' vs e hl
  rcases l with _|⟨a,l⟩<;>try (simp[Ε] at e; done)
  cases a<;>simp only[Ε,reduceCtorEq] at e
  ·simp only[Option.some.injEq,Prod.mk.injEq] at e;obtain⟨rfl,rfl⟩:=e
   cases vs with
   |nil=>exact hl.elim
   |cons v vs=>exact⟨[v],vs,rfl,⟨none,0,by rw[show v=_ from hl.1]; rfl,by simp,.inl rfl⟩,hl.2⟩
  ·split at e
   ·rename_i hk _; subst hk;simp only[Option.some.injEq,Prod.mk.injEq] at e;obtain⟨rfl,rfl⟩:=e
    cases vs with
    |nil=>exact hl.elim
    |cons v vs=>exact⟨[v],vs,rfl,hl.1,hl.2⟩
   ·cases e
 |map k v _ _ =>
  intro l x l' vs e hl
  rcases l with _|⟨a,l⟩<;>try (simp[Ε] at e; done)
  cases a<;>simp only[Ε,reduceCtorEq] at e
  ·simp only[Option.some.injEq,Prod.mk.injEq] at e;obtain⟨rfl,rfl⟩:=e
   cases vs with
   |nil=>exact hl.elim
   |cons v vs=>exact⟨[v],vs,rfl,⟨none,by rw[show v=_ from hl.1],.inl ⟨rfl,rfl⟩⟩,hl.2⟩
  ·split at e
   ·rename_i hk _;cases hk;simp only[Option.some.injEq,Prod.mk.injEq] at e;obtain⟨rfl,rfl⟩:=e
    cases vs with
    |nil=>exact hl.elim
    |cons v vs=>exact⟨[v],vs,rfl,hl.1,hl.2⟩
   ·cases e
 |ptr t _ =>
  intro l x l' vs e hl
  rcases l with _|⟨a,l⟩<;>try (simp[Ε] at e; done)
  cases a<;>try (simp[Ε] at e; done)
  rename_i t' x' off
  cases off<;>try (simp[Ε] at e; done)
  simp only[Ε] at e
  split at e
  ·rename_i hk _; subst hk;simp only[Option.some.injEq,Prod.mk.injEq] at e;obtain⟨rfl,rfl⟩:=e
   cases vs with
   |nil=>exact hl.elim
   |cons v vs =>
    obtain⟨b,o,us,h1,h2,h3,h4,h5⟩:=hl.1;exact⟨[v],vs,rfl,⟨b,o,us,by rw[h1]; rfl,h2,h3,h4,h5⟩,hl.2⟩
  ·cases e
 |pair a b iha ihb =>
  intro l x l' vs e hl;simp only[Ε] at e
  split at e
  ·rename_i x1 l1 e1
   split at e
   ·rename_i x2 l2 e2;simp only[Option.some.injEq,Prod.mk.injEq] at e;obtain⟨rfl,rfl⟩:=e;obtain⟨us,vs',rfl,h1,h2⟩:=iha e1 hl;obtain⟨ws,vs'',rfl,h3,h4⟩:=ihb e2 h2;exact⟨us++ws,vs'',by simp,⟨us,ws,rfl,h1,h3⟩,h4⟩
   ·cases e
  ·cases e
def ğ {av:Nat→Prop} {t:Ty} {l:List AV} {x:Val t} {vs:List Value} (e:Ú t l=some x) (hl:ý (VRs w av) l vs):CR w av t x vs:=by
 unfold Ú at e
 split at e<;>try (cases e; done)
 rename_i y he;cases e;obtain⟨us,vs',rfl,h1,h2⟩:=adj he hl
 cases vs' with
 |nil=>simpa using h1
 |cons=>exact h2.elim
end
end Go.Am
end

noncomputable section
namespace Go.Am
variable [Ghost]
section
variable {ν ν':Nat→Value} {h h':List Blk} {w w':World}
def HR.dat (H:HR ν h w) {b:Nat} (hb:CW ν h b):∃o,w.heap[b]?=some o∧NR o=true:=by
 obtain⟨id,hl,hn⟩:=hb;have hB:=H.blk id
 cases e:lkB h id with
 |dead=>rw[e] at hl; cases hl
 |cells cs =>
  rw[e] at hB;obtain⟨b',c,e',h1,h2,_⟩:=hB;rw[h1] at hn; cases hn; exact⟨_,h2,rfl⟩
 |row t g fz xs =>
  rw[e] at hB hl
  cases fz with
  |true=>cases hl
  |false =>
   obtain⟨base,cap,h1,_,h2⟩:=hB;rcases h2 with⟨rfl,_⟩|⟨b',off,c,e',rfl,h2,_⟩
   ·rw[h1] at hn; cases hn
   ·rw[h1] at hn; cases hn; exact⟨_,h2,rfl⟩
 |map k v es =>
  rw[e] at hB;obtain⟨b',entries,clock,h1,h2,_⟩:=hB;rw[h1] at hn; cases hn; exact⟨_,h2,rfl⟩
 |deep k g xss =>
  rw[e] at hB;obtain⟨base,cap,us,h1,hc,ha,h2,h3⟩:=hB;rw[h1] at hn;obtain⟨u,hu,hb⟩:=hn;rcases cN.1 (by simpa using hu) with rfl|hu
  ·rcases h2 with⟨rfl,_⟩|⟨b',off,c,e',rfl,h2,_⟩
   ·cases hb
   ·cases hb; exact⟨_,h2,rfl⟩
  ·obtain⟨i,hi,rfl⟩:=cS.1 hu;obtain⟨xs,_,hr⟩:=h3.get' (cF hi);obtain⟨base',cap',e1,_,h4⟩:=hr;rw[e1] at hb;rcases h4 with⟨rfl,_⟩|⟨b',off,c,e',rfl,h4,_⟩
   ·cases hb
   ·cases hb; exact⟨_,h4,rfl⟩
 |acc t xs =>
  rw[e] at hB;obtain⟨us,h1,h2,_⟩:=hB;exact h2 b hn
def HR.lt (H:HR ν h w) {b:Nat} (hb:CW ν h b):b<w.heap.size:=by
 obtain⟨o,h1,_⟩:=H.dat hb;exact ď h1
def HR.nd {m:Nat} (H:HR ν h w) (e:Ev m ν h w ν' h' w') (b:Nat) (o:Obj) (hb:w.heap[b]?=some o) (ho:NR o=false):w'.heap[b]?=some o :=
 ((e.keep b (ď hb) fun hl=>by obtain⟨o',h1,h2⟩:=H.dat hl; rw[hb] at h1; cases h1; rw[ho] at h2; cases h2).1).trans hb
def HR.ltA (H:HR ν h w) {b:Nat} (hb:Av ν h b):b<w.heap.size:=hb.elim H.lt (H.ghlt b)
def ZM.keep {k:IntKind} {xs:List Int} {u:Value} (h:ZM w k xs u) (hk:∀b,kg u=some b→b<w.heap.size→w'.heap[b]?=w.heap[b]?):ZM w' k xs u:=by
 obtain⟨base,cap,rfl,hc,h1⟩:=h;refine⟨base,cap,rfl,hc,?_⟩;rcases h1 with h1|⟨b,off,c,e,rfl,h2,h3⟩
 ·exact .inl h1
 ·exact .inr ⟨b,off,c,e,rfl,(hk b rfl (ď h2)).trans h2,h3⟩
def ý.keepRows {k:IntKind}:∀{xss:List (List Int)} {us:List Value},ý (ZM w k) xss us→(∀u∈us,∀b,kg u=some b→b<w.heap.size→w'.heap[b]?=w.heap[b]?)→ý (ZM w' k) xss us
 |[],[],_,_=>trivial
 |_::_,_::_,h,hk=>⟨h.1.keep (hk _ (by simp)),ý.keepRows h.2 fun u hu=>hk u (by simp[hu])⟩
 |[],_::_,h,_=>h.elim
 |_::_,[],h,_=>h.elim
def BR.ev (e:Ev h.length ν h w ν' h' w') (hnd:∀(b:Nat) (o:Obj),w.heap[b]?=some o→NR o=false→w'.heap[b]?=some o) {id:Nat} (hν:ν' id=ν id)
 (hk:∀b,(lkB h id).live=true→Ļ (ν id) b→b<w.heap.size→w'.heap[b]?=w.heap[b]?) (H:BR ν h w id (lkB h id)):BR ν' h' w' id (lkB h id):=by
 cases eB:lkB h id with
 |dead=>trivial
 |cells cs =>
  rw[eB] at H hk;obtain⟨b,c,e',h1,h2,h3⟩:=H;exact⟨b,c,e',hν.trans h1,(hk b rfl (by rw[h1]; rfl) (ď h2)).trans h2,h3.mono fun _ _=>VRc.ev e⟩
 |row t g fz xs =>
  rw[eB] at H hk
  cases fz with
  |true =>
   show CR w' _ _ _ [ν' id];rw[hν]; exact CR.keep e.keepA H
  |false =>
   obtain⟨base,cap,h1,hc,h2⟩:=H;refine⟨base,cap,hν.trans h1,hc,?_⟩;rcases h2 with h2|⟨b,off,c,e',rfl,h3,h4,h5⟩
   ·exact .inl h2
   ·have hw:=hk b rfl (by rw[h1]; rfl) (ď h3);refine .inr ⟨b,off,c,e',rfl,hw.trans h3,h4,fun i x hx=>?_⟩;obtain⟨us,h6,h7⟩:=h5 i x hx;exact⟨us,CR.keep e.keepA h6,h7.keep hw⟩
 |map k v es =>
  rw[eB] at H hk;obtain⟨b,entries,clock,h1,h2,hs,h3⟩:=H;refine⟨b,entries,clock,hν.trans h1,(hk b rfl (by rw[h1]; rfl) (ď h2)).trans h2,hs,fun i x hx=>?_⟩;obtain⟨m,us,h4,h5,h6,h7⟩:=h3 i x hx;exact⟨m,us,h4,CR.keep e.keepA h5,CR.keep e.keepA h6,h7⟩
 |deep k g xss =>
  rw[eB] at H hk;obtain⟨base,cap,us,h1,hc,ha,h2,h3⟩:=H;have own:∀u∈Value.slice base xss.length cap::us,∀b,kg u=some b→b<w.heap.size→w'.heap[b]?=w.heap[b]?:=fun u hu b hb hlt=>hk b rfl (by rw[h1]; exact⟨u,by simpa using hu,hb⟩) hlt;refine⟨base,cap,us,hν.trans h1,hc,ha,?_,h3.keepRows fun u hu=>own u (by simp[hu])⟩;rcases h2 with h2|⟨b,off,c,e',rfl,h4,h5,h6⟩
  ·exact .inl h2
  ·exact .inr ⟨b,off,c,e',rfl,(own _ (.head _) b rfl (ď h4)).trans h4,h5,h6⟩
 |acc t xs =>
  rw[eB] at H hk;obtain⟨us,h1,h2,h3,h4⟩:=H;have same:∀b o,w.heap[b]?=some o→Ļ (ν id) b→w'.heap[b]?=some o:=fun b o hb ho=>(hk b rfl ho (ď hb)).trans hb;refine⟨us,hν.trans h1,fun b hb=>?_,h3,?_⟩
  ·rw[hν] at hb;obtain⟨o,q1,q2⟩:=h2 b hb;exact⟨o,same b o q1 hb,q2⟩
  ·rw[hν];refine Ghost.st _ _ _ _ _ _ h4 ⟨e.os,e.tape,e.output,e.size,fun b hb hn=>(e.keepA b hb hn).2,fun b o hb _ hx=>?_,fun b o hb ho _=>hnd b o hb ho⟩
   by_cases hX:Av ν h b
   ·exact same b o hb (hx hX)
   ·exact(e.keepA b (ď hb) hX).1.trans hb
def ï (ν:Nat→Value) (id:Nat) (v:Value):Nat→Value:=fun i=>if i=id then v else ν i
def Ï (ν:Nat→Value) (id:Nat) (v:Value):ï ν id v id=v:=by simp[ï]
def ė (ν:Nat→Value) {id j:Nat} (v:Value) (hj:j≠id):ï ν id v j=ν j:=by simp[ï,hj]
def mw (ν:Nat→Value) (id:Nat):ï ν id (ν id)=ν:=by
 funext i; unfold ï; split<;>simp_all
def â {h:List Blk} {id:Nat} (B:Blk) (hid:id<h.length):lkB (ð h id B) id=B:=by simp[wo,hid]
def Ó {h:List Blk} {id j:Nat} (B:Blk) (hj:j≠id):lkB (ð h id B) j=lkB h j:=by simp[wo,hj]
def Ev.upd (H:HR ν h w) {id:Nat} {B:Blk} {V:Value} (hid:id<h.length) (hos:w'.os=w.os) (htape:w'.tape=w.tape) (hout:w'.output=w.output)
 (hsize:w.heap.size≤w'.heap.size)
 (hkeep:∀b,b<w.heap.size→((lkB h id).live=true→¬Ļ (ν id) b)→w'.heap[b]?=w.heap[b]?)
 (hV:B.live=true→∀b,Ļ V b→((lkB h id).live=true∧Ļ (ν id) b)∨w.heap.size≤b)
 (hnext:(lkB h id).next ν (ï ν id V) id B):Ev h.length ν h w (ï ν id V) (ð h id B) w':=by
 refine⟨hos,htape,hout,hsize,fun b hb hn=>⟨hkeep b hb fun hl he=>hn ⟨id,hl,he⟩,?_⟩,fun j hj=>?_⟩
 ·rintro⟨j,hl,he⟩
  by_cases hj:j=id
  ·subst hj;rw[â B hid] at hl;rw[Ï] at he;rcases hV hl b he with⟨h1,h2⟩|h1
   ·exact hn ⟨j,h1,h2⟩
   ·omega
  ·rw[Ó B hj] at hl;rw[ė ν V hj] at he;exact hn ⟨j,hl,he⟩
 ·by_cases hj':j=id
  ·subst hj'; rw[â B hid]; exact hnext
  ·rw[Ó B hj'];have:=Blk.next_refl ν j (lkB h j)
   cases hB:lkB h j with
   |dead=>trivial
   |cells cs=>exact⟨⟨cs,rfl⟩,ė ν V hj'⟩
   |row t g fz xs=>exact⟨g,fz,xs,rfl,cG _,fun _=>⟨ė ν V hj',rfl⟩⟩
   |map k v es=>exact⟨⟨es,rfl⟩,ė ν V hj'⟩
   |deep k g xss=>exact⟨g,xss,rfl,cG _,fun _=>⟨ė ν V hj',rfl⟩⟩
   |acc t xs=>exact⟨xs,rfl⟩
def HR.upd (H:HR ν h w) {id:Nat} {B:Blk} {V:Value} (hid:id<h.length) (e:Ev h.length ν h w (ï ν id V) (ð h id B) w')
 (hkeep:∀b,b<w.heap.size→((lkB h id).live=true→¬Ļ (ν id) b)→w'.heap[b]?=w.heap[b]?)
 (hV:B.live=true→∀b,Ļ V b→((lkB h id).live=true∧Ļ (ν id) b)∨w.heap.size≤b)
 (hB:BR (ï ν id V) (ð h id B) w' id B):HR (ï ν id V) (ð h id B) w':=by
 refine⟨fun j=>?_,fun i j b hi hj hbi hbj=>?_,fun b hb=>dc (H.ghlt b hb) e.size,fun j b hl hb=>?_⟩
 rotate_left 2
 ·by_cases hj:j=id
  ·subst hj;rw[â B hid] at hl;rw[Ï] at hb;rcases hV hl b hb with⟨h3,h4⟩|h3
   ·exact H.ghne j b h3 h4
   ·exact fun hg=>by have:=H.ghlt b hg; omega
  ·rw[Ó B hj] at hl;rw[ė ν V hj] at hb;exact H.ghne j b hl hb
 ·by_cases hj:j=id
  ·subst hj; rw[â B hid]; exact hB
  ·rw[Ó B hj];refine BR.ev e (H.nd e) (ė ν V hj) (fun b hl hb hlt=>hkeep b hlt fun hl' hb'=>hj (H.inj j id b hl hl' hb hb')) (H.blk j)
 ·by_cases h1:i=id<;>by_cases h2:j=id
  ·rw[h1,h2]
  ·subst h1;rw[â B hid] at hi; rw[Ó B h2] at hj;rw[Ï] at hbi; rw[ė ν V h2] at hbj;rcases hV hi b hbi with⟨h3,h4⟩|h3
   ·exact H.inj i j b h3 hj h4 hbj
   ·have:=H.lt ⟨j,hj,hbj⟩; omega
  ·subst h2;rw[Ó B h1] at hi; rw[â B hid] at hj;rw[ė ν V h1] at hbi; rw[Ï] at hbj;rcases hV hj b hbj with⟨h3,h4⟩|h3
   ·exact H.inj i j b hi h3 hbi h4
   ·have:=H.lt ⟨i,hi,hbi⟩; omega
  ·rw[Ó B h1] at hi; rw[Ó B h2] at hj;rw[ė ν V h1] at hbi; rw[ė ν V h2] at hbj;exact H.inj i j b hi hj hbi hbj
def Ev.new (H:HR ν h w) {id:Nat} {B:Blk} {V:Value} {o:Obj} {w':World} (hid:id<h.length) (hd:lkB h id=.dead) (hw:w'.heap=w.heap.push o) (hos:w'.os=w.os) (htape:w'.tape=w.tape) (hout:w'.output=w.output)
 (hV:∀b,Ļ V b→b=w.heap.size)
 (hB:Ev h.length ν h w (ï ν id V) (ð h id B) w'→BR (ï ν id V) (ð h id B) w' id B) :
 Ev h.length ν h w (ï ν id V) (ð h id B) w'∧HR (ï ν id V) (ð h id B) w':=by
 have hk:∀b,b<w.heap.size→((lkB h id).live=true→¬Ļ (ν id) b)→w'.heap[b]?=w.heap[b]?:=fun b hb _=>by
  rw[hw,eP]; simp[fD hb]
 have hV':B.live=true→∀b,Ļ V b→((lkB h id).live=true∧Ļ (ν id) b)∨w.heap.size≤b:=fun _ b hb=>.inr (by rw[hV b hb]; exact cG _);have e:=Ev.upd H (B:=B) (V:=V) hid hos htape hout (by rw[hw]; simp) hk hV' (by rw[hd]; trivial);exact⟨e,HR.upd H hid e hk hV' (hB e)⟩
def ņ (b off n:Nat):(⟨b,off,none⟩:Addr).add n=⟨b,off+n,none⟩:=by
 unfold Addr.add; split
 ·rename_i h; subst h; rfl
 ·rfl
def HR.row_data (H:HR ν h w) {id g:Nat} {t:Ty} {fz:Bool} {xs:List (Val t)} (hb:lkB h id=.row t g fz xs) :
 ∃base cap,ν id=.slice base xs.length cap∧xs.length≤cap∧(base=none→cap=0∨xs=[])∧((xs:List (Val t))=[]∨∃b off,base=some ⟨b,off,none⟩∧b<w.heap.size∧(fz=true→¬Av ν h b) ∧
  ∀i x,(xs:List (Val t))[i]?=some x→∃us,CR w (Av ν h) t x us∧CellsAt w b (off+i*t.size) us):=by
 have hB:=H.blk id;rw[hb] at hB
 cases fz with
 |true =>
  obtain⟨base,cap,h1,h2,h3⟩:=hB;refine⟨base,cap,by simpa using h1,h2,fun hn=>?_,?_⟩
  ·rcases h3 with h3|⟨b,off,h3,_⟩
   ·exact .inr h3
   ·rw[hn] at h3; cases h3
  ·rcases h3 with h3|⟨b,off,h3,h4,h5,h6⟩
   ·exact .inl h3
   ·exact .inr ⟨b,off,h3,h5,fun _=>h4,h6⟩
 |false =>
  obtain⟨base,cap,h1,h2,h3⟩:=hB;refine⟨base,cap,h1,h2,fun hn=>?_,?_⟩
  ·rcases h3 with⟨h3,h4⟩|⟨b,off,c,e,h3,_⟩
   ·exact .inl h4
   ·rw[hn] at h3; cases h3
  ·rcases h3 with⟨h3,h4⟩|⟨b,off,c,e,h3,h4,h5,h6⟩
   ·exact .inl (cX.1 (by omega))
   ·exact .inr ⟨b,off,h3,ď h4,fun hf=>(by cases hf),h6⟩
def C7 (H:HR ν h w) {av:Nat→Prop} (hav:∀b,av b→Av ν h b) {a:AV} {v:Value} (hv:VR1 ν h w a v)
 (hno:∀id b,(∃g,a=.own id g)∨(∃g lo n,a=.sub id g lo n)∨a=.omp id→(lkB h id).live=true→Ļ (ν id) b→¬av b):VRs w av (ÿ h a) v:=by
 cases a with
 |own id g =>
  obtain⟨ho,t,g',fz,xs,hl,hle,hg⟩:=hv;simp only[ÿ,hl]
  cases hgg:g==g' with
  |false=>trivial
  |true =>
   have he:g=g':=by simpa using hgg
   obtain⟨base,cap,h1,h2,_,h3⟩:=H.row_data hl;rw[hg he,h1];refine⟨base,cap,rfl,h2,?_⟩;rcases h3 with h3|⟨b,off,rfl,h4,h5,h6⟩
   ·exact .inl h3
   ·refine .inr ⟨b,off,rfl,?_,h4,fun i x hx=>?_⟩
    ·cases fz with
     |true=>exact fun ha=>h5 rfl (hav b ha)
     |false=>exact hno id b (.inl ⟨g,rfl⟩) (by rw[hl]; rfl) (by rw[h1]; rfl)
    ·obtain⟨us,h7,h8⟩:=h6 i x hx;exact⟨us,CR.mono hav h7,h8⟩
 |sub id g lo n =>
  obtain⟨ho,t,g',fz,xs,hl,hle,hg⟩:=hv;simp only[ÿ,hl]
  cases hgg:g==g' with
  |false=>trivial
  |true =>
   have he:g=g':=by simpa using hgg
   obtain⟨hlen,base',cap',hν,hvv⟩:=hg he;obtain⟨base,cap,h1,h2,_,h3⟩:=H.row_data hl
   rw[h1] at hν; injection hν with e1 e2 e3; subst e1; subst e3
   have hn:((xs.drop lo).take n).length=n:=by simp; omega
   refine⟨_,cap-lo,by rw[hn]; exact congrArg (fun x=>[x]) hvv,by rw[hn]; omega,?_⟩
   by_cases hcl:cap=lo
   ·exact .inl (cX.1 (by rw[hn]; omega))
   rcases h3 with h3|⟨b,off,rfl,h4,h5,h6⟩
   ·exact .inl (by rw[h3]; simp)
   ·refine .inr ⟨b,off+lo*t.size,by rw[if_neg hcl]; simp[ņ],?_,h4,fun i x hx=>?_⟩
    ·cases fz with
     |true=>exact fun ha=>h5 rfl (hav b ha)
     |false=>exact hno id b (.inr (.inl ⟨g,lo,n,rfl⟩)) (by rw[hl]; rfl) (by rw[h1]; rfl)
    ·have hx':xs[lo+i]?=some x:=by
      rw[dO] at hx
      split at hx
      ·simpa using hx
      ·cases hx
     obtain⟨us,h7,h8⟩:=h6 (lo+i) x hx';refine⟨us,CR.mono hav h7,?_⟩
     have:off+lo*t.size+i*t.size=off+(lo+i)*t.size:=by rw[dl]; omega
     rw[this]; exact h8
 |omp id =>
  obtain⟨ho,k,t,es,hl,hg⟩:=hv;simp only[ÿ,hl];have hB:=H.blk id;rw[hl] at hB;obtain⟨b,entries,clock,h1,h2,hs,h3⟩:=hB;rw[hg,h1];refine⟨some b,rfl,.inr ⟨b,entries,clock,rfl,hno id b (.inr (.inr rfl)) (by rw[hl]; rfl) (by rw[h1]; rfl),h2,hs,fun i x hx=>?_⟩⟩;obtain⟨m,us,h4,h5,h6,h7⟩:=h3 i x hx;exact⟨m,us,h4,CR.mono hav h5,CR.mono hav h6,h7⟩
 |any=>trivial
 |und=>trivial
 |bool=>exact hv
 |int=>exact hv
 |str=>exact hv
 |nils=>exact hv
 |slc=>exact CR.mono hav hv
 |nilm=>exact hv
 |mp=>exact CR.mono hav hv
 |nilp=>trivial
 |box=>trivial
 |eptr=>exact VRs.mono (a:=.eptr _ _ _) hav hv
 |optr=>trivial
 |dp=>trivial
 |dq=>trivial
 |dr=>trivial
 |de=>trivial
 |nilfn=>trivial
 |yld=>trivial
 |fn=>trivial
 |agg=>exact hv.elim
 |tup=>exact hv.elim
def C6 (H:HR ν h w) {a:AV} {v:Value} (hv:VR1 ν h w a v):VRs w (fun _=>False) (ÿ h a) v :=
 C7 H (fun _ hf=>hf.elim) hv fun _ _ _ _ _ hf=>hf
def Ii (H:HR ν h w) {id g:Nat} {t:Ty} {fz:Bool} {xs:List (Val t)} (hl:lkB h id=.row t g fz xs) :
 Ev h.length ν h w ν (ð h id (.row t g true xs)) w∧HR ν (ð h id (.row t g true xs)) w∧(∀b,Av ν (ð h id (.row t g true xs)) b→Av ν h b) ∧
  ((lkB h id).live=true→∀b,Ļ (ν id) b→¬Av ν (ð h id (.row t g true xs)) b):=by
 have hid:id<h.length:=Ű hl (by simp)
 have hlive:∀b,Av ν (ð h id (.row t g true xs)) b→Av ν h b:=by
  rintro b (⟨j,h1,h2⟩|hg)
  ·by_cases hj:j=id
   ·subst hj; rw[â _ hid] at h1; cases h1
   ·rw[Ó _ hj] at h1; exact .inl ⟨j,h1,h2⟩
  ·exact .inr hg
 have hkeep:∀b,b<w.heap.size→((lkB h id).live=true→¬Ļ (ν id) b)→w.heap[b]?=w.heap[b]?:=fun _ _ _=>rfl
 have hV:(Blk.row t g true xs).live=true→∀b,Ļ (ν id) b→((lkB h id).live=true∧Ļ (ν id) b)∨w.heap.size≤b:=fun hf=>by cases hf
 have e:Ev h.length ν h w (ï ν id (ν id)) (ð h id (.row t g true xs)) w:=Ev.upd H hid rfl rfl rfl (cG _) hkeep hV (by
  rw[hl]; exact⟨g,true,xs,rfl,cG _,fun _=>⟨Ï _ _ _,rfl⟩⟩)
 have hdead:∀b,Ļ (ν id) b→(lkB h id).live=true→¬Av ν (ð h id (.row t g true xs)) b:=by
  rintro b hb hlv (⟨j,h1,h2⟩|hg)
  ·by_cases hj:j=id
   ·subst hj; rw[â _ hid] at h1; cases h1
   ·rw[Ó _ hj] at h1; exact hj (H.inj j id b h1 hlv h2 hb)
  ·exact H.ghne id b hlv hb hg
 have hr:HR (ï ν id (ν id)) (ð h id (.row t g true xs)) w:=by
  refine HR.upd H hid e hkeep hV ?_;show CR w _ (.slice t) xs [ï ν id (ν id) id];rw[mw]
  cases fz with
  |true =>
   have hB:=H.blk id;rw[hl] at hB;exact CR.mono hlive hB
  |false =>
   obtain⟨base,cap,h1,h2,_,h3⟩:=H.row_data hl;rw[h1];refine⟨base,cap,rfl,h2,?_⟩;rcases h3 with h3|⟨b,off,rfl,h4,h5,h6⟩
   ·exact .inl h3
   ·refine .inr ⟨b,off,rfl,hdead b (by rw[h1]; rfl) (by rw[hl]; rfl),h4,fun i x hx=>?_⟩;obtain⟨us,h7,h8⟩:=h6 i x hx;exact⟨us,CR.mono hlive h7,h8⟩
 rw[mw] at e hr;exact⟨e,hr,hlive,fun hlv b hb=>hdead b hb hlv⟩
def mX (h:List Blk) (a:AV):(qG h a).length=h.length:=by
 cases a<;>try rfl
 all_goals
  simp only[qG]
  split<;>first|rfl|exact Ñ _ _ _
def MR (H:HR ν h w) (a:AV):Ev h.length ν h w ν (qG h a) w∧HR ν (qG h a) w∧(∀b,Av ν (qG h a) b→Av ν h b):=by
 have hsame:Ev h.length ν h w ν h w∧HR ν h w∧(∀b,Av ν h b→Av ν h b):=⟨Ev.refl _ _ _ _,H,fun _ hb=>hb⟩
 cases a<;>try exact hsame
 ·rename_i id g;simp only[qG]
  cases hl:lkB h id<;>first|exact hsame|exact⟨(Ii H hl).1,(Ii H hl).2.1,(Ii H hl).2.2.1⟩
 ·rename_i id g lo n;simp only[qG]
  cases hl:lkB h id<;>first|exact hsame|exact⟨(Ii H hl).1,(Ii H hl).2.1,(Ii H hl).2.2.1⟩
def MQ (H:HR ν h w) {a:AV} {v:Value} (hv:VR1 ν h w a v) (hm:Ku a=true):VRs w (Av ν (qG h a)) (ÿ h a) v:=by
 refine C7 H (MR H a).2.2 hv fun id b hc hl hb=>?_;rcases hc with⟨g,rfl⟩|⟨g,lo,n,rfl⟩|rfl
 ·obtain⟨ho,t,g',fz,xs,hl',_⟩:=hv;simp only[qG,hl'];exact(Ii H hl').2.2.2 hl b hb
 ·obtain⟨ho,t,g',fz,xs,hl',_⟩:=hv;simp only[qG,hl'];exact(Ii H hl').2.2.2 hl b hb
 ·cases hm
def FU (h:List Blk) (a b:AV):ÿ (qG h a) b=ÿ h b:=by
 have key:∀(id g:Nat) (t:Ty) (fz:Bool) (xs:List (Val t)),lkB h id=.row t g fz xs→ÿ (ð h id (.row t g true xs)) b=ÿ h b:=by
  intro id g t fz xs hl;have hid:id<h.length:=Ű hl (by simp)
  have hk:∀j,(∀{α:Type} (f:(t:Ty)→Nat→List (Val t)→α) (d:α),(match lkB (ð h id (.row t g true xs)) j with|.row t g _ xs=>f t g xs|_=>d)=(match lkB h j with|.row t g _ xs=>f t g xs|_=>d)) ∧
   (∀{α:Type} (f:(k v:Ty)→List (Val k×Val v)→α) (d:α),(match lkB (ð h id (.row t g true xs)) j with|.map k v es=>f k v es|_=>d)=(match lkB h j with|.map k v es=>f k v es|_=>d)):=by
   intro j
   by_cases hj:j=id
   ·subst hj; rw[â _ hid,hl]; exact⟨fun _ _=>rfl,fun _ _=>rfl⟩
   ·rw[Ó _ hj]; exact⟨fun _ _=>rfl,fun _ _=>rfl⟩
  cases b with
  |own j g0=>exact(hk j).1 (fun t g' xs=>match g0==g' with|true=>AV.slc t xs|false=>.any) .any
  |sub j g0 lo n=>exact(hk j).1 (fun t g' xs=>match g0==g' with|true=>AV.slc t ((xs.drop lo).take n)|false=>.any) .any
  |omp j=>exact(hk j).2 (fun k v es=>AV.mp k v es) .any
  |_=>rfl
 cases a<;>try rfl
 all_goals
  simp only[qG]
  split
  ·exact key _ _ _ _ _ ‹_›
  ·rfl
def CJ:∀(as:List AV) {h:List Blk},HR ν h w→Ev h.length ν h w ν (AC h as) w∧HR ν (AC h as) w∧(∀b,Av ν (AC h as) b→Av ν h b)
 |[],h,H=>⟨Ev.refl _ _ _ _,H,fun _ hb=>hb⟩
 |a::as,h,H=>by
  obtain⟨e,H1,hl⟩:=MR H a;obtain⟨e',H2,hl'⟩:=CJ as H1;refine⟨e.trans e' (by rw[mX]; exact cG _),H2,fun b hb=>hl b (hl' b hb)⟩
def HR.grow (H:HR ν h w) (hk:∀b,b<w.heap.size→w'.heap[b]?=w.heap[b]?) (hz:w.heap.size≤w'.heap.size) (h1:w'.os=w.os) (h2:w'.tape=w.tape) (h3:w'.output=w.output) (m:Nat):Ev m ν h w ν h w'∧HR ν h w':=by
 have ev:∀m,Ev m ν h w ν h w':=fun m=>⟨h1,h2,h3,hz,fun b hb hn=>⟨hk b hb,hn⟩,fun _ _=>Blk.next_refl _ _ _⟩;exact⟨ev m,fun id=>BR.ev (ev _) (H.nd (ev 0)) rfl (fun b _ _ hb=>hk b hb) (H.blk id),H.inj,fun b hb=>dc (H.ghlt b hb) hz,H.ghne⟩
end
def Sim.put {ν ν':Nat→Value} {S:St} {a:Act} {w w':World} {h':List Blk} (H:Sim ν S a w) (e:Ev S.h.length ν S.h w ν' h' w') (hr:HR ν' h' w') (d:Option Nat) {v:AV} {u:Value} (hv:VR ν' h' w' v u) :
 Sim ν' {t:=þ S.t d v,h:=h'} (a.put d u) w':=by
 cases d with
 |none=>exact⟨H.defers.keep e.size (H.heap.nd e),H.len,fun i=>(H.tmps i).ev e,hr⟩
 |some d =>
  refine⟨by simpa[Act.put] using H.defers.keep e.size (H.heap.nd e),by simpa[þ,Act.put,Qj] using H.len,fun i=>?_,hr⟩;simp only[þ,aez,Act.put]
  by_cases hi:i=d∧d<S.t.length
  ·rw[if_pos hi];have hlt:d<a.tmps.size:=dc hi.2 H.len;rw[hi.1];simpa[dW,fR,hlt] using hv
  ·rw[if_neg hi]
   by_cases hd:i=d
   ·have hge:S.t.length≤d:=by
     rcases dg d S.t.length with hlt|hge
     ·exact absurd ⟨hd,hlt⟩ hi
     ·exact hge
    have hany:lk S.t i=.any:=by
     rw[hd]; exact ag9 _ _ hge
    rw[hany]; trivial
   ·have:(a.tmps.setIfInBounds d u).getD i undef=a.tmps.getD i undef:=by
     simp[dW,fR,Ne.symm hd]
    rw[this]; exact(H.tmps i).ev e
end Go.Am
end

noncomputable section
namespace Go.Am
variable [Ghost]
section
variable {ν ν':Nat→Value} {h h':List Blk} {w w':World} {P:Program}
def ou:∀{cs:List AV} {o n:Nat} {ds:List AV},NL cs o n=some ds→ds=(cs.drop o).take n∧ds.length=n
 |cs,0,0,ds,e=>by cases cs<;>(simp[NL] at e; subst e; simp)
 |[],0,n+1,ds,e=>by simp[NL] at e
 |c::cs,0,n+1,ds,e=>by
  simp only[NL] at e
  split at e
  ·rename_i l hl;cases e;obtain⟨h1,h2⟩:=ou hl;simp at h1;exact⟨by simp[←h1],by simp[h2]⟩
  ·cases e
 |[],o+1,n,ds,e=>by cases n<;>simp[NL] at e
 |c::cs,o+1,n,ds,e=>by
  have e':NL cs o n=some ds:=by cases n<;>simpa[NL] using e
  simpa using ou e'
def tq:∀{cs:List AV} {o:Nat} {vs cs':List AV},abQ cs o vs=some cs'→cs'=cs.take o++vs++cs.drop (o+vs.length)∧o+vs.length≤cs.length
 |cs,0,[],cs',e=>by cases cs<;>(simp[abQ] at e; subst e; simp)
 |[],0,v::vs,cs',e=>by simp[abQ] at e
 |c::cs,0,v::vs,cs',e=>by
  simp only[abQ] at e
  split at e
  ·rename_i l hl;cases e;obtain⟨h1,h2⟩:=tq hl;simp at h1 h2;exact⟨by simp[h1],by simpa using h2⟩
  ·cases e
 |[],o+1,vs,cs',e=>by cases vs<;>simp[abQ] at e
 |c::cs,o+1,vs,cs',e=>by
  obtain⟨l,hl,rfl⟩:∃l,abQ cs o vs=some l∧cs'=c::l:=by
   cases vs<;>(simp only[abQ] at e; split at e<;>first|exact⟨_,‹_›,by cases e; rfl⟩|cases e)
  obtain⟨h1,h2⟩:=tq hl;refine⟨?_,by simp; omega⟩;rw[h1,show o+1+vs.length=(o+vs.length)+1 by omega];simp
def mz {t:TypeId} {n:Nat} (h:szP P t=some n) (w:World):(sizeOf t).run P w=.ok n w:=by
 unfold szP at h
 split at h
 ·rename_i i hi; cases h; simp[sizeOf,typeInfo,hi]
 ·cases h
def Ti {t:TypeId} {agg:Bool} {n:Nat} (h:ldP P t=some (agg,n)):∃d,P.underlying t=some d∧NM d=agg∧szP P t=some n:=by
 unfold ldP at h
 split at h
 ·rename_i d hd
  split at h
  ·rename_i m hm; cases h; exact⟨d,hd,rfl,hm⟩
  ·cases h
 ·cases h
def xB {t:TypeId} {d:TypeDesc} (h:P.underlying t=some d) (w:World):(isAgg t).run P w=.ok (NM d) w:=by
 unfold isAgg;simp only[Sem.run_bind,run_underlying h,Result.andThen_ok]
 cases d<;>rfl
def XE (agg:Bool) (us:List Value):Value:=match agg with|true=>.agg us.toArray|false=>us.headD undef
def run_loadVar {t:TypeId} {agg:Bool} {n:Nat} (hl:ldP P t=some (agg,n)) {us:List Value} (hn:us.length=n) (ha:agg=false→n=1) {a:Addr} (hc:∀j v,us[j]?=some v→w.cell? (a.add j)=some v) :
 (loadVar t a).run P w=.ok (XE agg us) w:=by
 obtain⟨d,hd,rfl,hs⟩:=Ti hl;unfold loadVar;simp only[Sem.run_bind,xB hd,Result.andThen_ok]
 cases hagg:NM d with
 |true =>
  simp only[if_true,Sem.run_bind,mz hs,Result.andThen_ok,←hn,run_loadCells_list w a us hc];rfl
 |false =>
  have h1:=ha hagg;obtain⟨u,rfl⟩:=List.length_eq_one_iff.1 (hn.trans h1);have h0:=hc 0 u rfl
  have:a.add 0=a:=by simp[Addr.add]
  rw[this] at h0;simp[h0,XE]
def aif {agg:Bool} {cs:List AV} {us:List Value} {v:AV} (hm:mkv agg cs=some v) (hc:ý (VRc ν h w) cs us):VR ν h w v (XE agg us)∧(agg=false→cs.length=1):=by
 cases agg with
 |true=>cases hm; exact⟨⟨us.toArray,rfl,by simpa using hc⟩,fun hf=>by cases hf⟩
 |false =>
  simp only[mkv] at hm
  split at hm
  ·cases hm;obtain⟨u,rfl,h1⟩:=hc.one;exact⟨h1.1.up,fun _=>rfl⟩
  ·cases hm
def CellsAt.part {b off:Nat} {us:List Value} (hc:CellsAt w b off us) (o n:Nat):CellsAt w b (off+o) ((us.drop o).take n):=by
 intro j v hj;rw[dO] at hj
 split at hj
 ·rw[dV] at hj;have:=hc (o+j) v hj
  rwa [show off+(o+j)=off+o+j by omega] at this
 ·cases hj
def CellsAt.addr {b off:Nat} {us:List Value} (hc:CellsAt w b off us):∀j v,us[j]?=some v→w.cell? ((⟨b,off,none⟩:Addr).add j)=some v:=fun j v hj=>by rw[ņ]; exact hc j v hj
def CellsAt.of_cells {b:Nat} {c:Array Value} {e:TypeId} {f:Nat×Nat} (hb:w.heap[b]?=some (.cells c e f)):CellsAt w b 0 c.toList:=by
 intro j v hj;simp[World.cell?,hb] at hj ⊢;exact hj
def ý.get2 {α β:Type} {R:α→β→Prop}:∀{l:List α} {m:List β},ý R l m→∀{i:Nat} {a:α} {b:β},l[i]?=some a→m[i]?=some b→R a b:=fun h _ _ _ ha hb=>by
 obtain⟨c,h1,h2⟩:=h.get ha;rw[hb] at h1;cases h1;exact h2
def HR.table (H:HR ν h w) {id g:Nat} {k:IntKind} {xss:List (List Int)} (hl:lkB h id=.deep k g xss) :
 ∃base cap us,ν id=.agg (Value.slice base xss.length cap::us).toArray∧xss.length≤cap∧XD (Value.slice base xss.length cap::us) ∧
  ((base=none∧cap=0)∨∃b off c e,base=some ⟨b,off,none⟩∧w.heap[b]?=some (.cells c e (0,0))∧off+cap≤c.size∧∀(i:Nat) (u:Value),us[i]?=some u→c[off+i]?=some u) ∧
  ý (ZM w k) xss us:=by
 have hB:=H.blk id;rw[hl] at hB;exact hB
def lZ {l m:List Value} (h:Value.agg l.toArray=Value.agg m.toArray):l=m:=by
 injection h with h
 exact dJ.2 h |> fun e=>by simpa using e
def aey {t:TypeId} {a v:AV} {ua:Value} (H:HR ν h w) (e:Pe P h t a some=some v) (hv:VR ν h w a ua) :
 ∃u,(Instr.loadAt t ua).run P w=.ok u w∧VR ν h w v u:=by
 unfold Pe at e
 split at e<;>try (cases e; done)
 rename_i agg n hl
 have fin:∀(b off o:Nat) (cs ds:List AV) (us:List Value),ý (VRc ν h w) cs us→NL cs o n=some ds→CellsAt w b off us→ua=.pointer (some ⟨b,off+o,none⟩) →
  mkv agg ds=some v→∃u,(Instr.loadAt t ua).run P w=.ok u w∧VR ν h w v u:=by
  intro b off o cs ds us hc hg hca hua hm;obtain⟨h1,h2⟩:=ou hg
  have hd:ý (VRc ν h w) ds ((us.drop o).take n):=by rw[h1]; exact(hc.drop o).take n
  obtain⟨h3,h4⟩:=aif hm hd;refine⟨XE agg ((us.drop o).take n),?_,h3⟩;rw[hua];simp only[Instr.loadAt,Instr.sureAddr,Sem.run_bind,Sem.run_pure,Result.andThen_ok];exact run_loadVar hl (hd.length.symm.trans h2) (fun hf=>h2.symm.trans (h4 hf)) (hca.part o n).addr
 cases a with
 |box id off =>
  obtain⟨cs,b,h1,h2,h3⟩:=hv;simp only[h1] at e
  split at e<;>try (cases e; done)
  rename_i ds hg
  split at e<;>try (cases e; done)
  rename_i v' hm;cases e;have hB:=H.blk id;rw[h1] at hB;obtain⟨b',c,e',h4,h5,h6⟩:=hB;rw[h4] at h2; cases h2;exact fin b 0 off cs ds c.toList h6 hg (.of_cells h5) (by rw[h3]; simp) hm
 |eptr ty x off =>
  obtain⟨b,o,us,h1,h2,h3,h4,h5⟩:=hv;simp only at e
  split at e<;>try (cases e; done)
  rename_i ds hg
  split at e<;>try (cases e; done)
  rename_i v' hm;cases e;exact fin b o off (flat ty x) ds us (lR h4) hg h5 h1 hm
 |optr id g i off =>
  obtain⟨ho,ty,g',fz,xs,h1,h2,h3⟩:=hv;simp only[h1] at e
  split at e<;>try (cases e; done)
  rename_i hgg
  have hge:g=g':=by simpa using hgg
  split at e<;>try (cases e; done)
  rename_i x hx
  split at e<;>try (cases e; done)
  rename_i ds hg
  split at e<;>try (cases e; done)
  rename_i v' hm;cases e;obtain⟨hi,b,o,cap,h4,h5⟩:=h3 hge;obtain⟨base,cap',h6,h7,_,h8⟩:=H.row_data h1
  rw[h4] at h6; injection h6 with e1 e2 e3; subst e1; subst e3
  rcases h8 with h8|⟨b',o',h8,h9,h10,h11⟩
  ·rw[h8] at hx; simp at hx
  ·cases h8;obtain⟨us,h12,h13⟩:=h11 i x hx;exact fin b _ off (flat ty x) ds us (lR h12) hg h13 h5 hm
 |dq id g i =>
  obtain⟨ho,k,g',xss,h1,h2,h3⟩:=hv;simp only[h1] at e
  split at e<;>try (cases e; done)
  rename_i hgg;cases e;simp only[cH,beq_iff_eq,ee] at hgg;obtain⟨rfl,rfl,hn1⟩:=hgg;obtain rfl:=cR hn1;obtain⟨hi,us,b,o,n,cap,h4,h5⟩:=h3 rfl;obtain⟨base,cap',us',h6,h7,h8,h9,h10⟩:=H.table h1;rw[h4] at h6;have q:=lZ h6
  injection q with q1 q2
  subst q2
  injection q1 with q3 q4 q5
  subst q3;obtain⟨u,hu⟩:∃u,us[i]?=some u:=⟨us[i]'(by rw[←h10.length]; exact hi),cF _⟩;rcases h9 with⟨h9,_⟩|⟨b',o',c,e',h9,h11,h12,h13⟩
  ·cases h9
  cases h9;obtain⟨xs,hx,base2,cap2,hu2,_⟩:=h10.get' hu
  have hone:u.oneCell'=true:=by rw[hu2]; rfl
  refine⟨u,?_,hone,k,g,xss,h1,cG _,fun _=>⟨_,us,h4,hu⟩⟩;rw[h5];simp only[Instr.loadAt,Instr.sureAddr,Sem.run_bind,Sem.run_pure,Result.andThen_ok];refine run_loadVar (us:=[u]) hl rfl (fun _=>rfl) (fun j v hj=>?_)
  cases j with
  |zero =>
   simp at hj;subst hj;rw[ņ,fG];simp only[World.cell?,h11];exact h13 i _ hu
  |succ j=>simp at hj
 |de id g i j =>
  obtain⟨ho,k,g',xss,h1,h2,h3⟩:=hv;simp only[h1] at e
  split at e<;>try (cases e; done)
  rename_i hgg
  split at e<;>try (cases e; done)
  rename_i xs hxs
  split at e<;>try (cases e; done)
  rename_i x hx;cases e;simp only[cH,beq_iff_eq,ee] at hgg;obtain⟨rfl,rfl,hn1⟩:=hgg;obtain rfl:=cR hn1;obtain⟨u,us,b,o,n,cap,h4,h5,h6,h7⟩:=h3 rfl;obtain⟨base,cap',us',h8,_,_,_,h10⟩:=H.table h1;rw[h4] at h8;have q:=lZ h8
  injection q with q1 q2
  subst q2;obtain⟨base2,cap2,hu2,_,h11⟩:=h10.get2 hxs h5
  injection hu2 with q3 q4 q5
  subst q3;rcases h11 with⟨h11,_⟩|⟨b',o',c,e',h11,h12,h13,h14⟩
  ·cases h11
  cases h11;refine⟨.int k x,?_,rfl⟩;rw[h7];simp only[Instr.loadAt,Instr.sureAddr,Sem.run_bind,Sem.run_pure,Result.andThen_ok];refine run_loadVar (us:=[.int k x]) hl rfl (fun _=>rfl) (fun m v hm=>?_)
  cases m with
  |zero =>
   simp at hm;subst hm;rw[ņ,fG];simp only[World.cell?,h12];exact h14 j _ hx
  |succ m=>simp at hm
 |_=>cases e
def vl (w:World) (g:Nat) (c:Array Value):(w.setRow g c).heap.size=w.heap.size:=by simp[World.setRow]
def QV (H:HR ν h w) {id g g' b o' cap':Nat} {t:Ty} {xs xs':List (Val t)} {c c':Array Value} {e:TypeId} (hl:lkB h id=.row t g false xs) (hb:Ļ (ν id) b)
 (hc:w.heap[b]?=some (.cells c e (0,0))) (hle:xs'.length≤cap') (hsz:o'+cap'*t.size≤c'.size)
 (hg:g<g'∨(g=g'∧Value.slice (some ⟨b,o',none⟩) xs'.length cap'=ν id∧xs'.length=xs.length))
 (hx:∀(i:Nat) (x:Val t),xs'[i]?=some x→∃us,CR w (Av ν h) t x us∧∀j v,us[j]?=some v→c'[o'+i*t.size+j]?=some v) :
 Ev h.length ν h w (ï ν id (.slice (some ⟨b,o',none⟩) xs'.length cap')) (ð h id (.row t g' false xs')) (w.setRow b c') ∧
  HR (ï ν id (.slice (some ⟨b,o',none⟩) xs'.length cap')) (ð h id (.row t g' false xs')) (w.setRow b c'):=by
 have hid:id<h.length:=Ű hl (by simp)
 have hkeep:∀k,k<w.heap.size→((lkB h id).live=true→¬Ļ (ν id) k)→(w.setRow b c').heap[k]?=w.heap[k]?:=fun k _ hk=>by
  refine setRow_other w b k c' fun he=>hk (by rw[hl]; rfl) (by rw[he]; exact hb)
 have hV:(Blk.row t g' false xs').live=true→∀k,Ļ (Value.slice (some ⟨b,o',none⟩) xs'.length cap') k→((lkB h id).live=true∧Ļ (ν id) k)∨w.heap.size≤k:=fun _ k hk=>by
  cases hk; exact .inl ⟨by rw[hl]; rfl,hb⟩
 have ev:=Ev.upd H (B:=.row t g' false xs') (V:=.slice (some ⟨b,o',none⟩) xs'.length cap') (w':=w.setRow b c') hid rfl rfl rfl (by rw[vl]; exact cG _) hkeep hV (by
  rw[hl]
  refine⟨g',false,xs',rfl,by rcases hg with hg|⟨hg,_⟩<;>omega,fun he=>?_⟩
  rcases hg with hg|⟨_,h1,h2⟩
  ·omega
  ·exact⟨by rw[Ï,h1],h2⟩)
 refine⟨ev,HR.upd H hid ev hkeep hV ⟨some ⟨b,o',none⟩,cap',Ï _ _ _,hle,.inr ⟨b,o',c',e,rfl,setRow_heap w b c c' e _ hc,hsz,fun i x hi=>?_⟩⟩⟩;obtain⟨us,h1,h2⟩:=hx i x hi;refine⟨us,CR.keep ev.keepA h1,fun j v hj=>?_⟩;simp only[World.cell?,setRow_heap w b c c' e _ hc];simpa using h2 j v hj
def CM:∀(t:Ty) (x:Val t),(flat t x).length=t.size
 |.unit,_=>rfl
 |.bool,_=>rfl
 |.int _,_=>rfl
 |.str,_=>rfl
 |.slice _,_=>rfl
 |.map _ _,_=>rfl
 |.ptr _,_=>rfl
 |.pair a b,x=>by rw[flat,cJ,CM a,CM b]; rfl
def EZ:∀{as:List AV} {h:List Blk} {vs:List Value},HR ν h w→ý (VR1 ν h w) as vs→as.all Ku=true→ý (VRs w (Av ν (AC h as))) (as.map (ÿ h)) vs
 |[],_,[],_,_,_=>trivial
 |[],_,_::_,_,hv,_=>hv.elim
 |_::_,_,[],_,hv,_=>hv.elim
 |a::as,h,v::vs,H,hv,hm=>by
  simp only[fI,cH] at hm;obtain⟨e,H1,hl⟩:=MR H a;have ih:=EZ (vs:=vs) H1 (hv.2.mono fun _ _=>VR1.ev e) hm.2;have he:as.map (ÿ (qG h a))=as.map (ÿ h):=fo fun b _=>FU h a b;rw[he] at ih;refine⟨VRs.mono (CJ as H1).2.2 (MQ H hv.1 hm.1),ih⟩
def aeT {v:AV} {vs:List AV} (hc:ś v=some vs) (h:List Blk):frz h v=AC h vs∧(aec v=true→vs.all Ku=true):=by
 cases v<;>simp only[ś,Option.some.injEq,reduceCtorEq] at hc<;>subst hc<;>exact⟨rfl,fun hm=>by first|simpa[aec] using hm|rfl⟩
def ζ:∀(as:List AV) (h:List Blk),(AC h as).length=h.length
 |[],_=>rfl
 |a::as,h=>by rw[AC,ζ as,mX]
def Hu {v:AV} {u:Value} {vs:List AV} (hv:VR ν h w v u) (hc:ś v=some vs):u.cells.size=vs.length:=by
 have:=(hv.cells hc).length;simpa using this.symm
def qV {t:TypeId} {u:Value} {n b o:Nat} {c:Array Value} {e:TypeId} (hs:szP P t=some n) (hn:u.cells.size=n) (hc:w.heap[b]?=some (.cells c e (0,0)))
 (hfit:o+n≤c.size) (h1:∀v∈u.cells.toList,v.oneCell'=true) :
 (storeVar t ⟨b,o,none⟩ u).run P w=.ok () (w.setRow b (c.toList.take o++u.cells.toList++c.toList.drop (o+n)).toArray):=by
 have:=run_storeCells_at P b o e u.cells.toList 0 c w hc (by simpa[hn] using hfit) h1;simp only[Nat.add_zero,Array.length_toList,hn] at this;unfold storeVar;simp only[Sem.run_bind,mz hs,Result.andThen_ok,hn,ne_eq,not_true,if_false,this]
def ý.right_mem {α β:Type} {R:α→β→Prop}:∀{l:List α} {m:List β},ý R l m→∀b∈m,∃a,R a b
 |[],[],_,b,hb=>by cases hb
 |a::_,c::_,h,b,hb=>by
  rcases cN.1 hb with rfl|hb
  ·exact⟨a,h.1⟩
  ·exact ý.right_mem h.2 b hb
 |[],_::_,h,_,_=>h.elim
 |_::_,[],h,_,_=>h.elim
def pD {α:Type} (l m:List α) (p k:Nat) (hp:p+m.length≤l.length) :
 (l.take p++m++l.drop (p+m.length))[k]?=if k<p then l[k]? else if k<p+m.length then m[k-p]? else l[k]?:=by
 rw[eT,eT,cJ,cZ,Nat.min_eq_left (by omega:p≤l.length)]
 by_cases h1:k<p
 ·rw[if_pos (by omega),if_pos h1,if_pos h1,dO,if_pos h1]
 ·rw[if_neg h1,if_neg h1]
  by_cases h2:k<p+m.length
  ·rw[if_pos h2,if_pos h2]
  ·rw[if_neg h2,if_neg h2,dV,show p+m.length+(k-(p+m.length))=k by omega]
def Z8 {t:TypeId} {a v:AV} {ua uv:Value} (H:HR ν h w) (e:wK P h t a v some=some h') (ha:VR ν h w a ua) (hv:VR ν h w v uv) :
 ∃w',(Instr.storeAt t ua uv).run P w=.ok () w'∧HR ν h' w'∧Ev h.length ν h w ν h' w'∧h'.length=h.length:=by
 unfold wK at e
 split at e<;>try (cases e; done)
 rename_i vs hvs
 split at e<;>try (cases e; done)
 rename_i hs
 have hs:szP P t=some vs.length:=by simpa using hs
 have hcs:=hv.cells hvs;have hone:∀v∈uv.cells.toList,v.oneCell'=true:=fun v hv=>let ⟨_,h⟩:=hcs.right_mem v hv; h.2;have hsz:=Hu hv hvs
 cases a with
 |box id off =>
  obtain⟨cs,b,h1,h2,h3⟩:=ha;simp only[h1] at e
  split at e<;>try (cases e; done)
  rename_i c' hset;cases e;obtain⟨rfl,h5⟩:=tq hset;have hB:=H.blk id;rw[h1] at hB;obtain⟨b',c,e',h6,h7,h8⟩:=hB;rw[h6] at h2; cases h2;have hid:id<h.length:=Ű h1 (by simp)
  have hcl:c.size=cs.length:=by simpa using h8.length.symm
  have hrun:=qV (P:=P) (o:=off) hs hsz h7 (by omega) hone
  have hkeep:∀k,k<w.heap.size→((lkB h id).live=true→¬Ļ (ν id) k)→(w.setRow b (c.toList.take off++uv.cells.toList++c.toList.drop (off+vs.length)).toArray).heap[k]?=w.heap[k]? :=
   fun k _ hk=>setRow_other w b k _ fun he=>hk (by rw[h1]; rfl) (by rw[h6,he]; rfl)
  have hV:(Blk.cells (cs.take off++vs++cs.drop (off+vs.length))).live=true→∀k,Ļ (ν id) k→((lkB h id).live=true∧Ļ (ν id) k)∨w.heap.size≤k:=fun _ k hk=>.inl ⟨by rw[h1]; rfl,hk⟩;have ev:=Ev.upd H (B:=.cells (cs.take off++vs++cs.drop (off+vs.length))) (V:=ν id) (w':=w.setRow b (c.toList.take off++uv.cells.toList++c.toList.drop (off+vs.length)).toArray) hid rfl rfl rfl (by rw[vl]; exact cG _) hkeep hV (by rw[h1]; exact⟨⟨_,rfl⟩,Ï _ _ _⟩)
  have hr:=HR.upd H hid ev hkeep hV ⟨b,_,e',(Ï _ _ _).trans h6,setRow_heap w b c _ e' _ h7,by
   exact(((h8.take off).append hcs).append (h8.drop (off+vs.length))).mono fun _ _ hx=>VRc.ev ev hx⟩
  rw[mw] at ev hr;exact⟨_,by rw[h3]; simpa[Instr.storeAt,Instr.sureAddr] using hrun,hr,ev,Ñ _ _ _⟩
 |optr id g i off =>
  simp only at e
  split at e<;>try (cases e; done)
  rename_i hm;obtain⟨hfe,hfm⟩:=aeT hvs h;have hfm:=hfm hm;rw[hfe] at e;obtain⟨e1,H1,hlv⟩:=CJ vs H;have hsn:=EZ H (hcs.mono fun _ _ hx=>hx.1) hfm;have ha1:=ha.ev e1
  split at e<;>try (cases e; done)
  rename_i ty g' xs hrow
  split at e<;>try (cases e; done)
  rename_i hgg
  have hge:g=g':=by simpa using hgg
  split at e<;>try (cases e; done)
  rename_i x hx
  split at e<;>try (cases e; done)
  rename_i cs' hset
  split at e<;>try (cases e; done)
  rename_i x' hx';cases e;obtain⟨h4,h5⟩:=tq hset;rw[dA] at h4 h5;rw[CM] at h5;obtain⟨ho,ty2,g2,fz2,xs2,h6,h7,h8⟩:=ha1;rw[hrow] at h6;cases h6;obtain⟨hi,b,o,cap,h9,h10⟩:=h8 hge;have hB:=H1.blk id;rw[hrow] at hB;obtain⟨base,cap2,h11,h12,h13⟩:=hB
  rw[h9] at h11; injection h11 with q1 q2 q3; subst q1; subst q3
  rcases h13 with⟨h13,_⟩|⟨b2,o2,c,e2,h13,h14,h15,h16⟩
  ·cases h13
  cases h13;obtain⟨us,h17,h18⟩:=h16 i x hx;have hul:us.length=ty.size:=h17.length;have hii:(i+1)*ty.size≤cap*ty.size:=dv _ (by omega)
  have hi1:(i+1)*ty.size=i*ty.size+ty.size:=by rw[dl,fq]
  have hrun:=qV (P:=P) (o:=o+i*ty.size+off) hs hsz h14 (by omega) hone
  have hcr:CR w (Av ν (AC h vs)) ty x' (us.take off++uv.cells.toList++us.drop (off+vs.length)):=by
   refine ğ hx' ?_;rw[h4];have hf:=(lR h17).mono fun _ _ hx=>(VR1.data hx.1);exact((hf.take off).append hsn).append (hf.drop _)
  have huc:uv.cells.toList.length=vs.length:=by simpa using hsz
  obtain⟨ev,hr⟩:=QV H1 (xs':=xs.set i x') (g':=g') (o':=o) (cap':=cap) (c':=(c.toList.take (o+i*ty.size+off)++uv.cells.toList++c.toList.drop (o+i*ty.size+off+vs.length)).toArray) hrow (by rw[h9]; rfl) h14
   (by simpa using h12) (by simp; omega) (.inr ⟨rfl,by simpa using h9.symm,by simp⟩) (fun j y hj=>by
    have hget:∀k,(c.toList.take (o+i*ty.size+off)++uv.cells.toList++c.toList.drop (o+i*ty.size+off+vs.length)).toArray[k]? =
     if k<o+i*ty.size+off then c[k]? else if k<o+i*ty.size+off+vs.length then uv.cells.toList[k-(o+i*ty.size+off)]? else c[k]?:=by
     intro k;have:=pD c.toList uv.cells.toList (o+i*ty.size+off) k (by rw[huc]; simp; omega);rw[huc] at this;simpa using this
    rw[fH] at hj
    split at hj
    ·rename_i hij; subst hij;cases hj;refine⟨_,hcr,fun k v hk=>?_⟩;rw[hget];have hk18:=fun v hv=>h18 k v hv;simp only[World.cell?,h14] at hk18;rw[eT,eT] at hk;simp only[cJ,cZ,huc,hul] at hk;rw[Nat.min_eq_left (by omega:off≤ty.size)] at hk
     split at hk
     ·split at hk
      ·rw[if_pos (by omega)];rw[dO,if_pos (by omega)] at hk;simpa using hk18 v hk
      ·rw[if_neg (by omega),if_pos (by omega)];rw[show o+i*ty.size+k-(o+i*ty.size+off)=k-off by omega]; exact hk
     ·rw[if_neg (by omega),if_neg (by omega)];rw[dV,show off+vs.length+(k-(off+vs.length))=k by omega] at hk;simpa using hk18 v hk
    ·rename_i hij;obtain⟨ws,h19,h20⟩:=h16 j y hj;refine⟨ws,h19,fun k v hk=>?_⟩
     have hkl:k<ty.size:=by rw[←h19.length]; exact(cI.1 hk).1
     have hk18:=h20 k v hk;simp only[World.cell?,h14] at hk18;rw[hget]
     have hne:j*ty.size+ty.size≤i*ty.size∨i*ty.size+ty.size≤j*ty.size:=by
      rcases Nat.lt_or_gt_of_ne hij with hlt|hlt
      ·right;have:=dv ty.size (show i+1≤j from hlt);rw[dl,fq] at this; exact this
      ·left;have:=dv ty.size (show j+1≤i from hlt);rw[dl,fq] at this; exact this
     split
     ·simpa using hk18
     ·rw[if_neg (by omega)]; simpa using hk18)
  have hvv:ï ν id (.slice (some ⟨b,o,none⟩) (xs.set i x').length cap)=ν:=by
   rw[fk,←h9,mw]
  rw[hvv] at ev hr;refine⟨_,by rw[h10]; simpa[Instr.storeAt,Instr.sureAddr] using hrun,hr,e1.trans ev (by rw[ζ]; exact cG _),by rw[Ñ,ζ]⟩
 |de id g i j =>
  simp only at e
  split at e<;>try (cases e; done)
  rename_i k' y;obtain⟨ho,k,g',xss,h1,h2,h3⟩:=ha;simp only[h1] at e
  split at e<;>try (cases e; done)
  rename_i hgg
  split at e<;>try (cases e; done)
  rename_i hkk _
  split at e<;>try (cases e; done)
  rename_i xs hxs
  split at e<;>try (cases e; done)
  rename_i x hx;cases e;subst hkk
  obtain rfl:g=g':=by simpa using hgg
  cases hvs;have huv:uv=.int k' y:=hv;subst huv;obtain⟨u,us,b,o,n,cap,h4,h5,h6,h7⟩:=h3 rfl;obtain⟨base,cap',us',h8,h9,hap,hout,h10⟩:=H.table h1;rw[h4] at h8;have q:=lZ h8
  injection q with q1 q2
  subst q1;subst q2;have hrow:=h10.get2 hxs h5;obtain⟨base2,cap2,hu2,hle2,h11⟩:=hrow
  injection hu2 with q3 q4 q5
  subst q3 q4 q5;rcases h11 with⟨h11,_⟩|⟨b',o',c,e',h11,h12,h13,h14⟩
  ·cases h11
  cases h11;have hid:id<h.length:=Ű h1 (by simp);have hmem:Value.slice (some ⟨b,o,none⟩) xs.length cap∈us:=cO h5;have hjl:j<xs.length:=h6;have hrun:=qV (P:=P) (u:=.int k' y) (o:=o+j) hs hsz h12 (by simp; omega) (by simp[Value.cells,Value.oneCell'])
  have hb:Ļ (ν id) b:=by rw[h4]; exact⟨Value.slice (some ⟨b,o,none⟩) xs.length cap,by simp[hmem],rfl⟩
  -- the cells
  let c':Array Value:=(c.toList.take (o+j)++(Value.int k' y).cells.toList++c.toList.drop (o+j+1)).toArray
  have hc':∀m,c'[m]?=if m=o+j then some (Value.int k' y) else c[m]?:=by
   intro m;have:=pD c.toList [Value.int k' y] (o+j) m (by simp; omega);have e0:(Value.int k' y).cells.toList=[Value.int k' y]:=rfl;show(c.toList.take (o+j)++(Value.int k' y).cells.toList++c.toList.drop (o+j+1)).toArray[m]?=_;rw[e0,eD];rw[show[Value.int k' y].length=1 from rfl] at this;rw[this]
   by_cases hm:m=o+j
   ·rw[if_neg (by omega),if_pos (by omega),if_pos hm,hm,gZ]; rfl
   ·rw[if_neg hm]
    split
    ·simp
    ·rw[if_neg (by omega)]; simp
  have hcs:c'.size=c.size:=by
   show(c.toList.take (o+j)++(Value.int k' y).cells.toList++c.toList.drop (o+j+1)).toArray.size=c.size;have e0:(Value.int k' y).cells.toList=[Value.int k' y]:=rfl;rw[e0];simp;omega
  have hkeep:∀m,m<w.heap.size→((lkB h id).live=true→¬Ļ (ν id) m)→(w.setRow b c').heap[m]?=w.heap[m]?:=fun m _ hm =>
   setRow_other w b m c' fun he=>hm (by rw[h1]; rfl) (by rw[he]; exact hb)
  have hV:(Blk.deep k' g (xss.set i (xs.set j y))).live=true→∀m,Ļ (ν id) m→((lkB h id).live=true∧Ļ (ν id) m)∨w.heap.size≤m:=fun _ m hm=>.inl ⟨by rw[h1]; rfl,hm⟩
  have ev:=Ev.upd H (B:=.deep k' g (xss.set i (xs.set j y))) (V:=ν id) (w':=w.setRow b c') hid rfl rfl rfl (by rw[vl]; exact cG _) hkeep hV (by
   rw[h1]; exact⟨g,_,rfl,cG _,fun _=>⟨Ï _ _ _,by simp⟩⟩)
  have hnew:(w.setRow b c').heap[b]?=some (.cells c' e' (0,0)):=setRow_heap w b c c' e' _ h12
  -- other rows, and the table itself, lie elsewhere
  have hother:∀m u',(Value.slice base xss.length cap'::us)[m]?=some u'→m≠i+1→∀q,kg u'=some q→q≠b:=by
   intro m u' hm hne q hq he;subst he
   have hi1:(Value.slice base xss.length cap'::us)[i+1]?=some (Value.slice (some ⟨q,o,none⟩) xs.length cap):=by simpa using h5
   obtain⟨m1,em⟩:=cI.1 hm;obtain⟨i1,ei⟩:=cI.1 hi1;rcases Nat.lt_or_gt_of_ne hne with hlt|hgt
   ·have:=dm.1 hap m (i+1) m1 i1 hlt q (by rw[em]; exact hq);rw[ei] at this;exact this rfl
   ·have:=dm.1 hap (i+1) m i1 m1 hgt q (by rw[ei]; rfl);rw[em] at this;exact this hq
  have hrows:ý (ZM (w.setRow b c') k') (xss.set i (xs.set j y)) us:=by
   refine ý.of_get (by rw[fk]; exact h10.length) fun m zs u' hz hu'=>?_;rw[fH] at hz
   by_cases hm:i=m
   ·subst hm;rw[if_pos rfl] at hz
    split at hz
    ·cases hz;rw[h5] at hu';cases hu';refine⟨some ⟨b,o,none⟩,cap,by simp,by simpa using hle2,.inr ⟨b,o,c',e',rfl,hnew,by omega,fun m x hx=>?_⟩⟩;rw[hc'];rw[fH] at hx
     by_cases hjm:j=m
     ·subst hjm;rw[if_pos rfl,if_pos hjl] at hx;cases hx;rw[if_pos rfl]
     ·rw[if_neg hjm] at hx;rw[if_neg (by omega)];exact h14 m x hx
    ·cases hz
   ·rw[if_neg hm] at hz;refine(h10.get2 hz hu').keep fun q hq hlt=>setRow_other w b q c' ?_;exact hother (m+1) u' (by simpa using hu') (by omega) q hq
  have hr:=HR.upd H hid ev hkeep hV ⟨base,cap',us,by rw[Ï,h4,fk],by rw[fk]; exact h9,by rw[fk]; exact hap,by
   rcases hout with hout|⟨b2,o2,c2,e2,rfl,g1,g2,g3⟩
   ·exact .inl hout
   ·exact .inr ⟨b2,o2,c2,e2,rfl,(setRow_other w b b2 c' (hother 0 _ rfl (by omega) b2 rfl)).trans g1,g2,g3⟩,hrows⟩
  rw[mw] at ev hr;refine⟨w.setRow b c',?_,hr,ev,Ñ _ _ _⟩;rw[h7];have hrun':(storeVar t ⟨b,o+j,none⟩ (Value.int k' y)).run P w=.ok () (w.setRow b c'):=hrun;simpa only[Instr.storeAt,Instr.sureAddr,Sem.run_bind,Sem.run_pure,Result.andThen_ok] using hrun'
 |_=>cases e
end
end Go.Am
end

noncomputable section
namespace Go.Am
variable [Ghost]
section
variable {ν ν':Nat→Value} {h h':List Blk} {w w':World} {P:Program}
def SR (w:World) (av:Nat→Prop) (t:Ty) (xs:List (Val t)) (base:Option Addr) (cap:Nat):Prop :=
 xs.length≤cap∧(xs=[]∨∃b off,base=some ⟨b,off,none⟩∧b<w.heap.size∧∀(i:Nat) (x:Val t),xs[i]?=some x→∃us,CR w av t x us∧CellsAt w b (off+i*t.size) us)
def SR.part {av:Nat→Prop} {t:Ty} {xs:List (Val t)} {base:Option Addr} {cap l m:Nat} (hs:SR w av t xs base cap) (hl:l≤m) (hm:m≤xs.length) :
 SR w av t ((xs.drop l).take (m-l)) (if cap=l then base else base.map (·.add (l*t.size))) (cap-l):=by
 obtain⟨h1,h2⟩:=hs
 have hlen:((xs.drop l).take (m-l)).length=m-l:=by simp; omega
 refine⟨by rw[hlen]; omega,?_⟩
 by_cases hc:cap=l
 ·exact .inl (cX.1 (by rw[hlen]; omega))
 rcases h2 with h2|⟨b,off,rfl,h3,h4⟩
 ·exact .inl (by rw[h2]; simp)
 ·refine .inr ⟨b,off+l*t.size,by rw[if_neg hc]; simp[ņ],h3,fun i x hx=>?_⟩
  have hx':xs[l+i]?=some x:=by
   rw[dO] at hx
   split at hx
   ·simpa using hx
   ·cases hx
  obtain⟨us,h5,h6⟩:=h4 (l+i) x hx';refine⟨us,h5,?_⟩
  have:off+l*t.size+i*t.size=off+(l+i)*t.size:=by rw[dl]; omega
  rw[this]; exact h6
def CR.slice_iff {av:Nat→Prop} {t:Ty} {xs:List (Val t)} {v:Value}:CR w av (.slice t) xs [v] ↔
 ∃base cap,v=.slice base xs.length cap∧SR w av t xs base cap∧(xs=[]∨∀b off,base=some ⟨b,off,none⟩→¬av b):=by
 constructor
 ·rintro⟨base,cap,h1,h2,h3⟩;refine⟨base,cap,by simpa using h1,⟨h2,?_⟩,?_⟩
  ·rcases h3 with h3|⟨b,off,h3,h4,h5,h6⟩
   ·exact .inl h3
   ·exact .inr ⟨b,off,h3,h5,h6⟩
  ·rcases h3 with h3|⟨b,off,h3,h4,h5,h6⟩
   ·exact .inl h3
   ·exact .inr fun b' off' hb=>by rw[h3] at hb; cases hb; exact h4
 ·rintro⟨base,cap,rfl,⟨h2,h3⟩,h4⟩;refine⟨base,cap,rfl,h2,?_⟩;rcases h3 with h3|⟨b,off,h3,h5,h6⟩
  ·exact .inl h3
  ·rcases h4 with h4|h4
   ·exact .inl h4
   ·exact .inr ⟨b,off,h3,h4 b off h3,h5,h6⟩
def CR.part {av:Nat→Prop} {t:Ty} {xs:List (Val t)} {base:Option Addr} {cap l m:Nat} (hs:CR w av (.slice t) xs [.slice base xs.length cap]) (hl:l≤m) (hm:m≤xs.length) :
 CR w av (.slice t) ((xs.drop l).take (m-l)) [.slice (if cap=l then base else base.map (·.add (l*t.size))) (m-l) (cap-l)]:=by
 obtain⟨base',cap',h1,h2,h3⟩:=CR.slice_iff.1 hs;cases h1
 have hlen:((xs.drop l).take (m-l)).length=m-l:=by simp; omega
 refine CR.slice_iff.2 ⟨_,_,by rw[hlen],h2.part hl hm,?_⟩;rcases h3 with h3|h3
 ·exact .inl (by rw[h3]; simp)
 rcases h2.2 with h4|⟨b0,off0,rfl,_⟩
 ·exact .inl (by rw[h4]; simp)
 ·right;intro b off hb;have h5:=h3 b0 off0 rfl
  split at hb
  ·cases hb; exact h5
  ·simp only[dL,ņ,Option.some.injEq,Addr.mk.injEq] at hb;rw[←hb.1]; exact h5
def ajx (H:HR ν h w) {x:AV} {ux:Value} {t:Ty} {ys:List (Val t)} (hx:VR ν h w x ux) (e:Ú (.slice t) [ÿ h x]=some ys) :
 ∃base cap,ux=.slice base ys.length cap∧SR w (Av ν h) t ys base cap:=by
 have hno:∀{a:AV},VRs w (Av ν h) a ux→Ú (.slice t) [a]=some ys→∃base cap,ux=.slice base ys.length cap∧SR w (Av ν h) t ys base cap:=fun hs e=>by
  obtain⟨base,cap,h1,h2,_⟩:=CR.slice_iff.1 (ğ e ⟨hs,trivial⟩);exact⟨base,cap,h1,h2⟩
 have cut:∀{t':Ty} {zs:List (Val t')},Ú (.slice t) [.slc t' zs]=some ys→∃e:t'=t,ys=wE (F:=fun t=>List (Val t)) e zs:=fun {t' zs} e=>by
  simp only[Ú,Ε] at e
  split at e<;>try (cases e; done)
  rename_i y he
  split at he<;>try (cases he; done)
  rename_i ht _;cases he; cases e;exact⟨ht,rfl⟩
 cases x with
 |own id g =>
  obtain⟨ho,t',g',fz,xs,hl,hle,hg⟩:=hx;simp only[ÿ,hl] at e
  split at e
  ·rename_i hgg;obtain⟨rfl,rfl⟩:=cut e;obtain⟨base,cap,h1,h2,_,h3⟩:=H.row_data hl;refine⟨base,cap,by rw[hg (by simpa using hgg),h1],h2,?_⟩;rcases h3 with h3|⟨b,off,h3,h4,_,h5⟩
   ·exact .inl h3
   ·exact .inr ⟨b,off,h3,h4,h5⟩
  ·simp[Ú,Ε] at e
 |sub id g lo n =>
  obtain⟨ho,t',g',fz,xs,hl,hle,hg⟩:=hx;simp only[ÿ,hl] at e
  split at e
  ·rename_i hgg;obtain⟨rfl,rfl⟩:=cut e;obtain⟨hlen,base',cap',hν,hvv⟩:=hg (by simpa using hgg);obtain⟨base,cap,h1,h2,_,h3⟩:=H.row_data hl
   rw[h1] at hν; injection hν with e1 e2 e3; subst e1; subst e3
   have hs:SR w (Av ν h) t' xs base cap:=⟨h2,by
    rcases h3 with h3|⟨b,off,h3,h4,_,h5⟩
    ·exact .inl h3
    ·exact .inr ⟨b,off,h3,h4,h5⟩⟩
   have hp:=hs.part (l:=lo) (m:=lo+n) (by omega) hlen;rw[Nat.add_sub_cancel_left] at hp
   have hn:((xs.drop lo).take n).length=n:=by simp; omega
   refine⟨_,_,?_,hp⟩;show ux=.slice _ ((xs.drop lo).take n).length _;rw[hn]; exact hvv
  ·simp[Ú,Ε] at e
 |omp id =>
  simp only[ÿ] at e
  split at e<;>simp[Ú,Ε] at e
 |nils=>exact hno (a:=.nils) (VR1.data (a:=.nils) hx) e
 |slc t' xs=>exact hno (a:=.slc t' xs) (VR1.data (a:=.slc t' xs) hx) e
 |_=>simp[ÿ,Ú,Ε] at e
def flatten {av:Nat→Prop} {b:Nat} {t:Ty}:∀(ys:List (Val t)) (off:Nat),(∀(i:Nat) (y:Val t),ys[i]?=some y→∃us,CR w av t y us∧CellsAt w b (off+i*t.size) us) →
 ∃news:List Value,news.length=ys.length*t.size∧CellsAt w b off news∧(∀v∈news,v.oneCell'=true)∧∀(i:Nat) (y:Val t),ys[i]?=some y→CR w av t y ((news.drop (i*t.size)).take t.size)
 |[],off,_=>⟨[],by simp,fun j v hj=>by simp at hj,by simp,fun i y hi=>by simp at hi⟩
 |y::ys,off,H=>by
  obtain⟨us,h1,h2⟩:=H 0 y rfl
  obtain⟨news,h3,h4,h5,h6⟩:=flatten ys (off+t.size) fun i z hz=>by
   obtain⟨ws,h7,h8⟩:=H (i+1) z (by simpa using hz);refine⟨ws,h7,?_⟩;rw[show off+t.size+i*t.size=off+(i+1)*t.size by rw[dl]; omega]; exact h8
  have hus:us.length=t.size:=h1.length;refine⟨us++news,by simp[hus,h3,dl]; omega,fun j v hj=>?_,fun v hv=>?_,fun i z hz=>?_⟩
  ·rw[eT] at hj
   split at hj
   ·simpa using h2 j v hj
   ·have:=h4 _ v hj
    rwa [show off+t.size+(j-us.length)=off+j by omega] at this
  ·rcases cM.1 hv with hv|hv
   ·exact CR.oneCell h1 v hv
   ·exact h5 v hv
  ·cases i with
   |zero =>
    simp at hz; subst hz;simpa[←hus] using h1
   |succ i =>
    have:=h6 i z (by simpa using hz);rw[show(i+1)*t.size=us.length+i*t.size by rw[dl,hus]; omega,←fA,List.drop_left];exact this
def SR.flat {av:Nat→Prop} {t:Ty} {ys:List (Val t)} {base:Option Addr} {cap:Nat} (hs:SR w av t ys base cap) :
 ∃news:List Value,news.length=ys.length*t.size∧(∀a,base=some a→∀j v,news[j]?=some v→w.cell? (a.add j)=some v)∧(base=none→ys=[])∧(∀v∈news,v.oneCell'=true) ∧
  ∀(i:Nat) (y:Val t),ys[i]?=some y→CR w av t y ((news.drop (i*t.size)).take t.size):=by
 rcases hs.2 with rfl|⟨b,off,rfl,h1,h2⟩
 ·exact⟨[],by simp,fun _ _ j v hj=>by simp at hj,fun _=>rfl,by simp,fun i y hi=>by simp at hi⟩
 ·obtain⟨news,h3,h4,h5,h6⟩:=flatten ys off h2;exact⟨news,h3,fun a ha=>by cases ha; exact h4.addr,fun hf=>(by cases hf),h5,h6⟩
end
end Go.Am
end

noncomputable section
namespace Go.Am
variable [Ghost]
section
variable {ν ν':Nat→Value} {h h':List Blk} {w w':World} {P:Program}
def AE (w:World) (av:Nat→Prop) (t:Ty) (xs:List (Val t)) (news:List Value):Prop :=
 news.length=xs.length*t.size∧∀(i:Nat) (x:Val t),xs[i]?=some x→CR w av t x ((news.drop (i*t.size)).take t.size)
def AE.append {av:Nat→Prop} {t:Ty} {xs ys:List (Val t)} {m n:List Value} (h1:AE w av t xs m) (h2:AE w av t ys n):AE w av t (xs++ys) (m++n):=by
 refine⟨by simp[h1.1,h2.1,dl],fun i x hi=>?_⟩;rw[eT] at hi
 split at hi
 ·rename_i hlt;have:=h1.2 i x hi;have hb:(i+1)*t.size≤xs.length*t.size:=dv _ hlt;rw[dl,fq] at hb;rw[List.drop_append_of_le_length (by rw[h1.1]; omega),fc (by rw[gC,h1.1]; omega)];exact this
 ·rename_i hge;have:=h2.2 _ x hi
  have:i*t.size=m.length+(i-xs.length)*t.size:=by rw[h1.1,←dl]; congr 1; omega
  rw[this,←fA,List.drop_left];exact h2.2 _ x hi
def AE.cells {av:Nat→Prop} {t:Ty} {xs:List (Val t)} {news:List Value} (hr:AE w av t xs news) {c:Array Value} {o:Nat} (hc:∀(j:Nat) (v:Value),news[j]?=some v→c[o+j]?=some v) :
 ∀(i:Nat) (x:Val t),xs[i]?=some x→∃us,CR w av t x us∧∀j v,us[j]?=some v→c[o+i*t.size+j]?=some v:=by
 intro i x hi;refine⟨_,hr.2 i x hi,fun j v hj=>?_⟩;rw[dO] at hj
 split at hj
 ·rw[dV] at hj;have:=hc _ v hj
  rwa [show o+(i*t.size+j)=o+i*t.size+j by omega] at this
 ·cases hj
def FW (H:HR ν h w) {id g' cap':Nat} {t:Ty} {xs':List (Val t)} {c':Array Value} {e:TypeId} {news:List Value} (hid:id<h.length)
 (hnext:∀V,(lkB h id).next ν (ï ν id V) id (.row t g' false xs')) (hw:w'.heap=w.heap.push (.cells c' e (0,0))) (hos:w'.os=w.os) (htape:w'.tape=w.tape) (hout:w'.output=w.output)
 (hle:xs'.length≤cap') (hsz:cap'*t.size≤c'.size) (hr:AE w (Av ν h) t xs' news) (hn:∀(j:Nat) (v:Value),news[j]?=some v→c'[j]?=some v) :
 Ev h.length ν h w (ï ν id (.slice (some ⟨w.heap.size,0,none⟩) xs'.length cap')) (ð h id (.row t g' false xs')) w' ∧
  HR (ï ν id (.slice (some ⟨w.heap.size,0,none⟩) xs'.length cap')) (ð h id (.row t g' false xs')) w':=by
 have hkeep:∀b,b<w.heap.size→((lkB h id).live=true→¬Ļ (ν id) b)→w'.heap[b]?=w.heap[b]?:=fun b hb _=>by
  rw[hw,eP]; simp[fD hb]
 have hV:(Blk.row t g' false xs').live=true→∀k,Ļ (Value.slice (some ⟨w.heap.size,0,none⟩) xs'.length cap') k→((lkB h id).live=true∧Ļ (ν id) k)∨w.heap.size≤k:=fun _ k hk=>by
  cases hk; exact .inr (cG _)
 have ev:=Ev.upd H (B:=.row t g' false xs') (V:=.slice (some ⟨w.heap.size,0,none⟩) xs'.length cap') (w':=w') hid hos htape hout (by rw[hw]; simp) hkeep hV (hnext _)
 have hnew:w'.heap[w.heap.size]?=some (.cells c' e (0,0)):=by rw[hw]; simp
 refine⟨ev,HR.upd H hid ev hkeep hV ⟨_,cap',Ï _ _ _,hle,.inr ⟨w.heap.size,0,c',e,rfl,hnew,by omega,fun i x hi=>?_⟩⟩⟩;obtain⟨us,h1,h2⟩:=hr.cells (o:=0) (c:=c') (fun j v hj=>by simpa using hn j v hj) i x hi;refine⟨us,CR.keep ev.keepA h1,fun j v hj=>?_⟩;simp only[World.cell?,hnew];simpa using h2 j v hj
def QW (H:HR ν h w) {id g':Nat} {t:Ty} (hid:id<h.length) (hnext:∀V,(lkB h id).next ν (ï ν id V) id (.row t g' false [])) :
 Ev h.length ν h w (ï ν id (.slice none 0 0)) (ð h id (.row t g' false [])) w∧HR (ï ν id (.slice none 0 0)) (ð h id (.row t g' false [])) w:=by
 have hkeep:∀b,b<w.heap.size→((lkB h id).live=true→¬Ļ (ν id) b)→w.heap[b]?=w.heap[b]?:=fun b hb _=>rfl
 have hV:(Blk.row t g' false []).live=true→∀k,Ļ (Value.slice none 0 0) k→((lkB h id).live=true∧Ļ (ν id) k)∨w.heap.size≤k:=fun _ k hk=>by cases hk
 have ev:=Ev.upd H (B:=.row t g' false []) (V:=.slice none 0 0) (w':=w) hid rfl rfl rfl (cG _) hkeep hV (hnext _);exact⟨ev,HR.upd H hid ev hkeep hV ⟨none,0,Ï _ _ _,cG _,.inl ⟨rfl,rfl⟩⟩⟩
def xN {id g:Nat} {t:Ty} {fz:Bool} {xs:List (Val t)} {V:Value} {h:List Blk} (hid:id<h.length) (ho:V.oneCell'=true):VR (ï ν id V) (ð h id (.row t g fz xs)) w (.own id g) V :=
 ⟨ho,t,g,fz,xs,â _ hid,cG _,fun _=>(Ï _ _ _).symm⟩
def kM {e:TypeId} {n:Nat} (hr:Iw P e n=true):∃i z,P.info? e=some i∧i.size=n∧0<n∧i.bytes≤32768∧i.zero=some z∧z.cells.size=n:=by
 unfold Iw at hr
 split at hr
 ·rename_i i hi;simp only[cH,beq_iff_eq,decide_eq_true_eq] at hr;obtain⟨h1,h2,h3,h4⟩:=hr
  split at h4
  ·rename_i z hz;exact⟨i,z,hi,h1,h2,h3,hz,by simpa using h4⟩
  ·cases h4
 ·cases hr
def oB (t ty e:TypeId) (i:TypeInfo) (ht:P.underlying t=some (.slice e)) (hi:P.info? e=some i)
 {g o sLen sCap:Nat} {cur:Array Value} {e':TypeId} (hg:w.heap[g]?=some (.cells cur e' (0,0)))
 (base:Option Addr) (m c:Nat) (news:List Value) (hl:news.length=m*i.size) (hnews:∀a,base=some a→∀j u,news[j]?=some u→w.cell? (a.add j)=some u) (hb:base=none→news=[]) (h1:∀u∈news,u.oneCell'=true)
 (hroom:sLen+m≤sCap) (hfit:o+sLen*i.size+news.length≤cur.size) :
 (Builtin.append_ #[t,t] ty #[.slice (some ⟨g,o,none⟩) sLen sCap,.slice base m c]).run P w =
  .ok (.slice (some ⟨g,o,none⟩) (sLen+m) sCap) (w.setRow g (cur.toList.take (o+sLen*i.size)++news++cur.toList.drop (o+sLen*i.size+news.length)).toArray):=by
 have hf:(Builtin.firstCells i.size m (.slice base m c)).run P w=.ok news.toArray w:=by
  cases base with
  |none=>rw[hb rfl]; exact run_firstCells_none (P:=P) w _ _ _ _
  |some a=>exact run_firstCells_some (P:=P) w i.size m a m c news hl (hnews a rfl)
 have hst:=run_storeCells_at P g (o+sLen*i.size) e' news 0 cur w hg (by simpa using hfit) h1;simp only[fG] at hst;simp[Builtin.append_,run_underlying ht,sizeOf,typeInfo,hi,Builtin.lenOf,hroom,hf,ņ,hst]
def pT (t ty e:TypeId) (i:TypeInfo) (ht:P.underlying t=some (.slice e)) (hi:P.info? e=some i) (base:Option Addr) (c:Nat) :
 (Builtin.append_ #[t,t] ty #[.slice none 0 0,.slice base 0 c]).run P w=.ok (.slice none 0 0) w:=by
 have hf:(Builtin.firstCells i.size 0 (.slice base 0 c)).run P w=.ok #[] w:=by
  cases base with
  |none=>exact run_firstCells_none (P:=P) w _ _ _ _
  |some a=>exact run_firstCells_some (P:=P) w i.size 0 a 0 c [] (by simp) (fun j v hj=>by simp at hj)
 simp[Builtin.append_,run_underlying ht,sizeOf,typeInfo,hi,Builtin.lenOf,hf]
def ND (H:HR ν h w) (t ty:TypeId) {e:TypeId} {i:TypeInfo} {z:Value} (ht:P.underlying t=some (.slice e)) (hi:P.info? e=some i) (hz:i.zero=some z) {ety:Ty} (hsz:i.size=ety.size) (hpos:0<ety.size)
 (hby:i.bytes≤32768) (hzs:z.cells.size=ety.size) {id g':Nat} (hid:id<h.length) {xs ys:List (Val ety)} (hnext:∀V,(lkB h id).next ν (ï ν id V) id (.row ety g' false (xs++ys)))
 {base:Option Addr} {cap:Nat} {by_:Option Addr} {cy:Nat} (hy:SR w (Av ν h) ety ys by_ cy)
 (hx:(base=none∧cap=0∧xs=[])∨∃g,lkB h id=.row ety g false xs∧g<g'∧ν id=.slice base xs.length cap)
 (hlen:xs.length+ys.length≤4294967296) :
 ∃V w',(Builtin.append_ #[t,t] ty #[.slice base xs.length cap,.slice by_ ys.length cy]).run P w=.ok V w'∧V.oneCell'=true ∧
  Ev h.length ν h w (ï ν id V) (ð h id (.row ety g' false (xs++ys))) w'∧HR (ï ν id V) (ð h id (.row ety g' false (xs++ys))) w':=by
 obtain⟨news,hn1,hn2,hn3,hn4,hn5⟩:=hy.flat;have hyr:AE w (Av ν h) ety ys news:=⟨hn1,hn5⟩
 have hbytes:(xs.length+ys.length)*i.bytes≤140737488355328:=by
  have:=fZ hlen hby;omega
 have hnew:∀(old:Nat) (olds:List Value),AE w (Av ν h) ety xs olds →
  ∃V w',(Result.ok (Value.slice (some ⟨w.heap.size,0,none⟩) (xs.length+ys.length) (grownCap w (xs.length+ys.length) old e))
   (w.drew.alloc (.cells (olds.toArray++news.toArray++Builtin.zeroCells z.cells (grownCap w (xs.length+ys.length) old e-(xs.length+ys.length))) e)):Result Value)=.ok V w'∧V.oneCell'=true ∧
  Ev h.length ν h w (ï ν id V) (ð h id (.row ety g' false (xs++ys))) w'∧HR (ï ν id V) (ð h id (.row ety g' false (xs++ys))) w':=by
  intro old olds hol;have hge:=grownCap_ge w (xs.length+ys.length) old e;have hr:=hol.append hyr
  have:=FW (w':=w.drew.alloc (.cells (olds.toArray++news.toArray++Builtin.zeroCells z.cells (grownCap w (xs.length+ys.length) old e-(xs.length+ys.length))) e))
   H (cap':=grownCap w (xs.length+ys.length) old e) (g':=g') (t:=ety) hid hnext rfl rfl rfl rfl (by simpa using hge) (by
    simp only[gR,eY,size_zeroCells,hzs,hol.1,hyr.1,←dl]
    apply dv; omega) hr (fun j v hj=>by
     rw[←eD] at hj;rw[fB,if_pos]
     ·simpa using hj
     ·have:=(eV.1 hj).1
      simpa using this)
  rw[cJ] at this;exact⟨_,_,rfl,rfl,this⟩
 rcases hx with⟨rfl,rfl,rfl⟩|⟨g,hl,hg,hν⟩
 ·by_cases hy0:ys=[]
  ·subst hy0;have hrun:=pT (P:=P) (w:=w) t ty e i ht hi by_ cy;exact⟨_,w,hrun,rfl,QW H hid hnext⟩
  ·have h0:0<ys.length:=d8.2 hy0
   have hb:∃a,by_=some a:=by
    cases by_ with
    |none=>exact absurd (hn3 rfl) hy0
    |some a=>exact⟨a,rfl⟩
   obtain⟨a,rfl⟩:=hb;have hrun:=run_append_nil (P:=P) w t ty e i z ht hi hz a ys.length cy news (by rw[hsz]; exact hn1) (hn2 a rfl) h0 (by simp at hlen; omega) (by simp at hbytes; omega);obtain⟨V,w',h1,h2,h3,h4⟩:=hnew 0 [] ⟨by simp,fun i x hi=>by simp at hi⟩;refine⟨V,w',?_,h2,h3,h4⟩;rw[←h1];simpa using hrun
 ·have hB:=H.blk id;rw[hl] at hB;obtain⟨base',cap',h1,h2,h3⟩:=hB
  rw[hν] at h1; injection h1 with q1 q2 q3; subst q1; subst q3
  rcases h3 with⟨rfl,rfl⟩|⟨b,off,c,e',rfl,h4,h5,h6⟩
  ·have hx0:xs=[]:=cX.1 (by omega);subst hx0
   by_cases hy0:ys=[]
   ·subst hy0;have hrun:=pT (P:=P) (w:=w) t ty e i ht hi by_ cy;exact⟨_,w,hrun,rfl,QW H hid hnext⟩
   ·have h0:0<ys.length:=d8.2 hy0
    have hb:∃a,by_=some a:=by
     cases by_ with
     |none=>exact absurd (hn3 rfl) hy0
     |some a=>exact⟨a,rfl⟩
    obtain⟨a,rfl⟩:=hb;have hrun:=run_append_nil (P:=P) w t ty e i z ht hi hz a ys.length cy news (by rw[hsz]; exact hn1) (hn2 a rfl) h0 (by simp at hlen; omega) (by simp at hbytes; omega);obtain⟨V,w',h1,h2,h3,h4⟩:=hnew 0 [] ⟨by simp,fun i x hi=>by simp at hi⟩;refine⟨V,w',?_,h2,h3,h4⟩;rw[←h1];simpa using hrun
  ·obtain⟨olds,ho1,ho2,ho3,ho4⟩:=flatten xs off h6;have hol:AE w (Av ν h) ety xs olds:=⟨ho1,ho4⟩
   by_cases hroom:xs.length+ys.length≤cap
   ·have hfit:off+xs.length*i.size+news.length≤c.size:=by
     have:=dv ety.size hroom;rw[hsz,hn1];rw[dl] at this;omega
    have hrun:=oB (P:=P) t ty e i ht hi h4 by_ ys.length cy news (by rw[hsz]; exact hn1) hn2 (fun hb=>by
     rw[hn3 hb] at hn1; exact cX.1 (by simpa using hn1)) hn4 hroom hfit
    have hset:=QV H (xs':=xs++ys) (g':=g') (o':=off) (cap':=cap) (c':=(c.toList.take (off+xs.length*i.size)++news++c.toList.drop (off+xs.length*i.size+news.length)).toArray) hl
     (by rw[hν]; rfl) h4 (by simpa using hroom) (by simp; omega) (.inl hg) ((hol.append hyr).cells fun j v hj=>by
      have hs:=pD c.toList news (off+xs.length*i.size) (off+j) (by simpa using hfit);rw[eD,hs];rw[eT] at hj;rw[ho1,←hsz] at hj
      split at hj
      ·rw[if_pos (by omega)];have:=ho2 j v hj;simp only[World.cell?,h4] at this;simpa using this
      ·have hjl:=(cI.1 hj).1;rw[if_neg (by omega),if_pos (by omega)]
       rw[show off+j-(off+xs.length*i.size)=j-xs.length*i.size by omega]; exact hj)
    rw[cJ] at hset;exact⟨_,_,hrun,rfl,hset⟩
   ·by_cases hy0:ys=[]
    ·subst hy0; simp at hroom; omega
    have hb:∃a,by_=some a:=by
     cases by_ with
     |none=>exact absurd (hn3 rfl) hy0
     |some a=>exact⟨a,rfl⟩
    obtain⟨a,rfl⟩:=hb;have hrun:=run_append_grow (P:=P) w t ty e i z ht hi hz ⟨b,off,none⟩ xs.length cap olds (by rw[hsz]; exact ho1) ho2.addr a ys.length cy news (by rw[hsz]; exact hn1) (hn2 a rfl) (by omega) (by omega) (growslice_fits (by omega) hbytes);obtain⟨V,w',h1,h2,h3,h4⟩:=hnew cap olds hol;exact⟨V,w',hrun.trans h1,h2,h3,h4⟩
end
end Go.Am
end

noncomputable section
namespace Go.Am
variable [Ghost]
section
variable {ν ν':Nat→Value} {h h':List Blk} {w w':World} {P:Program}
def ξ (P:Program) (ν:Nat→Value) (h:List Blk) (w:World) (x:Sem Value) (v:AV) (h':List Blk):Prop :=
 ∃ν' w' u,x.run P w=.ok u w'∧VR ν' h' w' v u∧HR ν' h' w'∧Ev h.length ν h w ν' h' w'∧h'.length=h.length
def ξ.still {x:Sem Value} {u:Value} {v:AV} (H:HR ν h w) (hr:x.run P w=.ok u w) (hv:VR ν h w v u):ξ P ν h w x v h :=
 ⟨ν,w,u,hr,hv,H,Ev.refl _ _ _ _,rfl⟩
def jK {t e:TypeId} (h:Ho P t=some e):P.underlying t=some (.slice e):=by
 unfold Ho at h
 split at h
 ·rename_i e' h'; cases h; exact h'
 ·cases h
def af8 {nid:Nat} {t ty:TypeId} {s x v:AV} {us ux:Value} (H:HR ν h w) (hn:nid<h.length) (hd:lkB h nid=.dead)
 (e:zm P h nid t s x (fun v h=>some (v,h))=some (v,h')) (hs:VR ν h w s us) (hx:VR ν h w x ux):ξ P ν h w (Builtin.append_ #[t,t] ty #[us,ux]) v h':=by
 unfold zm at e
 split at e<;>try (cases e; done)
 rename_i el hel
 split at e<;>try (cases e; done)
 rename_i ety hety
 split at e<;>try (cases e; done)
 rename_i hrow;obtain⟨i,z,hi,hsz,hpos,hby,hz,hzs⟩:=kM hrow
 split at e<;>try (cases e; done)
 rename_i ys hys;obtain⟨by_,cy,rfl,hsr⟩:=ajx H hx hys;have ht:=jK hel
 split at e
 ·-- nil
  split at e<;>try (cases e; done)
  rename_i hok;cases e;have hus:us=.slice none 0 0:=hs;subst hus
  obtain⟨V,w',h1,h2,h3,h4⟩:=ND H t ty ht hi hz hsz hpos hby hzs (id:=nid) (g':=0) hn (xs:=[]) (ys:=ys) (fun V=>by rw[hd]; trivial) (base:=none) (cap:=0) hsr (.inl ⟨rfl,rfl,rfl⟩)
   (by simp[ê] at hok; simpa using hok)
  exact⟨_,w',V,h1,xN hn h2,h4,h3,Ñ _ _ _⟩
 ·rename_i id g
  split at e<;>try (cases e; done)
  rename_i ty' g' xs hl
  split at e<;>try (cases e; done)
  rename_i hgg
  split at e<;>try (cases e; done)
  rename_i heq _;subst heq
  split at e<;>try (cases e; done)
  rename_i hok
  have hg:g=g':=by simpa using hgg
  subst hg;obtain⟨ho,t2,g2,fz2,xs2,hl2,hle,hv2⟩:=hs;rw[hl] at hl2; cases hl2;have hid:id<h.length:=Ű hl (by simp);have hB:=H.blk id;rw[hl] at hB;obtain⟨base,cap,h1,_,_⟩:=hB
  have hus:us=.slice base xs.length cap:=by rw[hv2 rfl,h1]
  subst hus
  obtain⟨V,w',h1,h2,h3,h4⟩:=ND H t ty ht hi hz hsz hpos hby hzs (id:=id) (g':=g+1) hid (xs:=xs) (ys:=ys) (fun V=>by
   rw[hl]; exact⟨g+1,false,xs++ys,rfl,gq _,fun hf=>by omega⟩) (base:=base) (cap:=cap) hsr (.inr ⟨g,hl,Nat.lt_succ_self _,h1⟩)
   (by simpa[ê] using hok)
  cases e;exact⟨_,w',V,h1,xN hid h2,h4,h3,Ñ _ _ _⟩
 ·cases e
def ahj {t e:TypeId} {sz:Nat} {x i v:AV} {ux ui:Value} (H:HR ν h w) (ht:P.underlying t=some (.slice e)) (hs:szP P e=some sz)
 (ei:EU sz h x i some=some v) (hx:VR ν h w x ux) (hi:VR ν h w i ui):ξ P ν h w (Instr.indexAt t ux ui) v h:=by
 unfold EU at ei
 split at ei<;>try (cases ei; done)
 rename_i k n;have hui:ui=.int k n:=hi;subst hui
 have run:∀(a:Addr) (len cap:Nat),0≤n→n<len→(Instr.indexAt t (.slice (some a) len cap) (.int k n)).run P w=.ok (.pointer (some (a.add (n.toNat*sz)))) w:=by
  intro a len cap h0 h1;simp[Instr.indexAt,asIntOf,run_underlying ht,mz hs,h0,h1]
 split at ei
 ·rename_i ty xs
  split at ei<;>try (cases ei; done)
  rename_i hc;simp only[cH,beq_iff_eq,decide_eq_true_eq] at hc;obtain⟨hsz,h0⟩:=hc
  split at ei<;>try (cases ei; done)
  rename_i y hy;cases ei;obtain⟨base,cap,rfl,hsr,hav⟩:=CR.slice_iff.1 hx;have hlt:=(cI.1 hy).1;rcases hsr.2 with h1|⟨b,off,rfl,h1,h2⟩
  ·rw[h1] at hlt; simp at hlt
  ·obtain⟨us,h3,h4⟩:=h2 _ y hy;refine ξ.still H (run _ _ _ h0 (by omega)) ?_;rcases hav with hav|hav
   ·rw[hav] at hlt; simp at hlt
   ·exact⟨b,off+n.toNat*ty.size,us,by rw[ņ,hsz]; rfl,hav b off rfl,h1,h3,h4⟩
 ·rename_i id g
  split at ei<;>try (cases ei; done)
  rename_i ty g' fz xs hl
  split at ei<;>try (cases ei; done)
  rename_i hc;simp only[cH,beq_iff_eq] at hc;obtain⟨rfl,hsz⟩:=hc
  split at ei<;>try (cases ei; done)
  rename_i hn;simp only[cH,decide_eq_true_eq] at hn;cases ei;obtain⟨ho,t2,g2,fz2,xs2,hl2,hle,hv2⟩:=hx;rw[hl] at hl2; cases hl2;obtain⟨base,cap,h1,h2,_,h3⟩:=H.row_data hl
  have hux:ux=.slice base xs.length cap:=by rw[hv2 rfl,h1]
  subst hux;rcases h3 with h3|⟨b,off,rfl,h3,_,_⟩
  ·rw[h3] at hn; simp at hn; omega
  ·refine ξ.still H (run _ _ _ hn.1 hn.2) ?_;refine⟨rfl,ty,g,fz,xs,hl,cG _,fun _=>⟨by omega,b,off,cap,h1,?_⟩⟩;rw[ņ,hsz]; rfl
 ·rename_i id g lo m
  split at ei<;>try (cases ei; done)
  rename_i ty g' fz xs hl
  split at ei<;>try (cases ei; done)
  rename_i hc;simp only[cH,beq_iff_eq] at hc;obtain⟨rfl,hsz⟩:=hc
  split at ei<;>try (cases ei; done)
  rename_i hn;simp only[cH,decide_eq_true_eq] at hn;cases ei;obtain⟨ho,t2,g2,fz2,xs2,hl2,hle,hv2⟩:=hx;rw[hl] at hl2; cases hl2;obtain⟨base,cap,h1,h2,_,h3⟩:=H.row_data hl;obtain⟨hlen,base',cap',hν,hvv⟩:=hv2 rfl
  rw[h1] at hν; injection hν with q1 q2 q3; subst q1; subst q3
  rcases h3 with h3|⟨b,off,rfl,h3,_,_⟩
  ·rw[h3] at hlen; simp at hlen; omega
  ·have hne:¬cap=lo:=by omega
   rw[if_neg hne] at hvv;simp only[dL,ņ] at hvv;subst hvv;refine ξ.still H (run _ _ _ hn.1 hn.2) ?_;refine⟨rfl,ty,g,fz,xs,hl,cG _,fun _=>⟨by omega,b,off,cap,h1,?_⟩⟩;rw[ņ,←hsz]
   have:off+lo*ty.size+n.toNat*ty.size=off+(lo+n.toNat)*ty.size:=by rw[dl]; omega
   rw[this]; rfl
 ·rename_i id g
  split at ei<;>try (cases ei; done)
  rename_i k2 g' xss hl
  split at ei<;>try (cases ei; done)
  rename_i hc;simp only[cH,beq_iff_eq] at hc;obtain⟨rfl,hsz⟩:=hc;obtain rfl:=cR hsz
  split at ei<;>try (cases ei; done)
  rename_i hn;simp only[cH,decide_eq_true_eq] at hn;cases ei;obtain⟨ho,k3,g2,xss2,hl2,hle,hv2⟩:=hx;rw[hl] at hl2; cases hl2;obtain⟨us,hν⟩:=hv2 rfl;obtain⟨base,cap,us',h1,h2,_,h3,_⟩:=H.table hl;rw[hν] at h1;have q:=lZ h1
  injection q with q1 q2
  subst q1 q2;rcases h3 with⟨rfl,h3⟩|⟨b,off,c,e',rfl,_⟩
  ·omega
  ·refine ξ.still H (run _ _ _ hn.1 hn.2) ?_;refine⟨rfl,k2,g,xss,hl,cG _,fun _=>⟨by omega,us,b,off,_,cap,hν,?_⟩⟩;rw[ņ,fY]
 ·rename_i id g i0
  split at ei<;>try (cases ei; done)
  rename_i k2 g' xss hl
  split at ei<;>try (cases ei; done)
  rename_i hc;simp only[cH,beq_iff_eq] at hc;obtain⟨rfl,hsz⟩:=hc;obtain rfl:=cR hsz
  split at ei<;>try (cases ei; done)
  rename_i xs hxs
  split at ei<;>try (cases ei; done)
  rename_i hn;simp only[cH,decide_eq_true_eq] at hn;cases ei;obtain⟨ho,k3,g2,xss2,hl2,hle,hv2⟩:=hx;rw[hl] at hl2; cases hl2;obtain⟨u0,us,hν,hu⟩:=hv2 rfl;obtain⟨base,cap,us',h1,h2,_,_,h3⟩:=H.table hl;rw[hν] at h1;have q:=lZ h1
  injection q with q1 q2
  subst q2;obtain⟨base2,cap2,rfl,hc2,h4⟩:=h3.get2 hxs hu;rcases h4 with⟨rfl,h4⟩|⟨b,off,c,e',rfl,_⟩
  ·omega
  ·refine ξ.still H (run _ _ _ hn.1 hn.2) ?_;refine⟨rfl,k2,g,xss,hl,cG _,fun _=>⟨u0,us,b,off,_,cap2,hν,hu,by omega,?_⟩⟩;rw[ņ,fY]
 ·cases ei
def pG {b:Nat} {es:Array MapEntry} {c:Nat} (hb:w.heap[b]?=some (.map es c)):(getObj b).run P w=.ok (.map es c) w:=by simp[getObj,Sem.run,hb]
def len_ok {t ty:TypeId} {x v:AV} {ux:Value} (H:HR ν h w) (e:ahb (P.underlying t) h x some=some v) (hx:VR ν h w x ux) {ts:Array TypeId} (hts:ts[0]?=some t):ξ P ν h w (Builtin.len_ ts ty #[ux]) v h:=by
 unfold ahb at e;simp only[Kw] at e
 split at e
 ·rename_i el ht
  have run:∀(b:Option Addr) (n c:Nat),(Builtin.len_ ts ty #[.slice b n c]).run P w=.ok (.int .i64 n) w:=fun b n c=>by
   simp[Builtin.len_,hts,run_underlying ht,goInt]
  split at e<;>try (cases e; done)
  ·cases e;obtain⟨base,cap,rfl,_⟩:=CR.slice_iff.1 hx;exact ξ.still H (run _ _ _) rfl
  ·cases e;have:ux=.slice none 0 0:=hx;subst this;exact ξ.still H (run _ _ _) rfl
  ·split at e<;>try (cases e; done)
   rename_i ty' g' fz xs hl
   split at e<;>try (cases e; done)
   rename_i hgg;cases e;obtain⟨ho,t2,g2,fz2,xs2,hl2,hle,hv2⟩:=hx;rw[hl] at hl2; cases hl2;obtain⟨base,cap,h1,_⟩:=H.row_data hl;rw[hv2 (by simpa using hgg),h1];exact ξ.still H (run _ _ _) rfl
  ·split at e<;>try (cases e; done)
   rename_i ty' g' fz xs hl
   split at e<;>try (cases e; done)
   rename_i hgg;cases e;obtain⟨ho,t2,g2,fz2,xs2,hl2,hle,hv2⟩:=hx;rw[hl] at hl2; cases hl2;obtain⟨_,base,cap,_,rfl⟩:=hv2 (by simpa using hgg);exact ξ.still H (run _ _ _) rfl
  ·split at e<;>try (cases e; done)
   rename_i k2 g' xss hl
   split at e<;>try (cases e; done)
   rename_i hgg;cases e;obtain⟨ho,k3,g2,xss2,hl2,hle,hv2⟩:=hx;rw[hl] at hl2; cases hl2;obtain⟨us,hν⟩:=hv2 (by simpa using hgg);obtain⟨base,cap,us',h1,_⟩:=H.table hl;rw[hν] at h1;have q:=lZ h1
   injection q with q1 q2
   subst q1;exact ξ.still H (run _ _ _) rfl
  ·split at e<;>try (cases e; done)
   rename_i k2 g' xss hl
   split at e<;>try (cases e; done)
   rename_i hgg
   split at e<;>try (cases e; done)
   rename_i xs hxs;cases e;obtain⟨ho,k3,g2,xss2,hl2,hle,hv2⟩:=hx;rw[hl] at hl2; cases hl2;obtain⟨u0,us,hν,hu⟩:=hv2 (by simpa using hgg);obtain⟨base,cap,us',h1,h2,_,_,h3⟩:=H.table hl;rw[hν] at h1;have q:=lZ h1
   injection q with q1 q2
   subst q2;obtain⟨base2,cap2,rfl,hc2,h4⟩:=h3.get2 hxs hu;exact ξ.still H (run _ _ _) rfl
 ·rename_i ht
  split at e<;>try (cases e; done)
  cases e;have:ux=.string _:=hx;subst this;exact ξ.still H (by simp[Builtin.len_,hts,run_underlying ht,goInt]) rfl
 ·rename_i k el ht
  split at e<;>try (cases e; done)
  ·cases e;obtain⟨r,hr,h1⟩:=hx;cases hr;rcases h1 with⟨rfl,rfl⟩|⟨b,entries,clock,rfl,_,h2,h3,_⟩
   ·exact ξ.still H (by simp[Builtin.len_,hts,run_underlying ht,goInt]) rfl
   ·exact ξ.still H (by simp[Builtin.len_,hts,run_underlying ht,goInt,pG h2,h3]) rfl
  ·cases e;have:ux=.map none:=hx;subst this;exact ξ.still H (by simp[Builtin.len_,hts,run_underlying ht,goInt]) rfl
  ·split at e<;>try (cases e; done)
   rename_i k' v' es hl;cases e;obtain⟨ho,k2,v2,es2,hl2,hv2⟩:=hx;rw[hl] at hl2; cases hl2;have hB:=H.blk ‹Nat›;rw[hl] at hB;obtain⟨b,entries,clock,h1,h2,h3,_⟩:=hB;rw[hv2,h1];exact ξ.still H (by simp[Builtin.len_,hts,run_underlying ht,goInt,pG h2,h3]) rfl
 ·cases e
def UA {k:IntKind} {n:Int} {y:Nat} {code:BoundsCode} (h0:0≤n) (h1:n≤y) (w:World):(Instr.sliceBound (.int k n) y code).run P w=.ok n.toNat w:=by
 simp[Instr.sliceBound,asIntOf,h0,h1]
def Lo (low:Option Value) (l m:Nat):Prop:=(low=none∧l=0)∨∃k n,low=some (.int k n)∧0≤n∧n≤(m:Int)∧l=n.toNat
def Hi (high:Option Value) (len cap m:Nat):Prop:=(high=none∧m=len)∨∃k n,high=some (.int k n)∧0≤n∧n≤(cap:Int)∧m=n.toNat
def xA {t e:TypeId} {sz:Nat} (ht:P.underlying t=some (.slice e)) (hs:szP P e=some sz) {low high:Option Value} {a:Option Addr} {len cap l m:Nat} (hl:Lo low l m) (hh:Hi high len cap m) (w:World) :
 (Instr.sliceAt t (.slice a len cap) low high none).run P w=.ok (.slice (if cap=l then a else a.map (·.add (l*sz))) (m-l) (cap-l)) w:=by
 rcases hl with⟨rfl,rfl⟩|⟨k,n,rfl,h1,h2,rfl⟩<;>rcases hh with⟨rfl,rfl⟩|⟨k',n',rfl,h3,h4,rfl⟩ <;>
  simp[Instr.sliceAt,run_underlying ht,Instr.slice,Instr.sliceBounds,mz hs,UA, *]
 rw[UA h1 h2]; rfl
def agI {t e:TypeId} {sz:Nat} {x v:AV} {lo hi:Option AV} {ulo uhi:Option Value} {ux:Value} {eat:Bool} (H:HR ν h w) (ht:P.underlying t=some (.slice e)) (hs:szP P e=some sz)
 (ei:qU sz h x lo hi eat (fun v h=>some (v,h))=some (v,h')) (hx:VR ν h w x ux)
 (hlo:∀a,lo=some a→∃u,ulo=some u∧VR ν h w a u) (hlo':lo=none→ulo=none) (hhi:∀a,hi=some a→∃u,uhi=some u∧VR ν h w a u) (hhi':hi=none→uhi=none) :
 ξ P ν h w (Instr.sliceAt t ux ulo uhi none) v h':=by
 have lo1:∀{k:IntKind} {n:Int} {m:Nat},lo=some (.int k n)→0≤n→n≤(m:Int)→Lo ulo n.toNat m:=fun e h0 h1=>by
  obtain⟨u,h2,h3⟩:=hlo _ e;have:u=_:=h3;subst this;exact .inr ⟨_,_,h2,h0,h1,rfl⟩
 have hi1:∀{k:IntKind} {n:Int} {len cap:Nat},hi=some (.int k n)→0≤n→n≤(cap:Int)→Hi uhi len cap n.toNat:=fun e h0 h1=>by
  obtain⟨u,h2,h3⟩:=hhi _ e;have:u=_:=h3;subst this;exact .inr ⟨_,_,h2,h0,h1,rfl⟩
 unfold qU at ei
 split at ei
 ·rename_i ty xs
  split at ei<;>try (cases ei; done)
  rename_i hsz
  have hsz:ty.size=sz:=by simpa using hsz
  obtain⟨base,cap,rfl,hsr,_⟩:=CR.slice_iff.1 hx
  have fin:∀(l m:Nat),Lo ulo l m→Hi uhi xs.length cap m→l≤m→m≤xs.length→ξ P ν h w (Instr.sliceAt t (.slice base xs.length cap) ulo uhi none) (.slc ty ((xs.drop l).take (m-l))) h:=fun l m hl hm h1 h2=>by
   refine ξ.still H (xA ht hs hl hm w) ?_;rw[←hsz];exact CR.part hx h1 h2
  have hcap:=hsr.1
  split at ei<;>try (cases ei; done)
  ·split at ei<;>try (cases ei; done)
   rename_i hb;simp only[cH,decide_eq_true_eq] at hb;cases ei;have:=fin _ _ (lo1 rfl hb.1 (by omega)) (hi1 rfl (by omega) (by omega)) (by omega) (by omega)
   rw[show ∀a b:Int,0≤a→a≤b→(b-a).toNat=b.toNat-a.toNat from fun a b _ _=>by omega]<;>first|exact this|omega
  ·split at ei<;>try (cases ei; done)
   rename_i hb;simp only[cH,decide_eq_true_eq] at hb;cases ei;have:=fin _ xs.length (lo1 rfl hb.1 (by omega)) (.inl ⟨hhi' rfl,rfl⟩) (by omega) (cG _)
   rwa [dU (by simp)] at this
  ·split at ei<;>try (cases ei; done)
   rename_i hb;simp only[cH,decide_eq_true_eq] at hb;cases ei;have:=fin 0 _ (.inl ⟨hlo' rfl,rfl⟩) (hi1 rfl (by omega) (by omega)) (dQ _) (by omega);simpa using this
  ·cases ei;have:=fin 0 xs.length (.inl ⟨hlo' rfl,rfl⟩) (.inl ⟨hhi' rfl,rfl⟩) (dQ _) (cG _);simpa using this
 ·have hux:ux=.slice none 0 0:=hx;subst hux
  split at ei<;>try (cases ei; done)
  ·split at ei<;>try (cases ei; done)
   rename_i hb;simp only[decide_eq_true_eq] at hb;cases ei;subst hb;refine ξ.still H (xA ht hs (.inl ⟨hlo' rfl,rfl⟩) (hi1 rfl (by omega) (by omega)) w) ?_;simp; rfl
  ·cases ei;refine ξ.still H (xA ht hs (l:=0) (m:=0) (.inl ⟨hlo' rfl,rfl⟩) (.inl ⟨hhi' rfl,rfl⟩) w) ?_;simp; rfl
 ·rename_i id g
  split at ei<;>try (cases ei; done)
  rename_i ty g' fz xs hl
  split at ei<;>try (cases ei; done)
  rename_i hc;simp only[cH,beq_iff_eq] at hc;obtain⟨rfl,hsz⟩:=hc;obtain⟨ho,t2,g2,fz2,xs2,hl2,hle,hv2⟩:=hx;rw[hl] at hl2; cases hl2;obtain⟨base,cap,h1,h2,h3,h4⟩:=H.row_data hl
  have hux:ux=.slice base xs.length cap:=by rw[hv2 rfl,h1]
  subst hux
  split at ei
  ·-- the cut replaces the row
   split at ei<;>try (cases ei; done)
   have hid:id<h.length:=Ű hl (by simp)
   have eats:∀(l m:Nat),Lo ulo l m→Hi uhi xs.length cap m→l≤m→m≤xs.length→ξ P ν h w (Instr.sliceAt t (.slice base xs.length cap) ulo uhi none) (.own id (g+1)) (ð h id (.row ty (g+1) false ((xs.drop l).take (m-l)))):=fun l m hlo hhi hlm hm=>by
    have hB:=H.blk id;rw[hl] at hB;obtain⟨base',cap',q1,_,q2⟩:=hB
    rw[h1] at q1; injection q1 with e1 e2 e3; subst e1; subst e3
    have hlen:((xs.drop l).take (m-l)).length=m-l:=by simp; omega
    have hblk:∀b,Ļ (Value.slice (if cap=l then base else base.map (·.add (l*sz))) (m-l) (cap-l)) b→Ļ (ν id) b:=fun b hb=>by
     rw[h1]
     cases base with
     |none=>split at hb<;>cases hb
     |some a =>
      split at hb
      ·exact hb
      ·have:(a.add (l*sz)).block=a.block:=by unfold Addr.add; split<;>rfl
       simp only[Ļ,kg,dL,Option.some.injEq] at hb ⊢;rw[←hb,this]
    have hkeep:∀b,b<w.heap.size→((lkB h id).live=true→¬Ļ (ν id) b)→w.heap[b]?=w.heap[b]?:=fun _ _ _=>rfl
    have hV:(Blk.row ty (g+1) false ((xs.drop l).take (m-l))).live=true→∀b,Ļ (Value.slice (if cap=l then base else base.map (·.add (l*sz))) (m-l) (cap-l)) b→((lkB h id).live=true∧Ļ (ν id) b)∨w.heap.size≤b :=
     fun _ b hb=>.inl ⟨by rw[hl]; rfl,hblk b hb⟩
    have ev:=Ev.upd H (B:=.row ty (g+1) false ((xs.drop l).take (m-l))) (V:=.slice (if cap=l then base else base.map (·.add (l*sz))) (m-l) (cap-l)) (w':=w) hid rfl rfl rfl (cG _) hkeep hV (by
     rw[hl]; exact⟨g+1,false,_,rfl,gq _,fun hf=>by omega⟩)
    refine⟨_,w,_,xA ht hs hlo hhi w,xN hid rfl,HR.upd H hid ev hkeep hV ⟨_,cap-l,by rw[Ï,hlen],by rw[hlen]; omega,?_⟩,ev,Ñ _ _ _⟩;rcases q2 with⟨rfl,rfl⟩|⟨b,off,c,e',rfl,q3,q4,q5⟩
    ·left; exact⟨by split<;>rfl,by omega⟩
    ·right
     by_cases hcl:cap=l
     ·refine⟨b,off,c,e',by rw[if_pos hcl],q3,by rw[hcl,gZ,Nat.zero_mul]; omega,fun i x hx=>?_⟩;have:=(cI.1 hx).1;rw[hlen] at this; omega
     ·refine⟨b,off+l*ty.size,c,e',by rw[if_neg hcl]; simp[ņ,hsz],q3,?_,fun i x hx=>?_⟩
      ·have:(cap-l)*ty.size=cap*ty.size-l*ty.size:=Nat.sub_mul _ _ _;have h5:l*ty.size≤cap*ty.size:=dv _ (by omega);omega
      ·have hx':xs[l+i]?=some x:=by
        rw[dO] at hx
        split at hx
        ·simpa using hx
        ·cases hx
       obtain⟨us,q6,q7⟩:=q5 (l+i) x hx';refine⟨us,CR.keep ev.keepA q6,?_⟩
       have:off+l*ty.size+i*ty.size=off+(l+i)*ty.size:=by rw[dl]; omega
       rw[this]; exact q7
   split at ei<;>try (cases ei; done)
   ·split at ei<;>try (cases ei; done)
    rename_i hb;simp only[cH,decide_eq_true_eq] at hb;cases ei;have:=eats _ xs.length (lo1 rfl hb.1 (by omega)) (.inl ⟨hhi' rfl,rfl⟩) (by omega) (cG _)
    rwa [dU (by simp)] at this
   ·split at ei<;>try (cases ei; done)
    rename_i hb;simp only[cH,decide_eq_true_eq] at hb;cases ei;have:=eats 0 _ (.inl ⟨hlo' rfl,rfl⟩) (hi1 rfl (by omega) (by omega)) (dQ _) (by omega);simpa using this
  ·have fin:∀(l m:Nat),Lo ulo l m→Hi uhi xs.length cap m→l≤m→m≤xs.length→ξ P ν h w (Instr.sliceAt t (.slice base xs.length cap) ulo uhi none) (.sub id g l (m-l)) h:=fun l m hlo hhi hlm hm=>by
    refine ξ.still H (xA ht hs hlo hhi w) ?_;refine⟨rfl,ty,g,fz,xs,hl,cG _,fun _=>⟨by omega,base,cap,h1,by rw[hsz]⟩⟩
   split at ei<;>try (cases ei; done)
   ·split at ei<;>try (cases ei; done)
    rename_i hb;simp only[cH,decide_eq_true_eq] at hb;cases ei;have:=fin _ _ (lo1 rfl hb.1 (by omega)) (hi1 rfl (by omega) (by omega)) (by omega) (by omega)
    rw[show ∀a b:Int,0≤a→a≤b→(b-a).toNat=b.toNat-a.toNat from fun a b _ _=>by omega]<;>first|exact this|omega
   ·split at ei<;>try (cases ei; done)
    rename_i hb;simp only[cH,decide_eq_true_eq] at hb;cases ei;exact fin _ xs.length (lo1 rfl hb.1 (by omega)) (.inl ⟨hhi' rfl,rfl⟩) (by omega) (cG _)
   ·split at ei<;>try (cases ei; done)
    rename_i hb;simp only[cH,decide_eq_true_eq] at hb;cases ei;have:=fin 0 _ (.inl ⟨hlo' rfl,rfl⟩) (hi1 rfl (by omega) (by omega)) (dQ _) (by omega);simpa using this
 ·cases ei
def ajy (H:HR ν h w) {id g lo n:Nat} {ty:Ty} {xs:List (Val ty)} {u:Value} (hl:lkB h id=.row ty g false xs) (hn:lo+n=xs.length) (hv:VR ν h w (.sub id g lo n) u) :
 ∃ν',VR ν' (ð h id (.row ty (g+1) false (xs.drop lo))) w (.own id (g+1)) u∧HR ν' (ð h id (.row ty (g+1) false (xs.drop lo))) w∧Ev h.length ν h w ν' (ð h id (.row ty (g+1) false (xs.drop lo))) w:=by
 obtain⟨ho,t2,g2,fz2,xs2,hl2,hle,hv2⟩:=hv;rw[hl] at hl2; cases hl2;obtain⟨_,base,cap,h1,hu⟩:=hv2 rfl;have hid:id<h.length:=Ű hl (by simp);have hB:=H.blk id;rw[hl] at hB;obtain⟨base',cap',q1,qc,q2⟩:=hB
 rw[h1] at q1; injection q1 with e1 e2 e3; subst e1; subst e3
 have hlen:(xs.drop lo).length=n:=by simp; omega
 have hblk:∀b,Ļ u b→Ļ (ν id) b:=fun b hb=>by
  rw[h1];rw[hu] at hb
  cases base with
  |none=>split at hb<;>cases hb
  |some a =>
   split at hb
   ·exact hb
   ·have:(a.add (lo*ty.size)).block=a.block:=by unfold Addr.add; split<;>rfl
    simp only[Ļ,kg,dL,Option.some.injEq] at hb ⊢;rw[←hb,this]
 have hkeep:∀b,b<w.heap.size→((lkB h id).live=true→¬Ļ (ν id) b)→w.heap[b]?=w.heap[b]?:=fun _ _ _=>rfl
 have hV:(Blk.row ty (g+1) false (xs.drop lo)).live=true→∀b,Ļ u b→((lkB h id).live=true∧Ļ (ν id) b)∨w.heap.size≤b :=
  fun _ b hb=>.inl ⟨by rw[hl]; rfl,hblk b hb⟩
 have ev:=Ev.upd H (B:=.row ty (g+1) false (xs.drop lo)) (V:=u) (w':=w) hid rfl rfl rfl (cG _) hkeep hV (by
  rw[hl]; exact⟨g+1,false,_,rfl,gq _,fun hf=>by omega⟩)
 refine⟨_,xN hid ho,HR.upd H hid ev hkeep hV ⟨_,cap-lo,by rw[Ï,hlen,hu],by rw[hlen]; omega,?_⟩,ev⟩;rcases q2 with⟨rfl,rfl⟩|⟨b,off,c,e',rfl,q3,q4,q5⟩
 ·left; exact⟨by split<;>rfl,by omega⟩
 ·right
  by_cases hcl:cap=lo
  ·refine⟨b,off,c,e',by rw[if_pos hcl],q3,by rw[hcl,gZ,Nat.zero_mul]; omega,fun i x hx=>?_⟩;have:=(cI.1 hx).1;rw[hlen] at this; omega
  ·refine⟨b,off+lo*ty.size,c,e',by rw[if_neg hcl]; simp[ņ],q3,?_,fun i x hx=>?_⟩
   ·have:(cap-lo)*ty.size=cap*ty.size-lo*ty.size:=Nat.sub_mul _ _ _;have h5:lo*ty.size≤cap*ty.size:=dv _ (by omega);omega
   ·have hx':xs[lo+i]?=some x:=by simpa using hx
    obtain⟨us,q6,q7⟩:=q5 (lo+i) x hx';refine⟨us,CR.keep ev.keepA q6,?_⟩
    have:off+lo*ty.size+i*ty.size=off+(lo+i)*ty.size:=by rw[dl]; omega
    rw[this]; exact q7
end
end Go.Am
end

noncomputable section
namespace Go.Am
variable [Ghost]
section
variable {ν ν':Nat→Value} {h h':List Blk} {w w':World} {P:Program}
def NN {z:Array Value} {n i:Nat} (hi:i<n):((Builtin.zeroCells z n).toList.drop (i*z.size)).take z.size=z.toList:=by
 have hb:i*z.size+z.size≤n*z.size:=by
  have:=dv z.size (show i+1≤n from hi)
  rwa [dl,fq] at this
 apply List.ext_getElem?
 intro j;rw[dO]
 split
 ·rename_i hj;rw[dV];simp only[Builtin.zeroCells,f5,Array.toList_range,eQ];rw[f8 (by omega)];simp only[dL]
  have hm:(i*z.size+j) % z.size=j:=by rw[Nat.mul_comm,Nat.mul_add_mod]; exact Nat.mod_eq_of_lt hj
  rw[hm];simp[getElem!_pos,hj]
 ·rename_i hj;rw[List.getElem?_eq_none]; simpa using hj
def XJ {e:TypeId} {t:Ty} {i:TypeInfo} {z:Value} {zs:List AV} {x:Val t} {av:Nat→Prop} (hi:P.info? e=some i) (hz:i.zero=some z)
 (h1:(((P.info? e).bind (·.zero)).map cv).bind ś=some zs) (h2:Ú t zs=some x) (H:HR ν h w) (hav:∀b,av b→Av ν h b):CR w av t x z.cells.toList:=by
 simp only[hi,hz,eO,dL] at h1;have:=(Zu (ν:=ν) (h:=h) (w:=w) z).cells h1;exact CR.mono hav (ğ h2 (this.mono fun _ _ hx=>VR1.data hx.1))
def JW {t:Ty} {x:Val t} {z:Array Value} {av:Nat→Prop} (hz:z.size=t.size) (hx:CR w av t x z.toList) (n:Nat):AE w av t (List.replicate n x) (Builtin.zeroCells z n).toList:=by
 refine⟨by simp[Builtin.zeroCells,hz],fun i y hi=>?_⟩
 have hlt:i<n:=by simpa using(cI.1 hi).1
 rw[gQ,if_pos hlt] at hi;cases hi;rw[←hz,NN hlt];exact hx
def Dm {n:Nat} (h:0<n):Builtin.nextslicecap n 0=n:=by simp[Builtin.nextslicecap]; omega
def ZX {n:Int} (h1 : -9223372036854775808≤n) (h2:n≤9223372036854775807):IntKind.i64.wrap n=n:=by
 have e:IntKind.i64.wrap n=if n % 18446744073709551616≥9223372036854775808 then n % 18446744073709551616-18446744073709551616 else n % 18446744073709551616:=by
  simp[IntKind.wrap,IntKind.bits,IntKind.signed]
 rw[e]
 split<;>omega
def agv {nid:Nat} {t t' ty:TypeId} {k:IntKind} {s x v:AV} {us ux:Value} (H:HR ν h w) (hn:nid<h.length) (hd:lkB h nid=.dead) (ht':P.underlying t'=some (.int k))
 (e:HE P h nid t s x (fun v h=>some (v,h))=some (v,h')) (hs:VR ν h w s us) (hx:VR ν h w x ux):ξ P ν h w (Builtin.append_ #[t,t'] ty #[us,ux]) v h':=by
 unfold HE at e
 split at e<;>try (cases e; done)
 rename_i n el hel
 split at e<;>try (cases e; done)
 rename_i ety hety
 split at e<;>try (cases e; done)
 rename_i hrow;obtain⟨i,z,hi,hsz,hpos,hby,hz,hzs⟩:=kM hrow
 split at e<;>try (cases e; done)
 rename_i zs hzz
 split at e<;>try (cases e; done)
 rename_i zv hzv
 split at e<;>try (cases e; done)
 rename_i hok;cases e;have ht:=jK hel;have hus:us=.slice none 0 0:=hs;have hux:ux=.int .i64 n:=hx;subst hus hux;simp only[cH,decide_eq_true_eq,ê] at hok;have hzc:=XJ hi hz hzz hzv H (av:=Av ν h) fun _ hb=>hb;have hr:=JW (by rw[hzs]) hzc n.toNat;have hw:IntKind.i64.wrap n=n:=ZX (by omega) (by omega);have hge:=grownCap_ge w n.toNat 0 el
 have hnew:=FW (w':=w.drew.alloc (.cells ((Builtin.zeroCells z.cells n.toNat)++Builtin.zeroCells z.cells (grownCap w n.toNat 0 el-n.toNat)) el)) H (id:=nid) (g':=0) (xs':=List.replicate n.toNat zv) (cap':=grownCap w n.toNat 0 el) hn
  (fun V=>by rw[hd]; trivial) rfl rfl rfl rfl (by simpa using hge) (by
   simp only[gR,size_zeroCells,hzs,←dl]
   apply dv; omega) hr (fun j v hj=>by
    have hj':(Builtin.zeroCells z.cells n.toNat)[j]?=some v:=by simpa using hj
    rw[fB,if_pos (eV.1 hj').1]; exact hj')
 rw[fw] at hnew;refine⟨_,_,_,?_,xN hn rfl,hnew.2,hnew.1,Ñ _ _ _⟩
 have hb:n.toNat*i.bytes≤140737488355328:=by
  have:=fZ hok.2 hby;omega
 have h48:¬(281474976710656:Int)<n*(i.bytes:Int):=by
  have:((n.toNat*i.bytes:Nat):Int)=n*i.bytes:=by
   rw[g9,Int.toNat_of_nonneg (by omega)]
  omega
 have h48':¬(281474976710656<Builtin.nextslicecap n.toNat 0*i.bytes):=by rw[Dm (by omega)]; omega
 have h0:¬n<0:=by omega
 have h1:n.toNat≠0:=by omega
 have hm:IntKind.i64.max=9223372036854775807:=rfl
 have h63:¬(9223372036854775807:Int)<(n.toNat:Int):=by omega
 have hsz0:¬i.size=0:=by omega
 simp[Builtin.append_,run_underlying ht,run_underlying ht',sizeOf,typeInfo,zeroValue,hi,hz,asInt,asIntOf,hw,h0,h48,h48',h1,hm,h63,hsz0,Builtin.firstCells,Question.forced,newRow,grownCap];rw[if_neg (by omega),if_neg (by omega),if_neg (Nat.mul_ne_zero h1 hsz0)]
def Vl {nid:Nat} {t el:TypeId} {k:IntKind} {n:Int} {ety:Ty} {zs:List AV} {zv:Val ety} (H:HR ν h w) (hn:nid<h.length) (hd:lkB h nid=.dead) (hel:Ho P t=some el)
 (hrow:Iw P el ety.size=true) (hzz:(((P.info? el).bind (·.zero)).map cv).bind ś=some zs) (hzv:Ú ety zs=some zv) (h0:0≤n) (hok:n.toNat≤4294967296) :
 ξ P ν h w (Instr.makeSlice t (.int k n) (.int k n)) (.own nid 0) (ð h nid (.row ety 0 false (List.replicate n.toNat zv))):=by
 obtain⟨i,z,hi,hsz,hpos,hby,hz,hzs⟩:=kM hrow;have ht:=jK hel;have hzc:=XJ hi hz hzz hzv H (av:=Av ν h) fun _ hb=>hb;have hr:=JW (by rw[hzs]) hzc n.toNat;have hw:IntKind.i64.wrap n=n:=ZX (by omega) (by omega)
 have hnew:=FW (w':=w.alloc (.cells (Builtin.zeroCells z.cells n.toNat) el)) H (id:=nid) (g':=0) (xs':=List.replicate n.toNat zv) (cap':=n.toNat) hn
  (fun V=>by rw[hd]; trivial) rfl rfl rfl rfl (by simp) (by simp[size_zeroCells,hzs]) hr (fun j v hj=>by simpa using hj)
 rw[fw] at hnew;refine⟨_,_,_,?_,xN hn rfl,hnew.2,hnew.1,Ñ _ _ _⟩
 have h48:¬(281474976710656:Int)<(i.bytes:Int)*n:=by
  have hb:n.toNat*i.bytes≤140737488355328:=by
   have:=fZ hok hby;omega
  have:((n.toNat*i.bytes:Nat):Int)=i.bytes*n:=by
   rw[g9,Int.toNat_of_nonneg h0,gY]
  omega
 have h0':¬n<0:=by omega
 by_cases hn0:n.toNat*i.size=0
 ·have hnn:n.toNat=0:=by
   rcases Nat.mul_eq_zero.1 hn0 with h|h
   ·exact h
   ·omega
  have hn00:n=0:=by omega
  subst hn00;simp[Instr.makeSlice,run_underlying ht,sizeOf,typeInfo,zeroValue,hi,hz,asInt,asIntOf,hw,newRow,Builtin.zeroCells];congr 2;apply fh;simp[Array.toList_range]
 ·have hsz':z.cells.size=i.size:=by rw[hzs,hsz]
  simp[Instr.makeSlice,run_underlying ht,sizeOf,typeInfo,zeroValue,hi,hz,asInt,asIntOf,hw,h0',h48,newRow,Builtin.zeroCells,hsz',hn0]
def Ug:∀(h:List Blk) (id:Nat),ð h id (lkB h id)=h
 |[],_=>rfl
 |_::_,0=>rfl
 |x::h,id+1=>by simp[ð,lkB,Ug h id]
def ahC {t ty:TypeId} {ts:Array TypeId} (hts:ts[0]?=some t) {x:AV} {ux:Value} (H:HR ν h w) (e:Io P h t x some=some h') (hun:(P.underlying t).isSome=true) (hx:VR ν h w x ux) :
 ξ P ν h w (Builtin.clear_ ts ty #[ux]) (.tup []) h':=by
 obtain⟨d,hd⟩:=Option.isSome_iff_exists.1 hun;unfold Io at e
 split at e
 ·cases e;have:ux=.slice none 0 0:=hx;subst this;refine ξ.still H (u:=.tuple #[]) ?_ ⟨#[],rfl,trivial⟩
  cases d<;>simp[Builtin.clear_,hts,run_underlying hd]
 ·rename_i id g lo n el hel;have ht:=jK hel
  split at e<;>try (cases e; done)
  rename_i zs hzz
  split at e<;>try (cases e; done)
  rename_i ety g' xs hl
  split at e<;>try (cases e; done)
  rename_i hgg
  split at e<;>try (cases e; done)
  rename_i zv hzv;cases e
  have hge:g=g':=by simpa using hgg
  subst hge;obtain⟨ho,t2,g2,fz2,xs2,hl2,hle,hv2⟩:=hx;rw[hl] at hl2; cases hl2;obtain⟨hlen,base,cap,hν,hvv⟩:=hv2 rfl;have hB:=H.blk id;rw[hl] at hB;obtain⟨base',cap',q1,q0,q2⟩:=hB
  rw[hν] at q1; injection q1 with e1 e2 e3; subst e1; subst e3
  by_cases hn0:n=0
  ·-- nothing to clear
   subst hn0
   have hsame:xs.take lo++List.replicate 0 zv++xs.drop (lo+0)=xs:=by simp
   rw[hsame];have hid:id<h.length:=Ű hl (by simp)
   have hupd:ð h id (.row ety g false xs)=h:=by rw[←hl]; exact Ug h id
   rw[hupd];refine ξ.still H (u:=.tuple #[]) ?_ ⟨#[],rfl,trivial⟩;rw[hvv];generalize (if cap=lo then base else Option.map (fun x=>x.add (lo*ety.size)) base)=bb;generalize cap-lo=cc
   cases bb<;>(simp only[Builtin.clear_,hts]; simp[run_underlying ht])
  rcases q2 with⟨rfl,rfl⟩|⟨b,off,c,e',rfl,q3,q4,q5⟩
  ·omega
  have hne:¬cap=lo:=by omega
  rw[if_neg hne] at hvv;simp only[dL,ņ] at hvv
  cases hi:P.info? el with
  |none=>simp[hi] at hzz
  |some i =>
  cases hz:i.zero with
  |none=>simp[hi,hz] at hzz
  |some z =>
  have hzc:=XJ hi hz hzz hzv H (av:=Av ν h) fun _ hb=>hb
  have hzs:z.cells.size=ety.size:=by simpa using hzc.length
  have hrow:=JW (by rw[hzs]) hzc n
  have hone:∀v∈(Builtin.zeroCells z.cells n).toList,v.oneCell'=true:=by
   intro v hv;obtain⟨j,hj⟩:=List.mem_iff_getElem?.1 hv;simp only[Builtin.zeroCells,f5,Array.toList_range,eQ] at hj
   have hjl:j<n*z.cells.size:=by
    cases h1:(List.range (n*z.cells.size))[j]? with
    |none=>simp[h1] at hj
    |some q=>simpa using(cI.1 h1).1
   rw[f8 hjl] at hj;simp only[dL,Option.some.injEq] at hj
   have hpos:0<z.cells.size:=by
    rcases gh z.cells.size with h0|h0
    ·rw[h0] at hjl; simp at hjl
    ·exact h0
   have hm:=Nat.mod_lt j hpos;refine CR.oneCell hzc v ?_;rw[←hj,getElem!_pos z.cells (j % z.cells.size) hm];simp
  have hcl:(Builtin.zeroCells z.cells n).toList.length=n*ety.size:=by simp[Builtin.zeroCells,hzs]
  have hln:lo*ety.size+n*ety.size≤cap*ety.size:=by rw[←dl]; exact dv _ (by omega)
  have hfit:off+lo*ety.size+(Builtin.zeroCells z.cells n).toList.length≤c.size:=by rw[hcl]; omega
  have hst:=run_storeCells_at P b (off+lo*ety.size) e' (Builtin.zeroCells z.cells n).toList 0 c w q3 (by simpa using hfit) hone;simp only[fG] at hst
  have hlen':(xs.take lo++List.replicate n zv++xs.drop (lo+n)).length=xs.length:=by simp; omega
  obtain⟨ev,hr⟩:=QV H (xs':=xs.take lo++List.replicate n zv++xs.drop (lo+n)) (g':=g) (o':=off) (cap':=cap)
   (c':=(c.toList.take (off+lo*ety.size)++(Builtin.zeroCells z.cells n).toList++c.toList.drop (off+lo*ety.size+(Builtin.zeroCells z.cells n).toList.length)).toArray) hl (by rw[hν]; rfl) q3
   (by rw[hlen']; omega) (by simp only[eY,cJ,cZ,gC,fm]; omega) (.inr ⟨rfl,by rw[hlen',hν],hlen'⟩) (fun j y hj=>by
    have hget:=fun k=>pD c.toList (Builtin.zeroCells z.cells n).toList (off+lo*ety.size) k (by simpa using hfit);have hj2:=pD xs (List.replicate n zv) lo j (by simpa using hlen);rw[fw] at hj2;rw[hj2] at hj
    have old:∀(y:Val ety),xs[j]?=some y→(j<lo∨lo+n≤j)→∃us,CR w (Av ν h) ety y us∧∀(k:Nat) (v:Value),us[k]?=some v→(c.toList.take (off+lo*ety.size)++(Builtin.zeroCells z.cells n).toList++c.toList.drop (off+lo*ety.size+(Builtin.zeroCells z.cells n).toList.length)).toArray[off+j*ety.size+k]?=some v:=fun y hy hjj=>by
     obtain⟨us,q6,q7⟩:=q5 j y hy;refine⟨us,q6,fun k v hk=>?_⟩
     have hkl:k<ety.size:=by rw[←q6.length]; exact(cI.1 hk).1
     have:=q7 k v hk;simp only[World.cell?,q3] at this;rw[eD,hget,hcl];rcases hjj with hjj|hjj
     ·have h5:=dv ety.size (show j+1≤lo from hjj);rw[dl,fq] at h5;rw[if_pos (by omega)];simpa using this
     ·have h5:=dv ety.size hjj;rw[dl] at h5;rw[if_neg (by omega),if_neg (by omega)];simpa using this
    split at hj
    ·exact old y hj (.inl ‹_›)
    ·split at hj
     ·rename_i h1 h2;obtain⟨us,q6,q7⟩:=hrow.cells (c:=(Builtin.zeroCells z.cells n)) (o:=0) (fun k v hk=>by simpa using hk) (j-lo) y (by simpa using hj);refine⟨us,q6,fun k v hk=>?_⟩
      have hkl:k<ety.size:=by rw[←q6.length]; exact(cI.1 hk).1
      have h7:=q7 k v hk
      have h5:j*ety.size=lo*ety.size+(j-lo)*ety.size:=by rw[←dl]; congr 1; omega
      have h6:=dv ety.size (show j-lo+1≤n by omega);rw[dl,fq] at h6;rw[eD,hget,hcl,if_neg (by omega),if_pos (by omega)];rw[show off+j*ety.size+k-(off+lo*ety.size)=0+(j-lo)*ety.size+k by omega];simpa using h7
     ·exact old y hj (.inr (by omega)))
  have hvs:ï ν id (.slice (some ⟨b,off,none⟩) (xs.take lo++List.replicate n zv++xs.drop (lo+n)).length cap)=ν:=by rw[hlen',←hν,mw]
  rw[hvs] at ev hr;refine⟨ν,_,.tuple #[],?_,⟨#[],rfl,trivial⟩,hr,ev,Ñ _ _ _⟩;rw[hvv];obtain⟨m,rfl⟩:∃m,n=m+1:=⟨n-1,by omega⟩;simp only[Builtin.clear_,hts];simp[run_underlying ht,zeroValue,typeInfo,hi,hz,hst]
 ·cases e
def box_ok {nid:Nat} {x:AV} {ux:Value} {cs:List AV} {el:TypeId} (H:HR ν h w) (hn:nid<h.length) (hd:lkB h nid=.dead) (hc:ś x=some cs) (hx:VR ν h w x ux) :
 ξ P ν h w (Instr.box el ux) (.box nid 0) (ð h nid (.cells cs)):=by
 have hcs:=hx.cells hc
 obtain⟨ev,hr⟩:=Ev.new (w':=w.alloc (.cells ux.cells el)) (o:=.cells ux.cells el) H (id:=nid) (B:=.cells cs) (V:=.pointer (some ⟨w.heap.size,0,none⟩)) hn hd rfl rfl rfl rfl (fun b hb=>by cases hb; rfl) fun ev =>
  ⟨w.heap.size,ux.cells,el,Ï _ _ _,heap_alloc_new w _,hcs.mono fun _ _=>VRc.ev ev⟩
 refine⟨_,_,.pointer (some ⟨w.heap.size,0,none⟩),?_,⟨cs,w.heap.size,â _ hn,Ï _ _ _,rfl⟩,hr,ev,Ñ _ _ _⟩;simp[Instr.box,newVar,newRow]
def ajK {x:AV} {ux:Value} {cs:List AV} {el:TypeId} {ty:Ty} {y:Val ty} (H:HR ν h w) (hc:ś x=some cs) (hy:Ú ty cs=some y) (hx:VR ν h w x ux) :
 ξ P ν h w (Instr.box el ux) (.eptr ty y 0) h:=by
 have hcs:=hx.cells hc;have e0:(w.alloc (.cells ux.cells el)).heap=w.heap.push (.cells ux.cells el):=rfl;have hG:=H.grow (w':=w.alloc (.cells ux.cells el)) (fun b hb=>by rw[e0]; simp[eP,fD hb]) (by rw[e0]; simp) rfl rfl rfl h.length;refine⟨ν,_,.pointer (some ⟨w.heap.size,0,none⟩),?_,⟨w.heap.size,0,ux.cells.toList,rfl,fun hb=>absurd (H.ltA hb) (Nat.lt_irrefl _),by rw[e0]; simp,?_,?_⟩,hG.2,hG.1,rfl⟩
 ·simp[Instr.box,newVar,newRow]
 ·exact CR.keep hG.1.keepA (ğ hy (hcs.mono fun _ _ hu=>hu.1.data))
 ·exact CellsAt.of_cells (heap_alloc_new w _)
def ahY {nid:Nat} {z:AV} {cs:List AV} {el:TypeId} (H:HR ν h w) (hn:nid<h.length) (hd:lkB h nid=.dead) (hz:((P.info? el).bind (·.zero)).map cv=some z) (hc:ś z=some cs) :
 ξ P ν h w (Instr.alloc el true (.tuple #[])) (.box nid 0) (ð h nid (.cells cs)):=by
 cases hi:P.info? el with
 |none=>simp[hi] at hz
 |some i =>
  cases hzo:i.zero with
  |none=>simp[hi,hzo] at hz
  |some zv =>
   simp only[hi,hzo,eO,dL,Option.some.injEq] at hz;subst hz;have hcs:=(Zu (ν:=ν) (h:=h) (w:=w) zv).cells hc
   obtain⟨ev,hr⟩:=Ev.new (w':=w.alloc (.cells zv.cells el)) (o:=.cells zv.cells el) H (id:=nid) (B:=.cells cs) (V:=.pointer (some ⟨w.heap.size,0,none⟩)) hn hd rfl rfl rfl rfl (fun b hb=>by cases hb; rfl) fun ev =>
    ⟨w.heap.size,zv.cells,el,Ï _ _ _,heap_alloc_new w _,hcs.mono fun _ _=>VRc.ev ev⟩
   refine⟨_,_,.pointer (some ⟨w.heap.size,0,none⟩),?_,⟨cs,w.heap.size,â _ hn,Ï _ _ _,rfl⟩,hr,ev,Ñ _ _ _⟩;simp[Instr.alloc,zeroValue,typeInfo,hi,hzo,newVar,newRow]
def ab8 {nid:Nat} {t:TypeId} (k v:Ty) (H:HR ν h w) (hn:nid<h.length) (hd:lkB h nid=.dead):ξ P ν h w (Instr.makeMap t none) (.omp nid) (ð h nid (.map k v [])):=by
 obtain⟨ev,hr⟩:=Ev.new (w':=w.alloc (.map #[] 0)) (o:=.map #[] 0) H (id:=nid) (B:=.map k v []) (V:=.map (some w.heap.size)) hn hd rfl rfl rfl rfl (fun b hb=>by cases hb; rfl) fun ev =>
  ⟨w.heap.size,#[],0,Ï _ _ _,heap_alloc_new w _,rfl,fun i e hi=>by simp at hi⟩
 refine⟨_,_,.map (some w.heap.size),?_,⟨rfl,k,v,[],â _ hn,(Ï _ _ _).symm⟩,hr,ev,Ñ _ _ _⟩;simp[Instr.makeMap]
end
end Go.Am
end

noncomputable section
namespace Go.Am
variable [Ghost]
section
variable {ν ν':Nat→Value} {h h':List Blk} {w w':World} {P:Program}
def MW (off:Nat):∀(vs:List Value) (k:Nat) (cells:Array Value),off+k+vs.length≤cells.size →
 ((vs.zipIdx k).foldl (fun cs (p:Value×Nat)=>cs.setIfInBounds (off+p.2) p.1) cells).toList=cells.toList.take (off+k)++vs++cells.toList.drop (off+k+vs.length)
 |[],k,cells,_=>by simp
 |v::vs,k,cells,hl=>by
  simp only[cW] at hl;have ih:=MW off vs (k+1) (cells.setIfInBounds (off+k) v) (by simp; omega);simp only[List.zipIdx_cons,gg,ih,Array.toList_setIfInBounds]
  have hlt:off+k<cells.toList.length:=by simp; omega
  have h1:(cells.toList.set (off+k) v).take (off+(k+1))=cells.toList.take (off+k)++[v]:=by
   rw[show off+(k+1)=off+k+1 by omega,List.take_add_one];rw[gG (by omega),List.getElem?_set_self hlt]; rfl
  have h2:(cells.toList.set (off+k) v).drop (off+(k+1)+vs.length)=cells.toList.drop (off+k+(v::vs).length):=by
   rw[gE (by omega)];simp only[cW];congr 1; omega
  rw[h1,h2];simp
def yW {place:Nat→Option (Nat×Nat)} {cells:Array Value} {i:Nat} {v:Value} {rest:List (Nat×Value)} {off size:Nat} (hp:place i=some (off,size)) (hs:v.cells.size=size) (hf:off+size≤cells.size) :
 Instr.fill place cells ((i,v)::rest)=Instr.fill place (cells.toList.take off++v.cells.toList++cells.toList.drop (off+size)).toArray rest:=by
 have h0:¬(v.cells.size≠size∨off+v.cells.size>cells.size):=by omega
 have h1:=MW off v.cells.toList 0 cells (by simp; omega);simp only[Instr.fill,hp];rw[if_neg (by simpa using h0)];congr 1;apply fh;simp only[fG,fm,hs] at h1;rw[←h1,←Array.foldl_toList,Array.toList_zipIdx]
def aa5 {fs:Array Field} {places:Nat→Option (Nat×Nat)} (hp:∀i f n,fs[i]?=some f→szP P f.type=some n→places i=some (f.offset,n)) :
 ∀(ps:List (Nat×AV)) (us:List (Nat×Value)) (cs cs':List AV) (c:Array Value),ae4 P fs ps cs=some cs'→ý (fun a b=>a.1=b.1∧VR ν h w a.2 b.2) ps us→ý (VRc ν h w) cs c.toList →
  ∃c',Instr.fill places c us=some c'∧ý (VRc ν h w) cs' c'.toList
 |[],[],cs,cs',c,e,_,hc=>by cases e; exact⟨c,rfl,hc⟩
 |[],_::_,_,_,_,_,hu,_=>hu.elim
 |_::_,[],_,_,_,_,hu,_=>hu.elim
 |(i,v)::ps,(j,u)::us,cs,cs',c,e,hu,hc=>by
  obtain⟨⟨hij,hvu⟩,hu⟩:=hu;simp only at hij; subst hij;simp only[ae4] at e
  split at e<;>try (cases e; done)
  rename_i f hf
  split at e<;>try (cases e; done)
  rename_i vs hvs
  split at e<;>try (cases e; done)
  rename_i hs
  split at e<;>try (cases e; done)
  rename_i cs1 hset;obtain⟨rfl,h2⟩:=tq hset;have hcs:=hvu.cells hvs;have hsz:=Hu hvu hvs;have hl:=hc.length;simp at hl
  have hs:szP P f.type=some vs.length:=by simpa using hs
  rw[yW (hp i f _ hf hs) hsz (by omega)];exact aa5 hp ps us _ cs' _ e hu (((hc.take _).append hcs).append (hc.drop _))
def Qy {sz:Nat} {places:Nat→Option (Nat×Nat)} (hp:∀i,places i=some (i*sz,sz)) :
 ∀(ps:List (Nat×AV)) (us:List (Nat×Value)) (cs cs':List AV) (c:Array Value),M5 sz ps cs=some cs'→ý (fun a b=>a.1=b.1∧VR ν h w a.2 b.2) ps us→ý (VRc ν h w) cs c.toList →
  ∃c',Instr.fill places c us=some c'∧ý (VRc ν h w) cs' c'.toList
 |[],[],cs,cs',c,e,_,hc=>by cases e; exact⟨c,rfl,hc⟩
 |[],_::_,_,_,_,_,hu,_=>hu.elim
 |_::_,[],_,_,_,_,hu,_=>hu.elim
 |(i,v)::ps,(j,u)::us,cs,cs',c,e,hu,hc=>by
  obtain⟨⟨hij,hvu⟩,hu⟩:=hu;simp only at hij; subst hij;simp only[M5] at e
  split at e<;>try (cases e; done)
  rename_i vs hvs
  split at e<;>try (cases e; done)
  rename_i hs
  split at e<;>try (cases e; done)
  rename_i cs1 hset;obtain⟨rfl,h2⟩:=tq hset;have hcs:=hvu.cells hvs;have hsz:=Hu hvu hvs;have hl:=hc.length;simp at hl
  have hs:vs.length=sz:=by simpa using hs
  subst hs;rw[yW (hp i) hsz (by omega)];exact Qy hp ps us _ cs' _ e hu (((hc.take _).append hcs).append (hc.drop _))
def Da {S:St} {a:Act} (H:Sim ν S a w):∀(ps:List (Nat×Operand)),ý (fun(x:Nat×AV) (y:Nat×Value)=>x.1=y.1∧VR ν S.h w x.2 y.2) (ps.map fun p=>(p.1,ev S.t p.2)) (ps.map fun p=>(p.1,a.eval p.2))
 |[]=>trivial
 |p::ps=>⟨⟨rfl,Ņ H p.2⟩,Da H ps⟩
def AH (w:World):∀(fs:List Field),fs.all (fun f=>(P.info? f.type).isSome)=true →
 ∃l:List (Nat×Nat),(fs.mapM (m:=Sem) fun(f:Field)=>do pure (f.offset,←sizeOf f.type)).run P w=.ok l w∧∀(i:Nat),l[i]?=(fs[i]?).bind fun(f:Field)=>(szP P f.type).map fun n=>(f.offset,n)
 |[],_=>⟨[],rfl,fun i=>by simp⟩
 |f::fs,ha=>by
  simp only[fI,cH] at ha;obtain⟨i,hi⟩:=gL.1 ha.1;obtain⟨l,h1,h2⟩:=AH w fs ha.2
  have hs:szP P f.type=some i.size:=by simp[szP,hi]
  refine⟨(f.offset,i.size)::l,?_,fun j=>?_⟩
  ·simp only[List.mapM_cons,Sem.run_bind,mz hs,Result.andThen_ok,Sem.run_pure];rw[h1]; rfl
  ·cases j with
   |zero=>simp[hs]
   |succ j=>simpa using h2 j
def Pr {S:St} {a:Act} {t:TypeId} {fs:Array Field} {ps:Array (Nat×Operand)} {z:AV} {zs cs:List AV} (H:Sim ν S a w) (ht:P.underlying t=some (.struct fs)) (hfs:fs.toList.all (fun f=>(P.info? f.type).isSome)=true)
 (hz:((P.info? t).bind (·.zero)).map cv=some z) (hzs:ś z=some zs) (hf:ae4 P fs (ps.toList.map fun p=>(p.1,ev S.t p.2)) zs=some cs) :
 ξ P ν S.h w (Instr.build t (ps.map fun(i,x)=>(i,a.eval x))) (.agg cs) S.h:=by
 cases hi:P.info? t with
 |none=>simp[hi] at hz
 |some i =>
 cases hzo:i.zero with
 |none=>simp[hi,hzo] at hz
 |some zv =>
 simp only[hi,hzo,eO,dL,Option.some.injEq] at hz;subst hz;have hc:=(Zu (ν:=ν) (h:=S.h) (w:=w) zv).cells hzs;obtain⟨l,hl1,hl2⟩:=AH (P:=P) w fs.toList hfs
 obtain⟨c',h1,h2⟩:=aa5 (ν:=ν) (h:=S.h) (w:=w) (P:=P) (fs:=fs) (places:=fun j=>l[j]?) (fun j f n hj hn=>by
  show l[j]?=_
  rw[hl2 j]; simp only[gy]; rw[hj]; simp[hn]) _ _ zs cs zv.cells hf (Da H ps.toList) hc
 refine ξ.still H.heap (u:=.agg c') ?_ ⟨c',rfl,h2⟩
 have hm:(fs.mapM (m:=Sem) fun f=>do pure (f.offset,←sizeOf f.type)).run P w=.ok l.toArray w:=by
  rw[Array.mapM_eq_mapM_toList,Sem.run_map,hl1]; rfl
 have hp:(ps.map fun(x:Nat×Operand)=>(x.1,a.eval x.2)).toList=ps.toList.map fun p=>(p.1,a.eval p.2):=by simp
 simp only[Instr.build,Sem.run_bind,zeroValue,typeInfo,run_program,Result.andThen_ok,hi,hzo,Sem.run_pure,run_underlying ht];rw[hm];simp only[Result.andThen_ok]
 have h1':Instr.fill (fun x=>l.toArray[x]?) zv.cells (ps.map fun(x:Nat×Operand)=>(x.1,a.eval x.2)).toList=some c':=by
  rw[hp]; simpa using h1
 erw [h1']
 rfl
end
end Go.Am
end

noncomputable section
namespace Go.Am
variable [Ghost]
section
variable {ν ν':Nat→Value} {h h':List Blk} {w w':World} {P:Program}
def ZF {S:St} {a:Act} {t e:TypeId} {n sz:Nat} {ps:Array (Nat×Operand)} {z:AV} {zs cs:List AV} (H:Sim ν S a w) (ht:P.underlying t=some (.array n e)) (hs:szP P e=some sz)
 (hz:((P.info? t).bind (·.zero)).map cv=some z) (hzs:ś z=some zs) (hf:M5 sz (ps.toList.map fun p=>(p.1,ev S.t p.2)) zs=some cs) :
 ξ P ν S.h w (Instr.build t (ps.map fun(i,x)=>(i,a.eval x))) (.agg cs) S.h:=by
 cases hi:P.info? t with
 |none=>simp[hi] at hz
 |some i =>
 cases hzo:i.zero with
 |none=>simp[hi,hzo] at hz
 |some zv =>
 simp only[hi,hzo,eO,dL,Option.some.injEq] at hz;subst hz;have hc:=(Zu (ν:=ν) (h:=S.h) (w:=w) zv).cells hzs;obtain⟨c',h1,h2⟩:=Qy (ν:=ν) (h:=S.h) (w:=w) (sz:=sz) (places:=fun j=>some (j*sz,sz)) (fun j=>rfl) _ _ zs cs zv.cells hf (Da H ps.toList) hc;refine ξ.still H.heap (u:=.agg c') ?_ ⟨c',rfl,h2⟩
 have hp:(ps.map fun(x:Nat×Operand)=>(x.1,a.eval x.2)).toList=ps.toList.map fun p=>(p.1,a.eval p.2):=by simp
 simp only[Instr.build,Sem.run_bind,zeroValue,typeInfo,run_program,Result.andThen_ok,hi,hzo,Sem.run_pure,run_underlying ht,mz hs]
 have h1':Instr.fill (fun j=>some (j*sz,sz)) zv.cells (ps.map fun(x:Nat×Operand)=>(x.1,a.eval x.2)).toList=some c':=by rw[hp]; exact h1
 erw [h1']
 rfl
def adV {t:TypeId} {agg:Bool} {n o:Nat} {cs ds:List AV} {v:AV} {us:Array Value} (H:HR ν h w) (hl:ldP P t=some (agg,n)) (hg:NL cs o n=some ds) (hm:mkv agg ds=some v) (hc:ý (VRc ν h w) cs us.toList) :
 ξ P ν h w (part t us o) v h:=by
 obtain⟨d,hd,rfl,hs⟩:=Ti hl;obtain⟨h1,h2⟩:=ou hg
 have hds:ý (VRc ν h w) ds ((us.toList.drop o).take n):=by rw[h1]; exact(hc.drop o).take n
 obtain⟨h3,h4⟩:=aif hm hds;refine ξ.still H ?_ h3;unfold part;simp only[Sem.run_bind,xB hd,Result.andThen_ok]
 cases hagg:NM d with
 |true =>
  simp only[if_true,Sem.run_bind,mz hs,Result.andThen_ok,Sem.run_pure,XE];congr 2;apply fh;rw[Array.toList_extract,List.extract_eq_take_drop];congr 1; omega
 |false =>
  have hn:n=1:=by rw[←h2]; exact h4 hagg
  subst hn;simp only[XE]
  cases hu:us.toList.drop o with
  |nil=>rw[hu] at hds; have:=hds.length; rw[h2] at this; simp at this
  |cons u rest =>
   have hget:us[o]?=some u:=by
    have:=congrArg (fun l=>l[0]?) hu;simpa using this
   simp[hget]
def ahq {t:TypeId} {f:Nat} {fs:Array Field} {fd:Field} {agg:Bool} {n:Nat} {cs ds:List AV} {v:AV} {ux:Value} (H:HR ν h w) (ht:P.underlying t=some (.struct fs)) (hf:fs[f]?=some fd)
 (hl:ldP P fd.type=some (agg,n)) (hg:NL cs fd.offset n=some ds) (hm:mkv agg ds=some v) (hx:VR ν h w (.agg cs) ux):ξ P ν h w (Instr.field t ux f) v h:=by
 obtain⟨us,rfl,hc⟩:=hx;obtain⟨ν',w',u,h1,h2⟩:=adV (P:=P) H hl hg hm hc;refine⟨ν',w',u,?_,h2⟩;simp only[Instr.field,Sem.run_bind,run_underlying ht,Result.andThen_ok,hf,asAgg,Sem.run_pure];exact h1
def Za {t e:TypeId} {n m:Nat} {k:IntKind} {j:Int} {agg:Bool} {cs ds:List AV} {v:AV} {ux:Value} (H:HR ν h w) (ht:P.underlying t=some (.array n e))
 (hj:0≤j∧j<n) (hl:ldP P e=some (agg,m)) (hg:NL cs (j.toNat*m) m=some ds) (hm:mkv agg ds=some v) (hx:VR ν h w (.agg cs) ux):ξ P ν h w (Instr.index t ux (.int k j)) v h:=by
 obtain⟨us,rfl,hc⟩:=hx;obtain⟨ν',w',u,h1,h2⟩:=adV (P:=P) H hl hg hm hc;obtain⟨d,hd,_,hs⟩:=Ti hl;refine⟨ν',w',u,?_,h2⟩;simp only[Instr.index,asIntOf,Sem.run_bind,Sem.run_pure,run_underlying ht,Result.andThen_ok,hj,and_self,if_true,mz hs];exact h1
def shift_ok {x v:AV} {ux:Value} {o:Nat} (e:AG h x o some=some v) (hx:VR ν h w x ux):∃a,ux=.pointer (some a)∧VR ν h w v (.pointer (some (a.add o))):=by
 unfold AG at e
 split at e<;>try (cases e; done)
 ·cases e;obtain⟨cs,b,h1,h2,rfl⟩:=hx;exact⟨_,rfl,cs,b,h1,h2,by rw[ņ]⟩
 ·cases e;obtain⟨b,o',us,rfl,h1,h2,h3,h4⟩:=hx;exact⟨_,rfl,b,o',us,by rw[ņ,Nat.add_assoc],h1,h2,h3,h4⟩
 ·split at e<;>try (cases e; done)
  rename_i t g' fz xs hl
  split at e<;>try (cases e; done)
  rename_i hgg;cases e;obtain⟨ho,t2,g2,fz2,xs2,h1,h2,h3⟩:=hx;rw[hl] at h1; cases h1;have hg:=eq_of_beq hgg;subst hg;obtain⟨hi,b,o',cap,h4,rfl⟩:=h3 rfl;exact⟨_,rfl,by rw[ņ]; rfl,_,_,_,_,hl,cG _,fun _=>⟨hi,b,o',cap,h4,by rw[ņ,Nat.add_assoc]⟩⟩
def W0 {t:TypeId} {f:Nat} {fs:Array Field} {fd:Field} {n:Nat} {x v:AV} {ux:Value} (H:HR ν h w) (ht:P.underlying t=some (.struct fs)) (hf:fs[f]?=some fd)
 (hs:szP P fd.type=some (n+1)) (e:AG h x fd.offset some=some v) (hx:VR ν h w x ux):ξ P ν h w (Instr.fieldAt t ux f) v h:=by
 obtain⟨a,rfl,h1⟩:=shift_ok e hx;refine ξ.still H ?_ h1;simp[Instr.fieldAt,Instr.sureAddr,run_underlying ht,hf,fieldPlace,mz hs]
def ML {t e:TypeId} {n sz id off:Nat} {k:IntKind} {j:Int} {ux:Value} (H:HR ν h w) (ht:P.underlying t=some (.array n e)) (hj:0≤j∧j<n) (hs:szP P e=some sz) (hx:VR ν h w (.box id off) ux) :
 ξ P ν h w (Instr.indexAt t ux (.int k j)) (.box id (off+j.toNat*sz)) h:=by
 obtain⟨cs,b,h1,h2,rfl⟩:=hx;refine ξ.still H (u:=.pointer (some ⟨b,off+j.toNat*sz,none⟩)) ?_ ⟨cs,b,h1,h2,rfl⟩;simp[Instr.indexAt,Instr.sureAddr,asIntOf,run_underlying ht,mz hs,hj,ņ]
def T0 {k:IntKind} {n:Int} {v:AV} (e:arK k n some=some v):v=.int k (k.wrap n):=by
 unfold arK at e;cases e
 cases k<;>rfl
def Kz {gt:Bool} {f:Value→Value→Sem Value} (hf:∀(k:IntKind) (a b:Int),(f (.int k a) (.int k b)).run P w=.ok (.int k (match gt with|true=>Zc a b|false=>aaR a b)) w) :
 ∀(l:List AV) (us:List Value) (x v:AV) (ux:Value),lm gt x l some=some v→VR ν h w x ux→ý (VR ν h w) l us→∃u,(us.foldlM f ux).run P w=.ok u w∧VR ν h w v u
 |[],[],x,v,ux,e,hx,_=>by cases e; exact⟨ux,rfl,hx⟩
 |[],_::_,_,_,_,_,_,hu=>hu.elim
 |_::_,[],_,_,_,_,_,hu=>hu.elim
 |y::l,uy::us,x,v,ux,e,hx,hu=>by
  cases x<;>try (simp[lm] at e; done)
  cases y<;>try (simp[lm] at e; done)
  rename_i k a k' b;simp only[lm] at e
  split at e<;>try (cases e; done)
  rename_i hk _;subst hk
  have key:∀g:Bool,(match g with|true=>lm true (.int k (Zc a b)) l some|false=>lm false (.int k (aaR a b)) l some)=some v→lm g (.int k (match g with|true=>Zc a b|false=>aaR a b)) l some=some v:=fun g h=>by cases g<;>exact h
  have e:=key gt e;have h1:ux=.int k a:=hx;have h2:uy=.int k b:=hu.1;subst h1 h2;obtain⟨u,h3,h4⟩:=Kz hf l us _ v _ e (show VR ν h w (.int k _) (.int k _) from rfl) hu.2;refine⟨u,?_,h4⟩;simp only[List.foldlM_cons,Sem.run_bind,hf,Result.andThen_ok];exact h3
end
end Go.Am
end

noncomputable section
namespace Go.Am
variable [Ghost]
section
variable {ν ν':Nat→Value} {h h':List Blk} {w w':World} {P:Program}
def mV {t:TypeId} {k:Ty} (hk:G8 P t k=true) :
 (P.underlying t=some .bool∧k=.bool)∨(∃i,P.underlying t=some (.int i)∧k=.int i):=by
 unfold G8 at hk
 split at hk<;>try (cases hk; done)
 ·split at hk<;>try (cases hk; done)
  exact .inl ⟨‹_›,rfl⟩
 ·split at hk<;>try (cases hk; done)
  have:=eq_of_beq hk;subst this;exact .inr ⟨_,‹_›,rfl⟩
def keyVal:(k:Ty)→Val k→Value
 |.bool,b=>.bool b
 |.int i,n=>.int i n
 |.str,s=>.string s
 |_,_=>undef
def CR.keyVal {av:Nat→Prop} {t:TypeId} {k:Ty} {x:Val k} {v:Value} (hk:G8 P t k=true) (hc:CR w av k x [v]):v=keyVal k x:=by
 rcases mV hk with⟨_,rfl⟩|⟨i,_,rfl⟩
 all_goals
  have:[v]=[_]:=hc;simpa[Am.keyVal] using this
def aeJ {av:Nat→Prop} {t:TypeId} {k:Ty} {x:Val k} (hk:G8 P t k=true):CR w av k x [keyVal k x]:=by
 rcases mV hk with⟨_,rfl⟩|⟨i,_,rfl⟩<;>exact(rfl:[_]=[_])
def HN {t:TypeId} {k:Ty} {x:Val k} {empty:Bool} (hk:G8 P t k=true) (m:Nat):(Instr.checkKey empty (m+1) t (keyVal k x)).run P w=.ok () w:=by
 rcases mV hk with⟨h1,rfl⟩|⟨i,h1,rfl⟩<;>simp[Instr.checkKey,run_underlying h1,keyVal]
def BJ {t:TypeId} {k:Ty} (hk:G8 P t k=true):∃d,P.underlying t=some d∧∀x y:Val k,Instr.sameNow d (keyVal k x) (keyVal k y)=some (ž k x y):=by
 rcases mV hk with⟨h1,rfl⟩|⟨i,h1,rfl⟩
 ·exact⟨_,h1,fun _ _=>rfl⟩
 ·refine⟨_,h1,fun x y=>?_⟩;simp only[Instr.sameNow,keyVal,ž,if_true];congr 1
def Ents (w:World) (av:Nat→Prop) (k v:Ty) (es:List (Val k×Val v)) (entries:List MapEntry):Prop :=
 ý (fun(e:Val k×Val v) (m:MapEntry)=>m.key=keyVal k e.1∧∃us,CR w av v e.2 us∧m.val=xr v us) es entries
def Hg {d:TypeDesc} {av:Nat→Prop} {k v:Ty} {x:Val k} (hd:∀y,Instr.sameNow d (keyVal k x) (keyVal k y)=some (ž k x y)):∀(es:List (Val k×Val v)) (ms:List MapEntry) (i:Nat),Ents w av k v es ms →
 (l5 x es=none∧Instr.findNow d (keyVal k x) ms i=some none) ∨
 ∃y j us,l5 x es=some y∧Instr.findNow d (keyVal k x) ms i=some (some (i+j,xr v us))∧CR w av v y us∧j<es.length∧(∀b,Kx x b es=es.set j (x,b))∧∃e,es[j]?=some e∧ž k x e.1=true
 |[],[],i,_=>.inl ⟨rfl,rfl⟩
 |[],_::_,_,hE=>hE.elim
 |_::_,[],_,hE=>hE.elim
 |e::es,m::ms,i,hE=>by
  obtain⟨⟨h1,us,h2,h3⟩,hE⟩:=hE;have hs:=hd e.1;rw[←h1] at hs
  cases hk:ž k x e.1 with
  |true =>
   rw[hk] at hs;exact .inr ⟨e.2,0,us,by simp[l5,hk],by simp[Instr.findNow,hs,h3],h2,by simp,fun b=>by simp[Kx,hk],e,rfl,hk⟩
  |false =>
   rw[hk] at hs;rcases Hg hd es ms (i+1) hE with⟨h4,h5⟩|⟨y,j,us',h4,h5,h6,h7,h8,e',h9,h10⟩
   ·exact .inl ⟨by simp[l5,hk,h4],by simp[Instr.findNow,hs,h5]⟩
   ·refine .inr ⟨y,j+1,us',by simp[l5,hk,h4],by simp[Instr.findNow,hs,h5]; omega,h6,by simp; omega,fun b=>by simp[Kx,hk,h8],e',by simpa using h9,h10⟩
def Vc {k v:Ty} {x:Val k} {b:Val v}:∀{es:List (Val k×Val v)},l5 x es=none→Kx x b es=es++[(x,b)]
 |[],_=>rfl
 |e::es,hn=>by
  cases hk:ž k x e.1 with
  |true=>simp[l5,hk] at hn
  |false=>simp only[l5,hk] at hn; simp[Kx,hk,Vc hn]
def ents (H:HR ν h w) {t:TypeId} {m:AV} {um:Value} {k v:Ty} {es:List (Val k×Val v)} (hk:G8 P t k=true) (hm:VR ν h w m um) (e:ÿ h m=.mp k v es) :
 ∃r,um=.map r∧((r=none∧es=[])∨∃b entries clock,r=some b∧w.heap[b]?=some (.map entries clock)∧Ents w (Av ν h) k v es entries.toList):=by
 have fin:∀(entries:Array MapEntry),entries.size=es.length→(∀(i:Nat) (e:Val k×Val v),es[i]?=some e→∃(m:MapEntry) (us:List Value),entries[i]?=some m∧CR w (Av ν h) k e.1 [m.key]∧CR w (Av ν h) v e.2 us∧m.val=xr v us) →
  Ents w (Av ν h) k v es entries.toList:=fun entries hs hE=>by
  refine ý.of_get (by simpa using hs.symm) fun i a b ha hb=>?_;obtain⟨m,us,h1,h2,h3,h4⟩:=hE i a ha
  have:b=m:=by simp at hb; rw[h1] at hb; exact(Option.some.inj hb).symm
  subst this;exact⟨CR.keyVal hk h2,us,h3,h4⟩
 cases m with
 |mp k' v' es' =>
  simp only[ÿ] at e;cases e;obtain⟨r,h1,h2⟩:=hm;refine⟨r,by simpa using h1,?_⟩;rcases h2 with h2|⟨b,entries,clock,h2,_,h3,h4,h5⟩
  ·exact .inl h2
  ·exact .inr ⟨b,entries,clock,h2,h3,fin entries h4 h5⟩
 |omp id =>
  obtain⟨ho,k',v',es',hl,hv⟩:=hm;simp only[ÿ,hl] at e;cases e;have hB:=H.blk id;rw[hl] at hB;obtain⟨b,entries,clock,h1,h2,h3,h4⟩:=hB;exact⟨some b,by rw[hv,h1],.inr ⟨b,entries,clock,rfl,h2,fin entries h3 h4⟩⟩
 |own id g=>simp only[ÿ] at e; (repeat' split at e)<;>cases e
 |sub id g lo n=>simp only[ÿ] at e; (repeat' split at e)<;>cases e
 |_=>simp[ÿ] at e
def FQ {t:TypeId} {k:Ty} {i:AV} {ui:Value} {x:Val k} (hk:G8 P t k=true) (hi:VR ν h w i ui) (e:Ú k [i]=some x):ui=keyVal k x:=by
 rcases mV hk with⟨_,rfl⟩|⟨j,_,rfl⟩
 ·cases i<;>simp[Ú,Ε] at e; subst e; exact hi
 ·cases i<;>try (simp[Ú,Ε] at e; done)
  rename_i j' n;simp only[Ú,Ε] at e
  split at e<;>try (cases e; done)
  rename_i y he
  split at he<;>try (cases he; done)
  rename_i hj _;subst hj; cases he; cases e; exact hi
def aeA (ok:Bool) (y:AV) (b:Bool):Option AV:=match ok with|true=>some (.tup [y,.bool b])|false=>some y
def aet {t:TypeId} {m i v:AV} {um ui:Value} {ok:Bool} (H:HR ν h w) (e:s8 P h t m i ok some=some v) (hm:VR ν h w m um) (hi:VR ν h w i ui):∃u,(Instr.lookup t um ui ok).run P w=.ok u w∧VR ν h w v u:=by
 unfold s8 at e
 split at e<;>try (cases e; done)
 rename_i kt et ht
 split at e<;>try (cases e; done)
 rename_i k v0 z hkt het hz
 cases hin:P.info? et with
 |none=>simp[hin] at hz
 |some info =>
 cases hzo:info.zero with
 |none=>simp[hin,hzo] at hz
 |some zv =>
 simp only[hin,hzo,eO,dL,Option.some.injEq] at hz;subst hz
 -- what the run does, once the search is known
 have run:∀(x:Val k) (r:Option Nat) (ms:List MapEntry),G8 P kt k=true→ui=keyVal k x→um=.map r→(r=none∧ms=[]∨∃b entries clock,r=some b∧w.heap[b]?=some (.map entries clock)∧entries.toList=ms) →
  ∀d,P.underlying kt=some d →
  (∀y j,Instr.findNow d (keyVal k x) ms 0=some (some (j,y))→(Instr.lookup t um ui ok).run P w=.ok (if ok then .tuple #[y,.bool true] else y) w) ∧
  (Instr.findNow d (keyVal k x) ms 0=some none→(Instr.lookup t um ui ok).run P w=.ok (if ok then .tuple #[zv,.bool false] else zv) w):=by
  intro x r ms hk hui hum hr d hd;subst hui hum;have hck:=fun em=>HN (P:=P) (w:=w) (x:=x) (empty:=em) hk 9999;have hck:∀em,(Instr.checkKey em 10000 kt (keyVal k x)).run P w=.ok () w:=hck;rcases hr with⟨rfl,rfl⟩|⟨b,entries,clock,rfl,hb,rfl⟩
  ·constructor
   ·intro y j hf; simp[Instr.findNow] at hf
   ·intro hf;simp only[Instr.lookup,Sem.run_bind,run_underlying ht,Result.andThen_ok,Sem.run_pure,hck];simp[Instr.findKey,run_underlying hd,Instr.findNow,zeroValue,typeInfo,hin,hzo]
  ·constructor
   ·intro y j hf;simp only[Instr.lookup,Sem.run_bind,run_underlying ht,Result.andThen_ok,Sem.run_pure,pG hb,hck];simp[Instr.findKey,run_underlying hd,hf]
   ·intro hf;simp only[Instr.lookup,Sem.run_bind,run_underlying ht,Result.andThen_ok,Sem.run_pure,pG hb,hck];simp[Instr.findKey,run_underlying hd,hf,zeroValue,typeInfo,hin,hzo]
 have vrz:∀{V:AV},aeA ok (cv zv) false=some V→VR ν h w V (if ok then .tuple #[zv,.bool false] else zv):=fun {V} hV=>by
  cases ok with
  |false=>cases hV; exact Zu zv
  |true =>
   cases hV;refine⟨#[zv,.bool false],rfl,?_,rfl,trivial⟩;have:=Zu (ν:=ν) (h:=h) (w:=w) zv
   cases ht:(cv zv).isTup with
   |true=>exact absurd ht (by rw[afl]; simp)
   |false=>rwa [xp ht] at this
 split at e<;>try (cases e; done)
 ·rename_i k' v' es hk hsn
  split at e<;>try (cases e; done)
  rename_i heq _;cases heq
  split at e<;>try (cases e; done)
  rename_i x hx;have hux:=FQ hk hi hx;obtain⟨d,hd,hsame⟩:=BJ (P:=P) (t:=kt) (k:=k) hk;obtain⟨r,hum,hr⟩:=ents H hk hm hsn
  have hr':∃ms,Ents w (Av ν h) k v0 es ms∧(r=none∧ms=[]∨∃b entries clock,r=some b∧w.heap[b]?=some (.map entries clock)∧entries.toList=ms):=by
   rcases hr with⟨rfl,rfl⟩|⟨b,entries,clock,rfl,hb,hE⟩
   ·exact⟨[],trivial,.inl ⟨rfl,rfl⟩⟩
   ·exact⟨_,hE,.inr ⟨b,entries,clock,rfl,hb,rfl⟩⟩
  obtain⟨ms,hE,hms⟩:=hr';obtain⟨r1,r2⟩:=run x r ms hk hux hum hms d hd;rcases Hg (hsame x) es ms 0 hE with⟨h4,h5⟩|⟨y,j,us,h4,h5,h6,_⟩
  ·have e':(match (l5 x es:Option (Val v0)) with|some y=>aeA ok (enc v0 y) true|none=>aeA ok (cv zv) false)=some v:=e;rw[h4] at e';exact⟨_,r2 h5,vrz e'⟩
  ·have e':(match (l5 x es:Option (Val v0)) with|some y=>aeA ok (enc v0 y) true|none=>aeA ok (cv zv) false)=some v:=e;rw[h4] at e';refine⟨_,r1 _ _ h5,?_⟩;have hv:=Il h6
   cases ok with
   |false=>cases e'; exact hv
   |true =>
    cases e';refine⟨#[xr v0 us,.bool true],rfl,?_,rfl,trivial⟩
    have ht:(enc v0 y).isTup=false:=by cases v0<;>rfl
    rwa [xp ht] at hv
 ·rename_i hk hsn
  split at e<;>try (cases e; done)
  rename_i x hx;have hux:=FQ hk hi hx;obtain⟨d,hd,hsame⟩:=BJ (P:=P) (t:=kt) (k:=k) hk
  have hum:um=.map none:=by
   cases m with
   |nilm=>exact hm
   |own id g=>simp only[ÿ] at hsn; (repeat' split at hsn)<;>cases hsn
   |sub id g lo n=>simp only[ÿ] at hsn; (repeat' split at hsn)<;>cases hsn
   |omp id=>simp only[ÿ] at hsn; (repeat' split at hsn)<;>cases hsn
   |_=>simp[ÿ] at hsn
  obtain⟨r1,r2⟩:=run x none [] hk hux hum (.inl ⟨rfl,rfl⟩) d hd;exact⟨_,r2 rfl,vrz e⟩
def aes {t:TypeId} {m i v:AV} {um ui:Value} {ok:Bool} (H:HR ν h w) (e:s8 P h t m i ok some=some v) (hm:VR ν h w m um) (hi:VR ν h w i ui):ξ P ν h w (Instr.lookup t um ui ok) v h:=by
 obtain⟨u,h1,h2⟩:=aet H e hm hi;exact ξ.still H h1 h2
def FT {x:AV} {cs:List AV} (e:ś (aaa h x)=some cs):∃vs,ś x=some vs∧cs=vs.map (ÿ h):=by
 cases x with
 |agg l=>simp only[aaa,ś,Option.some.injEq] at e; exact⟨l,rfl,e.symm⟩
 |any=>cases e
 |und=>cases e
 |tup=>cases e
 |own id g =>
  refine⟨_,rfl,?_⟩;simp only[aaa] at e
  have:ÿ h (.own id g)=.any∨∃t xs,ÿ h (.own id g)=.slc t xs:=by
   simp only[ÿ]; (repeat' split)<;>first|exact .inl rfl|exact .inr ⟨_,_,rfl⟩
  rcases this with h1|⟨t,xs,h1⟩<;>rw[h1] at e<;>cases e
  simp[h1]
 |sub id g lo n =>
  refine⟨_,rfl,?_⟩;simp only[aaa] at e
  have:ÿ h (.sub id g lo n)=.any∨∃t xs,ÿ h (.sub id g lo n)=.slc t xs:=by
   simp only[ÿ]; (repeat' split)<;>first|exact .inl rfl|exact .inr ⟨_,_,rfl⟩
  rcases this with h1|⟨t,xs,h1⟩<;>rw[h1] at e<;>cases e
  simp[h1]
 |omp id =>
  refine⟨_,rfl,?_⟩;simp only[aaa] at e
  have:ÿ h (.omp id)=.any∨∃k v xs,ÿ h (.omp id)=.mp k v xs:=by
   simp only[ÿ]; (repeat' split)<;>first|exact .inl rfl|exact .inr ⟨_,_,_,rfl⟩
  rcases this with h1|⟨k,v,xs,h1⟩<;>rw[h1] at e<;>cases e
  simp[h1]
 |_=>cases e; exact⟨_,rfl,rfl⟩
def aaX {a:AV} {id:Nat} {k v:Ty} {es:List (Val k×Val v)} (hl:lkB h id=.map k v es):lkB (qG h a) id=.map k v es:=by
 have key:∀(j g:Nat) (t:Ty) (fz:Bool) (xs:List (Val t)),lkB h j=.row t g fz xs→lkB (ð h j (.row t g true xs)) id=.map k v es:=fun j g t fz xs hr=>by
  by_cases hj:id=j
  ·subst hj; rw[hl] at hr; cases hr
  ·rw[Ó _ hj]; exact hl
 cases a<;>try exact hl
 all_goals
  simp only[qG]
  split
  ·exact key _ _ _ _ _ ‹_›
  ·exact hl
def Ts {id:Nat} {k v:Ty} {es:List (Val k×Val v)}:∀(as:List AV) {h:List Blk},lkB h id=.map k v es→lkB (AC h as) id=.map k v es
 |[],_,hl=>hl
 |a::as,_,hl=>Ts as (aaX hl)
def ahd {t:TypeId} {k:Ty} (hk:G8 P t k=true) {x y:Val k} (e:ž k x y=true):x=y:=by
 rcases mV hk with⟨_,rfl⟩|⟨j,_,rfl⟩
 ·simpa[ž] using e
 ·simpa[ž] using e
def Uz {t:TypeId} {k:Ty} (hk:G8 P t k=true) (x:Val k) (m:Nat):Instr.sameBits m (keyVal k x) (keyVal k x)=true:=by
 rcases mV hk with⟨_,rfl⟩|⟨j,_,rfl⟩<;>simp[Instr.sameBits,keyVal]
def ý.set {α β:Type} {R:α→β→Prop}:∀{l:List α} {m:List β} (i:Nat) {a:α} {b:β},ý R l m→R a b→ý R (l.set i a) (m.set i b)
 |[],[],_,_,_,_,_=>trivial
 |_::_,_::_,0,_,_,h,hr=>⟨hr,h.2⟩
 |_::_,_::_,i+1,_,_,h,hr=>⟨h.1,ý.set i h.2 hr⟩
 |[],_::_,_,_,_,h,_=>h.elim
 |_::_,[],_,_,_,h,_=>h.elim
def Vi {t:TypeId} {m i x:AV} {um ui ux:Value} (H:HR ν h w) (e:kP P h t m i x some=some h') (hm:VR ν h w m um) (hi:VR ν h w i ui) (hx:VR ν h w x ux) :
 ∃w',(Instr.mapUpdate t um ui ux).run P w=.ok () w'∧HR ν h' w'∧Ev h.length ν h w ν h' w'∧h'.length=h.length:=by
 unfold kP at e
 split at e<;>try (cases e; done)
 rename_i kt et ht
 split at e<;>try (cases e; done)
 rename_i id
 split at e<;>try (cases e; done)
 rename_i k v es hl
 split at e<;>try (cases e; done)
 rename_i hc;simp only[cH,beq_iff_eq] at hc;obtain⟨hk,hnm,hagg⟩:=hc
 split at e<;>try (cases e; done)
 rename_i a cs ha hcs
 split at e<;>try (cases e; done)
 rename_i b hb;cases e;obtain⟨vs,hvs,rfl⟩:=FT hcs;obtain⟨hfe,hfm⟩:=aeT hvs h;have hcx:=hx.cells hvs;have hsn:=EZ H (hcx.mono fun _ _ q=>q.1) (hfm hnm);obtain⟨e1,H1,hlv⟩:=CJ vs H;rw[hfe];have hl1:=Ts vs hl;have hbc:=ğ hb hsn
 have hval:ux=xr v ux.cells.toList:=by
  unfold xr;rw[←hagg]
  cases x with
  |agg l=>obtain⟨us,rfl,_⟩:=hx; rfl
  |any=>cases hvs
  |und=>cases hvs
  |tup=>cases hvs
  |_ =>
   rw[qD ((hx.one rfl rfl).oneCell hvs)]; rfl
 obtain⟨ho,k2,v2,es2,hl2,hmv⟩:=hm;rw[hl] at hl2; cases hl2;have hB:=H1.blk id;rw[hl1] at hB;obtain⟨bk,entries,clock,h1,h2,h3,h4⟩:=hB;rw[hmv,h1];have hui:=FQ hk hi ha;subst hui
 have hE:Ents w (Av ν (AC h vs)) k v es entries.toList:=by
  obtain⟨r,q1,q2⟩:=ents H1 (m:=.omp id) (um:=.map (some bk)) (k:=k) (v:=v) (es:=es) hk ⟨rfl,k,v,es,hl1,h1.symm⟩ (by simp only[ÿ,hl1]);cases q1;rcases q2 with⟨q2,_⟩|⟨b',en',cl',q2,q3,q4⟩
  ·cases q2
  ·cases q2;rw[h2] at q3;cases q3;exact q4
 obtain⟨d,hd,hsame⟩:=BJ (P:=P) (t:=kt) (k:=k) hk;have hid:id<(AC h vs).length:=Ű hl1 (by simp)
 -- the map with other entries
 have fin:∀(entries':Array MapEntry) (clock':Nat) (es':List (Val k×Val v)),Ents w (Av ν (AC h vs)) k v es' entries'.toList →
  HR ν (ð (AC h vs) id (.map k v es')) {w with heap:=w.heap.setIfInBounds bk (.map entries' clock')} ∧
  Ev (AC h vs).length ν (AC h vs) w ν (ð (AC h vs) id (.map k v es')) {w with heap:=w.heap.setIfInBounds bk (.map entries' clock')}:=by
  intro entries' clock' es' hE';have hlt:=ď h2
  have hkeep:∀q,q<w.heap.size→((lkB (AC h vs) id).live=true→¬Ļ (ν id) q)→({w with heap:=w.heap.setIfInBounds bk (.map entries' clock')}:World).heap[q]?=w.heap[q]?:=fun q _ hq=>by
   have:bk≠q:=fun he=>hq (by rw[hl1]; rfl) (by rw[h1,he]; rfl);simp[fR,this]
  have hV:(Blk.map k v es').live=true→∀q,Ļ (ν id) q→((lkB (AC h vs) id).live=true∧Ļ (ν id) q)∨w.heap.size≤q:=fun _ q hq=>.inl ⟨by rw[hl1]; rfl,hq⟩;have ev:=Ev.upd H1 (B:=.map k v es') (V:=ν id) (w':={w with heap:=w.heap.setIfInBounds bk (.map entries' clock')}) hid rfl rfl rfl (by simp) hkeep hV (by rw[hl1]; exact⟨⟨es',rfl⟩,Ï _ _ _⟩)
  have hr:=HR.upd H1 hid ev hkeep hV ⟨bk,entries',clock',(Ï _ _ _).trans h1,by simp[hlt],by simpa using hE'.length.symm,fun j q hj=>by
   obtain⟨m,q1,q2,us,q3,q4⟩:=hE'.get hj;refine⟨m,us,by simpa using q1,?_,CR.keep ev.keepA q3,q4⟩
   rw[q2]; exact aeJ hk⟩
  rw[mw] at ev hr;exact⟨hr,ev⟩
 have hck:∀em,(Instr.checkKey em 10000 kt (keyVal k a)).run P w=.ok () w:=fun em=>HN (P:=P) (w:=w) (x:=a) (empty:=em) hk 9999;rcases Hg (hsame a) es entries.toList 0 hE with⟨h5,h6⟩|⟨y,j,us,h5,h6,h7,h8,h9,e',h10,h11⟩
 ·rw[Vc h5]
  obtain⟨hr,ev⟩:=fin (entries.push {key:=keyVal k a,val:=ux,born:=clock}) (clock+1) (es++[(a,b)]) (by
   rw[Array.toList_push]
   exact ý.append hE ⟨⟨rfl,_,hbc,hval⟩,trivial⟩)
  refine⟨_,?_,hr,e1.trans ev (by rw[ζ]; exact cG _),by rw[Ñ,ζ]⟩;simp only[Instr.mapUpdate,Sem.run_bind,run_underlying ht,Result.andThen_ok,pG h2,hck];simp[Instr.findKey,run_underlying hd,h6,setObj,Sem.run,h2]
 ·rw[h9];obtain⟨m,q1,q2,us',q3,q4⟩:=hE.get h10
  have q1':entries[j]?=some m:=by simpa using q1
  obtain⟨hr,ev⟩:=fin (entries.modify j fun e=>{e with key:=keyVal k a,val:=ux}) clock (es.set j (a,b)) (by
   rw[Array.toList_modify]
   have:(entries.toList.modify j fun e=>{e with key:=keyVal k a,val:=ux})=entries.toList.set j {m with key:=keyVal k a,val:=ux}:=by
    apply List.ext_getElem?
    intro q;rw[List.getElem?_modify,fH]
    by_cases hq:j=q
    ·subst hq;have hlt:=(cI.1 q1).1;simp only[if_true,q1,hlt];rfl
    ·simp[hq]
   rw[this]
   exact ý.set j hE ⟨rfl,_,hbc,hval⟩)
  refine⟨_,?_,hr,e1.trans ev (by rw[ζ]; exact cG _),by rw[Ñ,ζ]⟩
  have hkey:m.key=keyVal k a:=by rw[q2,←ahd hk h11]
  simp only[Instr.mapUpdate,Sem.run_bind,run_underlying ht,Result.andThen_ok,pG h2,hck];simp only[dw] at h6;have hsb:Instr.sameBits 10000 (keyVal k a) (keyVal k a)=true:=Uz hk a 10000;simp[Instr.findKey,run_underlying hd,h6,q1',hkey,Instr.keyThatStays,hsb,setObj,Sem.run,h2]
end
end Go.Am
end
