/- lemmas -/
import Derived.CallsIn
import Derived.Lib.SlicesCompact
import Derived.WalkKit
import Derived.Laws.AppendOwn
import Derived.Laws.CopyRow
import Derived.Laws.MakeOwn
set_option linter.all false
abbrev rF.{u} (a:Type u):Type u:=Option a
abbrev rT.{u} (a:Type u):Type u:=List a
def dt:=@Bool.and_eq_true
def du:=@Nat.le_refl
def dv:=@List.getElem?_eq_getElem
def dw:=@List.length_append
def dz:=@List.length_cons
def dA:=@List.mem_append
def dB:=@List.mem_singleton
def dC:=@List.getElem?_eq_some_iff
def dD:=@Nat.lt_of_lt_of_le
def dE:=@List.mem_cons
def dF:=@Nat.eq_of_beq_eq_true
def dG:=@Nat.le_trans
def dH:=@List.append_assoc
def dI:=@List.length_nil
def dJ:=@List.mem_of_getElem?
def dK:=@List.length_take
def dL:=@Int.toNat_natCast
def dM:=@List.all_eq_true
def dN:=@Bool.false_eq_true
def dO:=@List.append_nil
def dP:=@Nat.mul_le_mul_right
def dQ:=@List.mem_iff_getElem
def dR:=@List.flatMap_cons
def dS:=@Nat.add_mul
def dT:=@Array.getD_eq_getD_getElem?
def dU:=@List.pairwise_cons
def dV:=@Nat.lt_or_ge
def dW:=@Nat.zero_add
def dX:=@Nat.zero_le
def dY:=@List.mem_flatMap
def dZ:=@List.length_eq_zero_iff
def d8:=@List.mem_append_right
def d9:=@Array.toList_inj
def ee:=@List.foldl_cons
def eh:=@List.take_of_length_le
def ej:=@List.findIdx?_eq_some_iff_getElem
def eo:=@Bool.not_true
def eA:=@List.nil_append
def eD:=@Array.getElem?_setIfInBounds
def eE:=@Nat.le_of_ble_eq_true
def eF:=@List.length_map
def eG:=@List.prefix_append
def eI:=@List.getElem?_take
def eJ:=@Option.map_some
def eM:=@List.map_cons
def eN:=@List.mem_map
def eO:=@List.prefix_rfl
def eP:=@List.any_eq_true
def eQ:=@Bool.not_eq_true'
def eR:=@List.drop_eq_getElem_cons
def eS:=@Bool.eq_iff_iff
def eT:=@List.cons_append
def eV:=@Option.bind_some
def eW:=@List.length_filter_le
def eX:=@List.length_singleton
def eY:=@List.getElem?_map
def eZ:=@List.mem_append_left
def fc:=@List.find?_eq_none
def fe:=@List.map_congr_left
def ff:=@List.prefix_append_right_inj
def fg:=@Eq.trans
def fh:=@List.getElem?_drop
def fi:=@List.getElem?_cons_zero
def fj:=@List.foldl_append
def fk:=@List.getElem_take
def fm:=@List.findIdx?_eq_none_iff
def fo:=@Array.ext'
def fp:=@List.contains_iff_mem
def fq:=@List.take_append_of_le_length
def ft:=@Bool.not_eq_false'
def fu:=@List.filter_cons
def fw:=@Bool.true_and
def fA:=@List.getElem?_append
def fB:=@List.any_eq_false
def fC:=@Bool.eq_false_iff
def fD:=@List.mem_filter
def fE:=@List.filter_nil
def fF:=@List.flatMap_append
def fG:=@Nat.one_mul
def fH:=@Array.getElem?_eq_some_iff
def fI:=@List.nodup_nil
def fJ:=@List.getElem?_toArray
def fK:=@Array.getElem?_append
def fL:=@List.pairwise_iff_getElem
def fM:=@Nat.le_of_eq
def fN:=@List.size_toArray
def fO:=@List.drop_append_of_le_length
def fP:=@Int.eq_ofNat_of_zero_le
def fQ:=@Array.getElem?_push
def fR:=@List.drop_drop
def fS:=@List.not_mem_nil
def fT:=@Nat.mul_le_mul
def fU:=@Int.mul_comm
def fV:=@Nat.eq_zero_or_pos
def fW:=@Array.getElem?_toList
def fX:=@List.all_cons
def fY:=@Bool.and_false
def fZ:=@Option.isSome_iff_exists
def f0:=@Nat.mod_eq_of_lt
def f5:=@Array.toList_map
def f6:=@List.filter_eq_self
def f7:=@Array.length_toList
def f8:=@Nat.le_mul_of_pos_right
def f9:=@List.filter_append
def gb:=@List.find?_cons
def gd:=@Int.ediv_eq_iff_of_pos
def gg:=@List.length_replicate
def gh:=@List.Perm.refl
def gi:=@Int.natAbs_mul
def gj:=@List.map_nil
def gk:=@Bool.and_eq_false_iff
def gq:=@Nat.add_zero
def gu:=@Nat.ne_of_lt
def gw:=@List.mem_cons_of_mem
def gy:=@List.mem_of_mem_drop
def gz:=@List.take_length
def gA:=@List.foldlM_cons
def gB:=@List.length_drop
def gC:=@List.getD_eq_getElem?_getD
def gD:=@List.filter_sublist
def gE:=@List.append_toArray
def gF:=@List.map_append
def gG:=@List.mem_mapIdx
def gH:=@List.find?_some
def gI:=@List.getElem?_append_left
def gJ:=@List.getElem?_take_of_lt
def gK:=@Int.lt_of_lt_of_le
def gL:=@Int.natAbs_natCast
def gM:=@Nat.succ_pos
def gN:=@List.drop_left
def gO:=@Nat.mod_lt
def gP:=@List.drop_zero
def gQ:=@List.foldl_nil
def gR:=@List.getElem?_cons_succ
def gS:=@List.getElem?_set
def gT:=@List.drop_of_length_le
def gW:=@List.drop_length
def gX:=@List.flatMap_nil
def gY:=@Nat.lt_succ_self
def gZ:=@Option.getD_some
def g8:=@Nat.ble_eq_true_of_le
def g9:=@List.range_succ
def hZ:=@Nat.gcd_comm
def ic:=@Int.natAbs_tmod
noncomputable section
namespace Go.Am
inductive Ty where
 |unit
 |bool
 |int (k:IntKind)
 |str
 |slice (t:Ty)
 |map (k v:Ty)
 |ptr (t:Ty)
 |pair (a b:Ty)
 deriving DecidableEq
@[reducible] def Val:Ty->Type
 |.unit=>Unit
 |.bool=>Bool
 |.int _=>Int
 |.str=>ByteArray
 |.slice t=>rT (Val t)
 |.map k v=>rT (Val k×Val v)
 |.ptr t=>Val t
 |.pair a b=>Val a×Val b
inductive AV where
 |any
 |und
 |bool (b:Bool)
 |int (k:IntKind) (n:Int)
 |str (s:ByteArray)
 |nils
 |slc (t:Ty) (xs:List (Val t))
 |own (id g:Nat)
 |sub (id g lo n:Nat)
 |nilm
 |mp (k v:Ty) (es:List (Val k×Val v))
 |omp (id:Nat)
 |nilp
 |box (id off:Nat)
 |eptr (t:Ty) (x:Val t) (off:Nat)
 |optr (id g i off:Nat)
 |nilfn
 |yld
 |ifc (b:Bool)
 |ofn (id:Nat)
 |oit (id:Nat)
 |fn (f:Fn) (first caps:List AV)
 |agg (cs:List AV)
 |tup (vs:List AV)
inductive Blk where
 |dead
 |cells (cs:List AV)
 |row (t:Ty) (g:Nat) (fz:Bool) (xs:List (Val t))
 |map (k v:Ty) (es:List (Val k×Val v))
 |acc (t:Ty) (xs:List (Val t))
 |fns (es:List (ByteArray×AV))
 |iter (s:ByteArray) (pos:Int)
structure St where
 t:rT AV
 h:rT Blk
def Ty.size:Ty->Nat
 |.unit=>0
 |.pair a b=>a.size+b.size
 |_=>1
def Ty.isAgg:Ty->Bool
 |.unit=>true
 |.pair _ _=>true
 |_=>false
def flat:(t:Ty)->Val t->rT AV
 |.unit,_=>[]
 |.bool,b=>[.bool b]
 |.int k,n=>[.int k n]
 |.str,s=>[.str s]
 |.slice t,xs=>[.slc t xs]
 |.map k v,es=>[.mp k v es]
 |.ptr t,x=>[.eptr t x 0]
 |.pair a b,v=>flat a v.1++flat b v.2
def uQ {F:Ty->Type} {a b:Ty} (h:a=b) (x:F a):F b:=h▸x
def ş:(t:Ty)->rT AV->rF (Val t×rT AV)
 |.unit,l=>some ((),l)
 |.bool,.bool b::l=>some (b,l)
 |.int k,.int c n::l=>match decEq c k with
  |isTrue _=>some (n,l)
  |isFalse _=>none
 |.str,.str s::l=>some (s,l)
 |.slice _,.nils::l=>some ([],l)
 |.slice t,.slc t' xs::l=>match decEq t' t with
  |isTrue h=>some (uQ (F:=fun t=>rT (Val t)) h xs,l)
  |isFalse _=>none
 |.map _ _,.nilm::l=>some ([],l)
 |.map k v,.mp c d es::l=>match decEq (Ty.map c d) (Ty.map k v) with
  |isTrue h=>some (uQ (F:=Val) h es,l)
  |isFalse _=>none
 |.ptr t,.eptr t' x 0::l=>match decEq t' t with
  |isTrue h=>some ((uQ (F:=Val) h x:Val t),l)
  |isFalse _=>none
 |.pair a b,l=>match ş a l with
  |some (x,l)=>match ş b l with
   |some (y,l)=>some ((x,y),l)
   |none=>none
  |none=>none
 |_,_=>none
def Ü (t:Ty) (l:rT AV):rF (Val t) :=
 match ş t l with
 |some (x,[])=>some x
 |_=>none
def enc:(t:Ty)->Val t->AV
 |.unit,_=>.agg []
 |.pair a b,v=>.agg (flat (.pair a b) v)
 |.bool,b=>.bool b
 |.int k,n=>.int k n
 |.str,s=>.str s
 |.slice t,xs=>.slc t xs
 |.map k v,es=>.mp k v es
 |.ptr t,x=>.eptr t x 0
def ĝ:AV->rF (rT AV)
 |.agg cs=>some cs
 |.any=>none
 |.und=>none
 |.tup _=>none
 |v=>some [v]
def lk (l:rT AV):Nat->AV:=List.rec (motive:=fun _=>Nat->AV) (fun _=>.any) (fun x _ a n=>Nat.rec (motive:=fun _=>AV) x (fun m _=>a m) n) l
def upd (l:rT AV):Nat->AV->rT AV:=List.rec (motive:=fun _=>Nat->AV->rT AV) (fun _ _=>[]) (fun x xs a n v=>Nat.rec (motive:=fun _=>rT AV) (v::xs) (fun m _=>x::a m v) n) l
def lkB (l:rT Blk):Nat->Blk:=List.rec (motive:=fun _=>Nat->Blk) (fun _=>.dead) (fun x _ a n=>Nat.rec (motive:=fun _=>Blk) x (fun m _=>a m) n) l
def î (l:rT Blk):Nat->Blk->rT Blk:=List.rec (motive:=fun _=>Nat->Blk->rT Blk) (fun _ _=>[]) (fun x xs a n v=>Nat.rec (motive:=fun _=>rT Blk) (v::xs) (fun m _=>x::a m v) n) l
def akh (n:Nat):lk [] n=.any:=rfl
def aki (x:AV) (l:rT AV):lk (x::l) 0=x:=rfl
def akg (x:AV) (l:rT AV) (n:Nat):lk (x::l) (n+1)=lk l n:=rfl
def Xf (n:Nat) (v:AV):upd [] n v=[]:=rfl
def Xg (x v:AV) (l:rT AV):upd (x::l) 0 v=v::l:=rfl
def Xe (x v:AV) (l:rT AV) (n:Nat):upd (x::l) (n+1) v=x::upd l n v:=rfl
def Wi (n:Nat):lkB [] n=.dead:=rfl
def Wj (x:Blk) (l:rT Blk):lkB (x::l) 0=x:=rfl
def Wh (x:Blk) (l:rT Blk) (n:Nat):lkB (x::l) (n+1)=lkB l n:=rfl
def Jc (n:Nat) (v:Blk):î [] n v=[]:=rfl
def Jd (x v:Blk) (l:rT Blk):î (x::l) 0 v=v::l:=rfl
def Jb (x v:Blk) (l:rT Blk) (n:Nat):î (x::l) (n+1) v=x::î l n v:=rfl
def L7:rT AV->Nat->Nat->rF (rT AV)
 |_,0,0=>some []
 |c::cs,0,n+1=>match L7 cs 0 n with
  |some l=>some (c::l)
  |none=>none
 |_::cs,o+1,n=>L7 cs o n
 |[],_,_=>none
def aev:rT AV->Nat->rT AV->rF (rT AV)
 |cs,0,[]=>some cs
 |_::cs,0,v::vs=>match aev cs 0 vs with
  |some l=>some (v::l)
  |none=>none
 |c::cs,o+1,vs=>match aev cs o vs with
  |some l=>some (c::l)
  |none=>none
 |[],_,_=>none
def cv1:Value->AV
 |.bool b=>.bool b
 |.int k n=>.int k n
 |.string s=>.str s
 |.slice none 0 0=>.nils
 |.map none=>.nilm
 |.pointer none=>.nilp
 |.nilFunc=>.nilfn
 |.nilIface=>.ifc false
 |_=>.any
def cv:Value->AV
 |.agg cs=>match cs.toList.all Value.oneCell' with
  |true=>.agg (cs.toList.map cv1)
  |false=>.any
 |v=>cv1 v
def ev (t:rT AV):Operand->AV
 |.tmp i=>lk t i
 |.const v=>cv v
 |.func f=>.fn (.func f) [] []
 |.global _=>.any
def QQ:TypeDesc->Bool
 |.struct _=>true
 |.array _ _=>true
 |_=>false
def szP (P:Program) (t:TypeId):rF Nat :=
 match P.info? t with
 |some i=>some i.size
 |none=>none
def ldP (P:Program) (t:TypeId):rF (Bool×Nat) :=
 match P.underlying t with
 |some d=>match szP P t with
  |some n=>some (QQ d,n)
  |none=>none
 |none=>none
def mkv (agg:Bool) (cs:rT AV):rF AV :=
 match agg with
 |true=>some (.agg cs)
 |false=>match cs with
  |[v]=>some v
  |_=>none
def amq:rT Ty->Ty
 |[]=>.unit
 |[t]=>t
 |t::ts=>.pair t (amq ts)
def SQ (P:Program):Nat->TypeId->rF Ty
 |0,_=>none
 |n+1,t=>match P.underlying t with
  |some .bool=>some .bool
  |some (.int k)=>some (.int k)
  |some .string=>some .str
  |some (.slice e)=>(SQ P n e).map .slice
  |some (.map k e)=>match SQ P n k,SQ P n e with
   |some a,some b=>some (.map a b)
   |_,_=>none
  |some (.pointer e)=>(SQ P n e).map .ptr
  |some (.struct fs)=>(fs.toList.mapM fun f=>SQ P n f.type).map amq
  |_=>none
def LA (P:Program) (t:TypeId):rF TypeId :=
 match P.underlying t with
 |some (.slice e)=>some e
 |_=>none
def MD (P:Program) (e:TypeId) (n:Nat):Bool :=
 match P.info? e with
 |some i=>i.size==n&&(decide (0<n)&&(decide (i.bytes<=32768)&&match i.zero with
  |some z=>z.cells.size==n
  |none=>false))
 |none=>false
def ñ (h:rT Blk):AV->AV
 |.own id g=>match lkB h id with
  |.row t g' _ xs=>match g==g' with
   |true=>.slc t xs
   |false=>.any
  |_=>.any
 |.sub id g lo n=>match lkB h id with
  |.row t g' _ xs=>match g==g' with
   |true=>.slc t ((xs.drop lo).take n)
   |false=>.any
  |_=>.any
 |.omp id=>match lkB h id with
  |.map k v es=>.mp k v es
  |_=>.any
 |v=>v
def acv (h:rT Blk):AV->AV
 |.agg cs=>.agg (cs.map (ñ h))
 |v=>ñ h v
def qC (h:rT Blk):AV->rT Blk
 |.own id _=>match lkB h id with
  |.row t g _ xs=>î h id (.row t g true xs)
  |_=>h
 |.sub id _ _ _=>match lkB h id with
  |.row t g _ xs=>î h id (.row t g true xs)
  |_=>h
 |_=>h
def Bj (h:rT Blk):rT AV->rT Blk
 |[]=>h
 |v::vs=>Bj (qC h v) vs
def frz (h:rT Blk):AV->rT Blk
 |.agg cs=>Bj h cs
 |v=>qC h v
def MX:AV->Bool
 |.omp _=>false
 |.ofn _=>false
 |.oit _=>false
 |_=>true
def ahp:AV->Bool
 |.agg cs=>cs.all MX
 |v=>MX v
def Bs:AV->Bool
 |.bool _=>true
 |.int _ _=>true
 |.str _=>true
 |.nils=>true
 |.nilm=>true
 |.nilp=>true
 |.nilfn=>true
 |_=>false
def plain:AV->Bool
 |.agg cs=>cs.all Bs
 |v=>Bs v
def MK:AV->Bool
 |.tup vs=>vs.all plain
 |v=>plain v
def agq (n:Int):Int:=IntKind.i64.wrap n
def res:IntKind->Int->Int
 |.i64,n=>agq n
 |k,n=>k.wrap n
def Î (n:Nat):Bool:=decide (n<=4294967296)
def jl:(t:Ty)->Val t->Val t->Bool
 |.bool,a,b=>a==b
 |.int _,a,b=>decide (a=b)
 |.str,a,b=>a==b
 |_,_,_=>false
def IB (P:Program) (t:TypeId) (k:Ty):Bool :=
 match P.underlying t with
 |some .bool=>match k with
  |.bool=>true
  |_=>false
 |some (.int i)=>match k with
  |.int j=>i==j
  |_=>false
 |_=>false
def Um:AV->Bool
 |.agg _=>true
 |_=>false
def wZ {k v:Ty} (x:Val k):rT (Val k×Val v)->rF (Val v)
 |[]=>none
 |e::es=>match jl k x e.1 with
  |true=>some e.2
  |false=>wZ x es
def Vx {k v:Ty} (x:Val k) (y:Val v):rT (Val k×Val v)->rT (Val k×Val v)
 |[]=>[(x,y)]
 |e::es=>match jl k x e.1 with
  |true=>(x,y)::es
  |false=>e::Vx x y es
section
variable {ρ:Type}
def cmpI:BinOp->Int->Int->rF Bool
 |.eql,a,b=>some (a==b)
 |.neq,a,b=>some (a != b)
 |.lss,a,b=>some (decide (a<b))
 |.leq,a,b=>some (decide (a<=b))
 |.gtr,a,b=>some (decide (a>b))
 |.geq,a,b=>some (decide (a>=b))
 |_,_,_=>none
def arI:BinOp->Int->Int->rF Int
 |.add,a,b=>some (a+b)
 |.sub,a,b=>some (a-b)
 |.mul,a,b=>some (a*b)
 |_,_,_=>none
def arK (k:IntKind) (n:Int) (K:AV->rF ρ):rF ρ :=
 K (.int k (res k n))
def eqFs (P:Program) (a:TypeId->rT AV->rT AV->rF Bool->rF Bool) (cs b:rT AV):rT Field->rF Bool->rF Bool
 |[],rest=>rest
 | f :: fs, rest => match f.name != "_" with
  |false=>eqFs P a cs b fs rest
  |true=>match szP P f.type with
   |some n=>match L7 cs f.offset n,L7 b f.offset n with
    |some x,some y=>a f.type x y (eqFs P a cs b fs rest)
    |_,_=>none
   |none=>none
def eqIs (P:Program) (a:TypeId->rT AV->rT AV->rF Bool->rF Bool) (e:TypeId) (n:Nat) (cs b:rT AV):rT Nat->rF Bool->rF Bool
 |[],rest=>rest
 |i::is,rest=>match L7 cs (i*n) n,L7 b (i*n) n with
  |some x,some y=>a e x y (eqIs P a e n cs b is rest)
  |_,_=>none
def anP (P:Program):Nat->TypeId->rT AV->rT AV->rF Bool->rF Bool
 |0,_,_,_,_=>none
 |n+1,t,cs,ds,rest=>match P.underlying t with
  |some .bool=>match cs,ds with
   |[.bool a],[.bool b]=>match rest with
    |some r=>some ((a==b)&&r)
    |none=>none
   |_,_=>none
  |some (.int _)=>match cs,ds with
   |[.int k a],[.int c b]=>match decEq k c with
    |isTrue _=>match rest with
     |some r=>some (decide (a=b)&&r)
     |none=>none
    |isFalse _=>none
   |_,_=>none
  |some (.struct fs)=>match P.stoodInHeld t with
   |false=>eqFs P (anP P n) cs ds fs.toList rest
   |true=>none
  |some (.array len el)=>match szP P el with
   |some m=>eqIs P (anP P n) el m cs ds (List.range len) rest
   |none=>none
  |_=>none
def shlI (k:IntKind) (a b:Int):Int:=k.wrap (a*2 ^ (min b.toNat k.bits))
def iN (k:IntKind) (a b:Int):Int:=a.fdiv (2 ^ (min b.toNat k.bits))
def abz:BinOp->rF Bool
 |.shl=>some true
 |.shr=>some false
 |_=>none
def shK (left:Bool) (k:IntKind) (a b:Int) (K:AV->rF ρ):rF ρ :=
 match decide (0<=b) with
 |true=>match left with
  |true=>K (.int k (shlI k a b))
  |false=>K (.int k (iN k a b))
 |false=>none
def amH (k:IntKind) (f:BitVec k.bits->BitVec k.bits->BitVec k.bits) (a b:Int):Int:=k.wrap (f (BitVec.ofInt k.bits a) (BitVec.ofInt k.bits b)).toNat
def andI (k:IntKind) (a b:Int):Int:=amH k (fun a b=>a &&& b) a b
def orI (k:IntKind) (a b:Int):Int:=amH k (fun a b=>a ||| b) a b
def xorI (k:IntKind) (a b:Int):Int:=amH k (fun a b=>a ^^^ b) a b
def WY (k:IntKind) (a b:Int):Int:=amH k (fun a b=>a &&& ~~~b) a b
def aggT:rF TypeDesc->Bool
 |some (.struct _)=>true
 |some (.array _ _)=>true
 |_=>false
def an5 (P:Program) (op:BinOp) (t:TypeId) (x y:AV) (K:AV->rF ρ):rF ρ :=
 match x,y with
 |.int k a,.int c b=>match abz op with
  |some l=>shK l k a b K
  |none=>match decEq k c with
   |isFalse _=>none
   |isTrue _=>match cmpI op a b with
    |some r=>K (.bool r)
    |none=>match arI op a b with
     |some r=>arK k r K
     |none=>match op with
      |.quo=>match decide (b=0) with
       |true=>none
       |false=>arK k (a.tdiv b) K
      |.rem=>match decide (b=0) with
       |true=>none
       |false=>K (.int k (a.tmod b))
      |.and=>K (.int k (andI k a b))
      |.or=>K (.int k (orI k a b))
      |.xor=>K (.int k (xorI k a b))
      |.andNot=>K (.int k (WY k a b))
      |_=>none
 |.bool a,.bool b=>match P.underlying t with
  |some .bool=>match op with
   |.eql=>K (.bool (a==b))
   |.neq=>K (.bool (!(a==b)))
   |_=>none
  |_=>none
 |.str a,.str b=>match op with
  |.eql=>K (.bool (a.toList==b.toList))
  |.neq=>K (.bool (!(a.toList==b.toList)))
  |.add=>match Î (a.size+b.size) with
   |true=>K (.str (a++b))
   |false=>none
  |_=>none
 |.agg cs,.agg ds=>match aggT (P.underlying t) with
  |true=>match P.eqGuardType P.depth t with
   |false=>match anP P 8 t cs ds (some true) with
    |some r=>match op with
     |.eql=>K (.bool r)
     |.neq=>K (.bool (!r))
     |_=>none
    |none=>none
   |true=>none
  |false=>none
 |_,_=>none
def ais:Operand->Bool
 |.const .nilIface=>true
 |_=>false
def anC (P:Program) (op:BinOp) (t:TypeId) (x:AV) (K:AV->rF ρ):rF ρ :=
 match P.underlying t with
 |some (.interface _)=>match x with
  |.ifc a=>match op with
   |.eql=>K (.bool (!a))
   |.neq=>K (.bool a)
   |_=>none
  |_=>none
 |_=>none
@[irreducible] def HC (n:Nat):Int:=match n with
 |0=>0
 |k+1=>Int.ofNat (k+1)
def ln (n:Nat):HC n=n:=by unfold HC; cases n<;>rfl
def akj (d:rF TypeDesc) (h:rT Blk) (x:AV) (K:AV->rF ρ):rF ρ :=
 match d with
 |some (.slice _)=>match x with
  |.slc _ xs=>K (.int .i64 (HC xs.length))
  |.nils=>K (.int .i64 0)
  |.own id g=>match lkB h id with
   |.row _ g' _ xs=>match g==g' with
    |true=>K (.int .i64 (HC xs.length))
    |false=>none
   |_=>none
  |.sub id g _ n=>match lkB h id with
   |.row _ g' _ _=>match g==g' with
    |true=>K (.int .i64 (HC n))
    |false=>none
   |_=>none
  |_=>none
 |some .string=>match x with
  |.str s=>K (.int .i64 (HC s.size))
  |_=>none
 |some (.map _ _)=>match x with
  |.mp _ _ es=>K (.int .i64 (HC es.length))
  |.nilm=>K (.int .i64 0)
  |.omp id=>match lkB h id with
   |.map _ _ es=>K (.int .i64 (HC es.length))
   |_=>none
  |_=>none
 |_=>none
def QU:Nat->Nat->Int->(Nat->rF ρ)->rF ρ
 |0,_,_,_=>none
 |n+1,q,j,K=>match decide (j=(q:Int)) with
  |true=>K q
  |false=>QU n (q+1) j K
def CP (sz:Nat) (h:rT Blk) (x i:AV) (K:AV->rF ρ):rF ρ :=
 match i with
 |.int _ n=>match x with
  |.slc t xs=>match t.size==sz&&decide (0<=n) with
   |true=>match xs[n.toNat]? with
    |some e=>K (.eptr t e 0)
    |none=>none
   |false=>none
  |.own id g=>match lkB h id with
   |.row t g' _ xs=>match g==g'&&t.size==sz with
    |true=>match decide (0<=n)&&decide (n<xs.length) with
     |true=>K (.optr id g n.toNat 0)
     |false=>none
    |false=>none
   |_=>none
  |.sub id g lo m=>match lkB h id with
   |.row t g' _ _=>match g==g'&&t.size==sz with
    |true=>match decide (0<=n)&&decide (n<m) with
     |true=>K (.optr id g (lo+n.toNat) 0)
     |false=>none
    |false=>none
   |_=>none
  |_=>none
 |_=>none
def xq (h:rT Blk) (x:AV) (o:Nat) (K:AV->rF ρ):rF ρ :=
 match x with
 |.box id off=>K (.box id (off+o))
 |.eptr t e off=>K (.eptr t e (off+o))
 |.optr id g i off=>match lkB h id with
  |.row _ g' _ _=>match g==g' with
   |true=>K (.optr id g i (off+o))
   |false=>none
  |_=>none
 |_=>none
def PG (P:Program) (h:rT Blk) (t:TypeId) (a:AV) (K:AV->rF ρ):rF ρ :=
 match ldP P t with
 |some (agg,n)=>match a with
  |.box id off=>match lkB h id with
   |.cells c=>match L7 c off n with
    |some cs=>match mkv agg cs with
     |some v=>K v
     |none=>none
    |none=>none
   |_=>none
  |.eptr ty e off=>match L7 (flat ty e) off n with
   |some cs=>match mkv agg cs with
    |some v=>K v
    |none=>none
   |none=>none
  |.optr id g i off=>match lkB h id with
   |.row ty g' _ xs=>match g==g' with
    |true=>match xs[i]? with
     |some e=>match L7 (flat ty e) off n with
      |some cs=>match mkv agg cs with
       |some v=>K v
       |none=>none
      |none=>none
     |none=>none
    |false=>none
   |_=>none
  |_=>none
 |none=>none
def qR (P:Program) (h:rT Blk) (t:TypeId) (a v:AV) (K:rT Blk->rF ρ):rF ρ :=
 match ĝ v with
 |some vs=>match szP P t==some vs.length with
  |true=>match a with
   |.box id off=>match lkB h id with
    |.cells c=>match aev c off vs with
     |some c'=>K (î h id (.cells c'))
     |none=>none
    |_=>none
   |.optr id g i off=>match ahp v with
    |true=>match lkB (frz h v) id with
     |.row ty g' false xs=>match g==g' with
      |true=>match xs[i]? with
       |some e=>match aev (flat ty e) off (vs.map (ñ h)) with
        |some b=>match Ü ty b with
         |some d=>K (î (frz h v) id (.row ty g' false (xs.set i d)))
         |none=>none
        |none=>none
       |none=>none
      |false=>none
     |_=>none
    |false=>none
   |_=>none
  |false=>none
 |none=>none
def pF (s:ByteArray) (j:Int) (K:AV->rF ρ):rF ρ :=
 match decide (0<=j) with
 |true=>match s[j.toNat]? with
  |some b=>K (.int .u8 b.toNat)
  |none=>none
 |false=>none
def pE (s:ByteArray) (lo hi:rF AV) (K:AV->rF ρ):rF ρ :=
 match lo,hi with
 |some (.int _ l),some (.int _ m)=>match decide (0<=l)&&(decide (l<=m)&&decide (m<=s.size)) with
  |true=>K (.str (s.extract l.toNat m.toNat))
  |false=>none
 |some (.int _ l),none=>match decide (0<=l)&&decide (l<=s.size) with
  |true=>K (.str (s.extract l.toNat s.size))
  |false=>none
 |none,some (.int _ m)=>match decide (0<=m)&&decide (m<=s.size) with
  |true=>K (.str (s.extract 0 m.toNat))
  |false=>none
 |_,_=>none
def sZ (l:rT Int):ByteArray:=⟨(l.map fun n=>UInt8.ofNat n.toNat).toArray⟩
def C1 (h:rT Blk) (x:AV) (K:AV->rF ρ):rF ρ :=
 match x with
 |.own id g=>match lkB h id with
  |.row (.int .u8) g' false xs=>match g==g' with
   |true=>K (.str (sZ xs))
   |false=>none
  |_=>none
 |_=>none
def aaP (a b:ByteArray):Bool:=decide (a.data.toList=b.data.toList)
def CS (s:ByteArray):rT (ByteArray×AV)->(rF AV->rF ρ)->rF ρ
 |[],K=>K none
 |e::es,K=>match aaP s e.1 with
  |true=>K (some e.2)
  |false=>CS s es K
def Us (s:ByteArray) (es:rT (ByteArray×AV)):Bool:=es.all fun e=>!aaP s e.1
def isFnV:AV->Bool
 |.fn _ _ _=>true
 |_=>false
def pJ (sz:Nat) (h:rT Blk) (x:AV) (lo hi:rF AV) (eat:Bool) (K:AV->rT Blk->rF ρ):rF ρ :=
 match x with
 |.slc t xs=>match t.size==sz with
  |true=>match lo,hi with
   |some (.int _ l),some (.int _ m)=>match decide (0<=l)&&(decide (l<=m)&&decide (m<=xs.length)) with
    |true=>K (.slc t ((xs.drop l.toNat).take (m-l).toNat)) h
    |false=>none
   |some (.int _ l),none=>match decide (0<=l)&&decide (l<=xs.length) with
    |true=>K (.slc t (xs.drop l.toNat)) h
    |false=>none
   |none,some (.int _ m)=>match decide (0<=m)&&decide (m<=xs.length) with
    |true=>K (.slc t (xs.take m.toNat)) h
    |false=>none
   |none,none=>K (.slc t xs) h
   |_,_=>none
  |false=>none
 |.nils=>match lo,hi with
  |none,some (.int _ m)=>match decide (m=0) with
   |true=>K .nils h
   |false=>none
  |none,none=>K .nils h
  |_,_=>none
 |.own id g=>match lkB h id with
  |.row t g' fz xs=>match g==g'&&t.size==sz with
   |true=>match eat with
    |true=>match fz with
     |true=>none
     |false=>match lo,hi with
      |some (.int _ l),none=>match decide (0<=l)&&decide (l<=xs.length) with
       |true=>K (.own id (g+1)) (î h id (.row t (g+1) false (xs.drop l.toNat)))
       |false=>none
      |none,some (.int _ m)=>match decide (0<=m)&&decide (m<=xs.length) with
       |true=>K (.own id (g+1)) (î h id (.row t (g+1) false (xs.take m.toNat)))
       |false=>none
      |_,_=>none
    |false=>match lo,hi with
     |some (.int _ l),some (.int _ m)=>match decide (0<=l)&&(decide (l<=m)&&decide (m<=xs.length)) with
      |true=>K (.sub id g l.toNat (m-l).toNat) h
      |false=>none
     |some (.int _ l),none=>match decide (0<=l)&&decide (l<=xs.length) with
      |true=>K (.sub id g l.toNat (xs.length-l.toNat)) h
      |false=>none
     |none,some (.int _ m)=>match decide (0<=m)&&decide (m<=xs.length) with
      |true=>K (.sub id g 0 m.toNat) h
      |false=>none
     |_,_=>none
   |false=>none
  |_=>none
 |_=>none
def vY (P:Program) (h:rT Blk) (nid:Nat) (t:TypeId) (s x:AV) (K:AV->rT Blk->rF ρ):rF ρ :=
 match LA P t with
 |some e=>match SQ P 8 e with
  |some ty=>match MD P e ty.size with
   |true=>match Ü (.slice ty) [ñ h x] with
    |some ys=>match s with
     |.nils=>match Î ys.length with
      |true=>K (.own nid 0) (î h nid (.row ty 0 false ys))
      |false=>none
     |.own id g=>match lkB h id with
      |.row ty' g' false xs=>match g==g' with
       |true=>match decEq ty ty' with
        |isTrue eq=>match Î (xs.length+ys.length) with
         |true=>K (.own id (g+1)) (î h id (.row ty' (g+1) false (xs++uQ (F:=fun t=>rT (Val t)) eq ys)))
         |false=>none
        |isFalse _=>none
       |false=>none
      |_=>none
     |_=>none
    |none=>none
   |false=>none
  |none=>none
 |none=>none
def Eh (P:Program) (h:rT Blk) (nid:Nat) (t:TypeId) (s x:AV) (K:AV->rT Blk->rF ρ):rF ρ :=
 match s,x,LA P t with
 |.nils,.int .i64 n,some e=>match SQ P 8 e with
  |some ty=>match MD P e ty.size with
   |true=>match (((P.info? e).bind (·.zero)).map cv).bind ĝ with
    |some zs=>match Ü ty zs with
     |some z=>match decide (0<n)&&Î n.toNat with
      |true=>K (.own nid 0) (î h nid (.row ty 0 false (List.replicate n.toNat z)))
      |false=>none
     |none=>none
    |none=>none
   |false=>none
  |none=>none
 |_,_,_=>none
def Hs (P:Program) (h:rT Blk) (t:TypeId) (x:AV) (K:rT Blk->rF ρ):rF ρ :=
 match x,LA P t with
 |.nils,_=>K h
 |.sub id g lo n,some e=>match (((P.info? e).bind (·.zero)).map cv).bind ĝ with
  |some zs=>match lkB h id with
   |.row ty g' false xs=>match g==g' with
    |true=>match Ü ty zs with
     |some z=>K (î h id (.row ty g' false (xs.take lo++List.replicate n z++xs.drop (lo+n))))
     |none=>none
    |false=>none
   |_=>none
  |none=>none
 |_,_=>none
def funcT (P:Program) (t:TypeId):Bool :=
 match P.underlying t with
 |some (.func _ _ _)=>true
 |_=>false
def strT (P:Program) (t:TypeId):Bool :=
 match P.underlying t with
 |some .string=>true
 |_=>false
def u8T (P:Program) (t:TypeId):Bool :=
 match P.underlying t with
 |some (.int .u8)=>true
 |_=>false
def runeI (s:ByteArray) (p:Int):Int:=(Utf8.decode s p.toNat).1
def widI (s:ByteArray) (p:Int):Int:=(Utf8.decode s p.toNat).2
def Vw (h:rT Blk) (x:AV) (K:AV->rT Blk->rF ρ):rF ρ :=
 match x with
 |.oit id=>match lkB h id with
  |.iter s p=>match decide (p<HC s.size) with
   |true=>K (.tup [.bool true,.int .i64 p,.int .i32 (runeI s p)]) (î h id (.iter s (p+widI s p)))
   |false=>K (.tup [.bool false]) h
  |_=>none
 |_=>none
def sQ (P:Program) (h:rT Blk) (t:TypeId) (id:Nat) (i:AV) (ok:Bool) (K:AV->rF ρ):rF ρ :=
 match P.underlying t with
 |some (.map kt et)=>match ((P.info? et).bind (·.zero)).map cv with
  |some z=>match strT P kt,i,lkB h id with
   |true,.str s,.fns es=>CS s es fun r=>match r with
    |some v=>match ok with
     |true=>K (.tup [v,.bool true])
     |false=>K v
    |none=>match ok with
     |true=>K (.tup [z,.bool false])
     |false=>K z
   |_,_,_=>none
  |none=>none
 |_=>none
def Ŧ (P:Program) (h:rT Blk) (t:TypeId) (id:Nat) (i x:AV) (K:rT Blk->rF ρ):rF ρ :=
 match P.underlying t with
 |some (.map kt _)=>match strT P kt,i,lkB h id with
  |true,.str s,.fns es=>match Us s es&&isFnV x with
   |true=>K (î h id (.fns (es++[(s,x)])))
   |false=>none
  |_,_,_=>none
 |_=>none
def qo (P:Program) (h:rT Blk) (t:TypeId) (m i:AV) (ok:Bool) (K:AV->rF ρ):rF ρ :=
 match P.underlying t with
 |some (.map kt et)=>match SQ P 8 kt,SQ P 8 et,((P.info? et).bind (·.zero)).map cv with
  |some k,some v,some z=>match IB P kt k,ñ h m with
   |true,.mp b a es=>match decEq (Ty.map b a) (Ty.map k v) with
    |isTrue eq=>match Ü k [i] with
     |some x=>match wZ x (uQ (F:=Val) eq es) with
      |some y=>match ok with
       |true=>K (.tup [enc v y,.bool true])
       |false=>K (enc v y)
      |none=>match ok with
       |true=>K (.tup [z,.bool false])
       |false=>K z
     |none=>none
    |isFalse _=>none
   |true,.nilm=>match Ü k [i] with
    |some _=>match ok with
     |true=>K (.tup [z,.bool false])
     |false=>K z
    |none=>none
   |_,_=>none
  |_,_,_=>none
 |_=>none
def ť (P:Program) (h:rT Blk) (t:TypeId) (m i x:AV) (K:rT Blk->rF ρ):rF ρ :=
 match P.underlying t with
 |some (.map kt _)=>match m with
  |.omp id=>match lkB h id with
   |.map k v es=>match IB P kt k&&(ahp x&&Um x==v.isAgg) with
    |true=>match Ü k [i],ĝ (acv h x) with
     |some a,some cs=>match Ü v cs with
      |some b=>K (î (frz h x) id (.map k v (Vx a b es)))
      |none=>none
     |_,_=>none
    |false=>none
   |_=>none
  |_=>none
 |_=>none
def afD (P:Program) (fs:Array Field):rT (Nat×AV)->rT AV->rF (rT AV)
 |[],cs=>some cs
 |(i,v)::ps,cs=>match fs[i]? with
  |some f=>match ĝ v with
   |some vs=>match szP P f.type==some vs.length with
    |true=>match aev cs f.offset vs with
     |some cs=>afD P fs ps cs
     |none=>none
    |false=>none
   |none=>none
  |none=>none
def IM (sz:Nat):rT (Nat×AV)->rT AV->rF (rT AV)
 |[],cs=>some cs
 |(i,v)::ps,cs=>match ĝ v with
  |some vs=>match vs.length==sz with
   |true=>match aev cs (i*sz) vs with
    |some cs=>IM sz ps cs
    |none=>none
   |false=>none
  |none=>none
def ME (h:rT Blk) (ty:Ty):Nat->rT (Nat×AV)->rF (rT (Val ty))
 |_,[]=>some []
 |n,(i,v)::ps=>match i==n&&ahp v with
  |true=>match ĝ (acv h v) with
   |some cs=>match Ü ty cs with
    |some x=>match ME h ty (n+1) ps with
     |some xs=>some (x::xs)
     |none=>none
    |none=>none
   |none=>none
  |false=>none
def frzA (h:rT Blk):rT (Nat×AV)->rT Blk
 |[]=>h
 |(_,v)::ps=>frzA (frz h v) ps
def Zy (a b:Int):Int:=if b>a then b else a
def W9 (a b:Int):Int:=if b<a then b else a
def jH (gt:Bool):AV->rT AV->(AV->rF ρ)->rF ρ
 |x,[],K=>K x
 |.int k a,.int c b::l,K=>match decEq k c with
  |isTrue _=>match gt with
   |true=>jH true (.int k (Zy a b)) l K
   |false=>jH false (.int k (W9 a b)) l K
  |isFalse _=>none
 |_,_,_=>none
def isV0:AV->Bool
 |.fn _ _ _=>false
 |.agg _=>false
 |.tup _=>false
 |_=>true
def uY:Operand->Operand->Bool
 |.tmp i,.tmp j=>i==j
 |.const (.int .i64 a),.const (.int .i64 b)=>decide (a=b)
 |_,_=>false
def opK (P:Program) (S:St) (nid:Nat) (eat:Bool) (o:Op) (K:AV->St->rF ρ):rF ρ :=
 let h (h:rT Blk):St:={t:=S.t,h:=h}
 match o with
 |.move x=>K (ev S.t x) S
 |.assign x=>K (ev S.t x) S
 |.pick c a b=>match ev S.t c with
  |.bool x=>match x with
   |true=>K (ev S.t a) S
   |false=>K (ev S.t b) S
  |_=>none
 |.box el x=>match ĝ (ev S.t x) with
  |some cs=>match eat with
   |true=>match SQ P 8 el with
    |some ty=>match Ü ty cs with
     |some y=>K (.eptr ty y 0) S
     |none=>none
    |none=>none
   |false=>K (.box nid 0) (h (î S.h nid (.cells cs)))
  |none=>none
 |.alloc e=>match ((P.info? e).bind (·.zero)).map cv with
  |some z=>match ĝ z with
   |some cs=>K (.box nid 0) (h (î S.h nid (.cells cs)))
   |none=>none
  |none=>none
 |.build t ps=>match P.underlying t with
  |some (.struct fs)=>match fs.toList.all (fun f=>(P.info? f.type).isSome) with
   |true=>match ((P.info? t).bind (·.zero)).map cv with
    |some z=>match ĝ z with
     |some zs=>match afD P fs (ps.toList.map fun p=>(p.1,ev S.t p.2)) zs with
      |some cs=>K (.agg cs) S
      |none=>none
     |none=>none
    |none=>none
   |false=>none
  |some (.array _ e)=>match szP P e,((P.info? t).bind (·.zero)).map cv with
   |some sz,some z=>match ĝ z with
    |some zs=>match IM sz (ps.toList.map fun p=>(p.1,ev S.t p.2)) zs with
     |some cs=>K (.agg cs) S
     |none=>none
    |none=>none
   |_,_=>none
  |_=>none
 |.buildSlice t n ps=>match LA P t with
  |some e=>match SQ P 8 e with
   |some ty=>match MD P e ty.size&&(ps.toList.length==n&&decide (n*ty.size<=65536)) with
    |true=>match ME S.h ty 0 (ps.toList.map fun p=>(p.1,ev S.t p.2)) with
     |some xs=>K (.own nid 0) (h (î (frzA S.h (ps.toList.map fun p=>(p.1,ev S.t p.2))) nid (.row ty 0 false xs)))
     |none=>none
    |false=>none
   |none=>none
  |none=>none
 |.load t a=>PG P S.h t (ev S.t a) fun v=>K v S
 |.store t a v=>match eat with
  |true=>match ev S.t v with
   |.sub id g lo n=>match lkB S.h id with
    |.row ty g' false xs=>match g==g'&&decide (lo+n=xs.length) with
     |true=>qR P (î S.h id (.row ty (g+1) false (xs.drop lo))) t (ev S.t a) (.own id (g+1)) fun h'=>K .any (h h')
     |false=>none
    |_=>none
   |_=>none
  |false=>qR P S.h t (ev S.t a) (ev S.t v) fun h'=>K .any (h h')
 |.nilCheck x=>match ev S.t x with
  |.box id off=>K (.box id off) S
  |.eptr t e off=>K (.eptr t e off) S
  |.optr id g i off=>match lkB S.h id with
   |.row _ g' _ _=>match g==g' with
    |true=>K (.optr id g i off) S
    |false=>none
   |_=>none
  |_=>none
 |.binOp op t x y _=>match ais y with
  |true=>anC P op t (ev S.t x) fun v=>K v S
  |false=>an5 P op t (ev S.t x) (ev S.t y) fun v=>K v S
 |.unOp op _ x=>match op,ev S.t x with
  |.not,.bool b=>K (.bool (!b)) S
  |.neg,.int k n=>arK k (0-n) fun v=>K v S
  |_,_=>none
 |.convert src dst x=>match P.underlying src,P.underlying dst,ev S.t x with
  |some _,some (.int k),.int _ n=>K (.int k (k.wrap n)) S
  |some (.slice e),some .string,v=>match u8T P e with
   |true=>C1 S.h v fun v=>K v S
   |false=>none
  |_,_,_=>none
 |.makeFunc fn first captured=>match (first.toList.map (ev S.t)).all isV0&&(captured.toList.map (ev S.t)).all isV0 with
  |true=>K (.fn fn (first.toList.map (ev S.t)) (captured.toList.map (ev S.t))) S
  |false=>none
 |.makeMap t r=>match r,P.underlying t with
  |none,some (.map kt et)=>match SQ P 8 kt,SQ P 8 et with
   |some k,some v=>match (k.size==P.cellsOf kt)&&(v.size==P.cellsOf et) with
    |true=>K (.omp nid) (h (î S.h nid (.map k v [])))
    |false=>none
   |_,_=>match strT P kt&&funcT P et with
    |true=>K (.ofn nid) (h (î S.h nid (.fns [])))
    |false=>none
  |_,_=>none
 |.makeSlice t l c=>match uY l c,ev S.t l,LA P t with
  |true,.int _ n,some e=>match SQ P 8 e with
   |some ty=>match MD P e ty.size with
    |true=>match (((P.info? e).bind (·.zero)).map cv).bind ĝ with
     |some zs=>match Ü ty zs with
      |some z=>match decide (0<=n)&&Î n.toNat with
       |true=>K (.own nid 0) (h (î S.h nid (.row ty 0 false (List.replicate n.toNat z))))
       |false=>none
      |none=>none
     |none=>none
    |false=>none
   |none=>none
  |_,_,_=>none
 |.slice t x lo hi mx=>match mx,P.underlying t with
  |none,some (.slice e)=>match szP P e with
   |some sz=>pJ sz S.h (ev S.t x) (lo.map (ev S.t)) (hi.map (ev S.t)) eat fun v h'=>K v (h h')
   |none=>none
  |none,some .string=>match ev S.t x with
   |.str s=>pE s (lo.map (ev S.t)) (hi.map (ev S.t)) fun v=>K v S
   |_=>none
  |_,_=>none
 |.fieldAddr t x f=>match P.underlying t with
  |some (.struct fs)=>match fs[f]? with
   |some d=>match szP P d.type with
    |some (_+1)=>xq S.h (ev S.t x) d.offset fun v=>K v S
    |_=>none
   |none=>none
  |_=>none
 |.field t x f=>match P.underlying t,ev S.t x with
  |some (.struct fs),.agg cs=>match fs[f]? with
   |some d=>match ldP P d.type with
    |some (agg,n)=>match L7 cs d.offset n with
     |some u=>match mkv agg u with
      |some v=>K v S
      |none=>none
     |none=>none
    |none=>none
   |none=>none
  |_,_=>none
 |.indexAddr t x i=>match P.underlying t with
  |some (.slice e)=>match szP P e with
   |some sz=>CP sz S.h (ev S.t x) (ev S.t i) fun v=>K v S
   |none=>none
  |some (.array n e)=>match ev S.t x,ev S.t i with
   |.box id off,.int _ j=>match szP P e with
    |some sz=>QU n 0 j fun q=>K (.box id (off+q*sz)) S
    |none=>none
   |_,_=>none
  |_=>none
 |.index t x i=>match P.underlying t,ev S.t x,ev S.t i with
  |some (.array n e),.agg cs,.int _ j=>QU n 0 j fun q=>match ldP P e with
   |some (agg,m)=>match L7 cs (q*m) m with
    |some u=>match mkv agg u with
     |some v=>K v S
     |none=>none
    |none=>none
   |none=>none
  |some .string,.str s,.int _ j=>pF s j fun v=>K v S
  |_,_,_=>none
 |.lookup t m i ok=>match ev S.t m with
  |.ofn id=>sQ P S.h t id (ev S.t i) ok fun v=>K v S
  |m=>qo P S.h t m (ev S.t i) ok fun v=>K v S
 |.mapUpdate t m i x=>match ev S.t m with
  |.ofn id=>Ŧ P S.h t id (ev S.t i) (ev S.t x) fun h'=>K .any (h h')
  |m=>ť P S.h t m (ev S.t i) (ev S.t x) fun h'=>K .any (h h')
 |.insert t m i x=>match ev S.t m with
  |.ofn id=>Ŧ P S.h t id (ev S.t i) (ev S.t x) fun h'=>K .any (h h')
  |m=>ť P S.h t m (ev S.t i) (ev S.t x) fun h'=>K .any (h h')
 |.range t x=>match P.underlying t,ev S.t x with
  |some .string,.str s=>K (.oit nid) (h (î S.h nid (.iter s 0)))
  |_,_=>none
 |.next x b=>match b with
  |true=>Vw S.h (ev S.t x) fun v h'=>K v (h h')
  |false=>none
 |.extract x i=>match ev S.t x with
  |.tup vs=>match vs[i]? with
   |some v=>K v S
   |none=>none
  |_=>none
 |.call ⟨.builtin b,args,tys⟩=>match b,args.toList,tys.toList with
  |.len,[x],t::_=>akj (P.underlying t) S.h (ev S.t x) fun v=>K v S
  |.append,[s,x],[t,t']=>match t==t' with
   |true=>vY P S.h nid t (ev S.t s) (ev S.t x) fun v h'=>K v (h h')
   |false=>match P.underlying t' with
    |some (.int .i64)=>Eh P S.h nid t (ev S.t s) (ev S.t x) fun v h'=>K v (h h')
    |_=>none
  |.clear,[x],[t]=>match P.underlying t with
   |some _=>Hs P S.h t (ev S.t x) fun h'=>K (.tup []) (h h')
   |none=>none
  |.cap,[x],t::_=>match P.underlying t,ev S.t x with
   |some (.slice _),.nils=>K (.int .i64 0) S
   |_,_=>none
  |.min,x::xs,_=>jH false (ev S.t x) (xs.map (ev S.t)) fun v=>K v S
  |.max,x::xs,_=>jH true (ev S.t x) (xs.map (ev S.t)) fun v=>K v S
  |_,_,_=>none
 |_=>none
def o_pick (P:Program) (S:St) (nid:Nat) (eat:Bool) (c a b:Operand) (K:AV->St->rF ρ):rF ρ :=
 let h (h:rT Blk):St:={t:=S.t,h:=h}
 match ev S.t c with
  |.bool x=>match x with
   |true=>K (ev S.t a) S
   |false=>K (ev S.t b) S
  |_=>none
def o_box (P:Program) (S:St) (nid:Nat) (eat:Bool) (a:TypeId) (x:Operand) (K:AV->St->rF ρ):rF ρ :=
 let h (h:rT Blk):St:={t:=S.t,h:=h}
 match ĝ (ev S.t x) with
  |some cs=>match eat with
   |true=>match SQ P 8 a with
    |some ty=>match Ü ty cs with
     |some y=>K (.eptr ty y 0) S
     |none=>none
    |none=>none
   |false=>K (.box nid 0) (h (î S.h nid (.cells cs)))
  |none=>none
def anf (P:Program) (S:St) (nid:Nat) (eat:Bool) (e:TypeId) (K:AV->St->rF ρ):rF ρ :=
 let h (h:rT Blk):St:={t:=S.t,h:=h}
 match ((P.info? e).bind (·.zero)).map cv with
  |some z=>match ĝ z with
   |some cs=>K (.box nid 0) (h (î S.h nid (.cells cs)))
   |none=>none
  |none=>none
def anc (P:Program) (S:St) (nid:Nat) (eat:Bool) (t:TypeId) (ps:Array (Nat×Operand)) (K:AV->St->rF ρ):rF ρ :=
 let h (h:rT Blk):St:={t:=S.t,h:=h}
 match P.underlying t with
  |some (.struct fs)=>match fs.toList.all (fun f=>(P.info? f.type).isSome) with
   |true=>match ((P.info? t).bind (·.zero)).map cv with
    |some z=>match ĝ z with
     |some zs=>match afD P fs (ps.toList.map fun p=>(p.1,ev S.t p.2)) zs with
      |some cs=>K (.agg cs) S
      |none=>none
     |none=>none
    |none=>none
   |false=>none
  |some (.array _ e)=>match szP P e,((P.info? t).bind (·.zero)).map cv with
   |some sz,some z=>match ĝ z with
    |some zs=>match IM sz (ps.toList.map fun p=>(p.1,ev S.t p.2)) zs with
     |some cs=>K (.agg cs) S
     |none=>none
    |none=>none
   |_,_=>none
  |_=>none
def Yj (P:Program) (S:St) (nid:Nat) (eat:Bool) (t:TypeId) (n:Nat) (ps:Array (Nat×Operand)) (K:AV->St->rF ρ):rF ρ :=
 let h (h:rT Blk):St:={t:=S.t,h:=h}
 match LA P t with
  |some e=>match SQ P 8 e with
   |some ty=>match MD P e ty.size&&(ps.toList.length==n&&decide (n*ty.size<=65536)) with
    |true=>match ME S.h ty 0 (ps.toList.map fun p=>(p.1,ev S.t p.2)) with
     |some xs=>K (.own nid 0) (h (î (frzA S.h (ps.toList.map fun p=>(p.1,ev S.t p.2))) nid (.row ty 0 false xs)))
     |none=>none
    |false=>none
   |none=>none
  |none=>none
def o_load (P:Program) (S:St) (nid:Nat) (eat:Bool) (t:TypeId) (a:Operand) (K:AV->St->rF ρ):rF ρ :=
 let h (h:rT Blk):St:={t:=S.t,h:=h}
 PG P S.h t (ev S.t a) fun v=>K v S
def am7 (P:Program) (S:St) (nid:Nat) (eat:Bool) (t:TypeId) (a v:Operand) (K:AV->St->rF ρ):rF ρ :=
 let h (h:rT Blk):St:={t:=S.t,h:=h}
 match eat with
  |true=>match ev S.t v with
   |.sub id g lo n=>match lkB S.h id with
    |.row ty g' false xs=>match g==g'&&decide (lo+n=xs.length) with
     |true=>qR P (î S.h id (.row ty (g+1) false (xs.drop lo))) t (ev S.t a) (.own id (g+1)) fun h'=>K .any (h h')
     |false=>none
    |_=>none
   |_=>none
  |false=>qR P S.h t (ev S.t a) (ev S.t v) fun h'=>K .any (h h')
def aeN (P:Program) (S:St) (nid:Nat) (eat:Bool) (x:Operand) (K:AV->St->rF ρ):rF ρ :=
 let h (h:rT Blk):St:={t:=S.t,h:=h}
 match ev S.t x with
  |.box id off=>K (.box id off) S
  |.eptr t e off=>K (.eptr t e off) S
  |.optr id g i off=>match lkB S.h id with
   |.row _ g' _ _=>match g==g' with
    |true=>K (.optr id g i off) S
    |false=>none
   |_=>none
  |_=>none
def ane (P:Program) (S:St) (nid:Nat) (eat:Bool) (op:BinOp) (t:TypeId) (x y:Operand) (K:AV->St->rF ρ):rF ρ :=
 let h (h:rT Blk):St:={t:=S.t,h:=h}
 match ais y with
  |true=>anC P op t (ev S.t x) fun v=>K v S
  |false=>an5 P op t (ev S.t x) (ev S.t y) fun v=>K v S
def o_unOp (P:Program) (S:St) (nid:Nat) (eat:Bool) (op:UnOp) (x:Operand) (K:AV->St->rF ρ):rF ρ :=
 let h (h:rT Blk):St:={t:=S.t,h:=h}
 match op,ev S.t x with
  |.not,.bool b=>K (.bool (!b)) S
  |.neg,.int k n=>arK k (0-n) fun v=>K v S
  |_,_=>none
def ahh (P:Program) (S:St) (nid:Nat) (eat:Bool) (a b:TypeId) (x:Operand) (K:AV->St->rF ρ):rF ρ :=
 let h (h:rT Blk):St:={t:=S.t,h:=h}
 match P.underlying a,P.underlying b,ev S.t x with
  |some _,some (.int k),.int _ n=>K (.int k (k.wrap n)) S
  |some (.slice e),some .string,v=>match u8T P e with
   |true=>C1 S.h v fun v=>K v S
   |false=>none
  |_,_,_=>none
def aeO (P:Program) (S:St) (nid:Nat) (eat:Bool) (fn:Fn) (first a:Array Operand) (K:AV->St->rF ρ):rF ρ :=
 let h (h:rT Blk):St:={t:=S.t,h:=h}
 match (first.toList.map (ev S.t)).all isV0&&(a.toList.map (ev S.t)).all isV0 with
  |true=>K (.fn fn (first.toList.map (ev S.t)) (a.toList.map (ev S.t))) S
  |false=>none
def ahf (P:Program) (S:St) (nid:Nat) (eat:Bool) (t:TypeId) (r:rF Operand) (K:AV->St->rF ρ):rF ρ :=
 let h (h:rT Blk):St:={t:=S.t,h:=h}
 match r,P.underlying t with
  |none,some (.map kt et)=>match SQ P 8 kt,SQ P 8 et with
   |some k,some v=>match (k.size==P.cellsOf kt)&&(v.size==P.cellsOf et) with
    |true=>K (.omp nid) (h (î S.h nid (.map k v [])))
    |false=>none
   |_,_=>match strT P kt&&funcT P et with
    |true=>K (.ofn nid) (h (î S.h nid (.fns [])))
    |false=>none
  |_,_=>none
def aa7 (P:Program) (S:St) (nid:Nat) (eat:Bool) (t:TypeId) (l c:Operand) (K:AV->St->rF ρ):rF ρ :=
 let h (h:rT Blk):St:={t:=S.t,h:=h}
 match uY l c,ev S.t l,LA P t with
  |true,.int _ n,some e=>match SQ P 8 e with
   |some ty=>match MD P e ty.size with
    |true=>match (((P.info? e).bind (·.zero)).map cv).bind ĝ with
     |some zs=>match Ü ty zs with
      |some z=>match decide (0<=n)&&Î n.toNat with
       |true=>K (.own nid 0) (h (î S.h nid (.row ty 0 false (List.replicate n.toNat z))))
       |false=>none
      |none=>none
     |none=>none
    |false=>none
   |none=>none
  |_,_,_=>none
def am8 (P:Program) (S:St) (nid:Nat) (eat:Bool) (t:TypeId) (x:Operand) (lo hi a:rF Operand) (K:AV->St->rF ρ):rF ρ :=
 let h (h:rT Blk):St:={t:=S.t,h:=h}
 match a,P.underlying t with
  |none,some (.slice e)=>match szP P e with
   |some sz=>pJ sz S.h (ev S.t x) (lo.map (ev S.t)) (hi.map (ev S.t)) eat fun v h'=>K v (h h')
   |none=>none
  |none,some .string=>match ev S.t x with
   |.str s=>pE s (lo.map (ev S.t)) (hi.map (ev S.t)) fun v=>K v S
   |_=>none
  |_,_=>none
def aa9 (P:Program) (S:St) (nid:Nat) (eat:Bool) (t:TypeId) (x:Operand) (f:Nat) (K:AV->St->rF ρ):rF ρ :=
 let h (h:rT Blk):St:={t:=S.t,h:=h}
 match P.underlying t with
  |some (.struct fs)=>match fs[f]? with
   |some a=>match szP P a.type with
    |some (_+1)=>xq S.h (ev S.t x) a.offset fun v=>K v S
    |_=>none
   |none=>none
  |_=>none
def anb (P:Program) (S:St) (nid:Nat) (eat:Bool) (t:TypeId) (x:Operand) (f:Nat) (K:AV->St->rF ρ):rF ρ :=
 let h (h:rT Blk):St:={t:=S.t,h:=h}
 match P.underlying t,ev S.t x with
  |some (.struct fs),.agg cs=>match fs[f]? with
   |some a=>match ldP P a.type with
    |some (agg,n)=>match L7 cs a.offset n with
     |some b=>match mkv agg b with
      |some v=>K v S
      |none=>none
     |none=>none
    |none=>none
   |none=>none
  |_,_=>none
def aa8 (P:Program) (S:St) (nid:Nat) (eat:Bool) (t:TypeId) (x i:Operand) (K:AV->St->rF ρ):rF ρ :=
 let h (h:rT Blk):St:={t:=S.t,h:=h}
 match P.underlying t with
  |some (.slice e)=>match szP P e with
   |some sz=>CP sz S.h (ev S.t x) (ev S.t i) fun v=>K v S
   |none=>none
  |some (.array n e)=>match ev S.t x,ev S.t i with
   |.box id off,.int _ j=>match szP P e with
    |some sz=>QU n 0 j fun q=>K (.box id (off+q*sz)) S
    |none=>none
   |_,_=>none
  |_=>none
def ana (P:Program) (S:St) (nid:Nat) (eat:Bool) (t:TypeId) (x i:Operand) (K:AV->St->rF ρ):rF ρ :=
 let h (h:rT Blk):St:={t:=S.t,h:=h}
 match P.underlying t,ev S.t x,ev S.t i with
  |some (.array n e),.agg cs,.int _ j=>QU n 0 j fun q=>match ldP P e with
   |some (agg,m)=>match L7 cs (q*m) m with
    |some a=>match mkv agg a with
     |some v=>K v S
     |none=>none
    |none=>none
   |none=>none
  |some .string,.str s,.int _ j=>pF s j fun v=>K v S
  |_,_,_=>none
def akR (P:Program) (S:St) (nid:Nat) (eat:Bool) (t:TypeId) (m i:Operand) (ok:Bool) (K:AV->St->rF ρ):rF ρ :=
 let h (h:rT Blk):St:={t:=S.t,h:=h}
 match ev S.t m with
  |.ofn id=>sQ P S.h t id (ev S.t i) ok fun v=>K v S
  |m=>qo P S.h t m (ev S.t i) ok fun v=>K v S
def aa6 (P:Program) (S:St) (nid:Nat) (eat:Bool) (t:TypeId) (m i x:Operand) (K:AV->St->rF ρ):rF ρ :=
 let h (h:rT Blk):St:={t:=S.t,h:=h}
 match ev S.t m with
  |.ofn id=>Ŧ P S.h t id (ev S.t i) (ev S.t x) fun h'=>K .any (h h')
  |m=>ť P S.h t m (ev S.t i) (ev S.t x) fun h'=>K .any (h h')
def akS (P:Program) (S:St) (nid:Nat) (eat:Bool) (t:TypeId) (m i x:Operand) (K:AV->St->rF ρ):rF ρ :=
 let h (h:rT Blk):St:={t:=S.t,h:=h}
 match ev S.t m with
  |.ofn id=>Ŧ P S.h t id (ev S.t i) (ev S.t x) fun h'=>K .any (h h')
  |m=>ť P S.h t m (ev S.t i) (ev S.t x) fun h'=>K .any (h h')
def am9 (P:Program) (S:St) (nid:Nat) (eat:Bool) (t:TypeId) (x:Operand) (K:AV->St->rF ρ):rF ρ :=
 let h (h:rT Blk):St:={t:=S.t,h:=h}
 match P.underlying t,ev S.t x with
  |some .string,.str s=>K (.oit nid) (h (î S.h nid (.iter s 0)))
  |_,_=>none
def o_next (P:Program) (S:St) (nid:Nat) (eat:Bool) (x:Operand) (b:Bool) (K:AV->St->rF ρ):rF ρ :=
 let h (h:rT Blk):St:={t:=S.t,h:=h}
 match b with
  |true=>Vw S.h (ev S.t x) fun v h'=>K v (h h')
  |false=>none
def ahg (P:Program) (S:St) (nid:Nat) (eat:Bool) (x:Operand) (i:Nat) (K:AV->St->rF ρ):rF ρ :=
 let h (h:rT Blk):St:={t:=S.t,h:=h}
 match ev S.t x with
  |.tup vs=>match vs[i]? with
   |some v=>K v S
   |none=>none
  |_=>none
def o_call (P:Program) (S:St) (nid:Nat) (eat:Bool) (b:Builtin) (a:Array Operand) (tys:Array TypeId) (K:AV->St->rF ρ):rF ρ :=
 let h (h:rT Blk):St:={t:=S.t,h:=h}
 match b,a.toList,tys.toList with
  |.len,[x],t::_=>akj (P.underlying t) S.h (ev S.t x) fun v=>K v S
  |.append,[s,x],[t,t']=>match t==t' with
   |true=>vY P S.h nid t (ev S.t s) (ev S.t x) fun v h'=>K v (h h')
   |false=>match P.underlying t' with
    |some (.int .i64)=>Eh P S.h nid t (ev S.t s) (ev S.t x) fun v h'=>K v (h h')
    |_=>none
  |.clear,[x],[t]=>match P.underlying t with
   |some _=>Hs P S.h t (ev S.t x) fun h'=>K (.tup []) (h h')
   |none=>none
  |.cap,[x],t::_=>match P.underlying t,ev S.t x with
   |some (.slice _),.nils=>K (.int .i64 0) S
   |_,_=>none
  |.min,x::xs,_=>jH false (ev S.t x) (xs.map (ev S.t)) fun v=>K v S
  |.max,x::xs,_=>jH true (ev S.t x) (xs.map (ev S.t)) fun v=>K v S
  |_,_,_=>none
structure OpB (ρ:Type) where
 run:Program->St->Nat->Bool->(AV->St->rF ρ)->rF ρ
def opG (o:Op):OpB ρ :=
 match o with
 |.move x=>⟨fun P S nid eat K=>K (ev S.t x) S⟩
 |.assign x=>⟨fun P S nid eat K=>K (ev S.t x) S⟩
 |.pick c a b=>⟨fun P S nid eat K=>o_pick P S nid eat c a b K⟩
 |.box el x=>⟨fun P S nid eat K=>o_box P S nid eat el x K⟩
 |.alloc e=>⟨fun P S nid eat K=>anf P S nid eat e K⟩
 |.build t ps=>⟨fun P S nid eat K=>anc P S nid eat t ps K⟩
 |.buildSlice t n ps=>⟨fun P S nid eat K=>Yj P S nid eat t n ps K⟩
 |.load t a=>⟨fun P S nid eat K=>o_load P S nid eat t a K⟩
 |.store t a v=>⟨fun P S nid eat K=>am7 P S nid eat t a v K⟩
 |.nilCheck x=>⟨fun P S nid eat K=>aeN P S nid eat x K⟩
 |.binOp op t x y _=>⟨fun P S nid eat K=>ane P S nid eat op t x y K⟩
 |.unOp op _ x=>⟨fun P S nid eat K=>o_unOp P S nid eat op x K⟩
 |.convert src dst x=>⟨fun P S nid eat K=>ahh P S nid eat src dst x K⟩
 |.makeFunc fn first captured=>⟨fun P S nid eat K=>aeO P S nid eat fn first captured K⟩
 |.makeMap t r=>⟨fun P S nid eat K=>ahf P S nid eat t r K⟩
 |.makeSlice t l c=>⟨fun P S nid eat K=>aa7 P S nid eat t l c K⟩
 |.slice t x lo hi mx=>⟨fun P S nid eat K=>am8 P S nid eat t x lo hi mx K⟩
 |.fieldAddr t x f=>⟨fun P S nid eat K=>aa9 P S nid eat t x f K⟩
 |.field t x f=>⟨fun P S nid eat K=>anb P S nid eat t x f K⟩
 |.indexAddr t x i=>⟨fun P S nid eat K=>aa8 P S nid eat t x i K⟩
 |.index t x i=>⟨fun P S nid eat K=>ana P S nid eat t x i K⟩
 |.lookup t m i ok=>⟨fun P S nid eat K=>akR P S nid eat t m i ok K⟩
 |.mapUpdate t m i x=>⟨fun P S nid eat K=>aa6 P S nid eat t m i x K⟩
 |.insert t m i x=>⟨fun P S nid eat K=>akS P S nid eat t m i x K⟩
 |.range t x=>⟨fun P S nid eat K=>am9 P S nid eat t x K⟩
 |.next x b=>⟨fun P S nid eat K=>o_next P S nid eat x b K⟩
 |.extract x i=>⟨fun P S nid eat K=>ahg P S nid eat x i K⟩
 |.call ⟨.builtin b,args,tys⟩=>⟨fun P S nid eat K=>o_call P S nid eat b args tys K⟩
 |_=>⟨fun P S nid eat K=>none⟩
def opF (P:Program) (S:St) (nid:Nat) (eat:Bool) (o:Op) (K:AV->St->rF ρ):rF ρ:=(opG o).run P S nid eat K
def Jq (P:Program) (S:St) (nid:Nat) (eat:Bool) (o:Op) (K:AV->St->rF ρ):opF P S nid eat o K=opK P S nid eat o K:=by
 cases o with
 |call c=>obtain⟨a,b,tys⟩:=c; cases a<;>rfl
 |_=>rfl
end
end Go.Am
end

noncomputable section
namespace Go.Am
def Ā (clone:Nat->Bool):Op->Bool
 |.box _ _=>true
 |.alloc _=>true
 |.buildSlice _ _ _=>true
 |.makeMap _ _=>true
 |.makeSlice _ _ _=>true
 |.range _ _=>true
 |.call ⟨.builtin .append,_,_⟩=>true
 |.call ⟨.value (.func f),_,_⟩=>clone f
 |_=>false
def tys:Ty->rT Ty->Ty
 |t,[]=>t
 |t,u::l=>.pair t (tys u l)
def tyL:rT Ty->Ty
 |[]=>.unit
 |t::l=>tys t l
structure ì where
 ts:rT Ty
 rs:rT Ty
 F:Val (tyL ts)->rF (Val (tyL rs))
structure YFun where
 ty:Ty
 all:rT (Val ty)
 stop:Bool
structure Env (ρ:Type) where
 P:Program
 eat:Nat->Nat->Bool
 clone:Nat->Bool
 sort:Nat->Bool
 compact:Nat->Bool
 inl:Nat->Bool
 fz:Nat->Bool
 pure:Nat->rF ì
 loops:rT Nat->Nat->Nat->Nat->St->(Exit->St->rF ρ)->rF ρ
 joins:rT Nat->Nat->Nat->Nat->rF (((St->rF ρ)->rF ρ)->(St->rF ρ)->rF ρ):=fun _ _ _ _=>none
 hint:Nat->rF Nat:=fun _=>none
 stop:rT Nat->Nat->Bool:=fun _ _=>false
 yld:rF YFun:=none
 yfast:Bool:=false
 ranges:rT Nat->Nat->Nat->Nat->AV->St->(Exit->St->rF ρ)->rF ρ:=fun _ _ _ _ _ _ _=>none
 ext:Nat->rF (rT Blk->rT AV->(AV->rT Blk->rF ρ)->rF ρ):=fun _=>none
 wp:(Program->rF ρ)->rF ρ:=fun f=>f P
 wp_eq:∀f,wp f=f P:=by intro f; rfl
 lazy:Bool:=false
section
variable {ρ:Type}
def cls (E:Env ρ):Op->Nat
 |.load _ _=>1
 |.indexAddr _ _ _=>1
 |.slice _ _ _ _ _=>1
 |.lookup _ _ _ _=>1
 |.convert _ _ _=>1
 |.buildSlice _ _ _=>2
 |.nilCheck _=>1
 |.fieldAddr _ _ _=>1
 |.box _ _=>1
 |.alloc _=>1
 |.makeMap _ _=>1
 |.makeSlice _ _ _=>1
 |.store _ _ _=>2
 |.mapUpdate _ _ _ _=>2
 |.range _ _=>1
 |.next _ _=>2
 |.insert _ _ _ _=>2
 |.call ⟨.builtin .append,_,_⟩=>2
 |.call ⟨.builtin .clear,_,_⟩=>2
 |.call ⟨.builtin _,_,_⟩=>1
 |.call ⟨.value (.func f),_,_⟩=>if E.clone f then 1 else if (E.pure f).isSome then(if E.fz f then 2 else 1) else if E.sort f||E.compact f then 2 else 3
 |.call ⟨.value (.tmp t),_,_⟩=>match E.hint t with
  |some g=>if (E.pure g).isSome&&!E.fz g then 1 else 3
  |none=>3
 |.call _=>3
 |_=>0
def SS:rT Operand->rT Nat
 |[]=>[]
 |.tmp t::l=>t::SS l
 |_::l=>SS l
def oX (os:rT Oper) (j:Nat):Nat :=
 match os[j]? with
 |some o=>match o.dst with
  |some d=>d
  |none=>0
 |none=>0
def ι (os:rT Oper) (o:Oper):rT Nat :=
 (match o.guard with|some (j,_)=>[oX os j]|none=>[])++SS o.op.operands.toList
def ak5:rT Nat->rF Nat->Bool
 |l,some d=>l.contains d
 |_,none=>false
def Ul:Op->Bool
 |.call ⟨.value _,_,_⟩=>true
 |_=>false
def alC (E:Env ρ) (os:rT Oper) (a b:Oper):Bool :=
 (Ul a.op&&Ul b.op)||(cls E a.op==3||(cls E b.op==3&&Nat.ble 1 (cls E a.op))) ||
 ak5 (ι os b) a.dst||ak5 (ι os a) b.dst||(match a.dst,b.dst with|some x,some y=>x==y|_,_=>false)
def CX (E:Env ρ) (a b:Op):Bool:=(cls E a==2&&Nat.ble 1 (cls E b))||(Nat.ble 1 (cls E a)&&cls E b==2)
def Ť:rT Oper->rT Nat->rT Nat
 |[],acc=>acc
 |o::os,acc=>Ť os (acc++[o.after.toList.foldl (fun s e=>if Region.binds .any e then s ||| 2 ^ e.on ||| acc.getD e.on 0 else s) 0])
def AR (E:Env ρ) (all:rT Oper) (c:rT Nat):rT Oper->Nat->Bool
 |[],_=>true
 |b::bs,j=>((List.range j).all fun i=>match all[i]? with
    |some a=>!alC E all a b||(c.getD j 0).testBit i
    |none=>false)&&AR E all c bs (j+1)
def aak:rT Oper->Nat->Bool
 |[],_=>true
 |o::os,j=>o.after.toList.all (fun e=>!Region.binds .any e||decide (e.on<j))&&aak os (j+1)
def aiT (E:Env ρ) (a:rT Oper):Bool:=aak a 0&&AR E a (Ť a []) a 0
def ò (t:rT AV) (d:rF Nat) (v:AV):rT AV :=
 match d with
 |none=>t
 |some d=>upd t d v
def wR (P:Program) (fn:Nat) (fz:Bool) (S:St) (nid:Nat) (x:AV) (K:AV->St->rF ρ):rF ρ :=
 match P.funcs[fn]? with
 |some f=>match (f.params[0]?).bind (LA P) with
  |some e=>match SQ P 8 e with
   |some ty=>match MD P e ty.size with
    |true=>match Ü (.slice ty) [ñ S.h x] with
     |some ys=>match Î ys.length with
      |true=>match fz with
       |true=>K (.slc ty ys) S
       |false=>K (.own nid 0) {t:=S.t,h:=î S.h nid (.row ty 0 false ys)}
      |false=>none
     |none=>none
    |false=>none
   |none=>none
  |none=>none
 |none=>none
def Ee:AV->Bool
 |.own _ _=>true
 |.sub _ _ _ _=>true
 |.omp _=>true
 |.box _ _=>true
 |.optr _ _ _ _=>true
 |.ofn _=>true
 |.oit _=>true
 |_=>false
def QM:AV->Bool
 |.agg cs=>cs.any Ee
 |v=>Ee v
def ahn:AV->Bool
 |.omp _=>false
 |.box _ _=>false
 |.optr _ _ _ _=>false
 |.ofn _=>false
 |.oit _=>false
 |_=>true
def aho:AV->Bool
 |.agg cs=>cs.all ahn
 |v=>ahn v
def al7 (h:rT Blk) (t:Ty) (a:AV):rF (Val t) :=
 match t with
 |.ptr u=>match a with
  |.box id 0=>match lkB h id with
   |.cells cs=>Ü u (cs.map (ñ h))
   |_=>none
  |.eptr t' x 0=>match decEq t' u with
   |isTrue e=>some ((uQ (F:=Val) e x:Val u))
   |isFalse _=>none
  |_=>none
 |t=>match Um a==t.isAgg with
  |true=>match ĝ (acv h a) with
   |some cs=>Ü t cs
   |none=>none
  |false=>none
def aiP:(l:rT Ty)->(t:Ty)->Val (tys t l)->rT AV
 |[],t,x=>[enc t x]
 |u::l,t,x=>enc t (x:Val t×Val (tys u l)).1::aiP l u (x:Val t×Val (tys u l)).2
def abK:(l:rT Ty)->Val (tyL l)->rT AV
 |[],_=>[]
 |t::l,x=>aiP l t x
def WU (h:rT Blk):(l:rT Ty)->(t:Ty)->rT AV->rF (Val (tys t l))
 |[],t,as=>match as with
  |[]=>none
  |a::as=>match as with
   |[]=>al7 h t a
   |_::_=>none
 |u::l,t,as=>match as with
  |[]=>none
  |a::as=>match al7 h t a with
   |some x=>match WU h l u as with
    |some y=>some ((x,y):Val t×Val (tys u l))
    |none=>none
   |none=>none
def Ec (h:rT Blk) (l:rT Ty) (as:rT AV):rF (Val (tyL l)) :=
 match l with
 |[]=>match as with
  |[]=>some ()
  |_::_=>none
 |t::l=>WU h l t as
def amY (l:rT Ty) (h:rT Blk) (a:AV):rF (Val (tyL l)) :=
 match l with
 |[]=>none
 |[t]=>al7 h t a
 |t::u::l=>match a with
  |.tup as=>WU h (u::l) t as
  |_=>none
def aaD:(l:rT Ty)->Val (tyL l)->AV
 |[],_=>.tup []
 |[t],x=>enc t x
 |t::u::l,x=>.tup (aiP (u::l) t x)
def Â {α:Type} (x:rF α) (f:α->rF ρ):rF ρ :=
 match x with
 |some y=>f y
 |none=>none
def mb:AV->rT AV
 |.agg cs=>cs
 |v=>[v]
def Vd (c:Bool) (p:ì) (h:rT Blk) (b:rT AV) (K:AV->rT Blk->rF ρ):rF ρ :=
 match Ec h p.ts b with
 |some x=>Â (p.F x) fun y=>match MK (aaD p.rs y) with
  |true=>K (aaD p.rs y) h
  |false=>match b.all (fun a=>!QM a) with
   |true=>K (aaD p.rs y) h
   |false=>match c||!b.all aho with
    |true=>none
    |false=>K (aaD p.rs y) (Bj h (b.flatMap mb))
 |none=>none
def akX:AV->rF AV
 |.tup _=>none
 |v=>some v
def aaV (P:Program) (h:rT Blk) (t:rT AV):ResultVar->rF AV
 |.tmp i=>akX (lk t i)
 |.cell a ty=>match PG P h ty (lk t a) some with
  |some v=>akX v
  |none=>none
def MG (P:Program) (h:rT Blk) (t:rT AV):rT ResultVar->rF (rT AV)
 |[]=>some []
 |r::rs=>match aaV P h t r with
  |some v=>match MG P h t rs with
   |some vs=>some (v::vs)
   |none=>none
  |none=>none
def mQ (P:Program) (fn:Func) (S:St):rF AV :=
 match MG P S.h S.t fn.results.toList with
 |some [v]=>some v
 |some vs=>some (.tup vs)
 |none=>none
def agk (a:Int):rT Int->rT Int
 |[]=>[a]
 |b::t=>if a<=b then a::b::t else b::agk a t
def GO:rT Int->rT Int
 |[]=>[]
 |a::t=>agk a (GO t)
def Km (l:rT Int):rT Int:=GO l
def U8 (h:rT Blk) (x:AV) (K:AV->rT Blk->rF ρ):rF ρ :=
 match x with
 |.own id g=>match lkB h id with
  |.row t g' false xs=>match g==g' with
   |true=>match decEq t (.int .i64) with
    |isTrue e=>match Î xs.length with
     |true=>K (.tup []) (î h id (.row (.int .i64) g' false (Km (uQ (F:=fun t=>rT (Val t)) e xs))))
     |false=>none
    |isFalse _=>none
   |false=>none
  |_=>none
 |.nils=>K (.tup []) h
 |_=>none
def AW (l:rT Int):rT Int:=Go.Lib.compact l
def o9 (h:rT Blk) (x:AV) (K:AV->rT Blk->rF ρ):rF ρ :=
 match x with
 |.own id g=>match lkB h id with
  |.row t g' false xs=>match g==g' with
   |true=>match decEq t (.int .i64) with
    |isTrue e=>match Î xs.length with
     |true=>K (.own id (g+1)) (î h id (.row (.int .i64) (g+1) false (AW (uQ (F:=fun t=>rT (Val t)) e xs))))
     |false=>none
    |isFalse _=>none
   |false=>none
  |_=>none
 |.nils=>K .nils h
 |_=>none
def abA:Operand->Bool
 |.func _=>true
 |_=>false
def Ĕ:AV->rT Nat
 |.own id _=>[id]
 |.sub id _ _ _=>[id]
 |.omp id=>[id]
 |.box id _=>[id]
 |.optr id _ _ _=>[id]
 |.ofn id=>[id]
 |.oit id=>[id]
 |_=>[]
def agQ:AV->rT Nat
 |.agg cs=>cs.flatMap Ĕ
 |v=>Ĕ v
def refs1:AV->rT Nat
 |.agg cs=>cs.flatMap Ĕ
 |.fn _ a b=>a.flatMap agQ++b.flatMap agQ
 |v=>Ĕ v
def ani:AV->Bool
 |.fn _ _ _=>false
 |_=>true
def Qs:Blk->rT AV
 |.cells cs=>cs
 |_=>[]
def refs2 (h:rT Blk) (v:AV):rT Nat:=refs1 v++(refs1 v).flatMap fun id=>(Qs (lkB h id)).flatMap Ĕ
def ait:Blk->Bool
 |.dead=>true
 |_=>false
def UD (E:Env ρ) (t:rT AV) (o:Op):Bool :=
 match o with
 |.call ⟨.value (.tmp s),_,_⟩=>match E.hint s with
  |none=>true
  |some g=>match ev t (.tmp s) with
   |.fn (.func g') a b=>Nat.beq g' g&&(a.all ani&&b.all ani)
   |_=>false
 |_=>true
def l8 (E:Env ρ) (S:St) (o:Op):Bool :=
 match Nat.ble 1 (cls E o) with
 |true=>(o.operands.toList.all fun x=>(refs2 S.h (ev S.t x)).all fun id=>!ait (lkB S.h id))&&UD E S.t o
 |false=>true
def Qg (E:Env ρ) (a:Bool) (fid:Nat) (o:Oper):Bool :=
 match o.op with
 |.store _ _ _=>E.eat fid 0
 |_=>!a&&E.eat fid (o.dst.getD 0)
def anN {α:Type} (f:α->α->Bool):rT α->rT α->Bool
 |[],[]=>true
 |a::l,b::m=>match f a b with
  |true=>anN f l m
  |false=>false
 |_,_=>false
def eqV:(t:Ty)->Val t->Val t->Bool
 |.unit,_,_=>true
 |.bool,a,b=>match a,b with
  |true,true=>true
  |false,false=>true
  |_,_=>false
 |.int _,a,b=>decide (a=b)
 |.str,a,b=>decide (@Eq ByteArray a b)
 |.slice t,a,b=>anN (eqV t) a b
 |.map s t,a,b=>anN (fun x y=>match eqV s x.1 y.1 with
  |true=>eqV t x.2 y.2
  |false=>false) a b
 |.ptr t,a,b=>eqV t a b
 |.pair s t,a,b=>match eqV s a.1 b.1 with
  |true=>eqV t a.2 b.2
  |false=>false
def abJ {α:Type} {f:α->α->Bool} (c:∀a b,f a b=true->a=b):∀{l m:rT α},anN f l m=true->l=m
 |[],[],_=>rfl
 |a::l,b::m,h=>by
  unfold anN at h
  split at h
  ·rename_i d;rw[c a b d,abJ c h]
  ·cases h
 |[],_::_,h=>by cases h
 |_::_,[],h=>by cases h
def Kb:∀(t:Ty) (a b:Val t),eqV t a b=true->a=b
 |.unit,_,_,_=>rfl
 |.bool,a,b,h=>by cases a<;>cases b<;>first|rfl|cases h
 |.int _,a,b,h=>of_decide_eq_true h
 |.str,a,b,h=>of_decide_eq_true h
 |.slice t,a,b,h=>abJ (Kb t) h
 |.map s t,a,b,h=>abJ (fun x y h=>by
    split at h
    ·rename_i c;exact Prod.ext (Kb s _ _ c) (Kb t _ _ h)
    ·cases h) h
 |.ptr t,a,b,h=>Kb t a b h
 |.pair s t,a,b,h=>by
  unfold eqV at h
  split at h
  ·rename_i c;exact Prod.ext (Kb s _ _ c) (Kb t _ _ h)
  ·cases h
def Qe {α:Type} {f:α->α->Bool} (b:∀a,f a a=true):∀l:rT α,anN f l l=true
 |[]=>rfl
 |a::l=>by simp only[anN,b a]; exact Qe b l
def vP:∀(t:Ty) (a:Val t),eqV t a a=true
 |.unit,_=>rfl
 |.bool,a=>by cases a<;>rfl
 |.int _,a=>decide_eq_true rfl
 |.str,a=>decide_eq_true rfl
 |.slice t,a=>Qe (vP t) a
 |.map s t,a=>Qe (fun x=>by simp only[vP s,vP t]) a
 |.ptr t,a=>vP t a
 |.pair s t,a=>by unfold eqV; simp only[vP s,vP t]
def preV (t:Ty):rT (Val t)->rT (Val t)->Bool
 |[],_=>true
 |_::_,[]=>false
 |x::l,y::m=>match eqV t x y with
  |true=>preV t l m
  |false=>false
def acH {t:Ty}:∀{l m:rT (Val t)},preV t l m=true->l <+: m
 |[],m,_=>List.nil_prefix
 |_::_,[],h=>by cases h
 |x::l,y::m,h=>by
  unfold preV at h
  split at h
  ·rename_i a;rw[Kb t _ _ a];exact(List.prefix_cons_inj y).2 (acH h)
  ·cases h
def yg {α:Type} {ρ:Type} (all l:rT α) (k:rF ρ):rF ρ:=open Classical in if l <+: all then k else none
def ygf {t:Ty} {ρ:Type} (a:Bool) (all l:rT (Val t)) (k:rF ρ):rF ρ:=match a with
 |false=>yg all l k
 |true=>match preV t l all with
  |true=>k
  |false=>none
def ygo {α:Type} (stop:Bool) (all l:rT α):Bool:=match stop with
 |false=>true
 |true=>open Classical in decide (l≠all)
def yldK (E:Env ρ) (h:rT Blk) (x:AV) (K:AV->rT Blk->rF ρ):rF ρ :=
 match E.yld with
 |some y=>match y.ty.isAgg with
  |true=>none
  |false=>match MX x with
   |true=>match Ü y.ty [ñ h x] with
    |some v=>match lkB (qC h x) 0 with
     |.acc t xs=>match decEq t y.ty with
      |isTrue e=>ygf E.yfast y.all (uQ (F:=fun t=>rT (Val t)) e xs++[v]) (K (.bool (ygo y.stop y.all (uQ (F:=fun t=>rT (Val t)) e xs++[v]))) (î (qC h x) 0 (.acc y.ty (uQ (F:=fun t=>rT (Val t)) e xs++[v]))))
      |isFalse _=>none
     |_=>none
    |none=>none
   |false=>none
 |none=>none
def jQ (E:Env ρ) (call:rT Nat->Bool->Nat->rT AV->rT Blk->(AV->rT Blk->rF ρ)->rF ρ) (fid:Nat) (path:rT Nat) (a:Bool) (S:St) (nid:Nat) (o:Oper) (K:AV->St->rF ρ):rF ρ :=
 match a&&!l8 E S o.op with
 |true=>none
 |false=>E.wp fun P=>match o.op with
  |.call ⟨.value f,args,_⟩=>match ev S.t f with
   |.fn (.func g) first caps=>match E.clone g&&abA f with
    |true=>match args.toList with
     |[x]=>wR P g (E.eat fid (o.dst.getD 0)) S nid (ev S.t x) K
     |_=>none
    |false=>call path a g (first++(args.toList.map (ev S.t)++caps)) S.h fun v h=>K v {t:=S.t,h:=h}
   |.yld=>match args.toList with
    |[x]=>yldK E S.h (ev S.t x) fun v h=>K v {t:=S.t,h:=h}
    |_=>none
   |_=>none
  |op=>opF P S nid (Qg E a fid o) op K
def iO (E:Env ρ) (call:rT Nat->Bool->Nat->rT AV->rT Blk->(AV->rT Blk->rF ρ)->rF ρ) (fid:Nat) (path:rT Nat) (a:Bool) (S:St) (nid:Nat) (o:Oper) (K:AV->St->rF ρ):jQ E call fid path a S nid o K=(
 match a&&!l8 E S o.op with
 |true=>none
 |false=>match o.op with
  |.call ⟨.value f,args,_⟩=>match ev S.t f with
   |.fn (.func g) first caps=>match E.clone g&&abA f with
    |true=>match args.toList with
     |[x]=>wR E.P g (E.eat fid (o.dst.getD 0)) S nid (ev S.t x) K
     |_=>none
    |false=>call path a g (first++(args.toList.map (ev S.t)++caps)) S.h fun v h=>K v {t:=S.t,h:=h}
   |.yld=>match args.toList with
    |[x]=>yldK E S.h (ev S.t x) fun v h=>K v {t:=S.t,h:=h}
    |_=>none
   |_=>none
  |op=>opF E.P S nid (Qg E a fid o) op K):=by unfold jQ; simp only[E.wp_eq]
def aeJ (E:Env ρ) (call:rT Nat->Bool->Nat->rT AV->rT Blk->(AV->rT Blk->rF ρ)->rF ρ) (fid:Nat) (path:rT Nat) (a:Bool) (all:rT Oper):rT Oper->Nat->Nat->St->(St->rF ρ)->rF ρ
 |[],_,_,S,K=>K S
 |o::os,i,nid,S,K =>
  let nid':=bif Ā E.clone o.op then nid+1 else nid
  match o.guard with
  |none=>jQ E call fid (path++[i]) a S nid o fun v S=>aeJ E call fid path a all os (i+1) nid' {t:=ò S.t o.dst v,h:=S.h} K
  |some (j,want)=>match lk S.t (oX all j) with
   |.bool b=>match b with
    |true=>match want with
     |true=>jQ E call fid (path++[i]) a {t:=upd S.t (oX all j) (.bool true),h:=S.h} nid o fun v S=>aeJ E call fid path a all os (i+1) nid' {t:=ò S.t o.dst v,h:=S.h} K
     |false=>aeJ E call fid path a all os (i+1) nid' {t:=ò (upd S.t (oX all j) (.bool true)) o.dst .und,h:=S.h} K
    |false=>match want with
     |false=>jQ E call fid (path++[i]) a {t:=upd S.t (oX all j) (.bool false),h:=S.h} nid o fun v S=>aeJ E call fid path a all os (i+1) nid' {t:=ò S.t o.dst v,h:=S.h} K
     |true=>aeJ E call fid path a all os (i+1) nid' {t:=ò (upd S.t (oX all j) (.bool false)) o.dst .und,h:=S.h} K
   |.und=>aeJ E call fid path a all os (i+1) nid' {t:=ò S.t o.dst .und,h:=S.h} K
   |_=>none
def Bk (E:Env ρ) (S:St) (o:Op):rT Nat :=
 match Nat.ble 1 (cls E o) with
 |true=>o.operands.toList.flatMap fun x=>refs2 S.h (ev S.t x)
 |false=>[]
def disj:rT Nat->rT Nat->Bool
 |[],_=>true
 |x::l,m=>!m.any (fun y=>Nat.beq y x)&&disj l m
def Ex (E:Env ρ) (all:rT Oper) (c:rT Nat) (j i:Nat) (d e:rT Nat):Bool :=
 disj d e||match all[j]?,all[i]? with
 |some a,some b=>!CX E a.op b.op||((c.getD j 0).testBit i||(c.getD i 0).testBit j)
 |_,_=>false
def chk (E:Env ρ) (all:rT Oper) (a:rT Nat) (acc:rT (Nat×rT Nat)) (i:Nat) (F:rT Nat):Bool :=
 acc.all fun p=>Ex E all a p.1 i p.2 F
def ahc (E:Env ρ) (call:rT Nat->Bool->Nat->rT AV->rT Blk->(AV->rT Blk->rF ρ)->rF ρ) (fid:Nat) (path:rT Nat) (all:rT Oper) (a:rT Nat):rT Oper->Nat->Nat->rT (Nat×rT Nat)->St->(St->rF ρ)->rF ρ
 |[],_,_,_,S,K=>K S
 |o::os,i,nid,acc,S,K =>
  let nid':=bif Ā E.clone o.op then nid+1 else nid
  match o.guard with
  |none=>match chk E all a acc i (Bk E S o.op) with
   |true=>jQ E call fid (path++[i]) true S nid o fun v c=>ahc E call fid path all a os (i+1) nid' ((i,Bk E S o.op)::acc) {t:=ò c.t o.dst v,h:=c.h} K
   |false=>none
  |some (j,want)=>match lk S.t (oX all j) with
   |.bool b=>match b with
    |true=>match want with
     |true=>match chk E all a acc i (Bk E S o.op) with
      |true=>jQ E call fid (path++[i]) true {t:=upd S.t (oX all j) (.bool true),h:=S.h} nid o fun v c=>ahc E call fid path all a os (i+1) nid' ((i,Bk E S o.op)::acc) {t:=ò c.t o.dst v,h:=c.h} K
      |false=>none
     |false=>ahc E call fid path all a os (i+1) nid' ((i,[])::acc) {t:=ò (upd S.t (oX all j) (.bool true)) o.dst .und,h:=S.h} K
    |false=>match want with
     |false=>match chk E all a acc i (Bk E S o.op) with
      |true=>jQ E call fid (path++[i]) true {t:=upd S.t (oX all j) (.bool false),h:=S.h} nid o fun v c=>ahc E call fid path all a os (i+1) nid' ((i,Bk E S o.op)::acc) {t:=ò c.t o.dst v,h:=c.h} K
      |false=>none
     |true=>ahc E call fid path all a os (i+1) nid' ((i,[])::acc) {t:=ò (upd S.t (oX all j) (.bool false)) o.dst .und,h:=S.h} K
   |.und=>ahc E call fid path all a os (i+1) nid' ((i,[])::acc) {t:=ò S.t o.dst .und,h:=S.h} K
   |_=>none
def ο (clone:Nat->Bool):rT Oper->Nat
 |[]=>0
 |o::os=>bif Ā clone o.op then ο clone os+1 else ο clone os
def sj (all:rT Oper):rT Oper->Bool
 |[]=>true
 |o::os=>(match o.guard with
  |none=>true
  |some (j,_)=>match all[j]? with
   |some p=>p.dst.isSome
   |none=>false)&&sj all os
def MH (E:Env ρ) (call:rT Nat->Bool->Nat->rT AV->rT Blk->(AV->rT Blk->rF ρ)->rF ρ) (fid:Nat) (path:rT Nat) (b:Bool) (a:rT Oper) (S:St) (K:St->rF ρ):rF ρ :=
 match (b&&!aiT E a)||!sj a a with
 |true=>none
 |false=>match b with
  |true=>ahc E call fid path a (Ť a []) a 0 S.h.length [] {t:=S.t,h:=S.h++List.replicate (ο E.clone a) .dead} K
  |false=>aeJ E call fid path false a a 0 S.h.length {t:=S.t,h:=S.h++List.replicate (ο E.clone a) .dead} K
def aiA (v:AV) (k:AV->rF ρ):rF ρ :=
 AV.casesOn (motive_1:=fun _=>rF ρ) v (k .any) (k .und) (fun b=>k (.bool b)) (fun i n=>k (.int i n)) (fun s=>k (.str s)) (k .nils) (fun t xs=>k (.slc t xs)) (fun id g=>k (.own id g)) (fun id g lo n=>k (.sub id g lo n)) (k .nilm) (fun a b es=>k (.mp a b es)) (fun id=>k (.omp id)) (k .nilp) (fun id off=>k (.box id off)) (fun t x off=>k (.eptr t x off)) (fun id g i off=>k (.optr id g i off)) (k .nilfn) (k .yld) (fun b=>k (.ifc b)) (fun id=>k (.ofn id)) (fun id=>k (.oit id)) (fun f a b=>k (.fn f a b)) (fun cs=>k (.agg cs)) (fun vs=>k (.tup vs))
def adI (l:rT AV):(rT AV->rF ρ)->rF ρ:=List.rec (motive:=fun _=>(rT AV->rF ρ)->rF ρ) (fun k=>k []) (fun x _ a k=>aiA x fun y=>a fun ys=>k (y::ys)) l
def CQ:rT Blk->(rT Blk->rF ρ)->rF ρ
 |[],k=>k []
 |x::xs,k=>match x with
  |.dead=>CQ xs fun ys=>k (.dead::ys)
  |.cells cs=>adI cs fun cs=>CQ xs fun ys=>k (.cells cs::ys)
  |.row t g fz es=>CQ xs fun ys=>k (.row t g fz es::ys)
  |.map a b es=>CQ xs fun ys=>k (.map a b es::ys)
  |.acc t es=>CQ xs fun ys=>k (.acc t es::ys)
  |.fns es=>CQ xs fun ys=>k (.fns es::ys)
  |.iter s p=>CQ xs fun ys=>k (.iter s p::ys)
def aiC (S:St) (k:St->rF ρ):rF ρ:=adI S.t fun t=>CQ S.h fun h=>k {t:=t,h:=h}
def aiz (v:AV) (k:AV->rF ρ):aiA v k=k v:=by cases v<;>rfl
def PY:∀(l:rT AV) (k:rT AV->rF ρ),adI l k=k l
 |[],_=>rfl
 |x::xs,k=>by show aiA x (fun y=>adI xs fun ys=>k (y::ys))=_; rw[aiz,PY xs]
def ZE:∀(l:rT Blk) (k:rT Blk->rF ρ),CQ l k=k l
 |[],_=>rfl
 |x::xs,k=>by cases x<;>simp only[CQ,PY]<;>rw[ZE xs]
def aiB (S:St) (k:St->rF ρ):aiC S k=k S:=by
 unfold aiC; rw[PY,ZE]
def aiE (E:Env ρ) (S:St) (k:St->rF ρ):rF ρ:=match E.lazy with
 |true=>k S
 |false=>aiC S k
def aiD (E:Env ρ) (S:St) (k:St->rF ρ):aiE E S k=k S:=by
 unfold aiE; cases E.lazy with
 |true=>rfl
 |false=>exact aiB S k
def PQ:Code->Nat
 |.region rid _ _=>rid+1
 |.seq a _=>PQ a
 |.block _ b=>PQ b
 |.loop b=>PQ b
 |_=>0
def goC (E:Env ρ) (call:rT Nat->Bool->Nat->rT AV->rT Blk->(AV->rT Blk->rF ρ)->rF ρ) (fid:Nat) (path:rT Nat) (m:Nat):Nat->Code->St->(Exit->St->rF ρ)->rF ρ
 |_,.skip,S,K=>K .normal S
 |_,.region rid ops draw,S,K=>MH E call fid (path++[rid]) draw ops.toList S fun S=>aiE E S (K .normal)
 |bid,.seq a b,S,K=>match E.joins path fid (PQ b) m with
  |none=>goC E call fid path m bid a S fun e S=>match e with
   |.normal=>goC E call fid path m bid b S K
   |e=>K e S
  |some J=>J (fun k=>goC E call fid path m bid a S fun e S=>match e with
   |.normal=>k S
   |e=>K e S) (fun S=>goC E call fid path m bid b S K)
 |bid,.cond c a b,S,K=>match ev S.t c with
  |.bool x=>match x with
   |true=>goC E call fid path m bid a S K
   |false=>goC E call fid path m bid b S K
  |_=>none
 |_,.block id b,S,K=>goC E call fid path m id b S fun e S=>match e with
  |.exit j=>match j==id with
   |true=>K .normal S
   |false=>K (.exit j) S
  |e=>K e S
 |bid,.loop _,S,K=>E.loops path fid bid m S K
 |bid,.rangeFunc g _ _ _,S,K=>E.ranges path fid bid m (ev S.t g) S K
 |bid,.scope c,S,K=>goC E call fid path m bid c S fun e S=>match e with
  |.goto _=>none
  |e=>K e S
 |_,.exit id,S,K=>K (.exit id) S
 |_,.ret,S,K=>K .ret S
 |_,.label _,S,K=>K .normal S
 |_,_,_,_=>none
def su (E:Env ρ) (call:rT Nat->Bool->Nat->rT AV->rT Blk->(AV->rT Blk->rF ρ)->rF ρ) (path:rT Nat) (f:Nat) (a:rT AV) (h:rT Blk) (K:AV->rT Blk->rF ρ):rF ρ :=
 E.wp fun P=>match P.funcs[f]? with
 |some fn=>match fn.body with
  |some c=>goC E call f path h.length 0 c {t:=a++List.replicate (fn.ntmps-a.length) .any,h:=h} fun e S=>match e with
   |.normal=>match mQ P fn S with
    |some v=>K v S.h
    |none=>none
   |.ret=>match mQ P fn S with
    |some v=>K v S.h
    |none=>none
   |_=>none
  |none=>none
 |none=>none
def afF (E:Env ρ) (call:rT Nat->Bool->Nat->rT AV->rT Blk->(AV->rT Blk->rF ρ)->rF ρ) (path:rT Nat) (f:Nat) (a:rT AV) (h:rT Blk) (K:AV->rT Blk->rF ρ):su E call path f a h K=(
 match E.P.funcs[f]? with
 |some fn=>match fn.body with
  |some c=>goC E call f path h.length 0 c {t:=a++List.replicate (fn.ntmps-a.length) .any,h:=h} fun e S=>match e with
   |.normal=>match mQ E.P fn S with
    |some v=>K v S.h
    |none=>none
   |.ret=>match mQ E.P fn S with
    |some v=>K v S.h
    |none=>none
   |_=>none
  |none=>none
 |none=>none):=by unfold su; simp only[E.wp_eq]
def Ğ (E:Env ρ):Nat->rT Nat->Bool->Nat->rT AV->rT Blk->(AV->rT Blk->rF ρ)->rF ρ
 |0,_,_,_,_,_,_=>none
 |n+1,path,draw,f,args,h,K=>match E.pure f with
  |some g=>Vd (draw&&!E.fz f) g h args K
  |none=>match E.sort f with
   |true=>match args with
    |[x]=>U8 h x K
    |_=>none
   |false=>match E.compact f with
   |true=>match args with
    |[x]=>o9 h x K
    |_=>none
   |false=>match E.ext f with
    |some X=>X h args K
    |none=>match E.inl f with
     |true=>match E.stop path f with
      |true=>none
      |false=>su E (Ğ E n) path f args h K
     |false=>none
def topK (E:Env ρ) (f:Nat) (a:rT AV) (K:rT Blk->AV->rF ρ):rF ρ :=
 su E (Ğ E 10) [] f a [] fun v h=>K h v
def HL (p:ì) (E:Env (Val (tyL p.rs))) (f:Nat):Prop :=
 ∀x:Val (tyL p.ts),topK E f (abK p.ts x) (amY p.rs)=p.F x
def iter {τ:Type} (f:τ->(τ->rF ρ)->rF ρ):Nat->τ->rF ρ
 |0,_=>none
 |n+1,x=>f x (iter f n)
class LC where
 lp:{ρ τ:Type}->(τ->(τ->rF ρ)->rF ρ)->τ->rF ρ
 ok:∀{ρ τ:Type} {f:τ->(τ->rF ρ)->rF ρ} {x:τ} {r:ρ},lp f x=some r->∃n,iter f n x=some r
def Ê [L:LC] {τ:Type} (f:τ->(τ->rF ρ)->rF ρ) (x:τ):rF ρ:=L.lp f x
def afi [LC] {τ:Type} {f:τ->(τ->rF ρ)->rF ρ} {x:τ} {r:ρ} (h:Ê f x=some r):∃n,iter f n x=some r:=LC.ok h
open Classical in
def limT {τ:Type} (f:τ->(τ->rF ρ)->rF ρ) (x:τ):rF ρ :=
 if h:∃r:rF ρ,∃N,∀n,N<=n->iter f n x=r then Classical.choose h else none
instance lcT:LC:=⟨limT,fun {_ _ _ _ _} h=>by
 unfold limT at h
 split at h
 ·rename_i a;obtain⟨M,b⟩:=Classical.choose_spec a;exact⟨M,by rw[b M (du _),h]⟩
 ·cases h⟩
@[reducible] noncomputable def lcN (n:Nat):LC:=⟨fun {ρ τ} f=>Nat.rec (motive:=fun _=>τ->rF ρ) (fun _=>none) (fun _ a x=>f x a) n,fun {ρ τ f x r} h=>⟨n,by
 rw[<-h]; clear h
 induction n generalizing x with
 |zero=>rfl
 |succ n a=>exact congrArg (f x) (funext fun y=>a)⟩⟩
def alf {τ:Type} {f:τ->(τ->rF ρ)->rF ρ} {x:τ} {r:rF ρ} (N:Nat) (h:∀n,N<=n->iter f n x=r):Ê f x=r:=by
 have a:∃r:rF ρ,∃N,∀n,N<=n->iter f n x=r:=⟨r,N,h⟩;show limT f x=r;unfold limT;rw[dif_pos a];obtain⟨M,b⟩:=Classical.choose_spec a;rw[<-b (max M N) (Nat.le_max_left _ _),h _ (Nat.le_max_right _ _)]
def U3 (body:St->(Exit->St->rF ρ)->rF ρ):Nat->St->(Exit->St->rF ρ)->rF ρ
 |0,_,_=>none
 |n+1,S,K=>body S fun e S=>match e with
  |.normal=>U3 body n S K
  |e=>K e S
def GZ {α β:Type} (f:α->β->(α->rF ρ)->rF ρ):rT β->α->(α->rF ρ)->rF ρ
 |[],v,k=>k v
 |x::xs,v,k=>f v x fun a=>GZ f xs a k
inductive LI where
 |lp (b:Code)
 |rf (g:Operand) (ps:Array Tmp) (a b:Code)
def Ø:Nat->Code->rT (Nat×LI)
 |bid,.seq a b=>Ø bid a++Ø bid b
 |bid,.cond _ a b=>Ø bid a++Ø bid b
 |_,.block id b=>Ø id b
 |bid,.loop b=>(bid,.lp b)::Ø bid b
 |bid,.scope b=>Ø bid b
 |bid,.rangeFunc g ps a b=>(bid,.rf g ps a b)::(Ø bid a++Ø bid b)
 |_,_=>[]
def LI.loops (bid:Nat):LI->rT (Nat×LI)
 |.lp b=>Ø bid b
 |.rf _ _ a b=>Ø bid a++Ø bid b
def iw (c:rF Code) (bid:Nat):LI :=
 match c with
 |some c=>match (Ø 0 c).find? (fun x=>x.1==bid) with
  |some x=>x.2
  |none=>.lp .skip
 |none=>.lp .skip
def ov (c:rF Code) (bid:Nat):Code :=
 match iw c bid with
 |.lp b=>b
 |.rf _ _ a b=>.seq a b
structure DV where
 ty:Ty
 val:Val ty
def Qu (t:Ty) (d:DV):rF (Val t) :=
 match decEq d.ty t with
 |isTrue h=>some (uQ (F:=Val) h d.val)
 |isFalse _=>none
def aeq:(l:rT Ty)->(t:Ty)->rT DV->rF (Val (tys t l))
 |[],t,ds=>match ds with
  |[]=>none
  |d::ds=>match ds with
   |[]=>Qu t d
   |_::_=>none
 |u::l,t,ds=>match ds with
  |[]=>none
  |d::ds=>match Qu t d with
   |some x=>match aeq l u ds with
    |some y=>some ((x,y):Val t×Val (tys u l))
    |none=>none
   |none=>none
def amM (l:rT Ty) (a:rT DV):rF (Val (tyL l)) :=
 match l with
 |[]=>match a with
  |[]=>some ()
  |_::_=>none
 |t::l=>aeq l t a
def aeM:(t:Ty)->(l:rT Ty)->Val (tys t l)->rT DV
 |t,[],x=>[⟨t,x⟩]
 |t,u::l,x=>⟨t,(x:Val t×Val (tys u l)).1⟩::aeM u l (x:Val t×Val (tys u l)).2
def aa5:(l:rT Ty)->Val (tyL l)->rT DV
 |[],_=>[]
 |t::l,x=>aeM t l x
inductive Pat where
 |any
 |con (t:Ty)
 |var (t:Ty)
 |own (i:Nat)
 |omp (i:Nat)
 |box (i off:Nat)
 |nils
 |nilp
 |nilfn
 |yld
 |fn (f:Nat) (caps:List (Nat×Nat))
 |fnd (f:Nat) (ts:List Ty)
 |ofn (i:Nat)
 |oit (i:Nat)
inductive Χ where
 |dead
 |cells (ps:List Pat)
 |rowc (t:Ty)
 |rowf (t:Ty) (g:Nat)
 |rowv (t:Ty)
 |mapc (k v:Ty)
 |mapv (k v:Ty)
 |acc (t:Ty)
 |fns (es:List (ByteArray×Nat×List (Nat×Nat)))
 |itr
def aN:Nat->rT Pat->rT Pat
 |0,l=>l
 |n+1,l=>.any::aN n l
structure Tpl where
 n:Nat
 slots:rT Pat
 heap:rT Χ
inductive Bd where
 |open_
 |new
 |at_ (id:Nat)
structure Mt where
 bd:rT Bd
 cons:rT DV
 vars:rT DV
 freed:rT Nat
def jN:rT Bd->Nat->rF Bd
 |[],_=>none
 |x::_,0=>some x
 |_::xs,n+1=>jN xs n
def Mu:rT Bd->Nat->Bd->rT Bd
 |[],_,_=>[]
 |_::xs,0,v=>v::xs
 |x::xs,n+1,v=>x::Mu xs n v
def Ki (M:Mt) (i id:Nat):rF Mt :=
 match jN M.bd i with
 |some .open_=>some {M with bd:=Mu M.bd i (.at_ id)}
 |some (.at_ id')=>match id'==id with
  |true=>some M
  |false=>none
 |_=>none
def ab5 (M:Mt) (i:Nat):rF Mt :=
 match jN M.bd i with
 |some .open_=>some {M with bd:=Mu M.bd i .new}
 |_=>none
def Uq (h:rT Blk):AV->rT Nat
 |.own id _=>match lkB h id with
  |.row _ _ false _=>[id]
  |_=>[]
 |.sub id _ _ _=>match lkB h id with
  |.row _ _ false _=>[id]
  |_=>[]
 |.omp id=>[id]
 |_=>[]
def tr (h:rT Blk):rT (Nat×Nat)->rT AV->Mt->rF Mt
 |[],[],M=>some M
 |(i,o)::ps,.box id off::vs,M=>match o==off with
  |true=>match lkB h id with
   |.cells _=>match Ki M i id with
    |some M=>tr h ps vs M
    |none=>none
   |_=>none
  |false=>none
 |_,_,_=>none
def LZ (h:rT Blk):rT (ByteArray×Nat×rT (Nat×Nat))->rT (ByteArray×AV)->Mt->rF Mt
 |[],[],M=>some M
 |p::es,e::es',M=>match e.2 with
  |.fn (.func f) [] vs=>match aaP p.1 e.1&&Nat.beq p.2.1 f with
   |true=>match tr h p.2.2 vs M with
    |some M=>LZ h es es' M
    |none=>none
   |false=>none
  |_=>none
 |_,_,_=>none
def xJ:rT Ty->rT AV->Mt->rF Mt
 |[],[],M=>some M
 |t::ts,.eptr t' x o::vs,M=>match Nat.beq o 0 with
  |true=>match decEq t' t with
   |isTrue _=>xJ ts vs {M with cons:=M.cons++[⟨.ptr t',x⟩]}
   |isFalse _=>none
  |false=>none
 |_,_,_=>none
def Š (h:rT Blk) (p:Pat) (v:AV) (M:Mt):rF Mt :=
 match p with
 |.any=>some M
 |.con t=>match Ü t [ñ h v] with
  |some x=>some {M with cons:=M.cons++[⟨t,x⟩],freed:=Uq h v++M.freed}
  |none=>none
 |.var t=>match Ü t [ñ h v] with
  |some x=>some {M with vars:=M.vars++[⟨t,x⟩],freed:=Uq h v++M.freed}
  |none=>none
 |.own i=>match v with
  |.own id g=>match lkB h id with
   |.row _ g' false _=>match g==g' with
    |true=>Ki M i id
    |false=>none
   |_=>none
  |.nils=>ab5 M i
  |_=>none
 |.omp i=>match v with
  |.omp id=>match lkB h id with
   |.map _ _ _=>Ki M i id
   |_=>none
  |_=>none
 |.box i off=>match v with
  |.box id off'=>match off==off' with
   |true=>match lkB h id with
    |.cells _=>Ki M i id
    |_=>none
   |false=>none
  |_=>none
 |.nils=>match v with
  |.nils=>some M
  |_=>none
 |.nilp=>match v with
  |.nilp=>some M
  |_=>none
 |.nilfn=>match v with
  |.nilfn=>some M
  |_=>none
 |.yld=>match v with
  |.yld=>some M
  |_=>none
 |.fn f caps=>match v with
  |.fn (.func a) [] vs=>match f==a with
   |true=>tr h caps vs M
   |false=>none
  |_=>none
 |.fnd f ts=>match v with
  |.fn (.func a) [] vs=>match f==a with
   |true=>xJ ts vs M
   |false=>none
  |_=>none
 |.ofn i=>match v with
  |.ofn id=>match lkB h id with
   |.fns _=>Ki M i id
   |_=>none
  |_=>none
 |.oit i=>match v with
  |.oit id=>match lkB h id with
   |.iter _ _=>Ki M i id
   |_=>none
  |_=>none
def TD (h:rT Blk):rT Pat->rT AV->Mt->rF Mt
 |[],_,M=>some M
 |p::ps,vs,M=>match Š h p (lk vs 0) M with
  |some M=>TD h ps vs.tail M
  |none=>none
def pq (h:rT Blk):rT Pat->rT AV->Mt->rF Mt
 |[],[],M=>some M
 |p::ps,v::vs,M=>match Š h p v M with
  |some M=>pq h ps vs M
  |none=>none
 |_,_,_=>none
def Ĺ (h:rT Blk) (p:Χ) (i:Nat) (M:Mt):rF Mt :=
 match p with
 |.dead=>match jN M.bd i with
  |some (.at_ id)=>match lkB h id with
   |.dead=>some M
   |_=>none
  |_=>none
 |.cells ps=>match jN M.bd i with
  |some (.at_ id)=>match lkB h id with
   |.cells cs=>pq h ps cs M
   |_=>none
  |_=>none
 |.rowc t=>match jN M.bd i with
  |some (.at_ id)=>match lkB h id with
   |.row t' _ false xs=>match decEq t' t with
    |isTrue _=>some {M with cons:=M.cons++[⟨.slice t',xs⟩]}
    |isFalse _=>none
   |_=>none
  |some .new=>some {M with cons:=M.cons++[⟨.slice t,[]⟩]}
  |_=>none
 |.rowf t g=>match jN M.bd i with
  |some (.at_ id)=>match lkB h id with
   |.row t' g' true xs=>match decEq t' t with
    |isTrue _=>match decEq g' g with
     |isTrue _=>some {M with cons:=M.cons++[⟨.slice t',xs⟩]}
     |isFalse _=>none
    |isFalse _=>none
   |_=>none
  |_=>none
 |.rowv t=>match jN M.bd i with
  |some (.at_ id)=>match lkB h id with
   |.row t' _ false xs=>match decEq t' t with
    |isTrue _=>some {M with vars:=M.vars++[⟨.slice t',xs⟩]}
    |isFalse _=>none
   |_=>none
  |some .new=>some {M with vars:=M.vars++[⟨.slice t,[]⟩]}
  |_=>none
 |.mapc k v=>match jN M.bd i with
  |some (.at_ id)=>match lkB h id with
   |.map b a es=>match decEq (Ty.map b a) (Ty.map k v) with
    |isTrue _=>some {M with cons:=M.cons++[⟨.map b a,es⟩]}
    |isFalse _=>none
   |_=>none
  |_=>none
 |.mapv k v=>match jN M.bd i with
  |some (.at_ id)=>match lkB h id with
   |.map b a es=>match decEq (Ty.map b a) (Ty.map k v) with
    |isTrue _=>some {M with vars:=M.vars++[⟨.map b a,es⟩]}
    |isFalse _=>none
   |_=>none
  |_=>none
 |.fns es=>match jN M.bd i with
  |some (.at_ id)=>match lkB h id with
   |.fns es'=>LZ h es es' M
   |_=>none
  |_=>none
 |.itr=>match jN M.bd i with
  |some (.at_ id)=>match lkB h id with
   |.iter s q=>some {M with vars:=M.vars++[⟨.pair .str (.int .i64),(s,q)⟩]}
   |_=>none
  |_=>none
 |.acc t=>match jN M.bd i with
  |some (.at_ id)=>match lkB h id with
   |.acc t' xs=>match decEq t' t with
    |isTrue _=>some {M with vars:=M.vars++[⟨.slice t',xs⟩]}
    |isFalse _=>none
   |_=>none
  |_=>none
def Ju (h:rT Blk):rT Χ->Nat->Mt->rF Mt
 |[],_,M=>some M
 |p::ps,i,M=>match Ĺ h p i M with
  |some M=>Ju h ps (i+1) M
  |none=>none
def C4 (pin:Nat) (n:Nat):rT Bd:=(List.range n).map fun i=>bif i<pin then .at_ i else .open_
def Lz:rT Bd->rT Nat
 |[]=>[]
 |.at_ id::l=>id::Lz l
 |_::l=>Lz l
def distinct:rT Nat->Bool
 |[]=>true
 |x::l=>!l.contains x&&distinct l
def alp (h:rT Blk):Nat->Bool
 |0=>true
 |i+1=>match lkB h i with
  |.row _ (_+1) false _=>false
  |_=>alp h i
def tq (T:Tpl) (pin:Nat) (cs vs:rT Ty) (S:St):rF (Val (tyL cs)×Val (tyL vs)) :=
 match decide (pin<=T.heap.length)&&(decide (T.slots.length<=T.n)&&(decide (T.n<=S.t.length)&&alp S.h pin)) with
 |true=>match TD S.h T.slots S.t {bd:=C4 pin T.heap.length,cons:=[],vars:=[],freed:=[]} with
  |some M=>match Ju S.h T.heap 0 M with
   |some M=>match distinct (Lz M.bd)&&M.freed.all (fun i=>!(Lz M.bd).contains i) with
    |true=>match amM cs M.cons,amM vs M.vars with
     |some p,some v=>some (p,v)
     |_,_=>none
    |false=>none
   |none=>none
  |none=>none
 |false=>none
structure It where
 cons:rT DV
 vars:rT DV
def afG:DV->AV
 |⟨.unit,_⟩=>.any
 |⟨.pair _ _,_⟩=>.any
 |⟨t,x⟩=>enc t x
def Ax:rT Ty->It->rT AV×It
 |[],I=>([],I)
 |_::ts,I=>match I.cons with
  |d::ds=>match Ax ts {I with cons:=ds} with
   |(vs,I)=>(afG d::vs,I)
  |[]=>match Ax ts I with
   |(vs,I)=>(.any::vs,I)
def sR (p:Pat) (I:It):AV×It :=
 match p with
 |.any=>(.any,I)
 |.con _=>match I.cons with
  |d::ds=>(afG d,{I with cons:=ds})
  |[]=>(.any,I)
 |.var _=>match I.vars with
  |d::ds=>(afG d,{I with vars:=ds})
  |[]=>(.any,I)
 |.own i=>(.own i 0,I)
 |.omp i=>(.omp i,I)
 |.box i off=>(.box i off,I)
 |.nils=>(.nils,I)
 |.nilp=>(.nilp,I)
 |.nilfn=>(.nilfn,I)
 |.yld=>(.yld,I)
 |.ofn i=>(.ofn i,I)
 |.oit i=>(.oit i,I)
 |.fn f caps=>(.fn (.func f) [] (caps.map fun c=>.box c.1 c.2),I)
 |.fnd f ts=>match Ax ts I with
  |(vs,I)=>(.fn (.func f) [] vs,I)
def IG:rT Pat->It->rT AV×It
 |[],I=>([],I)
 |p::ps,I=>match sR p I with
  |(v,I)=>match IG ps I with
   |(vs,I)=>(v::vs,I)
def rowDV:DV->Blk
 |⟨.slice t,xs⟩=>.row t 0 false xs
 |_=>.dead
def rowFz (g:Nat):DV->Blk
 |⟨.slice t,xs⟩=>.row t g true xs
 |_=>.dead
def accDV:DV->Blk
 |⟨.slice t,xs⟩=>.acc t xs
 |_=>.dead
def itrDV:DV->Blk
 |⟨.pair .str (.int .i64),x⟩=>.iter x.1 x.2
 |_=>.dead
def mapDV:DV->Blk
 |⟨.map k v,es⟩=>.map k v es
 |_=>.dead
def xh (p:Χ) (I:It):Blk×It :=
 match p with
 |.dead=>(.dead,I)
 |.cells ps=>match IG ps I with
  |(cs,I)=>(.cells cs,I)
 |.rowc _=>match I.cons with
  |d::ds=>(rowDV d,{I with cons:=ds})
  |[]=>(.dead,I)
 |.rowf _ g=>match I.cons with
  |d::ds=>(rowFz g d,{I with cons:=ds})
  |[]=>(.dead,I)
 |.rowv _=>match I.vars with
  |d::ds=>(rowDV d,{I with vars:=ds})
  |[]=>(.dead,I)
 |.mapc _ _=>match I.cons with
  |d::ds=>(mapDV d,{I with cons:=ds})
  |[]=>(.dead,I)
 |.mapv _ _=>match I.vars with
  |d::ds=>(mapDV d,{I with vars:=ds})
  |[]=>(.dead,I)
 |.fns es=>(.fns (es.map fun e=>(e.1,.fn (.func e.2.1) [] (e.2.2.map fun c=>.box c.1 c.2))),I)
 |.acc _=>match I.vars with
  |d::ds=>(accDV d,{I with vars:=ds})
  |[]=>(.dead,I)
 |.itr=>match I.vars with
  |d::ds=>(itrDV d,{I with vars:=ds})
  |[]=>(.dead,I)
def D0:rT Χ->It->rT Blk×It
 |[],I=>([],I)
 |p::ps,I=>match xh p I with
  |(b,I)=>match D0 ps I with
   |(bs,I)=>(b::bs,I)
def à (T:Tpl) (cs vs:rT Ty) (p:Val (tyL cs)) (v:Val (tyL vs)):St :=
 match IG T.slots {cons:=aa5 cs p,vars:=aa5 vs v} with
 |(t,I)=>match D0 T.heap I with
  |(h,_)=>{t:=t++List.replicate (T.n-T.slots.length) .any,h:=h}
structure Å where
 pin:Nat
 cs:rT Ty
 vs:rT Ty
 head:Tpl
 exits:rT (Exit×Tpl×rT Ty)
 alt:Bool:=false
def Å.zs (L:Å) (i:Nat):rT Ty:=match L.exits[i]? with|some x=>x.2.2|none=>[]
def Å.tpl (L:Å) (i:Nat):Tpl:=match L.exits[i]? with|some x=>x.2.1|none=>⟨0,[],[]⟩
def Å.xk (L:Å) (i:Nat):Exit:=match L.exits[i]? with|some x=>x.1|none=>.normal
def LQ:Exit->Exit->Bool
 |.exit i,.exit j=>i==j
 |.ret,.ret=>true
 |_,_=>false
def alr:rT (Exit×Tpl×rT Ty)->Exit->Nat->rF Nat
 |[],_,_=>none
 |x::xs,e,i=>match LQ x.1 e with
  |true=>some i
  |false=>alr xs e (i+1)
def Em (L:Å) (b:Val (tyL L.cs)->Val (tyL L.vs)->rF ρ) (a:(i:Nat)->Val (tyL L.cs)->Val (tyL (L.zs i))->rF ρ) (e:Exit) (S:St):rF ρ :=
 match e with
 |.normal=>match tq L.head L.pin L.cs L.vs S with
  |some (p,v)=>b p v
  |none=>none
 |e=>match alr L.exits e 0 with
  |some i=>match tq (L.tpl i) L.pin L.cs (L.zs i) S with
   |some (p,z)=>a i p z
   |none=>none
  |none=>none
def fitsS (L:Å) (S:St):Bool:=match L.alt with
 |false=>true
 |true=>match tq L.head L.pin L.cs L.vs S with
  |some _=>true
  |none=>false
def aaT [LC] (L:Å) (bF:Val (tyL L.cs)->Val (tyL L.vs)->(Val (tyL L.vs)->rF ρ)->((i:Nat)->Val (tyL (L.zs i))->rF ρ)->rF ρ) (m:Nat) (S:St) (K:Exit->St->rF ρ):rF ρ :=
 match Nat.ble m L.pin with
 |true=>match tq L.head L.pin L.cs L.vs S with
  |some (p,v)=>Ê (fun v a=>bF p v a fun i z=>K (L.xk i) (à (L.tpl i) L.cs (L.zs i) p z)) v
  |none=>none
 |false=>none
end
end Go.Am
end

noncomputable section
namespace Go.Am
def ÿ {α β:Type} (R:α->β->Prop):rT α->rT β->Prop
 |[],[]=>True
 |a::l,b::m=>R a b/\ÿ R l m
 |_,_=>False
section
variable {α β:Type} {R R':α->β->Prop}
def ÿ.length:∀{l:rT α} {m:rT β},ÿ R l m->l.length=m.length
 |[],[],_=>rfl
 |_::_,_::_,h=>by simp[ÿ.length h.2]
 |[],_::_,h=>h.elim
 |_::_,[],h=>h.elim
def ÿ.mono (c:∀a b,R a b->R' a b):∀{l:rT α} {m:rT β},ÿ R l m->ÿ R' l m
 |[],[],_=>trivial
 |_::_,_::_,h=>⟨c _ _ h.1,ÿ.mono c h.2⟩
 |[],_::_,h=>h.elim
 |_::_,[],h=>h.elim
def ÿ.append:∀{l:rT α} {m:rT β} {b:rT α} {a:rT β},ÿ R l m->ÿ R b a->ÿ R (l++b) (m++a)
 |[],[],_,_,_,h=>h
 |_::_,_::_,_,_,h,h'=>⟨h.1,ÿ.append h.2 h'⟩
 |[],_::_,_,_,h,_=>h.elim
 |_::_,[],_,_,h,_=>h.elim
def ÿ.get:∀{l:rT α} {m:rT β},ÿ R l m->∀{i:Nat} {a:α},l[i]?=some a->∃b,m[i]?=some b/\R a b
 |[],[],_,_,_,h=>by simp at h
 |_::_,b::_,h,0,_,e=>by simp at e; subst e; exact⟨b,by simp,h.1⟩
 |_::_,_::_,h,i+1,_,e=>by simpa using ÿ.get h.2 (by simpa using e)
 |[],_::_,h,_,_,_=>h.elim
 |_::_,[],h,_,_,_=>h.elim
def ÿ.take:∀{l:rT α} {m:rT β} (n:Nat),ÿ R l m->ÿ R (l.take n) (m.take n)
 |_,_,0,_=>by simp[ÿ]
 |[],[],_+1,_=>by simp[ÿ]
 |_::_,_::_,n+1,h=>by simpa using⟨h.1,ÿ.take n h.2⟩
 |[],_::_,_+1,h=>h.elim
 |_::_,[],_+1,h=>h.elim
def ÿ.drop:∀{l:rT α} {m:rT β} (n:Nat),ÿ R l m->ÿ R (l.drop n) (m.drop n)
 |_,_,0,h=>by simpa using h
 |[],[],_+1,_=>by simp[ÿ]
 |_::_,_::_,n+1,h=>by simpa using ÿ.drop n h.2
 |[],_::_,_+1,h=>h.elim
 |_::_,[],_+1,h=>h.elim
def ÿ.of_get:∀{l:rT α} {m:rT β},l.length=m.length->(∀(i:Nat) (a:α) (b:β),l[i]?=some a->m[i]?=some b->R a b)->ÿ R l m
 |[],[],_,_=>trivial
 |a::l,b::m,c,h=>⟨h 0 a b (by simp) (by simp),ÿ.of_get (by simpa using c) fun i x y e d=>h (i+1) x y (by simpa using e) (by simpa using d)⟩
 |[],_::_,c,_=>by simp at c
 |_::_,[],c,_=>by simp at c
def ÿ.nil_left {m:rT β} (h:ÿ R [] m):m=[]:=by cases m with|nil=>rfl|cons=>exact h.elim
def ÿ.one {a:α} {m:rT β} (h:ÿ R [a] m):∃b,m=[b]/\R a b:=by
 cases m with
 |nil=>exact h.elim
 |cons b m=>exact⟨b,by rw[ÿ.nil_left h.2],h.1⟩
def ÿ.split:∀{l c:rT α} {m:rT β},ÿ R (l++c) m->∃u v,m=u++v/\ÿ R l u/\ÿ R c v
 |[],_,m,h=>⟨[],m,by simp,trivial,h⟩
 |a::l,c,b::m,h=>by
  obtain⟨u,v,rfl,d,h2⟩:=ÿ.split (l:=l) h.2;exact⟨b::u,v,by simp,⟨h.1,d⟩,h2⟩
 |_::_,_,[],h=>h.elim
def ÿ.map_left {γ:Type} {f:γ->α}:∀{l:rT γ} {m:rT β},ÿ (fun c b=>R (f c) b) l m->ÿ R (l.map f) m
 |[],[],_=>trivial
 |_::_,_::_,h=>⟨h.1,ÿ.map_left h.2⟩
 |[],_::_,h=>h.elim
 |_::_,[],h=>h.elim
end
def CellsAt (w:World) (b off:Nat) (vs:rT Value):Prop:=∀j v,vs[j]?=some v->w.cell? ⟨b,off+j,none⟩=some v
def xj (t:Ty) (vs:rT Value):Value :=
 match t.isAgg with
 |true=>.agg vs.toArray
 |false=>vs.headD undef
def CR (w:World) (av:Nat->Prop):(t:Ty)->Val t->rT Value->Prop
 |.unit,_,vs=>vs=[]
 |.bool,b,vs=>vs=[.bool b]
 |.int k,n,vs=>vs=[.int k n]
 |.str,s,vs=>vs=[.string s]
 |.slice t,xs,vs=>∃base cap,vs=[.slice base (xs:rT (Val t)).length cap]/\(xs:rT (Val t)).length<=cap /\
    ((xs : rT (Val t)) = [] \/ ∃ b off, base = some ⟨b, off, none⟩ /\ ¬ av b /\ b < w.heap.size /\
      ∀i x,(xs:rT (Val t))[i]?=some x->∃us,CR w av t x us/\CellsAt w b (off+i*t.size) us)
 |.map k v,es,vs=>∃r,vs=[.map r]/\((r=none/\(es:rT (Val k×Val v))=[]) \/
    ∃(b:Nat) (c:Array MapEntry) (d:Nat),r=some b/\¬av b/\w.heap[b]?=some (.map c d)/\c.size=(es:rT (Val k×Val v)).length /\
     ∀(i:Nat) (e:Val k×Val v),(es:rT (Val k×Val v))[i]?=some e->∃(m:MapEntry) (us:rT Value),c[i]?=some m/\CR w av k e.1 [m.key]/\CR w av v e.2 us/\m.val=xj v us)
 |.ptr t,x,vs=>∃b off us,vs=[.pointer (some ⟨b,off,none⟩)]/\¬av b/\b<w.heap.size/\CR w av t x us/\CellsAt w b off us
 |.pair a b,v,vs=>∃us ws,vs=us++ws/\CR w av a (v:Val a×Val b).1 us/\CR w av b (v:Val a×Val b).2 ws
def I9 (w:World) (av:Nat->Prop) (w':World) (a:Nat->Prop):Prop:=∀b,b<w.heap.size->¬av b->w'.heap[b]?=w.heap[b]?/\¬a b
def å {w:World} {b:Nat} {o:Obj} (h:w.heap[b]?=some o):b<w.heap.size:=by
 rcases dV b w.heap.size with h'|h'
 ·exact h'
 ·rw[Array.getElem?_eq_none h'] at h; cases h
def L1 {w w':World} {b:Nat} (h:b<w.heap.size) (e:w'.heap[b]?=w.heap[b]?):b<w'.heap.size:=by
 rw[Array.getElem?_eq_getElem h] at e;exact å e
def CellsAt.keep {w w':World} {b off:Nat} {vs:rT Value} (h:CellsAt w b off vs) (e:w'.heap[b]?=w.heap[b]?):CellsAt w' b off vs :=
 fun j v a=>by rw[World.cell?_of_block (w:=w) (by exact e)]; exact h j v a
def CR.keep {w w':World} {av l:Nat->Prop} (K:I9 w av w' l):∀{t:Ty} {x:Val t} {vs:rT Value},CR w av t x vs->CR w' l t x vs
 |.unit,_,_,h=>h
 |.bool,_,_,h=>h
 |.int _,_,_,h=>h
 |.str,_,_,h=>h
 |.slice t,xs,vs,h=>by
  obtain⟨base,cap,e,s,h⟩:=h;refine⟨base,cap,e,s,?_⟩;rcases h with h|⟨b,off,hb,d,c,h⟩
  ·exact .inl h
  ·obtain⟨g,j⟩:=K b c d;refine .inr ⟨b,off,hb,j,L1 c g,fun i x n=>?_⟩;obtain⟨us,f,h2⟩:=h i x n;exact⟨us,CR.keep K f,h2.keep g⟩
 |.map k v,es,vs,h=>by
  obtain⟨r,e,h⟩:=h;refine⟨r,e,?_⟩;rcases h with h|⟨b,entries,clock,q,d,o,p,h⟩
  ·exact .inl h
  ·obtain⟨g,j⟩:=K b (å o) d;refine .inr ⟨b,entries,clock,q,j,g.trans o,p,fun i x n=>?_⟩;obtain⟨m,us,f,h2,y,u⟩:=h i x n;exact⟨m,us,f,CR.keep K h2,CR.keep K y,u⟩
 |.ptr t,x,vs,h=>by
  obtain⟨b,off,us,e,d,c,f,h2⟩:=h;obtain⟨g,j⟩:=K b c d;exact⟨b,off,us,e,j,L1 c g,CR.keep K f,h2.keep g⟩
 |.pair a b,x,vs,h=>by
  obtain⟨us,ws,e,f,h2⟩:=h;exact⟨us,ws,e,CR.keep K f,CR.keep K h2⟩
def CR.length {w:World} {av:Nat->Prop}:∀{t:Ty} {x:Val t} {vs:rT Value},CR w av t x vs->vs.length=t.size
 |.unit,_,_,h=>by rw[h]; rfl
 |.bool,_,_,h=>by rw[h]; rfl
 |.int _,_,_,h=>by rw[h]; rfl
 |.str,_,_,h=>by rw[h]; rfl
 |.slice _,_,_,h=>by obtain⟨_,_,rfl,_⟩:=h; rfl
 |.map _ _,_,_,h=>by obtain⟨_,rfl,_⟩:=h; rfl
 |.ptr _,_,_,h=>by obtain⟨_,_,_,rfl,_⟩:=h; rfl
 |.pair a b,_,_,h=>by
  obtain⟨us,ws,rfl,c,h2⟩:=h;rw[dw,CR.length c,CR.length h2]; rfl
def aai:Value->rF Nat
 |.pointer (some a)=>some a.block
 |.slice (some a) _ _=>some a.block
 |.map (some r)=>some r
 |_=>none
@[reducible] def Ĭ:Value->Nat->Prop
 |.agg vs,b=>∃u∈vs.toList,aai u=some b
 |.pointer a,b=>aai (.pointer a)=some b
 |.slice a n c,b=>aai (.slice a n c)=some b
 |.map r,b=>aai (.map r)=some b
 |_,_=>False
def Blk.live:Blk->Bool
 |.dead=>false
 |.row _ _ fz _=>!fz
 |_=>true
def qD (ν:Nat->Value) (h:rT Blk) (b:Nat):Prop:=∃id,(lkB h id).live=true/\Ĭ (ν id) b
def LX:Obj->Bool
 |.cells _ _ _=>true
 |.map _ _=>true
 |.stringIter _ _=>true
 |_=>false
class Globs where
 n:Nat
 Φ:World->Prop
 keep:∀w w':World,Φ w->(∀b,b<n->w'.heap[b]?=w.heap[b]?)->Φ w'
 cel:∀w:World,Φ w->∀b,b<n->∃c e r,w.heap[b]?=some (.cells c e r)
variable [Globs]
def Globs.dat (w:World) (h:Globs.Φ w) (b:Nat) (hb:b<Globs.n):∃o,w.heap[b]?=some o/\LX o=true:=by
 obtain⟨c,e,r,h⟩:=Globs.cel w h b hb;exact⟨_,h,rfl⟩
structure StepJ (B:Nat) (O X:Nat->Prop) (w:World) (X':Nat->Prop) (w':World):Prop where
 os:w'.os=w.os
 tape:w'.tape=w.tape
 output:w'.output=w.output
 size:w.heap.size<=w'.heap.size
 av:∀b,b<w.heap.size->¬X b->¬X' b
 dat:∀(b:Nat) (o:Obj),w.heap[b]?=some o->LX o=true->(X b->O b)->w'.heap[b]?=some o
 nd:∀(b:Nat) (o:Obj),w.heap[b]?=some o->LX o=false->b<B->w'.heap[b]?=some o
 gl:Globs.Φ w->∀b,b<Globs.n->w'.heap[b]?=w.heap[b]?
class Ghost where
 G:Nat->Prop
 D:rT Deferred
 Q:rF Nat
 M:Nat
 L:Nat
 B:Nat
 T:Ty
 J:(O X:Nat->Prop)->rT (Val T)->World->Prop
 st:∀O X X' xs w w',J O X xs w->StepJ B O X w X' w'->J O X' xs w'
@[reducible] def Ghost.re (g:Ghost) (G:Nat->Prop) (D:rT Deferred) (Q:rF Nat) (M:Nat):Ghost:=⟨G,D,Q,M,g.L,g.B,g.T,g.J,g.st⟩
@[reducible] def Gh (G:Nat->Prop):Ghost:=⟨G,[],none,0,0,0,.unit,fun _ _ _ _=>False,fun _ _ _ _ _ _ h=>h.elim⟩
variable [Ghost]
def Av (ν:Nat->Value) (h:rT Blk) (b:Nat):Prop:=qD ν h b\/Ghost.G b
def VR0 (ν:Nat->Value) (h:rT Blk) (w:World):AV->Value->Prop
 |.any,_=>True
 |.und,v=>v=undef
 |.bool b,v=>v=.bool b
 |.int k n,v=>v=.int k n
 |.str s,v=>v=.string s
 |.nils,v=>v=.slice none 0 0
 |.slc t xs,v=>CR w (Av ν h) (.slice t) xs [v]
 |.own id g,v=>v.oneCell'=true/\∃t g' fz xs,lkB h id=.row t g' fz xs/\g<=g'/\(g=g'->v=ν id)
 |.sub id g lo n,v=>v.oneCell'=true/\∃t g' fz xs,lkB h id=.row t g' fz xs/\g<=g'/\(g=g'->lo+n<=xs.length/\∃base cap,ν id=.slice base xs.length cap/\v=.slice (if cap=lo then base else base.map (·.add (lo*t.size))) n (cap-lo))
 |.nilm,v=>v=.map none
 |.mp k e es,v=>CR w (Av ν h) (.map k e) es [v]
 |.omp id,v=>v.oneCell'=true/\∃k e es,lkB h id=.map k e es/\v=ν id
 |.nilp,v=>v=.pointer none
 |.box id off,v=>∃cs b,lkB h id=.cells cs/\ν id=.pointer (some ⟨b,0,none⟩)/\v=.pointer (some ⟨b,off,none⟩)
 |.eptr t x off,v=>∃b o us,v=.pointer (some ⟨b,o+off,none⟩)/\¬Av ν h b/\b<w.heap.size/\CR w (Av ν h) t x us/\CellsAt w b o us
 |.optr id g i off,v=>v.oneCell'=true/\∃t g' fz xs,lkB h id=.row t g' fz xs/\g<=g'/\(g=g'->i<xs.length/\∃b o cap,ν id=.slice (some ⟨b,o,none⟩) xs.length cap/\v=.pointer (some ⟨b,o+i*t.size+off,none⟩))
 |.nilfn,v=>v=.nilFunc
 |.yld,v=>v=.func (.yield Ghost.L) #[] #[]
 |.ifc b,v=>v.oneCell'=true/\(b=false->v=.nilIface)/\(b=true->∃t u,v=.iface t u)
 |.ofn id,v=>v.oneCell'=true/\∃es,lkB h id=.fns es/\v=ν id
 |.oit id,v=>v.oneCell'=true/\∃s q,lkB h id=.iter s q/\v=ν id
 |_,_=>False
def VR1 (ν:Nat->Value) (h:rT Blk) (w:World):AV->Value->Prop
 |.fn f first caps,v=>∃fs cs,v=.func f fs cs/\ÿ (VR0 ν h w) first fs.toList/\ÿ (VR0 ν h w) caps cs.toList
 |a,v=>VR0 ν h w a v
def VRc (ν:Nat->Value) (h:rT Blk) (w:World) (a:AV) (v:Value):Prop:=VR1 ν h w a v/\v.oneCell'=true
def VR2 (ν:Nat->Value) (h:rT Blk) (w:World):AV->Value->Prop
 |.agg cs,v=>∃vs,v=.agg vs/\ÿ (VRc ν h w) cs vs.toList
 |a,v=>VR1 ν h w a v
def VR (ν:Nat->Value) (h:rT Blk) (w:World):AV->Value->Prop
 |.tup as,v=>∃vs,v=.tuple vs/\ÿ (VR2 ν h w) as vs.toList
 |a,v=>VR2 ν h w a v
def AV.isFn:AV->Bool
 |.fn _ _ _=>true
 |_=>false
def AV.isAgg:AV->Bool
 |.agg _=>true
 |_=>false
def AV.isTup:AV->Bool
 |.tup _=>true
 |_=>false
def wU {ν:Nat->Value} {h:rT Blk} {w:World} {a:AV} {v:Value} (b:a.isFn=false):VR1 ν h w a v=VR0 ν h w a v:=by
 cases a<;>first|rfl|cases b
def zU {ν:Nat->Value} {h:rT Blk} {w:World} {a:AV} {v:Value} (b:a.isAgg=false):VR2 ν h w a v=VR1 ν h w a v:=by
 cases a<;>first|rfl|cases b
def vZ {ν:Nat->Value} {h:rT Blk} {w:World} {a:AV} {v:Value} (b:a.isTup=false):VR ν h w a v=VR2 ν h w a v:=by
 cases a<;>first|rfl|cases b
def BR (ν:Nat->Value) (h:rT Blk) (w:World) (id:Nat):Blk->Prop
 |.dead=>True
 |.cells cs=>∃b c e,ν id=.pointer (some ⟨b,0,none⟩)/\w.heap[b]?=some (.cells c e (0,0))/\ÿ (VRc ν h w) cs c.toList
 |.row t _ false xs=>∃base cap,ν id=.slice base xs.length cap/\xs.length<=cap /\
    ((base = none /\ cap = 0) \/ ∃ b off c e, base = some ⟨b, off, none⟩ /\ w.heap[b]? = some (.cells c e (0, 0)) /\ off + cap * t.size <= c.size /\
      ∀i x,xs[i]?=some x->∃us,CR w (Av ν h) t x us/\CellsAt w b (off+i*t.size) us)
 |.row t _ true xs=>CR w (Av ν h) (.slice t) xs [ν id]
 |.map k v es=>∃(b:Nat) (a:Array MapEntry) (d:Nat),ν id=.map (some b)/\w.heap[b]?=some (.map a d)/\a.size=(es:rT (Val k×Val v)).length /\
    ∀(i:Nat) (e:Val k×Val v),(es:rT (Val k×Val v))[i]?=some e->∃(m:MapEntry) (us:rT Value),a[i]?=some m/\CR w (Av ν h) k e.1 [m.key]/\CR w (Av ν h) v e.2 us/\m.val=xj v us
 |.fns es=>∃(b:Nat) (a:Array MapEntry) (d:Nat),ν id=.map (some b)/\w.heap[b]?=some (.map a d) /\
    ÿ (fun(e:ByteArray×AV) (m:MapEntry)=>m.key=.string e.1/\e.2.isFn=true/\VR1 ν h w e.2 m.val) es a.toList
 |.iter s q=>∃b,ν id=.pointer (some ⟨b,0,none⟩)/\w.heap[b]?=some (.stringIter s q.toNat)/\0<=q
 |.acc t xs=>∃us,ν id=.agg us/\(∀b,Ĭ (ν id) b->∃o,w.heap[b]?=some o/\LX o=true)/\∃e:t=Ghost.T,Ghost.J (Ĭ (ν id)) (Av ν h) (uQ (F:=fun t=>rT (Val t)) e xs) w
structure HR (ν:Nat->Value) (h:rT Blk) (w:World):Prop where
 blk:∀id,BR ν h w id (lkB h id)
 inj:∀i j b,(lkB h i).live=true->(lkB h j).live=true->Ĭ (ν i) b->Ĭ (ν j) b->i=j
 ghlt:∀b,Ghost.G b->b<w.heap.size
 ghne:∀id b,(lkB h id).live=true->Ĭ (ν id) b->¬Ghost.G b
 glob:Globs.Φ w
 globL:∀b,b<Globs.n->¬qD ν h b
def Blk.next (ν ν':Nat->Value) (id:Nat):Blk->Blk->Prop
 |.dead,_=>True
 |.cells _,B=>(∃cs,B=.cells cs)/\ν' id=ν id
 |.row t g _ xs,B=>∃g' fz xs',B=.row t g' fz xs'/\g<=g'/\(g=g'->ν' id=ν id/\xs'.length=xs.length)
 |.map k v _,B=>(∃es,B=.map k v es)/\ν' id=ν id
 |.acc t _,B=>∃xs,B=.acc t xs
 |.fns _,B=>(∃es,B=.fns es)/\ν' id=ν id
 |.iter s _,B=>(∃q,B=.iter s q)/\ν' id=ν id
structure Ev (m:Nat) (ν:Nat->Value) (h:rT Blk) (w:World) (ν':Nat->Value) (h':rT Blk) (w':World):Prop where
 os:w'.os=w.os
 tape:w'.tape=w.tape
 output:w'.output=w.output
 size:w.heap.size<=w'.heap.size
 keep:I9 w (qD ν h) w' (qD ν' h')
 blk:∀id,id<m->(lkB h id).next ν ν' id (lkB h' id)
def Blk.next_refl (ν:Nat->Value) (id:Nat) (B:Blk):B.next ν ν id B:=by
 cases B with
 |dead=>trivial
 |cells cs=>exact⟨⟨cs,rfl⟩,rfl⟩
 |row t g fz xs=>exact⟨g,fz,xs,rfl,du _,fun _=>⟨rfl,rfl⟩⟩
 |map k v es=>exact⟨⟨es,rfl⟩,rfl⟩
 |acc t xs=>exact⟨xs,rfl⟩
 |fns es=>exact⟨⟨es,rfl⟩,rfl⟩
 |iter s q=>exact⟨⟨q,rfl⟩,rfl⟩
def Blk.next_trans {ν ν' b:Nat->Value} {id:Nat} {A B C:Blk} (h:A.next ν ν' id B) (k:B.next ν' b id C):A.next ν b id C:=by
 cases A with
 |dead=>trivial
 |cells cs =>
  obtain⟨⟨z,rfl⟩,e⟩:=h;obtain⟨⟨m,rfl⟩,c⟩:=k;exact⟨⟨m,rfl⟩,c.trans e⟩
 |row t g fz xs =>
  obtain⟨g',y,xs',rfl,o,r⟩:=h;obtain⟨j,l,d,rfl,f,i⟩:=k;refine⟨j,l,d,rfl,dG o f,fun e=>?_⟩
  have x:g=g':=by omega
  have u:g'=j:=by omega
  exact⟨(i u).1.trans (r x).1,(i u).2.trans (r x).2⟩
 |map E v es =>
  obtain⟨⟨p,rfl⟩,e⟩:=h;obtain⟨⟨a,rfl⟩,c⟩:=k;exact⟨⟨a,rfl⟩,c.trans e⟩
 |acc t xs =>
  obtain⟨xs',rfl⟩:=h;exact k
 |fns es =>
  obtain⟨⟨p,rfl⟩,e⟩:=h;obtain⟨⟨a,rfl⟩,c⟩:=k;exact⟨⟨a,rfl⟩,c.trans e⟩
 |iter s q =>
  obtain⟨⟨D,rfl⟩,e⟩:=h;obtain⟨⟨n,rfl⟩,c⟩:=k;exact⟨⟨n,rfl⟩,c.trans e⟩
def I9.refl (w:World) (av:Nat->Prop):I9 w av w av:=fun _ _ h=>⟨rfl,h⟩
def I9.trans {w w' c:World} {a f d:Nat->Prop} (h:I9 w a w' f) (k:I9 w' f c d):I9 w a c d :=
 fun b hb ha=>let ⟨e,j⟩:=h b hb ha; let ⟨i,g⟩:=k b (L1 hb e) j; ⟨i.trans e,g⟩
omit [Ghost] in
def I9.or {w w':World} {a d g:Nat->Prop} (h:I9 w a w' d):I9 w (fun b=>a b\/g b) w' (fun b=>d b\/g b) :=
 fun b hb c=>⟨(h b hb fun q=>c (.inl q)).1,fun q=>q.elim (h b hb fun q=>c (.inl q)).2 fun q=>c (.inr q)⟩
def Ev.keepA {m:Nat} {ν ν':Nat->Value} {h h':rT Blk} {w w':World} (e:Ev m ν h w ν' h' w'):I9 w (Av ν h) w' (Av ν' h'):=e.keep.or
def Ev.refl (m:Nat) (ν:Nat->Value) (h:rT Blk) (w:World):Ev m ν h w ν h w :=
 ⟨rfl,rfl,rfl,du _,I9.refl _ _,fun _ _=>Blk.next_refl _ _ _⟩
def Ev.trans {m f:Nat} {ν ν' a:Nat->Value} {h h' d:rT Blk} {w w' c:World} (e:Ev m ν h w ν' h' w') (b:Ev f ν' h' w' a d c) (g:m<=f):Ev m ν h w a d c :=
 ⟨b.os.trans e.os,b.tape.trans e.tape,b.output.trans e.output,dG e.size b.size,e.keep.trans b.keep,
  fun id hi=>Blk.next_trans (e.blk id hi) (b.blk id (dD hi g))⟩
def Ev.mono {m a:Nat} {ν ν':Nat->Value} {h h':rT Blk} {w w':World} (e:Ev m ν h w ν' h' w') (b:a<=m):Ev a ν h w ν' h' w' :=
 ⟨e.os,e.tape,e.output,e.size,e.keep,fun id hi=>e.blk id (dD hi b)⟩
def Ν:∀{h:rT Blk} {id:Nat} {B:Blk},lkB h id=B->B≠.dead->id<h.length
 |[],_,B,e,a=>absurd e.symm a
 |_::_,0,_,_,_=>gM _
 |_::_,_+1,_,e,a=>Nat.succ_lt_succ (Ν e a)
section
variable {ν ν':Nat->Value} {h h':rT Blk} {w w':World}
def VR0.ev (e:Ev h.length ν h w ν' h' w'):∀{a:AV} {v:Value},VR0 ν h w a v->VR0 ν' h' w' a v:=by
 intro a v d
 cases a with
 |any=>trivial
 |und=>exact d
 |bool=>exact d
 |int=>exact d
 |str=>exact d
 |nils=>exact d
 |nilm=>exact d
 |nilp=>exact d
 |nilfn=>exact d
 |yld=>exact d
 |ifc b=>exact d
 |ofn id =>
  obtain⟨p,es,f,u⟩:=d;have hb:=e.blk id (Ν f (by simp));rw[f] at hb;obtain⟨⟨B,c⟩,m⟩:=hb;exact⟨p,B,c,by rw[u,m]⟩
 |oit id =>
  obtain⟨p,s,q,f,u⟩:=d;have hb:=e.blk id (Ν f (by simp));rw[f] at hb;obtain⟨⟨I,c⟩,m⟩:=hb;exact⟨p,s,I,c,by rw[u,m]⟩
 |slc t xs=>exact CR.keep e.keepA d
 |mp k t es=>exact CR.keep e.keepA d
 |own id g =>
  obtain⟨p,t,g',fz,xs,f,r,u⟩:=d;have hb:=e.blk id (Ν f (by simp));rw[f] at hb;obtain⟨l,y,xs',c,j,m⟩:=hb;refine⟨p,t,l,y,xs',c,dG r j,fun H=>?_⟩
  have z:g=g':=by omega
  have C:g'=l:=by omega
  rw[u z,(m C).1]
 |sub id g lo n =>
  obtain⟨p,t,g',fz,xs,f,r,u⟩:=d;have hb:=e.blk id (Ν f (by simp));rw[f] at hb;obtain⟨l,y,xs',c,j,m⟩:=hb;refine⟨p,t,l,y,xs',c,dG r j,fun H=>?_⟩
  have z:g=g':=by omega
  have C:g'=l:=by omega
  obtain⟨A,base,cap,h2,D⟩:=u z;obtain⟨F,E⟩:=m C;exact⟨by rw[E]; exact A,base,cap,by rw[F,E]; exact h2,D⟩
 |omp id =>
  obtain⟨p,k,t,es,f,u⟩:=d;have hb:=e.blk id (Ν f (by simp));rw[f] at hb;obtain⟨⟨B,c⟩,m⟩:=hb;exact⟨p,k,t,B,c,by rw[u,m]⟩
 |box id off =>
  obtain⟨cs,b,f,A,h2⟩:=d;have hb:=e.blk id (Ν f (by simp));rw[f] at hb;obtain⟨⟨G,c⟩,m⟩:=hb;exact⟨G,b,c,by rw[m]; exact A,h2⟩
 |eptr t x off =>
  obtain⟨b,o,us,A,h2,D,K,J⟩:=d;obtain⟨z,C⟩:=e.keepA b D h2;exact⟨b,o,us,A,C,L1 D z,CR.keep e.keepA K,J.keep z⟩
 |optr id g i off =>
  obtain⟨p,t,g',fz,xs,f,r,u⟩:=d;have hb:=e.blk id (Ν f (by simp));rw[f] at hb;obtain⟨l,y,xs',c,j,m⟩:=hb;refine⟨p,t,l,y,xs',c,dG r j,fun H=>?_⟩
  have z:g=g':=by omega
  have C:g'=l:=by omega
  obtain⟨A,b,o,cap,h2,D⟩:=u z;obtain⟨F,E⟩:=m C;exact⟨by rw[E]; exact A,b,o,cap,by rw[F,E]; exact h2,D⟩
 |fn=>exact d.elim
 |agg=>exact d.elim
 |tup=>exact d.elim
def VR1.ev (e:Ev h.length ν h w ν' h' w') {a:AV} {v:Value} (b:VR1 ν h w a v):VR1 ν' h' w' a v:=by
 cases c:a.isFn with
 |true =>
  cases a<;>try cases c
  obtain⟨fs,cs,f,h2,d⟩:=b;exact⟨fs,cs,f,h2.mono fun _ _=>VR0.ev e,d.mono fun _ _=>VR0.ev e⟩
 |false=>rw[wU c] at b ⊢; exact VR0.ev e b
def VRc.ev (e:Ev h.length ν h w ν' h' w') {a:AV} {v:Value} (b:VRc ν h w a v):VRc ν' h' w' a v:=⟨b.1.ev e,b.2⟩
def VR2.ev (e:Ev h.length ν h w ν' h' w') {a:AV} {v:Value} (b:VR2 ν h w a v):VR2 ν' h' w' a v:=by
 cases c:a.isAgg with
 |true =>
  cases a<;>try cases c
  obtain⟨vs,d,h2⟩:=b;exact⟨vs,d,h2.mono fun _ _=>VRc.ev e⟩
 |false=>rw[zU c] at b ⊢; exact VR1.ev e b
def VR.ev (e:Ev h.length ν h w ν' h' w') {a:AV} {v:Value} (b:VR ν h w a v):VR ν' h' w' a v:=by
 cases c:a.isTup with
 |true =>
  cases a<;>try cases c
  obtain⟨vs,d,h2⟩:=b;exact⟨vs,d,h2.mono fun _ _=>VR2.ev e⟩
 |false=>rw[vZ c] at b ⊢; exact VR2.ev e b
end
def mk1 (k:Nat):Deferred:={target:=.collected k,args:=#[]}
def Fr (w:World) (a:rT Deferred):Prop :=
 (∃ms:rT Nat,a=ms.map mk1++Ghost.D/\ms.Nodup/\∀k∈ms,w.heap[k]?=some (.deferred (some []))/\Ghost.M<=k) /\
 (∀l,Ghost.Q=some l->∃r,w.heap[l]?=some (.loop r))/\Ghost.B<=Ghost.M/\Ghost.M<=w.heap.size
def Fr.keep {w w':World} {e:rT Deferred} (H:Fr w e) (f:w.heap.size<=w'.heap.size) (a:∀(b:Nat) (o:Obj),w.heap[b]?=some o->LX o=false->w'.heap[b]?=some o):Fr w' e:=by
 obtain⟨⟨ms,p,h2,d⟩,n,m,j⟩:=H;exact⟨⟨ms,p,h2,fun k c=>⟨a k _ (d k c).1 rfl,(d k c).2⟩⟩,fun l i=>(n l i).imp fun r g=>a l _ g rfl,m,dG j f⟩
def Fr.bnd {w:World} {a:rT Deferred} (H:Fr w a):Ghost.B<=w.heap.size:=dG H.2.2.1 H.2.2.2
structure Sim (ν:Nat->Value) (S:St) (a:Act) (w:World):Prop where
 defers:Fr w a.defers
 len:S.t.length<=a.tmps.size
 tmps:∀i,VR ν S.h w (lk S.t i) (a.tmps.getD i undef)
 heap:HR ν S.h w
def adx:∀(t:rT AV) (d:Nat) (v:AV) (i:Nat),lk (upd t d v) i=if i=d/\d<t.length then v else lk t i
 |[],d,v,i=>by simp[Xf,Xg,Xe,akh,aki,akg]
 |x::xs,0,v,0=>by simp[Xf,Xg,Xe,akh,aki,akg]
 |x::xs,0,v,i+1=>by simp[Xf,Xg,Xe,akh,aki,akg]
 |x::xs,d+1,v,0=>by simp[Xf,Xg,Xe,akh,aki,akg]
 |x::xs,d+1,v,i+1=>by simp[Xf,Xg,Xe,akh,aki,akg,adx xs d v i]
def alg:∀(t:rT AV) (d:Nat),t.length<=d->lk t d=.any
 |[],_,_=>rfl
 |x::xs,0,h=>by simp at h
 |x::xs,d+1,h=>by simpa[akh,aki,akg] using alg xs d (by simpa using h)
def IA:∀(t:rT AV) (d:Nat) (v:AV),(upd t d v).length=t.length
 |[],_,_=>rfl
 |_::_,0,_=>rfl
 |_::xs,d+1,v=>by simp[Xf,Xg,Xe,IA xs d v]
def sh:∀(h:rT Blk) (d:Nat) (B:Blk) (i:Nat),lkB (î h d B) i=if i=d/\d<h.length then B else lkB h i
 |[],d,v,i=>by simp[Jc,Jd,Jb,Wi,Wj,Wh]
 |x::xs,0,v,0=>by simp[Jc,Jd,Jb,Wi,Wj,Wh]
 |x::xs,0,v,i+1=>by simp[Jc,Jd,Jb,Wi,Wj,Wh]
 |x::xs,d+1,v,0=>by simp[Jc,Jd,Jb,Wi,Wj,Wh]
 |x::xs,d+1,v,i+1=>by simp[Jc,Jd,Jb,Wi,Wj,Wh,sh xs d v i]
def Û:∀(h:rT Blk) (d:Nat) (B:Blk),(î h d B).length=h.length
 |[],_,_=>rfl
 |_::_,0,_=>rfl
 |_::xs,d+1,v=>by simp[Jc,Jd,Jb,Û xs d v]
end Go.Am
end

noncomputable section
namespace Go.Am
variable [Globs] [Ghost]
section
variable {ν ν':Nat->Value} {h h':rT Blk} {w w':World}
def aiV (v:Value):VR0 ν h w (cv1 v) v:=by
 unfold cv1; split<;>first|rfl|trivial|exact⟨rfl,fun _=>rfl,fun h=>by cases h⟩
def Z2 (v:Value):(cv1 v).isFn=false:=by
 unfold cv1; split<;>rfl
def afI (v:Value):(cv1 v).isAgg=false:=by
 unfold cv1; split<;>rfl
def UF (v:Value):(cv1 v).isTup=false:=by
 unfold cv1; split<;>rfl
def ÿ.map_self {α β:Type} {R:α->β->Prop} {f:β->α}:∀{l:rT β},(∀b∈l,R (f b) b)->ÿ R (l.map f) l
 |[],_=>trivial
 |b::l,h=>⟨h b (by simp),ÿ.map_self fun c a=>h c (by simp[a])⟩
def Z1 (v:Value):VR ν h w (cv v) v:=by
 unfold cv
 split
 ·rename_i cs
  split
  ·rename_i a;refine⟨cs,rfl,ÿ.map_self fun b hb=>⟨?_,dM.1 a b hb⟩⟩;rw[wU (Z2 b)]; exact aiV b
  ·trivial
 ·rw[vZ (UF _),zU (afI _),wU (Z2 _)]; exact aiV _
def Z0 (v:Value):(cv v).isTup=false:=by
 unfold cv
 split
 ·split<;>rfl
 ·exact UF _
def Ĉ {S:St} {a:Act} (H:Sim ν S a w) (x:Operand):VR ν S.h w (ev S.t x) (a.eval x):=by
 cases x with
 |tmp i=>exact H.tmps i
 |const v=>exact Z1 v
 |func f=>exact⟨#[],#[],rfl,trivial,trivial⟩
 |global g=>trivial
def VR.one {a:AV} {v:Value} (b:VR ν h w a v) (ha:a.isAgg=false) (c:a.isTup=false):VR1 ν h w a v:=by
 rw[vZ c,zU ha] at b; exact b
def VR1.up {a:AV} {v:Value} (b:VR1 ν h w a v):VR ν h w a v:=by
 cases c:a.isTup with
 |true =>
  cases a<;>try cases c
  exact b.elim
 |false =>
  cases ha:a.isAgg with
  |true =>
   cases a<;>try cases ha
   exact b.elim
  |false=>rw[vZ c,zU ha]; exact b
def VR0.up {a:AV} {v:Value} (b:VR0 ν h w a v):VR1 ν h w a v:=by
 cases c:a.isFn with
 |true =>
  cases a<;>try cases c
  exact b.elim
 |false=>rw[wU c]; exact b
def CR.oneCell:∀{t:Ty} {x:Val t} {vs:rT Value} {av:Nat->Prop},CR w av t x vs->∀v∈vs,v.oneCell'=true
 |.unit,_,_,_,h=>by rw[show _=[] from h]; simp
 |.bool,_,_,_,h=>by rw[show _=[_] from h]; simp[Value.oneCell']
 |.int _,_,_,_,h=>by rw[show _=[_] from h]; simp[Value.oneCell']
 |.str,_,_,_,h=>by rw[show _=[_] from h]; simp[Value.oneCell']
 |.slice _,_,_,_,h=>by obtain⟨_,_,rfl,_⟩:=h; simp[Value.oneCell']
 |.map _ _,_,_,_,h=>by obtain⟨_,rfl,_⟩:=h; simp[Value.oneCell']
 |.ptr _,_,_,_,h=>by obtain⟨_,_,_,rfl,_⟩:=h; simp[Value.oneCell']
 |.pair a b,_,_,_,h=>by
  obtain⟨us,ws,rfl,d,h2⟩:=h;intro v c;rcases dA.1 c with c|c
  ·exact CR.oneCell d v c
  ·exact CR.oneCell h2 v c
def VR1.oneCell {a:AV} {v:Value} {vs:rT AV} (c:VR1 ν h w a v) (d:ĝ a=some vs):v.oneCell'=true:=by
 cases a with
 |any=>cases d
 |und=>cases d
 |agg=>exact c.elim
 |tup=>cases d
 |bool b=>rw[show v=_ from c]; rfl
 |int k n=>rw[show v=_ from c]; rfl
 |str s=>rw[show v=_ from c]; rfl
 |nils=>rw[show v=_ from c]; rfl
 |nilm=>rw[show v=_ from c]; rfl
 |nilp=>rw[show v=_ from c]; rfl
 |nilfn=>rw[show v=_ from c]; rfl
 |yld=>rw[show v=_ from c]; rfl
 |ifc b=>exact c.1
 |ofn id=>exact c.1
 |oit id=>exact c.1
 |slc t xs=>exact CR.oneCell c v (by simp)
 |mp k t es=>exact CR.oneCell c v (by simp)
 |own id g=>exact c.1
 |sub id g lo n=>exact c.1
 |omp id=>exact c.1
 |box id off=>obtain⟨_,_,_,_,rfl⟩:=c; rfl
 |eptr t x off=>obtain⟨_,_,_,rfl,_⟩:=c; rfl
 |optr id g i off=>exact c.1
 |fn f fs cs=>obtain⟨_,_,rfl,_⟩:=c; rfl
def Qr {v:Value} (h:v.oneCell'=true):v.cells.toList=[v]:=by cases v<;>first|rfl|cases h
def VR.cells {a:AV} {v:Value} {vs:rT AV} (c:VR ν h w a v) (b:ĝ a=some vs):ÿ (VRc ν h w) vs v.cells.toList:=by
 cases ha:a.isAgg with
 |true =>
  cases a<;>try cases ha
  obtain⟨us,rfl,h2⟩:=c;cases b;exact h2
 |false =>
  have e:a.isTup=false:=by cases a<;>first|rfl|cases b
  have d:=c.one ha e;have h2:=d.oneCell b
  have f:vs=[a]:=by cases a<;>simp_all[ĝ,AV.isAgg]
  rw[f,Qr h2];exact⟨⟨d,h2⟩,trivial⟩
def lX:∀{t:Ty} {x:Val t} {vs:rT Value},CR w (Av ν h) t x vs->ÿ (VRc ν h w) (flat t x) vs
 |.unit,_,_,a=>by rw[show _=[] from a]; trivial
 |.bool,_,_,a=>by rw[show _=[_] from a]; exact⟨⟨rfl,rfl⟩,trivial⟩
 |.int _,_,_,a=>by rw[show _=[_] from a]; exact⟨⟨rfl,rfl⟩,trivial⟩
 |.str,_,_,a=>by rw[show _=[_] from a]; exact⟨⟨rfl,rfl⟩,trivial⟩
 |.slice _,_,_,a=>by obtain⟨_,_,rfl,h'⟩:=id a; exact⟨⟨a,rfl⟩,trivial⟩
 |.map _ _,_,_,a=>by obtain⟨_,rfl,h'⟩:=id a; exact⟨⟨a,rfl⟩,trivial⟩
 |.ptr _,_,_,a=>by
  obtain⟨b,off,us,rfl,c,h2,e,d⟩:=id a;exact⟨⟨⟨b,off,us,rfl,c,h2,e,d⟩,rfl⟩,trivial⟩
 |.pair _ _,_,_,a=>by
  obtain⟨us,ws,rfl,c,h2⟩:=a;exact(lX c).append (lX h2)
def Kc {t:Ty} {x:Val t} {vs:rT Value} (e:CR w (Av ν h) t x vs):VR ν h w (enc t x) (xj t vs):=by
 have d:=lX e
 cases t with
 |unit=>exact⟨vs.toArray,rfl,by simpa[flat] using d⟩
 |pair a b=>exact⟨vs.toArray,rfl,by simpa using d⟩
 |bool=>obtain⟨u,rfl,c⟩:=d.one; exact c.1.up
 |int k=>obtain⟨u,rfl,c⟩:=d.one; exact c.1.up
 |str=>obtain⟨u,rfl,c⟩:=d.one; exact c.1.up
 |slice t=>obtain⟨u,rfl,c⟩:=d.one; exact c.1.up
 |map k v=>obtain⟨u,rfl,c⟩:=d.one; exact c.1.up
 |ptr t=>obtain⟨u,rfl,c⟩:=d.one; exact c.1.up
def VRs (w:World) (av:Nat->Prop):AV->Value->Prop
 |.bool b,v=>v=.bool b
 |.int k n,v=>v=.int k n
 |.str s,v=>v=.string s
 |.nils,v=>v=.slice none 0 0
 |.nilm,v=>v=.map none
 |.slc t xs,v=>CR w av (.slice t) xs [v]
 |.mp k e es,v=>CR w av (.map k e) es [v]
 |.eptr t x off,v=>∃b o us,v=.pointer (some ⟨b,o+off,none⟩)/\¬av b/\b<w.heap.size/\CR w av t x us/\CellsAt w b o us
 |_,_=>True
def CR.mono {av a:Nat->Prop} (d:∀b,a b->av b) {t:Ty} {x:Val t} {vs:rT Value} (e:CR w av t x vs):CR w a t x vs :=
 e.keep fun b _ c=>⟨rfl,fun hb=>c (d b hb)⟩
def VRs.mono {av c:Nat->Prop} (e:∀b,c b->av b) {a:AV} {v:Value} (d:VRs w av a v):VRs w c a v:=by
 cases a<;>try exact d
 ·exact CR.mono e d
 ·exact CR.mono e d
 ·obtain⟨b,o,us,j,h2,i,g,f⟩:=d;exact⟨b,o,us,j,fun hb=>h2 (e b hb),i,CR.mono e g,f⟩
def VR1.data {a:AV} {v:Value} (b:VR1 ν h w a v):VRs w (Av ν h) a v:=by
 cases a<;>first|exact b|trivial
def agt {av:Nat->Prop}:∀{t:Ty} {l:rT AV} {x:Val t} {d:rT AV} {vs:rT Value},ş t l=some (x,d)->ÿ (VRs w av) l vs ->
 ∃us f,vs=us++f/\CR w av t x us/\ÿ (VRs w av) d f:=by
 intro t
 induction t with
 |unit=>intro l x d vs e c; simp only[ş,Option.some.injEq,Prod.mk.injEq] at e; obtain⟨_,rfl⟩:=e; exact⟨[],vs,rfl,rfl,c⟩
 |bool =>
  intro l x d vs e c
  rcases l with _|⟨a,l⟩<;>try (simp[ş] at e; done)
  cases a<;>simp only[ş,reduceCtorEq,Option.some.injEq,Prod.mk.injEq] at e
  obtain⟨rfl,rfl⟩:=e
  cases vs with
  |nil=>exact c.elim
  |cons v vs=>exact⟨[v],vs,rfl,by rw[show v=_ from c.1]; rfl,c.2⟩
 |str =>
  intro l x d vs e c
  rcases l with _|⟨a,l⟩<;>try (simp[ş] at e; done)
  cases a<;>simp only[ş,reduceCtorEq,Option.some.injEq,Prod.mk.injEq] at e
  obtain⟨rfl,rfl⟩:=e
  cases vs with
  |nil=>exact c.elim
  |cons v vs=>exact⟨[v],vs,rfl,by rw[show v=_ from c.1]; rfl,c.2⟩
 |int k =>
  intro l x d vs e c
  rcases l with _|⟨a,l⟩<;>try (simp[ş] at e; done)
  cases a<;>simp only[ş,reduceCtorEq] at e
  split at e
  ·rename_i g _; subst g;simp only[Option.some.injEq,Prod.mk.injEq] at e;obtain⟨rfl,rfl⟩:=e
   cases vs with
   |nil=>exact c.elim
   |cons v vs=>exact⟨[v],vs,rfl,by rw[show v=_ from c.1]; rfl,c.2⟩
  ·cases e
 |slice t _ =>
  intro l x d vs e c
  rcases l with _|⟨a,l⟩<;>try (simp[ş] at e; done)
  cases a<;>simp only[ş,reduceCtorEq] at e
  ·simp only[Option.some.injEq,Prod.mk.injEq] at e;obtain⟨rfl,rfl⟩:=e
   cases vs with
   |nil=>exact c.elim
   |cons v vs=>exact⟨[v],vs,rfl,⟨none,0,by rw[show v=_ from c.1]; rfl,by simp,.inl rfl⟩,c.2⟩
  ·split at e
   ·rename_i g _; subst g;simp only[Option.some.injEq,Prod.mk.injEq] at e;obtain⟨rfl,rfl⟩:=e
    cases vs with
    |nil=>exact c.elim
    |cons v vs=>exact⟨[v],vs,rfl,c.1,c.2⟩
   ·cases e
 |map k v _ _ =>
  intro l x d vs e c
  rcases l with _|⟨a,l⟩<;>try (simp[ş] at e; done)
  cases a<;>simp only[ş,reduceCtorEq] at e
  ·simp only[Option.some.injEq,Prod.mk.injEq] at e;obtain⟨rfl,rfl⟩:=e
   cases vs with
   |nil=>exact c.elim
   |cons v vs=>exact⟨[v],vs,rfl,⟨none,by rw[show v=_ from c.1],.inl ⟨rfl,rfl⟩⟩,c.2⟩
  ·split at e
   ·rename_i g _;cases g;simp only[Option.some.injEq,Prod.mk.injEq] at e;obtain⟨rfl,rfl⟩:=e
    cases vs with
    |nil=>exact c.elim
    |cons v vs=>exact⟨[v],vs,rfl,c.1,c.2⟩
   ·cases e
 |ptr t _ =>
  intro l x d vs e c
  rcases l with _|⟨a,l⟩<;>try (simp[ş] at e; done)
  cases a<;>try (simp[ş] at e; done)
  rename_i t' y off
  cases off<;>try (simp[ş] at e; done)
  simp only[ş] at e
  split at e
  ·rename_i g _; subst g;simp only[Option.some.injEq,Prod.mk.injEq] at e;obtain⟨rfl,rfl⟩:=e
   cases vs with
   |nil=>exact c.elim
   |cons v vs =>
    obtain⟨b,o,us,n,h2,m,j,p⟩:=c.1;exact⟨[v],vs,rfl,⟨b,o,us,by rw[n]; rfl,h2,m,j,p⟩,c.2⟩
  ·cases e
 |pair a b iha ihb =>
  intro l x d vs e c;simp only[ş] at e
  split at e
  ·rename_i u A r
   split at e
   ·rename_i s z q;simp only[Option.some.injEq,Prod.mk.injEq] at e;obtain⟨rfl,rfl⟩:=e;obtain⟨us,f,rfl,n,h2⟩:=iha r c;obtain⟨ws,i,rfl,m,j⟩:=ihb q h2;exact⟨us++ws,i,by simp,⟨us,ws,rfl,n,m⟩,j⟩
   ·cases e
  ·cases e
def ċ {av:Nat->Prop} {t:Ty} {l:rT AV} {x:Val t} {vs:rT Value} (e:Ü t l=some x) (b:ÿ (VRs w av) l vs):CR w av t x vs:=by
 unfold Ü at e
 split at e<;>try (cases e; done)
 rename_i y c;cases e;obtain⟨us,a,rfl,d,h2⟩:=agt c b
 cases a with
 |nil=>simpa using d
 |cons=>exact h2.elim
end
end Go.Am
end

noncomputable section
namespace Go.Am
variable [Globs] [Ghost]
section
variable {ν ν':Nat->Value} {h h':rT Blk} {w w':World}
def HR.dat (H:HR ν h w) {b:Nat} (hb:qD ν h b):∃o,w.heap[b]?=some o/\LX o=true:=by
 obtain⟨id,l,a⟩:=hb;have d:=H.blk id
 cases e:lkB h id with
 |dead=>rw[e] at l; cases l
 |cells cs =>
  rw[e] at d;obtain⟨m,c,n,f,h2,_⟩:=d;rw[f] at a; cases a; exact⟨_,h2,rfl⟩
 |row t g fz xs =>
  rw[e] at d l
  cases fz with
  |true=>cases l
  |false =>
   obtain⟨base,cap,f,_,h2⟩:=d;rcases h2 with⟨rfl,_⟩|⟨m,off,c,n,rfl,h2,_⟩
   ·rw[f] at a; cases a
   ·rw[f] at a; cases a; exact⟨_,h2,rfl⟩
 |map k v es =>
  rw[e] at d;obtain⟨m,i,j,f,h2,_⟩:=d;rw[f] at a; cases a; exact⟨_,h2,rfl⟩
 |fns es =>
  rw[e] at d;obtain⟨m,i,j,f,h2,_⟩:=d;rw[f] at a; cases a; exact⟨_,h2,rfl⟩
 |iter s q =>
  rw[e] at d;obtain⟨m,f,h2,_⟩:=d;rw[f] at a; cases a; exact⟨_,h2,rfl⟩
 |acc t xs =>
  rw[e] at d;obtain⟨us,f,h2,_⟩:=d;exact h2 b a
def HR.lt (H:HR ν h w) {b:Nat} (hb:qD ν h b):b<w.heap.size:=by
 obtain⟨o,a,_⟩:=H.dat hb;exact å a
def HR.nd {m:Nat} (H:HR ν h w) (e:Ev m ν h w ν' h' w') (b:Nat) (o:Obj) (hb:w.heap[b]?=some o) (c:LX o=false):w'.heap[b]?=some o :=
 ((e.keep b (å hb) fun d=>by obtain⟨o',a,h2⟩:=H.dat d; rw[hb] at a; cases a; rw[c] at h2; cases h2).1).trans hb
def HR.gl {m:Nat} (H:HR ν h w) (e:Ev m ν h w ν' h' w') (b:Nat) (hb:b<Globs.n):w'.heap[b]?=w.heap[b]? :=
 (e.keep b (by obtain⟨o,a,_⟩:=Globs.dat w H.glob b hb; exact å a) (H.globL b hb)).1
def HR.globLE {m:Nat} (H:HR ν h w) (e:Ev m ν h w ν' h' w') (b:Nat) (hb:b<Globs.n):¬qD ν' h' b :=
 (e.keep b (by obtain⟨o,a,_⟩:=Globs.dat w H.glob b hb; exact å a) (H.globL b hb)).2
def HR.globE {m:Nat} (H:HR ν h w) (e:Ev m ν h w ν' h' w'):Globs.Φ w':=Globs.keep _ _ H.glob fun b hb=>H.gl e b hb
def HR.ltA (H:HR ν h w) {b:Nat} (hb:Av ν h b):b<w.heap.size:=hb.elim H.lt (H.ghlt b)
def BR.ev (e:Ev h.length ν h w ν' h' w') (A:∀(b:Nat) (o:Obj),w.heap[b]?=some o->LX o=false->w'.heap[b]?=some o) (B:∀b,b<Globs.n->w'.heap[b]?=w.heap[b]?) {id:Nat} (d:ν' id=ν id)
 (l:∀b,(lkB h id).live=true->Ĭ (ν id) b->b<w.heap.size->w'.heap[b]?=w.heap[b]?) (H:BR ν h w id (lkB h id)):BR ν' h' w' id (lkB h id):=by
 cases r:lkB h id with
 |dead=>trivial
 |cells cs =>
  rw[r] at H l;obtain⟨b,c,F,f,h2,p⟩:=H;exact⟨b,c,F,d.trans f,(l b rfl (by rw[f]; rfl) (å h2)).trans h2,p.mono fun _ _=>VRc.ev e⟩
 |row t g fz xs =>
  rw[r] at H l
  cases fz with
  |true =>
   show CR w' _ _ _ [ν' id];rw[d]; exact CR.keep e.keepA H
  |false =>
   obtain⟨base,cap,f,N,h2⟩:=H;refine⟨base,cap,d.trans f,N,?_⟩;rcases h2 with h2|⟨b,off,c,F,rfl,p,y,E⟩
   ·exact .inl h2
   ·have G:=l b rfl (by rw[f]; rfl) (å p);refine .inr ⟨b,off,c,F,rfl,G.trans p,y,fun i x u=>?_⟩;obtain⟨us,D,C⟩:=E i x u;exact⟨us,CR.keep e.keepA D,C.keep G⟩
 |map k v es =>
  rw[r] at H l;obtain⟨b,a,j,f,h2,L,p⟩:=H;refine⟨b,a,j,d.trans f,(l b rfl (by rw[f]; rfl) (å h2)).trans h2,L,fun i x u=>?_⟩;obtain⟨m,us,y,E,D,C⟩:=p i x u;exact⟨m,us,y,CR.keep e.keepA E,CR.keep e.keepA D,C⟩
 |fns es =>
  rw[r] at H l;obtain⟨b,a,j,f,h2,p⟩:=H;exact⟨b,a,j,d.trans f,(l b rfl (by rw[f]; rfl) (å h2)).trans h2,p.mono fun _ _ q=>⟨q.1,q.2.1,q.2.2.ev e⟩⟩
 |iter s q =>
  rw[r] at H l;obtain⟨b,f,h2,p⟩:=H;exact⟨b,d.trans f,(l b rfl (by rw[f]; rfl) (å h2)).trans h2,p⟩
 |acc t xs =>
  rw[r] at H l;obtain⟨us,f,h2,p,y⟩:=H;have same:∀b o,w.heap[b]?=some o->Ĭ (ν id) b->w'.heap[b]?=some o:=fun b o hb z=>(l b rfl z (å hb)).trans hb;refine⟨us,d.trans f,fun b hb=>?_,p,?_⟩
  ·rw[d] at hb;obtain⟨o,K,J⟩:=h2 b hb;exact⟨o,same b o K hb,J⟩
  ·rw[d];refine Ghost.st _ _ _ _ _ _ y ⟨e.os,e.tape,e.output,e.size,fun b hb M=>(e.keepA b hb M).2,fun b o hb _ u=>?_,fun b o hb z _=>A b o hb z,fun _ b hb=>B b hb⟩
   by_cases I:Av ν h b
   ·exact same b o hb (u I)
   ·exact(e.keepA b (å hb) I).1.trans hb
def ý (ν:Nat->Value) (id:Nat) (v:Value):Nat->Value:=fun i=>if i=id then v else ν i
def Õ (ν:Nat->Value) (id:Nat) (v:Value):ý ν id v id=v:=by simp[ý]
def Ċ (ν:Nat->Value) {id j:Nat} (v:Value) (a:j≠id):ý ν id v j=ν j:=by simp[ý,a]
def kv (ν:Nat->Value) (id:Nat):ý ν id (ν id)=ν:=by
 funext i; unfold ý; split<;>simp_all
def ã {h:rT Blk} {id:Nat} (B:Blk) (a:id<h.length):lkB (î h id B) id=B:=by simp[sh,a]
def Ð {h:rT Blk} {id j:Nat} (B:Blk) (a:j≠id):lkB (î h id B) j=lkB h j:=by simp[sh,a]
def Ev.upd (H:HR ν h w) {id:Nat} {B:Blk} {V:Value} (n:id<h.length) (p:w'.os=w.os) (c:w'.tape=w.tape) (m:w'.output=w.output)
 (d:w.heap.size<=w'.heap.size)
 (f:∀b,b<w.heap.size->((lkB h id).live=true->¬Ĭ (ν id) b)->w'.heap[b]?=w.heap[b]?)
 (x:B.live=true->∀b,Ĭ V b->((lkB h id).live=true/\Ĭ (ν id) b)\/w.heap.size<=b)
 (e:(lkB h id).next ν (ý ν id V) id B):Ev h.length ν h w (ý ν id V) (î h id B) w':=by
 refine⟨p,c,m,d,fun b hb r=>⟨f b hb fun i l=>r ⟨id,i,l⟩,?_⟩,fun j o=>?_⟩
 ·rintro⟨j,i,l⟩
  by_cases o:j=id
  ·subst o;rw[ã B n] at i;rw[Õ] at l;rcases x i b l with⟨u,h2⟩|u
   ·exact r ⟨j,u,h2⟩
   ·omega
  ·rw[Ð B o] at i;rw[Ċ ν V o] at l;exact r ⟨j,i,l⟩
 ·by_cases a:j=id
  ·subst a; rw[ã B n]; exact e
  ·rw[Ð B a];have:=Blk.next_refl ν j (lkB h j)
   cases y:lkB h j with
   |dead=>trivial
   |cells cs=>exact⟨⟨cs,rfl⟩,Ċ ν V a⟩
   |row t g fz xs=>exact⟨g,fz,xs,rfl,du _,fun _=>⟨Ċ ν V a,rfl⟩⟩
   |map k v es=>exact⟨⟨es,rfl⟩,Ċ ν V a⟩
   |acc t xs=>exact⟨xs,rfl⟩
   |fns es=>exact⟨⟨es,rfl⟩,Ċ ν V a⟩
   |iter s q=>exact⟨⟨q,rfl⟩,Ċ ν V a⟩
def HR.upd (H:HR ν h w) {id:Nat} {B:Blk} {V:Value} (f:id<h.length) (e:Ev h.length ν h w (ý ν id V) (î h id B) w')
 (k:∀b,b<w.heap.size->((lkB h id).live=true->¬Ĭ (ν id) b)->w'.heap[b]?=w.heap[b]?)
 (r:B.live=true->∀b,Ĭ V b->((lkB h id).live=true/\Ĭ (ν id) b)\/w.heap.size<=b)
 (t:BR (ý ν id V) (î h id B) w' id B):HR (ý ν id V) (î h id B) w':=by
 refine⟨fun j=>?_,fun i j b hi a d c=>?_,fun b hb=>dD (H.ghlt b hb) e.size,fun j b l hb=>?_,H.globE e,H.globLE e⟩
 rotate_left 2
 ·by_cases a:j=id
  ·subst a;rw[ã B f] at l;rw[Õ] at hb;rcases r l b hb with⟨g,n⟩|g
   ·exact H.ghne j b g n
   ·exact fun s=>by have:=H.ghlt b s; omega
  ·rw[Ð B a] at l;rw[Ċ ν V a] at hb;exact H.ghne j b l hb
 ·by_cases a:j=id
  ·subst a; rw[ã B f]; exact t
  ·rw[Ð B a];refine BR.ev e (H.nd e) (H.gl e) (Ċ ν V a) (fun b l hb o=>k b o fun p q=>a (H.inj j id b l p hb q)) (H.blk j)
 ·by_cases m:i=id<;>by_cases h2:j=id
  ·rw[m,h2]
  ·subst m;rw[ã B f] at hi; rw[Ð B h2] at a;rw[Õ] at d; rw[Ċ ν V h2] at c;rcases r hi b d with⟨g,n⟩|g
   ·exact H.inj i j b g a n c
   ·have:=H.lt ⟨j,a,c⟩; omega
  ·subst h2;rw[Ð B m] at hi; rw[ã B f] at a;rw[Ċ ν V m] at d; rw[Õ] at c;rcases r a b c with⟨g,n⟩|g
   ·exact H.inj i j b hi g d n
   ·have:=H.lt ⟨i,hi,d⟩; omega
  ·rw[Ð B m] at hi; rw[Ð B h2] at a;rw[Ċ ν V m] at d; rw[Ċ ν V h2] at c;exact H.inj i j b hi a d c
def Ev.new (H:HR ν h w) {id:Nat} {B:Blk} {V:Value} {o:Obj} {w':World} (d:id<h.length) (hd:lkB h id=.dead) (i:w'.heap=w.heap.push o) (g:w'.os=w.os) (a:w'.tape=w.tape) (c:w'.output=w.output)
 (k:∀b,Ĭ V b->b=w.heap.size)
 (l:Ev h.length ν h w (ý ν id V) (î h id B) w'->BR (ý ν id V) (î h id B) w' id B) :
 Ev h.length ν h w (ý ν id V) (î h id B) w'/\HR (ý ν id V) (î h id B) w':=by
 have j:∀b,b<w.heap.size->((lkB h id).live=true->¬Ĭ (ν id) b)->w'.heap[b]?=w.heap[b]?:=fun b hb _=>by
  rw[i,fQ]; simp[gu hb]
 have f:B.live=true->∀b,Ĭ V b->((lkB h id).live=true/\Ĭ (ν id) b)\/w.heap.size<=b:=fun _ b hb=>.inr (by rw[k b hb]; exact du _);have e:=Ev.upd H (B:=B) (V:=V) d g a c (by rw[i]; simp) j f (by rw[hd]; trivial);exact⟨e,HR.upd H d e j f (l e)⟩
def ų (b off n:Nat):(⟨b,off,none⟩:Addr).add n=⟨b,off+n,none⟩:=by
 unfold Addr.add; split
 ·rename_i h; subst h; rfl
 ·rfl
def HR.row_data (H:HR ν h w) {id g:Nat} {t:Ty} {fz:Bool} {xs:rT (Val t)} (hb:lkB h id=.row t g fz xs) :
 ∃base cap,ν id=.slice base xs.length cap/\xs.length<=cap/\(base=none->cap=0\/xs=[])/\((xs:rT (Val t))=[]\/∃b off,base=some ⟨b,off,none⟩/\b<w.heap.size/\(fz=true->¬Av ν h b) /\
  ∀i x,(xs:rT (Val t))[i]?=some x->∃us,CR w (Av ν h) t x us/\CellsAt w b (off+i*t.size) us):=by
 have j:=H.blk id;rw[hb] at j
 cases fz with
 |true =>
  obtain⟨base,cap,l,h2,a⟩:=j;refine⟨base,cap,by simpa using l,h2,fun f=>?_,?_⟩
  ·rcases a with a|⟨b,off,a,_⟩
   ·exact .inr a
   ·rw[f] at a; cases a
  ·rcases a with a|⟨b,off,a,d,m,k⟩
   ·exact .inl a
   ·exact .inr ⟨b,off,a,m,fun _=>d,k⟩
 |false =>
  obtain⟨base,cap,l,h2,a⟩:=j;refine⟨base,cap,l,h2,fun f=>?_,?_⟩
  ·rcases a with⟨a,d⟩|⟨b,off,c,e,a,_⟩
   ·exact .inl d
   ·rw[f] at a; cases a
  ·rcases a with⟨a,d⟩|⟨b,off,c,e,a,d,m,k⟩
   ·exact .inl (dZ.1 (by omega))
   ·exact .inr ⟨b,off,a,å d,fun n=>(by cases n),k⟩
def xp (H:HR ν h w) {av:Nat->Prop} (c:∀b,av b->Av ν h b) {a:AV} {v:Value} (d:VR1 ν h w a v)
 (p:∀id b,(∃g,a=.own id g)\/(∃g lo n,a=.sub id g lo n)\/a=.omp id->(lkB h id).live=true->Ĭ (ν id) b->¬av b):VRs w av (ñ h a) v:=by
 cases a with
 |own id g =>
  obtain⟨L,t,g',fz,xs,e,F,u⟩:=d;simp only[ñ,e]
  cases q:g==g' with
  |false=>trivial
  |true =>
   have G:g=g':=by simpa using q
   obtain⟨base,cap,o,h2,_,j⟩:=H.row_data e;rw[u G,o];refine⟨base,cap,rfl,h2,?_⟩;rcases j with j|⟨b,off,rfl,B,A,z⟩
   ·exact .inl j
   ·refine .inr ⟨b,off,rfl,?_,B,fun i x l=>?_⟩
    ·cases fz with
     |true=>exact fun ha=>A rfl (c b ha)
     |false=>exact p id b (.inl ⟨g,rfl⟩) (by rw[e]; rfl) (by rw[o]; rfl)
    ·obtain⟨us,y,J⟩:=z i x l;exact⟨us,CR.mono c y,J⟩
 |sub id g lo n =>
  obtain⟨L,t,g',fz,xs,e,F,u⟩:=d;simp only[ñ,e]
  cases q:g==g' with
  |false=>trivial
  |true =>
   have G:g=g':=by simpa using q
   obtain⟨M,K,cap',s,D⟩:=u G;obtain⟨base,cap,o,h2,_,j⟩:=H.row_data e
   rw[o] at s; injection s with S T Q; subst S; subst Q
   have E:((xs.drop lo).take n).length=n:=by simp; omega
   refine⟨_,cap-lo,by rw[E]; exact congrArg (fun x=>[x]) D,by rw[E]; omega,?_⟩
   by_cases I:cap=lo
   ·exact .inl (dZ.1 (by rw[E]; omega))
   rcases j with j|⟨b,off,rfl,B,A,z⟩
   ·exact .inl (by rw[j]; simp)
   ·refine .inr ⟨b,off+lo*t.size,by rw[if_neg I]; simp[ų],?_,B,fun i x l=>?_⟩
    ·cases fz with
     |true=>exact fun ha=>A rfl (c b ha)
     |false=>exact p id b (.inr (.inl ⟨g,lo,n,rfl⟩)) (by rw[e]; rfl) (by rw[o]; rfl)
    ·have C:xs[lo+i]?=some x:=by
      rw[eI] at l
      split at l
      ·simpa using l
      ·cases l
     obtain⟨us,y,J⟩:=z (lo+i) x C;refine⟨us,CR.mono c y,?_⟩
     have:off+lo*t.size+i*t.size=off+(lo+i)*t.size:=by rw[dS]; omega
     rw[this]; exact J
 |omp id =>
  obtain⟨L,k,t,es,e,u⟩:=d;simp only[ñ,e];have N:=H.blk id;rw[e] at N;obtain⟨b,f,r,o,h2,O,j⟩:=N;rw[u,o];refine⟨some b,rfl,.inr ⟨b,f,r,rfl,p id b (.inr (.inr rfl)) (by rw[e]; rfl) (by rw[o]; rfl),h2,O,fun i x l=>?_⟩⟩;obtain⟨m,us,B,A,z,y⟩:=j i x l;exact⟨m,us,B,CR.mono c A,CR.mono c z,y⟩
 |any=>trivial
 |und=>trivial
 |bool=>exact d
 |int=>exact d
 |str=>exact d
 |nils=>exact d
 |slc=>exact CR.mono c d
 |nilm=>exact d
 |mp=>exact CR.mono c d
 |nilp=>trivial
 |box=>trivial
 |eptr=>exact VRs.mono (a:=.eptr _ _ _) c d
 |optr=>trivial
 |nilfn=>trivial
 |yld=>trivial
 |ifc=>trivial
 |ofn=>trivial
 |oit=>trivial
 |fn=>trivial
 |agg=>exact d.elim
 |tup=>exact d.elim
def Xr (H:HR ν h w) {a:AV} {v:Value} (c:VR1 ν h w a v):VRs w (fun _=>False) (ñ h a) v :=
 xp H (fun _ b=>b.elim) c fun _ _ _ _ _ b=>b
def SX (H:HR ν h w) {a:AV} {v:Value} (d:VR1 ν h w a v):VRs w Ghost.G (ñ h a) v :=
 xp H (fun _ c=>.inr c) d fun id b _ e hb c=>H.ghne id b e hb c
def J7 (H:HR ν h w) {id g:Nat} {t:Ty} {fz:Bool} {xs:rT (Val t)} (n:lkB h id=.row t g fz xs) :
 Ev h.length ν h w ν (î h id (.row t g true xs)) w/\HR ν (î h id (.row t g true xs)) w/\(∀b,Av ν (î h id (.row t g true xs)) b->Av ν h b) /\
  ((lkB h id).live=true->∀b,Ĭ (ν id) b->¬Av ν (î h id (.row t g true xs)) b):=by
 have l:id<h.length:=Ν n (by simp)
 have a:∀b,Av ν (î h id (.row t g true xs)) b->Av ν h b:=by
  rintro b (⟨j,c,h2⟩|o)
  ·by_cases m:j=id
   ·subst m; rw[ã _ l] at c; cases c
   ·rw[Ð _ m] at c; exact .inl ⟨j,c,h2⟩
  ·exact .inr o
 have d:∀b,b<w.heap.size->((lkB h id).live=true->¬Ĭ (ν id) b)->w.heap[b]?=w.heap[b]?:=fun _ _ _=>rfl
 have r:(Blk.row t g true xs).live=true->∀b,Ĭ (ν id) b->((lkB h id).live=true/\Ĭ (ν id) b)\/w.heap.size<=b:=fun v=>by cases v
 have e:Ev h.length ν h w (ý ν id (ν id)) (î h id (.row t g true xs)) w:=Ev.upd H l rfl rfl rfl (du _) d r (by
  rw[n]; exact⟨g,true,xs,rfl,du _,fun _=>⟨Õ _ _ _,rfl⟩⟩)
 have f:∀b,Ĭ (ν id) b->(lkB h id).live=true->¬Av ν (î h id (.row t g true xs)) b:=by
  rintro b hb k (⟨j,c,h2⟩|o)
  ·by_cases m:j=id
   ·subst m; rw[ã _ l] at c; cases c
   ·rw[Ð _ m] at c; exact m (H.inj j id b c k h2 hb)
  ·exact H.ghne id b k hb o
 have q:HR (ý ν id (ν id)) (î h id (.row t g true xs)) w:=by
  refine HR.upd H l e d r ?_;show CR w _ (.slice t) xs [ý ν id (ν id) id];rw[kv]
  cases fz with
  |true =>
   have s:=H.blk id;rw[n] at s;exact CR.mono a s
  |false =>
   obtain⟨base,cap,c,h2,_,p⟩:=H.row_data n;rw[c];refine⟨base,cap,rfl,h2,?_⟩;rcases p with p|⟨b,off,rfl,B,C,A⟩
   ·exact .inl p
   ·refine .inr ⟨b,off,rfl,f b (by rw[c]; rfl) (by rw[n]; rfl),B,fun i x u=>?_⟩;obtain⟨us,z,y⟩:=A i x u;exact⟨us,CR.mono a z,y⟩
 rw[kv] at e q;exact⟨e,q,a,fun k b hb=>f b hb k⟩
def mC (h:rT Blk) (a:AV):(qC h a).length=h.length:=by
 cases a<;>try rfl
 all_goals
  simp only[qC]
  split<;>first|rfl|exact Û _ _ _
def PV (H:HR ν h w) (a:AV):Ev h.length ν h w ν (qC h a) w/\HR ν (qC h a) w/\(∀b,Av ν (qC h a) b->Av ν h b):=by
 have c:Ev h.length ν h w ν h w/\HR ν h w/\(∀b,Av ν h b->Av ν h b):=⟨Ev.refl _ _ _ _,H,fun _ hb=>hb⟩
 cases a<;>try exact c
 ·rename_i id g;simp only[qC]
  cases d:lkB h id<;>first|exact c|exact⟨(J7 H d).1,(J7 H d).2.1,(J7 H d).2.2.1⟩
 ·rename_i id g lo n;simp only[qC]
  cases d:lkB h id<;>first|exact c|exact⟨(J7 H d).1,(J7 H d).2.1,(J7 H d).2.2.1⟩
def PU (H:HR ν h w) {a:AV} {v:Value} (d:VR1 ν h w a v) (i:MX a=true):VRs w (Av ν (qC h a)) (ñ h a) v:=by
 refine xp H (PV H a).2.2 d fun id b j e hb=>?_;rcases j with⟨g,rfl⟩|⟨g,lo,n,rfl⟩|rfl
 ·obtain⟨f,t,g',fz,xs,c,_⟩:=d;simp only[qC,c];exact(J7 H c).2.2.2 e b hb
 ·obtain⟨f,t,g',fz,xs,c,_⟩:=d;simp only[qC,c];exact(J7 H c).2.2.2 e b hb
 ·cases i
def HI (h:rT Blk) (a b:AV):ñ (qC h a) b=ñ h b:=by
 have c:∀(id g:Nat) (t:Ty) (fz:Bool) (xs:rT (Val t)),lkB h id=.row t g fz xs->ñ (î h id (.row t g true xs)) b=ñ h b:=by
  intro id g t fz xs m;have i:id<h.length:=Ν m (by simp)
  have e:∀j,(∀{α:Type} (f:(t:Ty)->Nat->rT (Val t)->α) (d:α),(match lkB (î h id (.row t g true xs)) j with|.row t g _ xs=>f t g xs|_=>d)=(match lkB h j with|.row t g _ xs=>f t g xs|_=>d)) /\
   (∀{α:Type} (f:(k v:Ty)->rT (Val k×Val v)->α) (d:α),(match lkB (î h id (.row t g true xs)) j with|.map k v es=>f k v es|_=>d)=(match lkB h j with|.map k v es=>f k v es|_=>d)):=by
   intro j
   by_cases o:j=id
   ·subst o; rw[ã _ i,m]; exact⟨fun _ _=>rfl,fun _ _=>rfl⟩
   ·rw[Ð _ o]; exact⟨fun _ _=>rfl,fun _ _=>rfl⟩
  cases b with
  |own j l=>exact(e j).1 (fun t g' xs=>match l==g' with|true=>AV.slc t xs|false=>.any) .any
  |sub j l lo n=>exact(e j).1 (fun t g' xs=>match l==g' with|true=>AV.slc t ((xs.drop lo).take n)|false=>.any) .any
  |omp j=>exact(e j).2 (fun k v es=>AV.mp k v es) .any
  |_=>rfl
 cases a<;>try rfl
 all_goals
  simp only[qC]
  split
  ·exact c _ _ _ _ _ ‹_›
  ·rfl
def D2:∀(as:rT AV) {h:rT Blk},HR ν h w->Ev h.length ν h w ν (Bj h as) w/\HR ν (Bj h as) w/\(∀b,Av ν (Bj h as) b->Av ν h b)
 |[],h,H=>⟨Ev.refl _ _ _ _,H,fun _ hb=>hb⟩
 |a::as,h,H=>by
  obtain⟨e,i,d⟩:=PV H a;obtain⟨f,g,c⟩:=D2 as i;refine⟨e.trans f (by rw[mC]; exact du _),g,fun b hb=>d b (c b hb)⟩
def HR.grow (H:HR ν h w) (c:∀b,b<w.heap.size->w'.heap[b]?=w.heap[b]?) (a:w.heap.size<=w'.heap.size) (f:w'.os=w.os) (h2:w'.tape=w.tape) (e:w'.output=w.output) (m:Nat):Ev m ν h w ν h w'/\HR ν h w':=by
 have ev:∀m,Ev m ν h w ν h w':=fun m=>⟨f,h2,e,a,fun b hb d=>⟨c b hb,d⟩,fun _ _=>Blk.next_refl _ _ _⟩;exact⟨ev m,fun id=>BR.ev (ev _) (H.nd (ev 0)) (H.gl (ev 0)) rfl (fun b _ _ hb=>c b hb) (H.blk id),H.inj,fun b hb=>dD (H.ghlt b hb) a,H.ghne,H.globE (ev 0),H.globL⟩
end
def Sim.put {ν ν':Nat->Value} {S:St} {a:Act} {w w':World} {h':rT Blk} (H:Sim ν S a w) (e:Ev S.h.length ν S.h w ν' h' w') (g:HR ν' h' w') (d:rF Nat) {v:AV} {u:Value} (j:VR ν' h' w' v u) :
 Sim ν' {t:=ò S.t d v,h:=h'} (a.put d u) w':=by
 cases d with
 |none=>exact⟨H.defers.keep e.size (H.heap.nd e),H.len,fun i=>(H.tmps i).ev e,g⟩
 |some d =>
  refine⟨by simpa[Act.put] using H.defers.keep e.size (H.heap.nd e),by simpa[ò,Act.put,IA] using H.len,fun i=>?_,g⟩;simp only[ò,adx,Act.put]
  by_cases hi:i=d/\d<S.t.length
  ·rw[if_pos hi];have b:d<a.tmps.size:=dD hi.2 H.len;rw[hi.1];simpa[dT,eD,b] using j
  ·rw[if_neg hi]
   by_cases hd:i=d
   ·have c:S.t.length<=d:=by
     rcases dV d S.t.length with b|c
     ·exact absurd ⟨hd,b⟩ hi
     ·exact c
    have f:lk S.t i=.any:=by
     rw[hd]; exact alg _ _ c
    rw[f]; trivial
   ·have:(a.tmps.setIfInBounds d u).getD i undef=a.tmps.getD i undef:=by
     simp[dT,eD,Ne.symm hd]
    rw[this]; exact(H.tmps i).ev e
end Go.Am
end

noncomputable section
namespace Go.Am
variable [Globs] [Ghost]
section
variable {ν ν':Nat->Value} {h h':rT Blk} {w w':World} {P:Program}
def nO:∀{cs:rT AV} {o n:Nat} {a:rT AV},L7 cs o n=some a->a=(cs.drop o).take n/\a.length=n
 |cs,0,0,a,e=>by cases cs<;>(simp[L7] at e; subst e; simp)
 |[],0,n+1,a,e=>by simp[L7] at e
 |c::cs,0,n+1,a,e=>by
  simp only[L7] at e
  split at e
  ·rename_i l d;cases e;obtain⟨b,h2⟩:=nO d;simp at b;exact⟨by simp[<-b],by simp[h2]⟩
  ·cases e
 |[],o+1,n,a,e=>by cases n<;>simp[L7] at e
 |c::cs,o+1,n,a,e=>by
  have f:L7 cs o n=some a:=by cases n<;>simpa[L7] using e
  simpa using nO f
def s8:∀{cs:rT AV} {o:Nat} {vs a:rT AV},aev cs o vs=some a->a=cs.take o++vs++cs.drop (o+vs.length)/\o+vs.length<=cs.length
 |cs,0,[],a,e=>by cases cs<;>(simp[aev] at e; subst e; simp)
 |[],0,v::vs,a,e=>by simp[aev] at e
 |c::cs,0,v::vs,a,e=>by
  simp only[aev] at e
  split at e
  ·rename_i l d;cases e;obtain⟨b,h2⟩:=s8 d;simp at b h2;exact⟨by simp[b],by simpa using h2⟩
  ·cases e
 |[],o+1,vs,a,e=>by cases vs<;>simp[aev] at e
 |c::cs,o+1,vs,a,e=>by
  obtain⟨l,d,rfl⟩:∃l,aev cs o vs=some l/\a=c::l:=by
   cases vs<;>(simp only[aev] at e; split at e<;>first|exact⟨_,‹_›,by cases e; rfl⟩|cases e)
  obtain⟨b,h2⟩:=s8 d;refine⟨?_,by simp; omega⟩;rw[b,show o+1+vs.length=(o+vs.length)+1 by omega];simp
def mi {t:TypeId} {n:Nat} (h:szP P t=some n) (w:World):(sizeOf t).run P w=.ok n w:=by
 unfold szP at h
 split at h
 ·rename_i i hi; cases h; simp[sizeOf,typeInfo,hi]
 ·cases h
def Wm {t:TypeId} {agg:Bool} {n:Nat} (h:ldP P t=some (agg,n)):∃d,P.underlying t=some d/\QQ d=agg/\szP P t=some n:=by
 unfold ldP at h
 split at h
 ·rename_i d hd
  split at h
  ·rename_i m a; cases h; exact⟨d,hd,rfl,a⟩
  ·cases h
 ·cases h
def xw {t:TypeId} {d:TypeDesc} (h:P.underlying t=some d) (w:World):(isAgg t).run P w=.ok (QQ d) w:=by
 unfold isAgg;simp only[Sem.run_bind,run_underlying h,Result.andThen_ok]
 cases d<;>rfl
def aay (agg:Bool) (us:rT Value):Value:=match agg with|true=>.agg us.toArray|false=>us.headD undef
def run_loadVar {t:TypeId} {agg:Bool} {n:Nat} (g:ldP P t=some (agg,n)) {us:rT Value} (c:us.length=n) (ha:agg=false->n=1) {a:Addr} (e:∀j v,us[j]?=some v->w.cell? (a.add j)=some v) :
 (loadVar t a).run P w=.ok (aay agg us) w:=by
 obtain⟨d,hd,rfl,f⟩:=Wm g;unfold loadVar;simp only[Sem.run_bind,xw hd,Result.andThen_ok]
 cases b:QQ d with
 |true =>
  simp only[if_true,Sem.run_bind,mi f,Result.andThen_ok,<-c,run_loadCells_list w a us e];rfl
 |false =>
  have i:=ha b;obtain⟨u,rfl⟩:=List.length_eq_one_iff.1 (c.trans i);have h0:=e 0 u rfl
  have:a.add 0=a:=by simp[Addr.add]
  rw[this] at h0;simp[h0,aay]
def amt {agg:Bool} {cs:rT AV} {us:rT Value} {v:AV} (a:mkv agg cs=some v) (b:ÿ (VRc ν h w) cs us):VR ν h w v (aay agg us)/\(agg=false->cs.length=1):=by
 cases agg with
 |true=>cases a; exact⟨⟨us.toArray,rfl,by simpa using b⟩,fun c=>by cases c⟩
 |false =>
  simp only[mkv] at a
  split at a
  ·cases a;obtain⟨u,rfl,d⟩:=b.one;exact⟨d.1.up,fun _=>rfl⟩
  ·cases a
def CellsAt.part {b off:Nat} {us:rT Value} (c:CellsAt w b off us) (o n:Nat):CellsAt w b (off+o) ((us.drop o).take n):=by
 intro j v a;rw[eI] at a
 split at a
 ·rw[fh] at a;have:=c (o+j) v a
  rwa [show off+(o+j)=off+o+j by omega] at this
 ·cases a
def CellsAt.addr {b off:Nat} {us:rT Value} (c:CellsAt w b off us):∀j v,us[j]?=some v->w.cell? ((⟨b,off,none⟩:Addr).add j)=some v:=fun j v a=>by rw[ų]; exact c j v a
def CellsAt.of_cells {b:Nat} {c:Array Value} {e:TypeId} {f:Nat×Nat} (hb:w.heap[b]?=some (.cells c e f)):CellsAt w b 0 c.toList:=by
 intro j v a;simp[World.cell?,hb] at a ⊢;exact a
def ah8 {t:TypeId} {a v:AV} {s:Value} (H:HR ν h w) (e:PG P h t a some=some v) (A:VR ν h w a s) :
 ∃u,(Instr.loadAt t s).run P w=.ok u w/\VR ν h w v u:=by
 unfold PG at e
 split at e<;>try (cases e; done)
 rename_i agg n L
 have m:∀(b off o:Nat) (cs d:rT AV) (us:rT Value),ÿ (VRc ν h w) cs us->L7 cs o n=some d->CellsAt w b off us->s=.pointer (some ⟨b,off+o,none⟩) ->
  mkv agg d=some v->∃u,(Instr.loadAt t s).run P w=.ok u w/\VR ν h w v u:=by
  intro b off o cs d us N k E B j;obtain⟨f,h2⟩:=nO k
  have hd:ÿ (VRc ν h w) d ((us.drop o).take n):=by rw[f]; exact(N.drop o).take n
  obtain⟨p,l⟩:=amt j hd;refine⟨aay agg ((us.drop o).take n),?_,p⟩;rw[B];simp only[Instr.loadAt,Instr.sureAddr,Sem.run_bind,Sem.run_pure,Result.andThen_ok];exact run_loadVar L (hd.length.symm.trans h2) (fun M=>h2.symm.trans (l M)) (E.part o n).addr
 cases a with
 |box id off =>
  obtain⟨cs,b,f,h2,p⟩:=A;simp only[f] at e
  split at e<;>try (cases e; done)
  rename_i d k
  split at e<;>try (cases e; done)
  rename_i J j;cases e;have K:=H.blk id;rw[f] at K;obtain⟨T,c,Y,l,r,y⟩:=K;rw[l] at h2; cases h2;exact m b 0 off cs d c.toList y k (.of_cells r) (by rw[p]; simp) j
 |eptr ty x off =>
  obtain⟨b,o,us,f,h2,p,l,r⟩:=A;simp only at e
  split at e<;>try (cases e; done)
  rename_i d k
  split at e<;>try (cases e; done)
  rename_i J j;cases e;exact m b o off (flat ty x) d us (lX l) k r f j
 |optr id g i off =>
  obtain⟨U,ty,g',fz,xs,f,h2,p⟩:=A;simp only[f] at e
  split at e<;>try (cases e; done)
  rename_i C
  have D:g=g':=by simpa using C
  split at e<;>try (cases e; done)
  rename_i x z
  split at e<;>try (cases e; done)
  rename_i d k
  split at e<;>try (cases e; done)
  rename_i J j;cases e;obtain⟨hi,b,o,cap,l,r⟩:=p D;obtain⟨base,cap',y,W,_,q⟩:=H.row_data f
  rw[l] at y; injection y with S X Q; subst S; subst Q
  rcases q with q|⟨T,o',q,V,O,I⟩
  ·rw[q] at z; simp at z
  ·cases q;obtain⟨us,G,F⟩:=I i x z;exact m b _ off (flat ty x) d us (lX G) k F r j
 |_=>cases e
def MB (w:World) (g:Nat) (c:Array Value):(w.setRow g c).heap.size=w.heap.size:=by simp[World.setRow]
def Vb (H:HR ν h w) {id g g' b o' cap':Nat} {t:Ty} {xs xs':rT (Val t)} {c c':Array Value} {e:TypeId} (l:lkB h id=.row t g false xs) (hb:Ĭ (ν id) b)
 (r:w.heap[b]?=some (.cells c e (0,0))) (n:xs'.length<=cap') (m:o'+cap'*t.size<=c'.size)
 (f:g<g'\/(g=g'/\Value.slice (some ⟨b,o',none⟩) xs'.length cap'=ν id/\xs'.length=xs.length))
 (u:∀(i:Nat) (x:Val t),xs'[i]?=some x->∃us,CR w (Av ν h) t x us/\∀j v,us[j]?=some v->c'[o'+i*t.size+j]?=some v) :
 Ev h.length ν h w (ý ν id (.slice (some ⟨b,o',none⟩) xs'.length cap')) (î h id (.row t g' false xs')) (w.setRow b c') /\
  HR (ý ν id (.slice (some ⟨b,o',none⟩) xs'.length cap')) (î h id (.row t g' false xs')) (w.setRow b c'):=by
 have d:id<h.length:=Ν l (by simp)
 have a:∀k,k<w.heap.size->((lkB h id).live=true->¬Ĭ (ν id) k)->(w.setRow b c').heap[k]?=w.heap[k]?:=fun k _ o=>by
  refine setRow_other w b k c' fun q=>o (by rw[l]; rfl) (by rw[q]; exact hb)
 have s:(Blk.row t g' false xs').live=true->∀k,Ĭ (Value.slice (some ⟨b,o',none⟩) xs'.length cap') k->((lkB h id).live=true/\Ĭ (ν id) k)\/w.heap.size<=k:=fun _ k o=>by
  cases o; exact .inl ⟨by rw[l]; rfl,hb⟩
 have ev:=Ev.upd H (B:=.row t g' false xs') (V:=.slice (some ⟨b,o',none⟩) xs'.length cap') (w':=w.setRow b c') d rfl rfl rfl (by rw[MB]; exact du _) a s (by
  rw[l]
  refine⟨g',false,xs',rfl,by rcases f with f|⟨f,_⟩<;>omega,fun q=>?_⟩
  rcases f with f|⟨_,p,h2⟩
  ·omega
  ·exact⟨by rw[Õ,p],h2⟩)
 refine⟨ev,HR.upd H d ev a s ⟨some ⟨b,o',none⟩,cap',Õ _ _ _,n,.inr ⟨b,o',c',e,rfl,setRow_heap w b c c' e _ r,m,fun i x hi=>?_⟩⟩⟩;obtain⟨us,p,h2⟩:=u i x hi;refine⟨us,CR.keep ev.keepA p,fun j v y=>?_⟩;simp only[World.cell?,setRow_heap w b c c' e _ r];simpa using h2 j v y
def D4:∀(t:Ty) (x:Val t),(flat t x).length=t.size
 |.unit,_=>rfl
 |.bool,_=>rfl
 |.int _,_=>rfl
 |.str,_=>rfl
 |.slice _,_=>rfl
 |.map _ _,_=>rfl
 |.ptr _,_=>rfl
 |.pair a b,x=>by rw[flat,dw,D4 a,D4 b]; rfl
def GV:∀{as:rT AV} {h:rT Blk} {vs:rT Value},HR ν h w->ÿ (VR1 ν h w) as vs->as.all MX=true->ÿ (VRs w (Av ν (Bj h as))) (as.map (ñ h)) vs
 |[],_,[],_,_,_=>trivial
 |[],_,_::_,_,c,_=>c.elim
 |_::_,_,[],_,c,_=>c.elim
 |a::as,h,v::vs,H,c,d=>by
  simp only[fX,dt] at d;obtain⟨e,g,j⟩:=PV H a;have f:=GV (vs:=vs) g (c.2.mono fun _ _=>VR1.ev e) d.2;have i:as.map (ñ (qC h a))=as.map (ñ h):=fe fun b _=>HI h a b;rw[i] at f;refine⟨VRs.mono (D2 as g).2.2 (PU H c.1 d.1),f⟩
def aiy {v:AV} {vs:rT AV} (a:ĝ v=some vs) (h:rT Blk):frz h v=Bj h vs/\(ahp v=true->vs.all MX=true):=by
 cases v<;>simp only[ĝ,Option.some.injEq,reduceCtorEq] at a<;>subst a<;>exact⟨rfl,fun b=>by first|simpa[ahp] using b|rfl⟩
def Ż:∀(as:rT AV) (h:rT Blk),(Bj h as).length=h.length
 |[],_=>rfl
 |a::as,h=>by rw[Bj,Ż as,mC]
def IZ {v:AV} {u:Value} {vs:rT AV} (a:VR ν h w v u) (b:ĝ v=some vs):u.cells.size=vs.length:=by
 have:=(a.cells b).length;simpa using this.symm
def xu {t:TypeId} {u:Value} {n b o:Nat} {c:Array Value} {e:TypeId} (f:szP P t=some n) (d:u.cells.size=n) (g:w.heap[b]?=some (.cells c e (0,0)))
 (a:o+n<=c.size) (i:∀v∈u.cells.toList,v.oneCell'=true) :
 (storeVar t ⟨b,o,none⟩ u).run P w=.ok () (w.setRow b (c.toList.take o++u.cells.toList++c.toList.drop (o+n)).toArray):=by
 have:=run_storeCells_at P b o e u.cells.toList 0 c w g (by simpa[d] using a) i;simp only[Nat.add_zero,Array.length_toList,d] at this;unfold storeVar;simp only[Sem.run_bind,mi f,Result.andThen_ok,d,ne_eq,not_true,if_false,this]
def ÿ.right_mem {α β:Type} {R:α->β->Prop}:∀{l:rT α} {m:rT β},ÿ R l m->∀b∈m,∃a,R a b
 |[],[],_,b,hb=>by cases hb
 |a::_,c::_,h,b,hb=>by
  rcases dE.1 hb with rfl|hb
  ·exact⟨a,h.1⟩
  ·exact ÿ.right_mem h.2 b hb
 |[],_::_,h,_,_=>h.elim
 |_::_,[],h,_,_=>h.elim
def Aa {α:Type} (l m:rT α) (p k:Nat) (b:p+m.length<=l.length) :
 (l.take p++m++l.drop (p+m.length))[k]?=if k<p then l[k]? else if k<p+m.length then m[k-p]? else l[k]?:=by
 rw[fA,fA,dw,dK,Nat.min_eq_left (by omega:p<=l.length)]
 by_cases a:k<p
 ·rw[if_pos (by omega),if_pos a,if_pos a,eI,if_pos a]
 ·rw[if_neg a,if_neg a]
  by_cases h2:k<p+m.length
  ·rw[if_pos h2,if_pos h2]
  ·rw[if_neg h2,if_neg h2,fh,show p+m.length+(k-(p+m.length))=k by omega]
def acs {t:TypeId} {a v:AV} {ua l:Value} (H:HR ν h w) (e:qR P h t a v some=some h') (ha:VR ν h w a ua) (K:VR ν h w v l) :
 ∃w',(Instr.storeAt t ua l).run P w=.ok () w'/\HR ν h' w'/\Ev h.length ν h w ν h' w'/\h'.length=h.length:=by
 unfold qR at e
 split at e<;>try (cases e; done)
 rename_i vs C
 split at e<;>try (cases e; done)
 rename_i Y
 have Y:szP P t=some vs.length:=by simpa using Y
 have J:=K.cells C;have u:∀v∈l.cells.toList,v.oneCell'=true:=fun v K=>let ⟨_,h⟩:=J.right_mem v K; h.2;have E:=IZ K C
 cases a with
 |box id off =>
  obtain⟨cs,b,M,h2,h3⟩:=ha;simp only[M] at e
  split at e<;>try (cases e; done)
  rename_i c' m;cases e;obtain⟨rfl,h5⟩:=s8 m;have Q:=H.blk id;rw[M] at Q;obtain⟨b',c,e',L,h7,S⟩:=Q;rw[L] at h2; cases h2;have O:id<h.length:=Ν M (by simp)
  have hcl:c.size=cs.length:=by simpa using S.length.symm
  have n:=xu (P:=P) (o:=off) Y E h7 (by omega) u
  have q:∀k,k<w.heap.size->((lkB h id).live=true->¬Ĭ (ν id) k)->(w.setRow b (c.toList.take off++l.cells.toList++c.toList.drop (off+vs.length)).toArray).heap[k]?=w.heap[k]? :=
   fun k _ f=>setRow_other w b k _ fun he=>f (by rw[M]; rfl) (by rw[L,he]; rfl)
  have hV:(Blk.cells (cs.take off++vs++cs.drop (off+vs.length))).live=true->∀k,Ĭ (ν id) k->((lkB h id).live=true/\Ĭ (ν id) k)\/w.heap.size<=k:=fun _ k f=>.inl ⟨by rw[M]; rfl,f⟩;have ev:=Ev.upd H (B:=.cells (cs.take off++vs++cs.drop (off+vs.length))) (V:=ν id) (w':=w.setRow b (c.toList.take off++l.cells.toList++c.toList.drop (off+vs.length)).toArray) O rfl rfl rfl (by rw[MB]; exact du _) q hV (by rw[M]; exact⟨⟨_,rfl⟩,Õ _ _ _⟩)
  have N:=HR.upd H O ev q hV ⟨b,_,e',(Õ _ _ _).trans L,setRow_heap w b c _ e' _ h7,by
   exact(((S.take off).append J).append (S.drop (off+vs.length))).mono fun _ _ A=>VRc.ev ev A⟩
  rw[kv] at ev N;exact⟨_,by rw[h3]; simpa[Instr.storeAt,Instr.sureAddr] using n,N,ev,Û _ _ _⟩
 |optr id g i off =>
  simp only at e
  split at e<;>try (cases e; done)
  rename_i hm;obtain⟨hfe,I⟩:=aiy C h;have I:=I hm;rw[hfe] at e;obtain⟨e1,H1,hlv⟩:=D2 vs H;have hsn:=GV H (J.mono fun _ _ A=>A.1) I;have ha1:=ha.ev e1
  split at e<;>try (cases e; done)
  rename_i ty g' xs p
  split at e<;>try (cases e; done)
  rename_i hgg
  have hge:g=g':=by simpa using hgg
  split at e<;>try (cases e; done)
  rename_i x A
  split at e<;>try (cases e; done)
  rename_i cs' m
  split at e<;>try (cases e; done)
  rename_i x' hx';cases e;obtain⟨h4,h5⟩:=s8 m;rw[eF] at h4 h5;rw[D4] at h5;obtain⟨ho,ty2,g2,fz2,xs2,L,h7,S⟩:=ha1;rw[p] at L;cases L;obtain⟨hi,b,o,cap,h9,h10⟩:=S hge;have Q:=H1.blk id;rw[p] at Q;obtain⟨base,cap2,X,h12,r⟩:=Q
  rw[h9] at X; injection X with q1 q2 q3; subst q1; subst q3
  rcases r with⟨r,_⟩|⟨b2,o2,c,e2,r,s,h15,W⟩
  ·cases r
  cases r;obtain⟨us,U,h18⟩:=W i x A;have hul:us.length=ty.size:=U.length;have hii:(i+1)*ty.size<=cap*ty.size:=dP _ (by omega)
  have hi1:(i+1)*ty.size=i*ty.size+ty.size:=by rw[dS,fG]
  have n:=xu (P:=P) (o:=o+i*ty.size+off) Y E s (by omega) u
  have hcr:CR w (Av ν (Bj h vs)) ty x' (us.take off++l.cells.toList++us.drop (off+vs.length)):=by
   refine ċ hx' ?_;rw[h4];have hf:=(lX U).mono fun _ _ A=>(VR1.data A.1);exact((hf.take off).append hsn).append (hf.drop _)
  have D:l.cells.toList.length=vs.length:=by simpa using E
  obtain⟨ev,N⟩:=Vb H1 (xs':=xs.set i x') (g':=g') (o':=o) (cap':=cap) (c':=(c.toList.take (o+i*ty.size+off)++l.cells.toList++c.toList.drop (o+i*ty.size+off+vs.length)).toArray) p (by rw[h9]; rfl) s
   (by simpa using h12) (by simp; omega) (.inr ⟨rfl,by simpa using h9.symm,by simp⟩) (fun j y Z=>by
    have z:∀k,(c.toList.take (o+i*ty.size+off)++l.cells.toList++c.toList.drop (o+i*ty.size+off+vs.length)).toArray[k]? =
     if k<o+i*ty.size+off then c[k]? else if k<o+i*ty.size+off+vs.length then l.cells.toList[k-(o+i*ty.size+off)]? else c[k]?:=by
     intro k;have:=Aa c.toList l.cells.toList (o+i*ty.size+off) k (by rw[D]; simp; omega);rw[D] at this;simpa using this
    rw[gS] at Z
    split at Z
    ·rename_i G; subst G;cases Z;refine⟨_,hcr,fun k v f=>?_⟩;rw[z];have d:=fun v K=>h18 k v K;simp only[World.cell?,s] at d;rw[fA,fA] at f;simp only[dw,dK,D,hul] at f;rw[Nat.min_eq_left (by omega:off<=ty.size)] at f
     split at f
     ·split at f
      ·rw[if_pos (by omega)];rw[eI,if_pos (by omega)] at f;simpa using d v f
      ·rw[if_neg (by omega),if_pos (by omega)];rw[show o+i*ty.size+k-(o+i*ty.size+off)=k-off by omega]; exact f
     ·rw[if_neg (by omega),if_neg (by omega)];rw[fh,show off+vs.length+(k-(off+vs.length))=k by omega] at f;simpa using d v f
    ·rename_i G;obtain⟨ws,T,h20⟩:=W j y Z;refine⟨ws,T,fun k v f=>?_⟩
     have hkl:k<ty.size:=by rw[<-T.length]; exact(dC.1 f).1
     have d:=h20 k v f;simp only[World.cell?,s] at d;rw[z]
     have hne:j*ty.size+ty.size<=i*ty.size\/i*ty.size+ty.size<=j*ty.size:=by
      rcases Nat.lt_or_gt_of_ne G with F|F
      ·right;have:=dP ty.size (show i+1<=j from F);rw[dS,fG] at this; exact this
      ·left;have:=dP ty.size (show j+1<=i from F);rw[dS,fG] at this; exact this
     split
     ·simpa using d
     ·rw[if_neg (by omega)]; simpa using d)
  have hvv:ý ν id (.slice (some ⟨b,o,none⟩) (xs.set i x').length cap)=ν:=by
   rw[List.length_set,<-h9,kv]
  rw[hvv] at ev N;refine⟨_,by rw[h10]; simpa[Instr.storeAt,Instr.sureAddr] using n,N,e1.trans ev (by rw[Ż]; exact du _),by rw[Û,Ż]⟩
 |_=>cases e
end
end Go.Am
end

noncomputable section
namespace Go.Am
variable [Globs] [Ghost]
section
variable {ν ν':Nat->Value} {h h':rT Blk} {w w':World} {P:Program}
def SR (w:World) (av:Nat->Prop) (t:Ty) (xs:rT (Val t)) (base:rF Addr) (cap:Nat):Prop :=
 xs.length<=cap/\(xs=[]\/∃b off,base=some ⟨b,off,none⟩/\b<w.heap.size/\∀(i:Nat) (x:Val t),xs[i]?=some x->∃us,CR w av t x us/\CellsAt w b (off+i*t.size) us)
def SR.part {av:Nat->Prop} {t:Ty} {xs:rT (Val t)} {base:rF Addr} {cap l m:Nat} (e:SR w av t xs base cap) (p:l<=m) (o:m<=xs.length) :
 SR w av t ((xs.drop l).take (m-l)) (if cap=l then base else base.map (·.add (l*t.size))) (cap-l):=by
 obtain⟨q,h2⟩:=e
 have a:((xs.drop l).take (m-l)).length=m-l:=by simp; omega
 refine⟨by rw[a]; omega,?_⟩
 by_cases f:cap=l
 ·exact .inl (dZ.1 (by rw[a]; omega))
 rcases h2 with h2|⟨b,off,rfl,n,k⟩
 ·exact .inl (by rw[h2]; simp)
 ·refine .inr ⟨b,off+l*t.size,by rw[if_neg f]; simp[ų],n,fun i x c=>?_⟩
  have d:xs[l+i]?=some x:=by
   rw[eI] at c
   split at c
   ·simpa using c
   ·cases c
  obtain⟨us,j,g⟩:=k (l+i) x d;refine⟨us,j,?_⟩
  have:off+l*t.size+i*t.size=off+(l+i)*t.size:=by rw[dS]; omega
  rw[this]; exact g
def CR.slice_iff {av:Nat->Prop} {t:Ty} {xs:rT (Val t)} {v:Value}:CR w av (.slice t) xs [v] ↔
 ∃base cap,v=.slice base xs.length cap/\SR w av t xs base cap/\(xs=[]\/∀b off,base=some ⟨b,off,none⟩->¬av b):=by
 constructor
 ·rintro⟨base,cap,g,h2,a⟩;refine⟨base,cap,by simpa using g,⟨h2,?_⟩,?_⟩
  ·rcases a with a|⟨b,off,a,c,e,d⟩
   ·exact .inl a
   ·exact .inr ⟨b,off,a,e,d⟩
  ·rcases a with a|⟨b,off,a,c,e,d⟩
   ·exact .inl a
   ·exact .inr fun i f hb=>by rw[a] at hb; cases hb; exact c
 ·rintro⟨base,cap,rfl,⟨h2,a⟩,c⟩;refine⟨base,cap,rfl,h2,?_⟩;rcases a with a|⟨b,off,a,e,d⟩
  ·exact .inl a
  ·rcases c with c|c
   ·exact .inl c
   ·exact .inr ⟨b,off,a,c b off a,e,d⟩
def CR.part {av:Nat->Prop} {t:Ty} {xs:rT (Val t)} {base:rF Addr} {cap l m:Nat} (f:CR w av (.slice t) xs [.slice base xs.length cap]) (i:l<=m) (g:m<=xs.length) :
 CR w av (.slice t) ((xs.drop l).take (m-l)) [.slice (if cap=l then base else base.map (·.add (l*t.size))) (m-l) (cap-l)]:=by
 obtain⟨d,cap',k,h2,c⟩:=CR.slice_iff.1 f;cases k
 have a:((xs.drop l).take (m-l)).length=m-l:=by simp; omega
 refine CR.slice_iff.2 ⟨_,_,by rw[a],h2.part i g,?_⟩;rcases c with c|c
 ·exact .inl (by rw[c]; simp)
 rcases h2.2 with j|⟨n,off0,rfl,_⟩
 ·exact .inl (by rw[j]; simp)
 ·right;intro b off hb;have e:=c n off0 rfl
  split at hb
  ·cases hb; exact e
  ·simp only[eJ,ų,Option.some.injEq,Addr.mk.injEq] at hb;rw[<-hb.1]; exact e
def anR (H:HR ν h w) {x:AV} {f:Value} {t:Ty} {ys:rT (Val t)} (r:VR ν h w x f) (e:Ü (.slice t) [ñ h x]=some ys) :
 ∃base cap,f=.slice base ys.length cap/\SR w (Av ν h) t ys base cap:=by
 have j:∀{a:AV},VRs w (Av ν h) a f->Ü (.slice t) [a]=some ys->∃base cap,f=.slice base ys.length cap/\SR w (Av ν h) t ys base cap:=fun u e=>by
  obtain⟨base,cap,p,h2,_⟩:=CR.slice_iff.1 (ċ e ⟨u,trivial⟩);exact⟨base,cap,p,h2⟩
 have q:∀{t':Ty} {zs:rT (Val t')},Ü (.slice t) [.slc t' zs]=some ys->∃e:t'=t,ys=uQ (F:=fun t=>rT (Val t)) e zs:=fun {t' zs} e=>by
  simp only[Ü,ş] at e
  split at e<;>try (cases e; done)
  rename_i y A
  split at A<;>try (cases A; done)
  rename_i G _;cases A; cases e;exact⟨G,rfl⟩
 cases x with
 |own id g =>
  obtain⟨I,t',g',fz,xs,o,v,z⟩:=r;simp only[ñ,o] at e
  split at e
  ·rename_i d;obtain⟨rfl,rfl⟩:=q e;obtain⟨base,cap,p,h2,_,c⟩:=H.row_data o;refine⟨base,cap,by rw[z (by simpa using d),p],h2,?_⟩;rcases c with c|⟨b,off,c,C,_,B⟩
   ·exact .inl c
   ·exact .inr ⟨b,off,c,C,B⟩
  ·simp[Ü,ş] at e
 |sub id g lo n =>
  obtain⟨I,t',g',fz,xs,o,v,z⟩:=r;simp only[ñ,o] at e
  split at e
  ·rename_i d;obtain⟨rfl,rfl⟩:=q e;obtain⟨k,D,cap',i,s⟩:=z (by simpa using d);obtain⟨base,cap,p,h2,_,c⟩:=H.row_data o
   rw[p] at i; injection i with L M K; subst L; subst K
   have u:SR w (Av ν h) t' xs base cap:=⟨h2,by
    rcases c with c|⟨b,off,c,C,_,B⟩
    ·exact .inl c
    ·exact .inr ⟨b,off,c,C,B⟩⟩
   have E:=u.part (l:=lo) (m:=lo+n) (by omega) k;rw[Nat.add_sub_cancel_left] at E
   have J:((xs.drop lo).take n).length=n:=by simp; omega
   refine⟨_,_,?_,E⟩;show f=.slice _ ((xs.drop lo).take n).length _;rw[J]; exact s
  ·simp[Ü,ş] at e
 |omp id =>
  simp only[ñ] at e
  split at e<;>simp[Ü,ş] at e
 |nils=>exact j (a:=.nils) (VR1.data (a:=.nils) r) e
 |slc t' xs=>exact j (a:=.slc t' xs) (VR1.data (a:=.slc t' xs) r) e
 |_=>simp[ñ,Ü,ş] at e
def flatten {av:Nat->Prop} {b:Nat} {t:Ty}:∀(ys:rT (Val t)) (off:Nat),(∀(i:Nat) (y:Val t),ys[i]?=some y->∃us,CR w av t y us/\CellsAt w b (off+i*t.size) us) ->
 ∃news:rT Value,news.length=ys.length*t.size/\CellsAt w b off news/\(∀v∈news,v.oneCell'=true)/\∀(i:Nat) (y:Val t),ys[i]?=some y->CR w av t y ((news.drop (i*t.size)).take t.size)
 |[],off,_=>⟨[],by simp,fun j v c=>by simp at c,by simp,fun i y hi=>by simp at hi⟩
 |y::ys,off,H=>by
  obtain⟨us,f,h2⟩:=H 0 y rfl
  obtain⟨news,o,n,m,l⟩:=flatten ys (off+t.size) fun i z d=>by
   obtain⟨ws,k,g⟩:=H (i+1) z (by simpa using d);refine⟨ws,k,?_⟩;rw[show off+t.size+i*t.size=off+(i+1)*t.size by rw[dS]; omega]; exact g
  have a:us.length=t.size:=f.length;refine⟨us++news,by simp[a,o,dS]; omega,fun j v c=>?_,fun v e=>?_,fun i z d=>?_⟩
  ·rw[fA] at c
   split at c
   ·simpa using h2 j v c
   ·have:=n _ v c
    rwa [show off+t.size+(j-us.length)=off+j by omega] at this
  ·rcases dA.1 e with e|e
   ·exact CR.oneCell f v e
   ·exact m v e
  ·cases i with
   |zero =>
    simp at d; subst d;simpa[<-a] using f
   |succ i =>
    have:=l i z (by simpa using d);rw[show(i+1)*t.size=us.length+i*t.size by rw[dS,a]; omega,<-fR,gN];exact this
def SR.flat {av:Nat->Prop} {t:Ty} {ys:rT (Val t)} {base:rF Addr} {cap:Nat} (c:SR w av t ys base cap) :
 ∃news:rT Value,news.length=ys.length*t.size/\(∀a,base=some a->∀j v,news[j]?=some v->w.cell? (a.add j)=some v)/\(base=none->ys=[])/\(∀v∈news,v.oneCell'=true) /\
  ∀(i:Nat) (y:Val t),ys[i]?=some y->CR w av t y ((news.drop (i*t.size)).take t.size):=by
 rcases c.2 with rfl|⟨b,off,rfl,m,h2⟩
 ·exact⟨[],by simp,fun _ _ j v d=>by simp at d,fun _=>rfl,by simp,fun i y hi=>by simp at hi⟩
 ·obtain⟨news,l,k,g,f⟩:=flatten ys off h2;exact⟨news,l,fun a ha=>by cases ha; exact k.addr,fun e=>(by cases e),g,f⟩
end
end Go.Am
end

noncomputable section
namespace Go.Am
variable [Globs] [Ghost]
section
variable {ν ν':Nat->Value} {h h':rT Blk} {w w':World} {P:Program}
def zV (w:World) (av:Nat->Prop) (t:Ty) (xs:rT (Val t)) (news:rT Value):Prop :=
 news.length=xs.length*t.size/\∀(i:Nat) (x:Val t),xs[i]?=some x->CR w av t x ((news.drop (i*t.size)).take t.size)
def zV.append {av:Nat->Prop} {t:Ty} {xs ys:rT (Val t)} {m n:rT Value} (a:zV w av t xs m) (h2:zV w av t ys n):zV w av t (xs++ys) (m++n):=by
 refine⟨by simp[a.1,h2.1,dS],fun i x hi=>?_⟩;rw[fA] at hi
 split at hi
 ·rename_i b;have:=a.2 i x hi;have hb:(i+1)*t.size<=xs.length*t.size:=dP _ b;rw[dS,fG] at hb;rw[fO (by rw[a.1]; omega),fq (by rw[gB,a.1]; omega)];exact this
 ·rename_i c;have:=h2.2 _ x hi
  have:i*t.size=m.length+(i-xs.length)*t.size:=by rw[a.1,<-dS]; congr 1; omega
  rw[this,<-fR,gN];exact h2.2 _ x hi
def zV.cells {av:Nat->Prop} {t:Ty} {xs:rT (Val t)} {news:rT Value} (b:zV w av t xs news) {c:Array Value} {o:Nat} (d:∀(j:Nat) (v:Value),news[j]?=some v->c[o+j]?=some v) :
 ∀(i:Nat) (x:Val t),xs[i]?=some x->∃us,CR w av t x us/\∀j v,us[j]?=some v->c[o+i*t.size+j]?=some v:=by
 intro i x hi;refine⟨_,b.2 i x hi,fun j v a=>?_⟩;rw[eI] at a
 split at a
 ·rw[fh] at a;have:=d _ v a
  rwa [show o+(i*t.size+j)=o+i*t.size+j by omega] at this
 ·cases a
def C8 (H:HR ν h w) {id g' cap':Nat} {t:Ty} {xs':rT (Val t)} {c':Array Value} {e:TypeId} {news:rT Value} (m:id<h.length)
 (g:∀V,(lkB h id).next ν (ý ν id V) id (.row t g' false xs')) (n:w'.heap=w.heap.push (.cells c' e (0,0))) (p:w'.os=w.os) (f:w'.tape=w.tape) (l:w'.output=w.output)
 (q:xs'.length<=cap') (u:cap'*t.size<=c'.size) (y:zV w (Av ν h) t xs' news) (z:∀(j:Nat) (v:Value),news[j]?=some v->c'[j]?=some v) :
 Ev h.length ν h w (ý ν id (.slice (some ⟨w.heap.size,0,none⟩) xs'.length cap')) (î h id (.row t g' false xs')) w' /\
  HR (ý ν id (.slice (some ⟨w.heap.size,0,none⟩) xs'.length cap')) (î h id (.row t g' false xs')) w':=by
 have a:∀b,b<w.heap.size->((lkB h id).live=true->¬Ĭ (ν id) b)->w'.heap[b]?=w.heap[b]?:=fun b hb _=>by
  rw[n,fQ]; simp[gu hb]
 have s:(Blk.row t g' false xs').live=true->∀k,Ĭ (Value.slice (some ⟨w.heap.size,0,none⟩) xs'.length cap') k->((lkB h id).live=true/\Ĭ (ν id) k)\/w.heap.size<=k:=fun _ k A=>by
  cases A; exact .inr (du _)
 have ev:=Ev.upd H (B:=.row t g' false xs') (V:=.slice (some ⟨w.heap.size,0,none⟩) xs'.length cap') (w':=w') m p f l (by rw[n]; simp) a s (g _)
 have d:w'.heap[w.heap.size]?=some (.cells c' e (0,0)):=by rw[n]; simp
 refine⟨ev,HR.upd H m ev a s ⟨_,cap',Õ _ _ _,q,.inr ⟨w.heap.size,0,c',e,rfl,d,by omega,fun i x hi=>?_⟩⟩⟩;obtain⟨us,C,h2⟩:=y.cells (o:=0) (c:=c') (fun j v r=>by simpa using z j v r) i x hi;refine⟨us,CR.keep ev.keepA C,fun j v r=>?_⟩;simp only[World.cell?,d];simpa using h2 j v r
def Vc (H:HR ν h w) {id g':Nat} {t:Ty} (d:id<h.length) (c:∀V,(lkB h id).next ν (ý ν id V) id (.row t g' false [])) :
 Ev h.length ν h w (ý ν id (.slice none 0 0)) (î h id (.row t g' false [])) w/\HR (ý ν id (.slice none 0 0)) (î h id (.row t g' false [])) w:=by
 have a:∀b,b<w.heap.size->((lkB h id).live=true->¬Ĭ (ν id) b)->w.heap[b]?=w.heap[b]?:=fun b hb _=>rfl
 have e:(Blk.row t g' false []).live=true->∀k,Ĭ (Value.slice none 0 0) k->((lkB h id).live=true/\Ĭ (ν id) k)\/w.heap.size<=k:=fun _ k f=>by cases f
 have ev:=Ev.upd H (B:=.row t g' false []) (V:=.slice none 0 0) (w':=w) d rfl rfl rfl (du _) a e (c _);exact⟨ev,HR.upd H d ev a e ⟨none,0,Õ _ _ _,du _,.inl ⟨rfl,rfl⟩⟩⟩
def wn {id g:Nat} {t:Ty} {fz:Bool} {xs:rT (Val t)} {V:Value} {h:rT Blk} (a:id<h.length) (b:V.oneCell'=true):VR (ý ν id V) (î h id (.row t g fz xs)) w (.own id g) V :=
 ⟨b,t,g,fz,xs,ã _ a,du _,fun _=>(Õ _ _ _).symm⟩
def s9 {e:TypeId} {n:Nat} (a:MD P e n=true):∃i z,P.info? e=some i/\i.size=n/\0<n/\i.bytes<=32768/\i.zero=some z/\z.cells.size=n:=by
 unfold MD at a
 split at a
 ·rename_i i hi;simp only[dt,beq_iff_eq,decide_eq_true_eq] at a;obtain⟨f,h2,d,b⟩:=a
  split at b
  ·rename_i z c;exact⟨i,z,hi,f,h2,d,c,by simpa using b⟩
  ·cases b
 ·cases a
def wg (t ty e:TypeId) (i:TypeInfo) (p:P.underlying t=some (.slice e)) (hi:P.info? e=some i)
 {g o sLen sCap:Nat} {b:Array Value} {n:TypeId} (r:w.heap[g]?=some (.cells b n (0,0)))
 (base:rF Addr) (m c:Nat) (news:rT Value) (q:news.length=m*i.size) (f:∀a,base=some a->∀j u,news[j]?=some u->w.cell? (a.add j)=some u) (hb:base=none->news=[]) (v:∀u∈news,u.oneCell'=true)
 (d:sLen+m<=sCap) (l:o+sLen*i.size+news.length<=b.size) :
 (Builtin.append_ #[t,t] ty #[.slice (some ⟨g,o,none⟩) sLen sCap,.slice base m c]).run P w =
  .ok (.slice (some ⟨g,o,none⟩) (sLen+m) sCap) (w.setRow g (b.toList.take (o+sLen*i.size)++news++b.toList.drop (o+sLen*i.size+news.length)).toArray):=by
 have s:(Builtin.firstCells i.size m (.slice base m c)).run P w=.ok news.toArray w:=by
  cases base with
  |none=>rw[hb rfl]; exact run_firstCells_none (P:=P) w _ _ _ _
  |some a=>exact run_firstCells_some (P:=P) w i.size m a m c news q (f a rfl)
 have k:=run_storeCells_at P g (o+sLen*i.size) n news 0 b w r (by simpa using l) v;simp only[gq] at k;simp[Builtin.append_,run_underlying p,sizeOf,typeInfo,hi,Builtin.lenOf,d,s,ų,k]
def xx (t ty e:TypeId) (i:TypeInfo) (b:P.underlying t=some (.slice e)) (hi:P.info? e=some i) (base:rF Addr) (c:Nat) :
 (Builtin.append_ #[t,t] ty #[.slice none 0 0,.slice base 0 c]).run P w=.ok (.slice none 0 0) w:=by
 have f:(Builtin.firstCells i.size 0 (.slice base 0 c)).run P w=.ok #[] w:=by
  cases base with
  |none=>exact run_firstCells_none (P:=P) w _ _ _ _
  |some a=>exact run_firstCells_some (P:=P) w i.size 0 a 0 c [] (by simp) (fun j v d=>by simp at d)
 simp[Builtin.append_,run_underlying b,sizeOf,typeInfo,hi,Builtin.lenOf,f]
def QL (H:HR ν h w) (t ty:TypeId) {e:TypeId} {i:TypeInfo} {z:Value} (N:P.underlying t=some (.slice e)) (hi:P.info? e=some i) (T:i.zero=some z) {f:Ty} (q:i.size=f.size) (hpos:0<f.size)
 (hby:i.bytes<=32768) (S:z.cells.size=f.size) {id g':Nat} (L:id<h.length) {xs ys:rT (Val f)} (r:∀V,(lkB h id).next ν (ý ν id V) id (.row f g' false (xs++ys)))
 {base:rF Addr} {cap:Nat} {l:rF Addr} {cy:Nat} (hy:SR w (Av ν h) f ys l cy)
 (hx:(base=none/\cap=0/\xs=[])\/∃g,lkB h id=.row f g false xs/\g<g'/\ν id=.slice base xs.length cap)
 (A:xs.length+ys.length<=4294967296) :
 ∃V w',(Builtin.append_ #[t,t] ty #[.slice base xs.length cap,.slice l ys.length cy]).run P w=.ok V w'/\V.oneCell'=true /\
  Ev h.length ν h w (ý ν id V) (î h id (.row f g' false (xs++ys))) w'/\HR (ý ν id V) (î h id (.row f g' false (xs++ys))) w':=by
 obtain⟨news,p,D,C,Y,X⟩:=hy.flat;have J:zV w (Av ν h) f ys news:=⟨p,X⟩
 have o:(xs.length+ys.length)*i.bytes<=140737488355328:=by
  have:=fT A hby;omega
 have y:∀(s:Nat) (k:rT Value),zV w (Av ν h) f xs k ->
  ∃V w',(Result.ok (Value.slice (some ⟨w.heap.size,0,none⟩) (xs.length+ys.length) (grownCap w (xs.length+ys.length) s e))
   (w.drew.alloc (.cells (k.toArray++news.toArray++Builtin.zeroCells z.cells (grownCap w (xs.length+ys.length) s e-(xs.length+ys.length))) e)):Result Value)=.ok V w'/\V.oneCell'=true /\
  Ev h.length ν h w (ý ν id V) (î h id (.row f g' false (xs++ys))) w'/\HR (ý ν id V) (î h id (.row f g' false (xs++ys))) w':=by
  intro s k u;have Z:=grownCap_ge w (xs.length+ys.length) s e;have hr:=u.append J
  have:=C8 (w':=w.drew.alloc (.cells (k.toArray++news.toArray++Builtin.zeroCells z.cells (grownCap w (xs.length+ys.length) s e-(xs.length+ys.length))) e))
   H (cap':=grownCap w (xs.length+ys.length) s e) (g':=g') (t:=f) L r rfl rfl rfl rfl (by simpa using Z) (by
    simp only[Array.size_append,fN,size_zeroCells,S,u.1,J.1,<-dS]
    apply dP; omega) hr (fun j v B=>by
     rw[<-fJ] at B;rw[fK,if_pos]
     ·simpa using B
     ·have:=(fH.1 B).1
      simpa using this)
  rw[dw] at this;exact⟨_,_,rfl,rfl,this⟩
 rcases hx with⟨rfl,rfl,rfl⟩|⟨g,hl,hg,O⟩
 ·by_cases m:ys=[]
  ·subst m;have d:=xx (P:=P) (w:=w) t ty e i N hi l cy;exact⟨_,w,d,rfl,Vc H L r⟩
  ·have h0:0<ys.length:=List.length_pos_iff.2 m
   have hb:∃a,l=some a:=by
    cases l with
    |none=>exact absurd (C rfl) m
    |some a=>exact⟨a,rfl⟩
   obtain⟨a,rfl⟩:=hb;have d:=run_append_nil (P:=P) w t ty e i z N hi T a ys.length cy news (by rw[q]; exact p) (D a rfl) h0 (by simp at A; omega) (by simp at o; omega);obtain⟨V,w',I,h2,M,E⟩:=y 0 [] ⟨by simp,fun i x hi=>by simp at hi⟩;refine⟨V,w',?_,h2,M,E⟩;rw[<-I];simpa using d
 ·have hB:=H.blk id;rw[hl] at hB;obtain⟨base',cap',I,h2,M⟩:=hB
  rw[O] at I; injection I with q1 q2 q3; subst q1; subst q3
  rcases M with⟨rfl,rfl⟩|⟨b,off,c,e',rfl,E,h5,h6⟩
  ·have U:xs=[]:=dZ.1 (by omega);subst U
   by_cases m:ys=[]
   ·subst m;have d:=xx (P:=P) (w:=w) t ty e i N hi l cy;exact⟨_,w,d,rfl,Vc H L r⟩
   ·have h0:0<ys.length:=List.length_pos_iff.2 m
    have hb:∃a,l=some a:=by
     cases l with
     |none=>exact absurd (C rfl) m
     |some a=>exact⟨a,rfl⟩
    obtain⟨a,rfl⟩:=hb;have d:=run_append_nil (P:=P) w t ty e i z N hi T a ys.length cy news (by rw[q]; exact p) (D a rfl) h0 (by simp at A; omega) (by simp at o; omega);obtain⟨V,w',I,h2,M,E⟩:=y 0 [] ⟨by simp,fun i x hi=>by simp at hi⟩;refine⟨V,w',?_,h2,M,E⟩;rw[<-I];simpa using d
  ·obtain⟨k,K,Q,ho3,W⟩:=flatten xs off h6;have u:zV w (Av ν h) f xs k:=⟨K,W⟩
   by_cases n:xs.length+ys.length<=cap
   ·have G:off+xs.length*i.size+news.length<=c.size:=by
     have:=dP f.size n;rw[q,p];rw[dS] at this;omega
    have d:=wg (P:=P) t ty e i N hi E l ys.length cy news (by rw[q]; exact p) D (fun hb=>by
     rw[C hb] at p; exact dZ.1 (by simpa using p)) Y n G
    have F:=Vb H (xs':=xs++ys) (g':=g') (o':=off) (cap':=cap) (c':=(c.toList.take (off+xs.length*i.size)++news++c.toList.drop (off+xs.length*i.size+news.length)).toArray) hl
     (by rw[O]; rfl) E (by simpa using n) (by simp; omega) (.inl hg) ((u.append J).cells fun j v B=>by
      have hs:=Aa c.toList news (off+xs.length*i.size) (off+j) (by simpa using G);rw[fJ,hs];rw[fA] at B;rw[K,<-q] at B
      split at B
      ·rw[if_pos (by omega)];have:=Q j v B;simp only[World.cell?,E] at this;simpa using this
      ·have hjl:=(dC.1 B).1;rw[if_neg (by omega),if_pos (by omega)]
       rw[show off+j-(off+xs.length*i.size)=j-xs.length*i.size by omega]; exact B)
    rw[dw] at F;exact⟨_,_,d,rfl,F⟩
   ·by_cases m:ys=[]
    ·subst m; simp at n; omega
    have hb:∃a,l=some a:=by
     cases l with
     |none=>exact absurd (C rfl) m
     |some a=>exact⟨a,rfl⟩
    obtain⟨a,rfl⟩:=hb;have d:=run_append_grow (P:=P) w t ty e i z N hi T ⟨b,off,none⟩ xs.length cap k (by rw[q]; exact K) Q.addr a ys.length cy news (by rw[q]; exact p) (D a rfl) (by omega) (by omega) (growslice_fits (by omega) o);obtain⟨V,w',I,h2,M,E⟩:=y cap k u;exact⟨V,w',d.trans I,h2,M,E⟩
end
end Go.Am
end

noncomputable section
namespace Go.Am
variable [Globs] [Ghost]
section
variable {ν ν':Nat->Value} {h h':rT Blk} {w w':World} {P:Program}
def Ŏ (P:Program) (ν:Nat->Value) (h:rT Blk) (w:World) (x:Sem Value) (v:AV) (h':rT Blk):Prop :=
 ∃ν' w' u,x.run P w=.ok u w'/\VR ν' h' w' v u/\HR ν' h' w'/\Ev h.length ν h w ν' h' w'/\h'.length=h.length
def Ŏ.still {x:Sem Value} {u:Value} {v:AV} (H:HR ν h w) (b:x.run P w=.ok u w) (a:VR ν h w v u):Ŏ P ν h w x v h :=
 ⟨ν,w,u,b,a,H,Ev.refl _ _ _ _,rfl⟩
def pB {t e:TypeId} (h:LA P t=some e):P.underlying t=some (.slice e):=by
 unfold LA at h
 split at h
 ·rename_i a h'; cases h; exact h'
 ·cases h
def ajQ {nid:Nat} {t ty:TypeId} {s x v:AV} {us D:Value} (H:HR ν h w) (I:nid<h.length) (hd:lkB h nid=.dead)
 (e:vY P h nid t s x (fun v h=>some (v,h))=some (v,h')) (G:VR ν h w s us) (N:VR ν h w x D):Ŏ P ν h w (Builtin.append_ #[t,t] ty #[us,D]) v h':=by
 unfold vY at e
 split at e<;>try (cases e; done)
 rename_i Z A
 split at e<;>try (cases e; done)
 rename_i T J
 split at e<;>try (cases e; done)
 rename_i l;obtain⟨i,z,hi,j,b,p,E,f⟩:=s9 l
 split at e<;>try (cases e; done)
 rename_i ys q;obtain⟨U,cy,rfl,k⟩:=anR H N q;have F:=pB A
 split at e
 ·-- nil
  split at e<;>try (cases e; done)
  rename_i a;cases e;have c:us=.slice none 0 0:=G;subst c
  obtain⟨V,w',d,h2,C,B⟩:=QL H t ty F hi E j b p f (id:=nid) (g':=0) I (xs:=[]) (ys:=ys) (fun V=>by rw[hd]; trivial) (base:=none) (cap:=0) k (.inl ⟨rfl,rfl,rfl⟩)
   (by simp[Î] at a; simpa using a)
  exact⟨_,w',V,d,wn I h2,B,C,Û _ _ _⟩
 ·rename_i id g
  split at e<;>try (cases e; done)
  rename_i M g' xs n
  split at e<;>try (cases e; done)
  rename_i u
  split at e<;>try (cases e; done)
  rename_i y _;subst y
  split at e<;>try (cases e; done)
  rename_i a
  have Q:g=g':=by simpa using u
  subst Q;obtain⟨W,t2,Y,S,L,m,O,r⟩:=G;rw[n] at m; cases m;have o:id<h.length:=Ν n (by simp);have K:=H.blk id;rw[n] at K;obtain⟨base,cap,d,_,_⟩:=K
  have c:us=.slice base xs.length cap:=by rw[r rfl,d]
  subst c
  obtain⟨V,w',d,h2,C,B⟩:=QL H t ty F hi E j b p f (id:=id) (g':=g+1) o (xs:=xs) (ys:=ys) (fun V=>by
   rw[n]; exact⟨g+1,false,xs++ys,rfl,Nat.le_succ _,fun X=>by omega⟩) (base:=base) (cap:=cap) k (.inr ⟨g,n,gY _,d⟩)
   (by simpa[Î] using a)
  cases e;exact⟨_,w',V,d,wn o h2,B,C,Û _ _ _⟩
 ·cases e
def aln {t e:TypeId} {sz:Nat} {x i v:AV} {D E:Value} (H:HR ν h w) (T:P.underlying t=some (.slice e)) (U:szP P e=some sz)
 (c:CP sz h x i some=some v) (F:VR ν h w x D) (hi:VR ν h w i E):Ŏ P ν h w (Instr.indexAt t D E) v h:=by
 unfold CP at c
 split at c<;>try (cases c; done)
 rename_i k n;have I:E=.int k n:=hi;subst I
 have run:∀(a:Addr) (len cap:Nat),0<=n->n<len->(Instr.indexAt t (.slice (some a) len cap) (.int k n)).run P w=.ok (.pointer (some (a.add (n.toNat*sz)))) w:=by
  intro a len cap h0 o;simp[Instr.indexAt,asIntOf,run_underlying T,mi U,h0,o]
 split at c
 ·rename_i ty xs
  split at c<;>try (cases c; done)
  rename_i s;simp only[dt,beq_iff_eq,decide_eq_true_eq] at s;obtain⟨d,h0⟩:=s
  split at c<;>try (cases c; done)
  rename_i y O;cases c;obtain⟨base,cap,rfl,J,j⟩:=CR.slice_iff.1 F;have q:=(dC.1 O).1;rcases J.2 with o|⟨b,off,rfl,o,h2⟩
  ·rw[o] at q; simp at q
  ·obtain⟨us,l,W⟩:=h2 _ y O;refine Ŏ.still H (run _ _ _ h0 (by omega)) ?_;rcases j with j|j
   ·rw[j] at q; simp at q
   ·exact⟨b,off+n.toNat*ty.size,us,by rw[ų,d]; rfl,j b off rfl,o,l,W⟩
 ·rename_i id g
  split at c<;>try (cases c; done)
  rename_i ty g' fz xs A
  split at c<;>try (cases c; done)
  rename_i s;simp only[dt,beq_iff_eq] at s;obtain⟨rfl,d⟩:=s
  split at c<;>try (cases c; done)
  rename_i p;simp only[dt,decide_eq_true_eq] at p;cases c;obtain⟨V,t2,X,M,C,f,L,z⟩:=F;rw[A] at f; cases f;obtain⟨base,cap,o,h2,_,l⟩:=H.row_data A
  have G:D=.slice base xs.length cap:=by rw[z rfl,o]
  subst G;rcases l with l|⟨b,off,rfl,l,_,_⟩
  ·rw[l] at p; simp at p; omega
  ·refine Ŏ.still H (run _ _ _ p.1 p.2) ?_;refine⟨rfl,ty,g,fz,xs,A,du _,fun _=>⟨by omega,b,off,cap,o,?_⟩⟩;rw[ų,d]; rfl
 ·rename_i id g lo m
  split at c<;>try (cases c; done)
  rename_i ty g' fz xs A
  split at c<;>try (cases c; done)
  rename_i s;simp only[dt,beq_iff_eq] at s;obtain⟨rfl,d⟩:=s
  split at c<;>try (cases c; done)
  rename_i p;simp only[dt,decide_eq_true_eq] at p;cases c;obtain⟨V,t2,X,M,C,f,L,z⟩:=F;rw[A] at f; cases f;obtain⟨base,cap,o,h2,_,l⟩:=H.row_data A;obtain⟨r,N,cap',B,u⟩:=z rfl
  rw[o] at B; injection B with S Y Q; subst S; subst Q
  rcases l with l|⟨b,off,rfl,l,_,_⟩
  ·rw[l] at r; simp at r; omega
  ·have K:¬cap=lo:=by omega
   rw[if_neg K] at u;simp only[eJ,ų] at u;subst u;refine Ŏ.still H (run _ _ _ p.1 p.2) ?_;refine⟨rfl,ty,g,fz,xs,A,du _,fun _=>⟨by omega,b,off,cap,o,?_⟩⟩;rw[ų,<-d]
   have:off+lo*ty.size+n.toNat*ty.size=off+(lo+n.toNat)*ty.size:=by rw[dS]; omega
   rw[this]; rfl
 ·cases c
def jc {b:Nat} {es:Array MapEntry} {c:Nat} (hb:w.heap[b]?=some (.map es c)):(getObj b).run P w=.ok (.map es c) w:=by simp[getObj,Sem.run,hb]
def len_ok {t ty:TypeId} {x v:AV} {p:Value} (H:HR ν h w) (e:akj (P.underlying t) h x some=some v) (i:VR ν h w x p) {ts:Array TypeId} (d:ts[0]?=some t):Ŏ P ν h w (Builtin.len_ ts ty #[p]) v h:=by
 unfold akj at e;simp only[ln] at e
 split at e
 ·rename_i G j
  have run:∀(b:rF Addr) (n c:Nat),(Builtin.len_ ts ty #[.slice b n c]).run P w=.ok (.int .i64 n) w:=fun b n c=>by
   simp[Builtin.len_,d,run_underlying j,goInt]
  split at e<;>try (cases e; done)
  ·cases e;obtain⟨base,cap,rfl,_⟩:=CR.slice_iff.1 i;exact Ŏ.still H (run _ _ _) rfl
  ·cases e;have:p=.slice none 0 0:=i;subst this;exact Ŏ.still H (run _ _ _) rfl
  ·split at e<;>try (cases e; done)
   rename_i u g' fz xs l
   split at e<;>try (cases e; done)
   rename_i m;cases e;obtain⟨B,t2,E,A,s,a,y,f⟩:=i;rw[l] at a; cases a;obtain⟨base,cap,q,_⟩:=H.row_data l;rw[f (by simpa using m),q];exact Ŏ.still H (run _ _ _) rfl
  ·split at e<;>try (cases e; done)
   rename_i u g' fz xs l
   split at e<;>try (cases e; done)
   rename_i m;cases e;obtain⟨B,t2,E,A,s,a,y,f⟩:=i;rw[l] at a; cases a;obtain⟨_,base,cap,_,rfl⟩:=f (by simpa using m);exact Ŏ.still H (run _ _ _) rfl
 ·rename_i j
  split at e<;>try (cases e; done)
  cases e;have:p=.string _:=i;subst this;exact Ŏ.still H (by simp[Builtin.len_,d,run_underlying j,goInt]) rfl
 ·rename_i k G j
  split at e<;>try (cases e; done)
  ·cases e;obtain⟨r,D,q⟩:=i;cases D;rcases q with⟨rfl,rfl⟩|⟨b,g,o,rfl,_,h2,z,_⟩
   ·exact Ŏ.still H (by simp[Builtin.len_,d,run_underlying j,goInt]) rfl
   ·exact Ŏ.still H (by simp[Builtin.len_,d,run_underlying j,goInt,jc h2,z]) rfl
  ·cases e;have:p=.map none:=i;subst this;exact Ŏ.still H (by simp[Builtin.len_,d,run_underlying j,goInt]) rfl
  ·split at e<;>try (cases e; done)
   rename_i L J es l;cases e;obtain⟨B,K,I,F,a,f⟩:=i;rw[l] at a; cases a;have C:=H.blk ‹Nat›;rw[l] at C;obtain⟨b,g,o,q,h2,z,_⟩:=C;rw[f,q];exact Ŏ.still H (by simp[Builtin.len_,d,run_underlying j,goInt,jc h2,z]) rfl
 ·cases e
def XA {k:IntKind} {n:Int} {y:Nat} {a:BoundsCode} (h0:0<=n) (b:n<=y) (w:World):(Instr.sliceBound (.int k n) y a).run P w=.ok n.toNat w:=by
 simp[Instr.sliceBound,asIntOf,h0,b]
def Lo (a:rF Value) (l m:Nat):Prop:=(a=none/\l=0)\/∃k n,a=some (.int k n)/\0<=n/\n<=(m:Int)/\l=n.toNat
def Hi (a:rF Value) (len cap m:Nat):Prop:=(a=none/\m=len)\/∃k n,a=some (.int k n)/\0<=n/\n<=(cap:Int)/\m=n.toNat
def xv {t e:TypeId} {sz:Nat} (d:P.underlying t=some (.slice e)) (f:szP P e=some sz) {c b:rF Value} {a:rF Addr} {len cap l m:Nat} (g:Lo c l m) (i:Hi b len cap m) (w:World) :
 (Instr.sliceAt t (.slice a len cap) c b none).run P w=.ok (.slice (if cap=l then a else a.map (·.add (l*sz))) (m-l) (cap-l)) w:=by
 rcases g with⟨rfl,rfl⟩|⟨k,n,rfl,j,h2,rfl⟩<;>rcases i with⟨rfl,rfl⟩|⟨p,o,rfl,r,q,rfl⟩ <;>
  simp[Instr.sliceAt,run_underlying d,Instr.slice,Instr.sliceBounds,mi f,XA, *]
 rw[XA j h2]; rfl
def akz {t e:TypeId} {sz:Nat} {x v:AV} {lo hi:rF AV} {f j:rF Value} {S:Value} {eat:Bool} (H:HR ν h w) (M:P.underlying t=some (.slice e)) (N:szP P e=some sz)
 (d:pJ sz h x lo hi eat (fun v h=>some (v,h))=some (v,h')) (z:VR ν h w x S)
 (A:∀a,lo=some a->∃u,f=some u/\VR ν h w a u) (o:lo=none->f=none) (E:∀a,hi=some a->∃u,j=some u/\VR ν h w a u) (p:hi=none->j=none) :
 Ŏ P ν h w (Instr.sliceAt t S f j none) v h':=by
 have y:∀{k:IntKind} {n:Int} {m:Nat},lo=some (.int k n)->0<=n->n<=(m:Int)->Lo f n.toNat m:=fun e h0 F=>by
  obtain⟨u,h2,T⟩:=A _ e;have:u=_:=T;subst this;exact .inr ⟨_,_,h2,h0,F,rfl⟩
 have s:∀{k:IntKind} {n:Int} {len cap:Nat},hi=some (.int k n)->0<=n->n<=(cap:Int)->Hi j len cap n.toNat:=fun e h0 F=>by
  obtain⟨u,h2,T⟩:=E _ e;have:u=_:=T;subst this;exact .inr ⟨_,_,h2,h0,F,rfl⟩
 unfold pJ at d
 split at d
 ·rename_i ty xs
  split at d<;>try (cases d; done)
  rename_i r
  have r:ty.size=sz:=by simpa using r
  obtain⟨base,cap,rfl,X,_⟩:=CR.slice_iff.1 z
  have q:∀(l m:Nat),Lo f l m->Hi j xs.length cap m->l<=m->m<=xs.length->Ŏ P ν h w (Instr.sliceAt t (.slice base xs.length cap) f j none) (.slc ty ((xs.drop l).take (m-l))) h:=fun l m G Y F h2=>by
   refine Ŏ.still H (xv M N G Y w) ?_;rw[<-r];exact CR.part z F h2
  have hcap:=X.1
  split at d<;>try (cases d; done)
  ·split at d<;>try (cases d; done)
   rename_i hb;simp only[dt,decide_eq_true_eq] at hb;cases d;have:=q _ _ (y rfl hb.1 (by omega)) (s rfl (by omega) (by omega)) (by omega) (by omega)
   rw[show ∀a b:Int,0<=a->a<=b->(b-a).toNat=b.toNat-a.toNat from fun a b _ _=>by omega]<;>first|exact this|omega
  ·split at d<;>try (cases d; done)
   rename_i hb;simp only[dt,decide_eq_true_eq] at hb;cases d;have:=q _ xs.length (y rfl hb.1 (by omega)) (.inl ⟨p rfl,rfl⟩) (by omega) (du _)
   rwa [eh (by simp)] at this
  ·split at d<;>try (cases d; done)
   rename_i hb;simp only[dt,decide_eq_true_eq] at hb;cases d;have:=q 0 _ (.inl ⟨o rfl,rfl⟩) (s rfl (by omega) (by omega)) (dX _) (by omega);simpa using this
  ·cases d;have:=q 0 xs.length (.inl ⟨o rfl,rfl⟩) (.inl ⟨p rfl,rfl⟩) (dX _) (du _);simpa using this
 ·have J:S=.slice none 0 0:=z;subst J
  split at d<;>try (cases d; done)
  ·split at d<;>try (cases d; done)
   rename_i hb;simp only[decide_eq_true_eq] at hb;cases d;subst hb;refine Ŏ.still H (xv M N (.inl ⟨o rfl,rfl⟩) (s rfl (by omega) (by omega)) w) ?_;simp; rfl
  ·cases d;refine Ŏ.still H (xv M N (l:=0) (m:=0) (.inl ⟨o rfl,rfl⟩) (.inl ⟨p rfl,rfl⟩) w) ?_;simp; rfl
 ·rename_i id g
  split at d<;>try (cases d; done)
  rename_i ty g' fz xs G
  split at d<;>try (cases d; done)
  rename_i hc;simp only[dt,beq_iff_eq] at hc;obtain⟨rfl,r⟩:=hc;obtain⟨ho,t2,g2,fz2,xs2,O,hle,W⟩:=z;rw[G] at O; cases O;obtain⟨base,cap,F,h2,T,h4⟩:=H.row_data G
  have J:S=.slice base xs.length cap:=by rw[W rfl,F]
  subst J
  split at d
  ·-- the cut replaces the row
   split at d<;>try (cases d; done)
   have K:id<h.length:=Ν G (by simp)
   have I:∀(l m:Nat),Lo f l m->Hi j xs.length cap m->l<=m->m<=xs.length->Ŏ P ν h w (Instr.sliceAt t (.slice base xs.length cap) f j none) (.own id (g+1)) (î h id (.row ty (g+1) false ((xs.drop l).take (m-l)))):=fun l m A E Z Y=>by
    have hB:=H.blk id;rw[G] at hB;obtain⟨base',cap',q1,_,q2⟩:=hB
    rw[F] at q1; injection q1 with e1 e2 e3; subst e1; subst e3
    have C:((xs.drop l).take (m-l)).length=m-l:=by simp; omega
    have Q:∀b,Ĭ (Value.slice (if cap=l then base else base.map (·.add (l*sz))) (m-l) (cap-l)) b->Ĭ (ν id) b:=fun b hb=>by
     rw[F]
     cases base with
     |none=>split at hb<;>cases hb
     |some a =>
      split at hb
      ·exact hb
      ·have:(a.add (l*sz)).block=a.block:=by unfold Addr.add; split<;>rfl
       simp only[Ĭ,aai,eJ,Option.some.injEq] at hb ⊢;rw[<-hb,this]
    have D:∀b,b<w.heap.size->((lkB h id).live=true->¬Ĭ (ν id) b)->w.heap[b]?=w.heap[b]?:=fun _ _ _=>rfl
    have hV:(Blk.row ty (g+1) false ((xs.drop l).take (m-l))).live=true->∀b,Ĭ (Value.slice (if cap=l then base else base.map (·.add (l*sz))) (m-l) (cap-l)) b->((lkB h id).live=true/\Ĭ (ν id) b)\/w.heap.size<=b :=
     fun _ b hb=>.inl ⟨by rw[G]; rfl,Q b hb⟩
    have ev:=Ev.upd H (B:=.row ty (g+1) false ((xs.drop l).take (m-l))) (V:=.slice (if cap=l then base else base.map (·.add (l*sz))) (m-l) (cap-l)) (w':=w) K rfl rfl rfl (du _) D hV (by
     rw[G]; exact⟨g+1,false,_,rfl,Nat.le_succ _,fun hf=>by omega⟩)
    refine⟨_,w,_,xv M N A E w,wn K rfl,HR.upd H K ev D hV ⟨_,cap-l,by rw[Õ,C],by rw[C]; omega,?_⟩,ev,Û _ _ _⟩;rcases q2 with⟨rfl,rfl⟩|⟨b,off,c,e',rfl,q3,q4,q5⟩
    ·left; exact⟨by split<;>rfl,by omega⟩
    ·right
     by_cases L:cap=l
     ·refine⟨b,off,c,e',by rw[if_pos L],q3,by rw[L,Nat.sub_self,Nat.zero_mul]; omega,fun i x z=>?_⟩;have:=(dC.1 z).1;rw[C] at this; omega
     ·refine⟨b,off+l*ty.size,c,e',by rw[if_neg L]; simp[ų,r],q3,?_,fun i x z=>?_⟩
      ·have:(cap-l)*ty.size=cap*ty.size-l*ty.size:=Nat.sub_mul _ _ _;have h5:l*ty.size<=cap*ty.size:=dP _ (by omega);omega
      ·have U:xs[l+i]?=some x:=by
        rw[eI] at z
        split at z
        ·simpa using z
        ·cases z
       obtain⟨us,q6,q7⟩:=q5 (l+i) x U;refine⟨us,CR.keep ev.keepA q6,?_⟩
       have:off+l*ty.size+i*ty.size=off+(l+i)*ty.size:=by rw[dS]; omega
       rw[this]; exact q7
   split at d<;>try (cases d; done)
   ·split at d<;>try (cases d; done)
    rename_i hb;simp only[dt,decide_eq_true_eq] at hb;cases d;have:=I _ xs.length (y rfl hb.1 (by omega)) (.inl ⟨p rfl,rfl⟩) (by omega) (du _)
    rwa [eh (by simp)] at this
   ·split at d<;>try (cases d; done)
    rename_i hb;simp only[dt,decide_eq_true_eq] at hb;cases d;have:=I 0 _ (.inl ⟨o rfl,rfl⟩) (s rfl (by omega) (by omega)) (dX _) (by omega);simpa using this
  ·have q:∀(l m:Nat),Lo f l m->Hi j xs.length cap m->l<=m->m<=xs.length->Ŏ P ν h w (Instr.sliceAt t (.slice base xs.length cap) f j none) (.sub id g l (m-l)) h:=fun l m A E Z Y=>by
    refine Ŏ.still H (xv M N A E w) ?_;refine⟨rfl,ty,g,fz,xs,G,du _,fun _=>⟨by omega,base,cap,F,by rw[r]⟩⟩
   split at d<;>try (cases d; done)
   ·split at d<;>try (cases d; done)
    rename_i hb;simp only[dt,decide_eq_true_eq] at hb;cases d;have:=q _ _ (y rfl hb.1 (by omega)) (s rfl (by omega) (by omega)) (by omega) (by omega)
    rw[show ∀a b:Int,0<=a->a<=b->(b-a).toNat=b.toNat-a.toNat from fun a b _ _=>by omega]<;>first|exact this|omega
   ·split at d<;>try (cases d; done)
    rename_i hb;simp only[dt,decide_eq_true_eq] at hb;cases d;exact q _ xs.length (y rfl hb.1 (by omega)) (.inl ⟨p rfl,rfl⟩) (by omega) (du _)
   ·split at d<;>try (cases d; done)
    rename_i hb;simp only[dt,decide_eq_true_eq] at hb;cases d;have:=q 0 _ (.inl ⟨o rfl,rfl⟩) (s rfl (by omega) (by omega)) (dX _) (by omega);simpa using this
 ·cases d
def anS (H:HR ν h w) {id g lo n:Nat} {ty:Ty} {xs:rT (Val ty)} {u:Value} (l:lkB h id=.row ty g false xs) (T:lo+n=xs.length) (J:VR ν h w (.sub id g lo n) u) :
 ∃ν',VR ν' (î h id (.row ty (g+1) false (xs.drop lo))) w (.own id (g+1)) u/\HR ν' (î h id (.row ty (g+1) false (xs.drop lo))) w/\Ev h.length ν h w ν' (î h id (.row ty (g+1) false (xs.drop lo))) w:=by
 obtain⟨K,t2,X,M,D,k,L,q⟩:=J;rw[l] at k; cases k;obtain⟨_,base,cap,A,v⟩:=q rfl;have f:id<h.length:=Ν l (by simp);have z:=H.blk id;rw[l] at z;obtain⟨r,cap',t,Q,I⟩:=z
 rw[A] at t; injection t with O Y N; subst O; subst N
 have d:(xs.drop lo).length=n:=by simp; omega
 have m:∀b,Ĭ u b->Ĭ (ν id) b:=fun b hb=>by
  rw[A];rw[v] at hb
  cases base with
  |none=>split at hb<;>cases hb
  |some a =>
   split at hb
   ·exact hb
   ·have:(a.add (lo*ty.size)).block=a.block:=by unfold Addr.add; split<;>rfl
    simp only[Ĭ,aai,eJ,Option.some.injEq] at hb ⊢;rw[<-hb,this]
 have e:∀b,b<w.heap.size->((lkB h id).live=true->¬Ĭ (ν id) b)->w.heap[b]?=w.heap[b]?:=fun _ _ _=>rfl
 have y:(Blk.row ty (g+1) false (xs.drop lo)).live=true->∀b,Ĭ u b->((lkB h id).live=true/\Ĭ (ν id) b)\/w.heap.size<=b :=
  fun _ b hb=>.inl ⟨by rw[l]; rfl,m b hb⟩
 have ev:=Ev.upd H (B:=.row ty (g+1) false (xs.drop lo)) (V:=u) (w':=w) f rfl rfl rfl (du _) e y (by
  rw[l]; exact⟨g+1,false,_,rfl,Nat.le_succ _,fun U=>by omega⟩)
 refine⟨_,wn f K,HR.upd H f ev e y ⟨_,cap-lo,by rw[Õ,d,v],by rw[d]; omega,?_⟩,ev⟩;rcases I with⟨rfl,rfl⟩|⟨b,off,c,C,rfl,s,S,G⟩
 ·left; exact⟨by split<;>rfl,by omega⟩
 ·right
  by_cases j:cap=lo
  ·refine⟨b,off,c,C,by rw[if_pos j],s,by rw[j,Nat.sub_self,Nat.zero_mul]; omega,fun i x p=>?_⟩;have:=(dC.1 p).1;rw[d] at this; omega
  ·refine⟨b,off+lo*ty.size,c,C,by rw[if_neg j]; simp[ų],s,?_,fun i x p=>?_⟩
   ·have:(cap-lo)*ty.size=cap*ty.size-lo*ty.size:=Nat.sub_mul _ _ _;have W:lo*ty.size<=cap*ty.size:=dP _ (by omega);omega
   ·have o:xs[lo+i]?=some x:=by simpa using p
    obtain⟨us,F,E⟩:=G (lo+i) x o;refine⟨us,CR.keep ev.keepA F,?_⟩
    have:off+lo*ty.size+i*ty.size=off+(lo+i)*ty.size:=by rw[dS]; omega
    rw[this]; exact E
end
end Go.Am
end

noncomputable section
namespace Go.Am
variable [Globs] [Ghost]
section
variable {ν ν':Nat->Value} {h h':rT Blk} {w w':World} {P:Program}
def QS {z:Array Value} {n i:Nat} (hi:i<n):((Builtin.zeroCells z n).toList.drop (i*z.size)).take z.size=z.toList:=by
 have hb:i*z.size+z.size<=n*z.size:=by
  have:=dP z.size (show i+1<=n from hi)
  rwa [dS,fG] at this
 apply List.ext_getElem?
 intro j;rw[eI]
 split
 ·rename_i a;rw[fh];simp only[Builtin.zeroCells,f5,Array.toList_range,eY];rw[List.getElem?_range (by omega)];simp only[eJ]
  have b:(i*z.size+j) % z.size=j:=by rw[Nat.mul_comm,Nat.mul_add_mod]; exact f0 a
  rw[b];simp[getElem!_pos,a]
 ·rename_i a;rw[List.getElem?_eq_none]; simpa using a
def aaG {e:TypeId} {t:Ty} {i:TypeInfo} {z:Value} {zs:rT AV} {x:Val t} {av:Nat->Prop} (hi:P.info? e=some i) (d:i.zero=some z)
 (c:(((P.info? e).bind (·.zero)).map cv).bind ĝ=some zs) (h2:Ü t zs=some x) (H:HR ν h w) (a:∀b,av b->Av ν h b):CR w av t x z.cells.toList:=by
 simp only[hi,d,eV,eJ] at c;have:=(Z1 (ν:=ν) (h:=h) (w:=w) z).cells c;exact CR.mono a (ċ h2 (this.mono fun _ _ f=>VR1.data f.1))
def Mr {t:Ty} {x:Val t} {z:Array Value} {av:Nat->Prop} (b:z.size=t.size) (c:CR w av t x z.toList) (n:Nat):zV w av t (List.replicate n x) (Builtin.zeroCells z n).toList:=by
 refine⟨by simp[Builtin.zeroCells,b],fun i y hi=>?_⟩
 have a:i<n:=by simpa using(dC.1 hi).1
 rw[List.getElem?_replicate,if_pos a] at hi;cases hi;rw[<-b,QS a];exact c
def EK {n:Nat} (h:0<n):Builtin.nextslicecap n 0=n:=by simp[Builtin.nextslicecap]; omega
def wrap_i64 {n:Int} (a : -9223372036854775808<=n) (h2:n<=9223372036854775807):IntKind.i64.wrap n=n:=by
 have e:IntKind.i64.wrap n=if n % 18446744073709551616>=9223372036854775808 then n % 18446744073709551616-18446744073709551616 else n % 18446744073709551616:=by
  simp[IntKind.wrap,IntKind.bits,IntKind.signed]
 rw[e]
 split<;>omega
def akl {nid:Nat} {t t' ty:TypeId} {k:IntKind} {s x v:AV} {us o:Value} (H:HR ν h w) (J:nid<h.length) (hd:lkB h nid=.dead) (A:P.underlying t'=some (.int k))
 (e:Eh P h nid t s x (fun v h=>some (v,h))=some (v,h')) (T:VR ν h w s us) (N:VR ν h w x o):Ŏ P ν h w (Builtin.append_ #[t,t'] ty #[us,o]) v h':=by
 unfold Eh at e
 split at e<;>try (cases e; done)
 rename_i n m C
 split at e<;>try (cases e; done)
 rename_i Y K
 split at e<;>try (cases e; done)
 rename_i d;obtain⟨i,z,hi,S,I,D,G,c⟩:=s9 d
 split at e<;>try (cases e; done)
 rename_i zs p
 split at e<;>try (cases e; done)
 rename_i M q
 split at e<;>try (cases e; done)
 rename_i f;cases e;have Q:=pB C;have y:us=.slice none 0 0:=T;have u:o=.int .i64 n:=N;subst y u;simp only[dt,decide_eq_true_eq,Î] at f;have r:=aaG hi G p q H (av:=Av ν h) fun _ hb=>hb;have U:=Mr (by rw[c]) r n.toNat;have O:IntKind.i64.wrap n=n:=wrap_i64 (by omega) (by omega);have B:=grownCap_ge w n.toNat 0 m
 have a:=C8 (w':=w.drew.alloc (.cells ((Builtin.zeroCells z.cells n.toNat)++Builtin.zeroCells z.cells (grownCap w n.toNat 0 m-n.toNat)) m)) H (id:=nid) (g':=0) (xs':=List.replicate n.toNat M) (cap':=grownCap w n.toNat 0 m) J
  (fun V=>by rw[hd]; trivial) rfl rfl rfl rfl (by simpa using B) (by
   simp only[Array.size_append,size_zeroCells,c,<-dS]
   apply dP; omega) U (fun j v X=>by
    have g:(Builtin.zeroCells z.cells n.toNat)[j]?=some v:=by simpa using X
    rw[fK,if_pos (fH.1 g).1]; exact g)
 rw[gg] at a;refine⟨_,_,_,?_,wn J rfl,a.2,a.1,Û _ _ _⟩
 have hb:n.toNat*i.bytes<=140737488355328:=by
  have:=fT f.2 D;omega
 have F:¬(281474976710656:Int)<n*(i.bytes:Int):=by
  have:((n.toNat*i.bytes:Nat):Int)=n*i.bytes:=by
   rw[Int.natCast_mul,Int.toNat_of_nonneg (by omega)]
  omega
 have l:¬(281474976710656<Builtin.nextslicecap n.toNat 0*i.bytes):=by rw[EK (by omega)]; omega
 have h0:¬n<0:=by omega
 have L:n.toNat≠0:=by omega
 have W:IntKind.i64.max=9223372036854775807:=rfl
 have E:¬(9223372036854775807:Int)<(n.toNat:Int):=by omega
 have b:¬i.size=0:=by omega
 simp[Builtin.append_,run_underlying Q,run_underlying A,sizeOf,typeInfo,zeroValue,hi,G,asInt,asIntOf,O,h0,F,l,L,W,E,b,Builtin.firstCells,Question.forced,newRow,grownCap];rw[if_neg (by omega),if_neg (by omega),if_neg (Nat.mul_ne_zero L b)]
def Ys {nid:Nat} {t l:TypeId} {k:IntKind} {n:Int} {b:Ty} {zs:rT AV} {m:Val b} (H:HR ν h w) (F:nid<h.length) (hd:lkB h nid=.dead) (x:LA P t=some l)
 (e:MD P l b.size=true) (o:(((P.info? l).bind (·.zero)).map cv).bind ĝ=some zs) (p:Ü b zs=some m) (h0:0<=n) (u:n.toNat<=4294967296) :
 Ŏ P ν h w (Instr.makeSlice t (.int k n) (.int k n)) (.own nid 0) (î h nid (.row b 0 false (List.replicate n.toNat m))):=by
 obtain⟨i,z,hi,s,E,y,r,c⟩:=s9 e;have D:=pB x;have q:=aaG hi r o p H (av:=Av ν h) fun _ hb=>hb;have G:=Mr (by rw[c]) q n.toNat;have C:IntKind.i64.wrap n=n:=wrap_i64 (by omega) (by omega)
 have a:=C8 (w':=w.alloc (.cells (Builtin.zeroCells z.cells n.toNat) l)) H (id:=nid) (g':=0) (xs':=List.replicate n.toNat m) (cap':=n.toNat) F
  (fun V=>by rw[hd]; trivial) rfl rfl rfl rfl (by simp) (by simp[size_zeroCells,c]) G (fun j v J=>by simpa using J)
 rw[gg] at a;refine⟨_,_,_,?_,wn F rfl,a.2,a.1,Û _ _ _⟩
 have A:¬(281474976710656:Int)<(i.bytes:Int)*n:=by
  have hb:n.toNat*i.bytes<=140737488355328:=by
   have:=fT u y;omega
  have:((n.toNat*i.bytes:Nat):Int)=i.bytes*n:=by
   rw[Int.natCast_mul,Int.toNat_of_nonneg h0,fU]
  omega
 have B:¬n<0:=by omega
 by_cases g:n.toNat*i.size=0
 ·have I:n.toNat=0:=by
   rcases Nat.mul_eq_zero.1 g with h|h
   ·exact h
   ·omega
  have f:n=0:=by omega
  subst f;simp[Instr.makeSlice,run_underlying D,sizeOf,typeInfo,zeroValue,hi,r,asInt,asIntOf,C,newRow,Builtin.zeroCells];congr 2;apply fo;simp[Array.toList_range]
 ·have d:z.cells.size=i.size:=by rw[c,s]
  simp[Instr.makeSlice,run_underlying D,sizeOf,typeInfo,zeroValue,hi,r,asInt,asIntOf,C,B,A,newRow,Builtin.zeroCells,d,g]
def Xh:∀(h:rT Blk) (id:Nat),î h id (lkB h id)=h
 |[],_=>rfl
 |_::_,0=>rfl
 |x::h,id+1=>by simp[Jc,Jd,Jb,Wi,Wj,Wh,Xh h id]
def alB {t ty:TypeId} {ts:Array TypeId} (E:ts[0]?=some t) {x:AV} {ux:Value} (H:HR ν h w) (e:Hs P h t x some=some h') (hun:(P.underlying t).isSome=true) (hx:VR ν h w x ux) :
 Ŏ P ν h w (Builtin.clear_ ts ty #[ux]) (.tup []) h':=by
 obtain⟨d,hd⟩:=Option.isSome_iff_exists.1 hun;unfold Hs at e
 split at e
 ·cases e;have:ux=.slice none 0 0:=hx;subst this;refine Ŏ.still H (u:=.tuple #[]) ?_ ⟨#[],rfl,trivial⟩
  cases d<;>simp[Builtin.clear_,E,run_underlying hd]
 ·rename_i id g lo n el hel;have ht:=pB hel
  split at e<;>try (cases e; done)
  rename_i zs C
  split at e<;>try (cases e; done)
  rename_i a g' xs X
  split at e<;>try (cases e; done)
  rename_i hgg
  split at e<;>try (cases e; done)
  rename_i K hzv;cases e
  have hge:g=g':=by simpa using hgg
  subst hge;obtain⟨ho,t2,g2,fz2,xs2,W,hle,hv2⟩:=hx;rw[X] at W; cases W;obtain⟨V,base,cap,r,s⟩:=hv2 rfl;have hB:=H.blk id;rw[X] at hB;obtain⟨base',cap',q1,q0,q2⟩:=hB
  rw[r] at q1; injection q1 with e1 e2 e3; subst e1; subst e3
  by_cases hn0:n=0
  ·-- nothing to clear
   subst hn0
   have F:xs.take lo++List.replicate 0 K++xs.drop (lo+0)=xs:=by simp
   rw[F];have hid:id<h.length:=Ν X (by simp)
   have O:î h id (.row a g false xs)=h:=by rw[<-X]; exact Xh h id
   rw[O];refine Ŏ.still H (u:=.tuple #[]) ?_ ⟨#[],rfl,trivial⟩;rw[s];generalize (if cap=lo then base else Option.map (fun x=>x.add (lo*a.size)) base)=bb;generalize cap-lo=cc
   cases bb<;>(simp only[Builtin.clear_,E]; simp[run_underlying ht])
  rcases q2 with⟨rfl,rfl⟩|⟨b,off,c,e',rfl,q3,q4,q5⟩
  ·omega
  have hne:¬cap=lo:=by omega
  rw[if_neg hne] at s;simp only[eJ,ų] at s
  cases hi:P.info? el with
  |none=>simp[hi] at C
  |some i =>
  cases hz:i.zero with
  |none=>simp[hi,hz] at C
  |some z =>
  have D:=aaG hi hz C hzv H (av:=Av ν h) fun _ hb=>hb
  have N:z.cells.size=a.size:=by simpa using D.length
  have S:=Mr (by rw[N]) D n
  have U:∀v∈(Builtin.zeroCells z.cells n).toList,v.oneCell'=true:=by
   intro v hv;obtain⟨j,l⟩:=List.mem_iff_getElem?.1 hv;simp only[Builtin.zeroCells,f5,Array.toList_range,eY] at l
   have I:j<n*z.cells.size:=by
    cases h1:(List.range (n*z.cells.size))[j]? with
    |none=>simp[h1] at l
    |some q=>simpa using(dC.1 h1).1
   rw[List.getElem?_range I] at l;simp only[eJ,Option.some.injEq] at l
   have T:0<z.cells.size:=by
    rcases fV z.cells.size with h0|h0
    ·rw[h0] at I; simp at I
    ·exact h0
   have hm:=gO j T;refine CR.oneCell D v ?_;rw[<-l,getElem!_pos z.cells (j % z.cells.size) hm];simp
  have J:(Builtin.zeroCells z.cells n).toList.length=n*a.size:=by simp[Builtin.zeroCells,N]
  have hln:lo*a.size+n*a.size<=cap*a.size:=by rw[<-dS]; exact dP _ (by omega)
  have B:off+lo*a.size+(Builtin.zeroCells z.cells n).toList.length<=c.size:=by rw[J]; omega
  have Q:=run_storeCells_at P b (off+lo*a.size) e' (Builtin.zeroCells z.cells n).toList 0 c w q3 (by simpa using B) U;simp only[gq] at Q
  have f:(xs.take lo++List.replicate n K++xs.drop (lo+n)).length=xs.length:=by simp; omega
  obtain⟨ev,hr⟩:=Vb H (xs':=xs.take lo++List.replicate n K++xs.drop (lo+n)) (g':=g) (o':=off) (cap':=cap)
   (c':=(c.toList.take (off+lo*a.size)++(Builtin.zeroCells z.cells n).toList++c.toList.drop (off+lo*a.size+(Builtin.zeroCells z.cells n).toList.length)).toArray) X (by rw[r]; rfl) q3
   (by rw[f]; omega) (by simp only[fN,dw,dK,gB,f7]; omega) (.inr ⟨rfl,by rw[f,r],f⟩) (fun j y l=>by
    have A:=fun k=>Aa c.toList (Builtin.zeroCells z.cells n).toList (off+lo*a.size) k (by simpa using B);have Y:=Aa xs (List.replicate n K) lo j (by simpa using V);rw[gg] at Y;rw[Y] at l
    have M:∀(y:Val a),xs[j]?=some y->(j<lo\/lo+n<=j)->∃us,CR w (Av ν h) a y us/\∀(k:Nat) (v:Value),us[k]?=some v->(c.toList.take (off+lo*a.size)++(Builtin.zeroCells z.cells n).toList++c.toList.drop (off+lo*a.size+(Builtin.zeroCells z.cells n).toList.length)).toArray[off+j*a.size+k]?=some v:=fun y hy p=>by
     obtain⟨us,L,q7⟩:=q5 j y hy;refine⟨us,L,fun k v G=>?_⟩
     have hkl:k<a.size:=by rw[<-L.length]; exact(dC.1 G).1
     have:=q7 k v G;simp only[World.cell?,q3] at this;rw[fJ,A,J];rcases p with p|p
     ·have Z:=dP a.size (show j+1<=lo from p);rw[dS,fG] at Z;rw[if_pos (by omega)];simpa using this
     ·have Z:=dP a.size p;rw[dS] at Z;rw[if_neg (by omega),if_neg (by omega)];simpa using this
    split at l
    ·exact M y l (.inl ‹_›)
    ·split at l
     ·rename_i h1 h2;obtain⟨us,L,q7⟩:=S.cells (c:=(Builtin.zeroCells z.cells n)) (o:=0) (fun k v G=>by simpa using G) (j-lo) y (by simpa using l);refine⟨us,L,fun k v G=>?_⟩
      have hkl:k<a.size:=by rw[<-L.length]; exact(dC.1 G).1
      have h7:=q7 k v G
      have Z:j*a.size=lo*a.size+(j-lo)*a.size:=by rw[<-dS]; congr 1; omega
      have h6:=dP a.size (show j-lo+1<=n by omega);rw[dS,fG] at h6;rw[fJ,A,J,if_neg (by omega),if_pos (by omega)];rw[show off+j*a.size+k-(off+lo*a.size)=0+(j-lo)*a.size+k by omega];simpa using h7
     ·exact M y l (.inr (by omega)))
  have hvs:ý ν id (.slice (some ⟨b,off,none⟩) (xs.take lo++List.replicate n K++xs.drop (lo+n)).length cap)=ν:=by rw[f,<-r,kv]
  rw[hvs] at ev hr;refine⟨ν,_,.tuple #[],?_,⟨#[],rfl,trivial⟩,hr,ev,Û _ _ _⟩;rw[s];obtain⟨m,rfl⟩:∃m,n=m+1:=⟨n-1,by omega⟩;simp only[Builtin.clear_,E];simp[run_underlying ht,zeroValue,typeInfo,hi,hz,Q]
 ·cases e
def box_ok {nid:Nat} {x:AV} {a:Value} {cs:rT AV} {c:TypeId} (H:HR ν h w) (e:nid<h.length) (hd:lkB h nid=.dead) (i:ĝ x=some cs) (f:VR ν h w x a) :
 Ŏ P ν h w (Instr.box c a) (.box nid 0) (î h nid (.cells cs)):=by
 have d:=f.cells i
 obtain⟨ev,g⟩:=Ev.new (w':=w.alloc (.cells a.cells c)) (o:=.cells a.cells c) H (id:=nid) (B:=.cells cs) (V:=.pointer (some ⟨w.heap.size,0,none⟩)) e hd rfl rfl rfl rfl (fun b hb=>by cases hb; rfl) fun ev =>
  ⟨w.heap.size,a.cells,c,Õ _ _ _,heap_alloc_new w _,d.mono fun _ _=>VRc.ev ev⟩
 refine⟨_,_,.pointer (some ⟨w.heap.size,0,none⟩),?_,⟨cs,w.heap.size,ã _ e,Õ _ _ _,rfl⟩,g,ev,Û _ _ _⟩;simp[Instr.box,newVar,newRow]
def an3 {x:AV} {a:Value} {cs:rT AV} {c:TypeId} {ty:Ty} {y:Val ty} (H:HR ν h w) (k:ĝ x=some cs) (g:Ü ty cs=some y) (i:VR ν h w x a) :
 Ŏ P ν h w (Instr.box c a) (.eptr ty y 0) h:=by
 have d:=i.cells k;have f:(w.alloc (.cells a.cells c)).heap=w.heap.push (.cells a.cells c):=rfl;have e:=H.grow (w':=w.alloc (.cells a.cells c)) (fun b hb=>by rw[f]; simp[fQ,gu hb]) (by rw[f]; simp) rfl rfl rfl h.length;refine⟨ν,_,.pointer (some ⟨w.heap.size,0,none⟩),?_,⟨w.heap.size,0,a.cells.toList,rfl,fun hb=>absurd (H.ltA hb) (Nat.lt_irrefl _),by rw[f]; simp,?_,?_⟩,e.2,e.1,rfl⟩
 ·simp[Instr.box,newVar,newRow]
 ·exact CR.keep e.1.keepA (ċ g (d.mono fun _ _ j=>j.1.data))
 ·exact CellsAt.of_cells (heap_alloc_new w _)
def al8 {nid:Nat} {z:AV} {cs:rT AV} {c:TypeId} (H:HR ν h w) (g:nid<h.length) (hd:lkB h nid=.dead) (e:((P.info? c).bind (·.zero)).map cv=some z) (k:ĝ z=some cs) :
 Ŏ P ν h w (Instr.alloc c true (.tuple #[])) (.box nid 0) (î h nid (.cells cs)):=by
 cases hi:P.info? c with
 |none=>simp[hi] at e
 |some i =>
  cases a:i.zero with
  |none=>simp[hi,a] at e
  |some d =>
   simp only[hi,a,eV,eJ,Option.some.injEq] at e;subst e;have f:=(Z1 (ν:=ν) (h:=h) (w:=w) d).cells k
   obtain⟨ev,j⟩:=Ev.new (w':=w.alloc (.cells d.cells c)) (o:=.cells d.cells c) H (id:=nid) (B:=.cells cs) (V:=.pointer (some ⟨w.heap.size,0,none⟩)) g hd rfl rfl rfl rfl (fun b hb=>by cases hb; rfl) fun ev =>
    ⟨w.heap.size,d.cells,c,Õ _ _ _,heap_alloc_new w _,f.mono fun _ _=>VRc.ev ev⟩
   refine⟨_,_,.pointer (some ⟨w.heap.size,0,none⟩),?_,⟨cs,w.heap.size,ã _ g,Õ _ _ _,rfl⟩,j,ev,Û _ _ _⟩;simp[Instr.alloc,zeroValue,typeInfo,hi,a,newVar,newRow]
def aeT {nid:Nat} {t:TypeId} (k v:Ty) (H:HR ν h w) (a:nid<h.length) (hd:lkB h nid=.dead):Ŏ P ν h w (Instr.makeMap t none) (.omp nid) (î h nid (.map k v [])):=by
 obtain⟨ev,c⟩:=Ev.new (w':=w.alloc (.map #[] 0)) (o:=.map #[] 0) H (id:=nid) (B:=.map k v []) (V:=.map (some w.heap.size)) a hd rfl rfl rfl rfl (fun b hb=>by cases hb; rfl) fun ev =>
  ⟨w.heap.size,#[],0,Õ _ _ _,heap_alloc_new w _,rfl,fun i e hi=>by simp at hi⟩
 refine⟨_,_,.map (some w.heap.size),?_,⟨rfl,k,v,[],ã _ a,(Õ _ _ _).symm⟩,c,ev,Û _ _ _⟩;simp[Instr.makeMap]
end
end Go.Am
end

noncomputable section
namespace Go.Am
variable [Globs] [Ghost]
section
variable {ν ν':Nat->Value} {h h':rT Blk} {w w':World} {P:Program}
def P0 (off:Nat):∀(vs:rT Value) (k:Nat) (cells:Array Value),off+k+vs.length<=cells.size ->
 ((vs.zipIdx k).foldl (fun cs (p:Value×Nat)=>cs.setIfInBounds (off+p.2) p.1) cells).toList=cells.toList.take (off+k)++vs++cells.toList.drop (off+k+vs.length)
 |[],k,cells,_=>by simp
 |v::vs,k,cells,c=>by
  simp only[dz] at c;have b:=P0 off vs (k+1) (cells.setIfInBounds (off+k) v) (by simp; omega);simp only[List.zipIdx_cons,ee,b,Array.toList_setIfInBounds]
  have a:off+k<cells.toList.length:=by simp; omega
  have d:(cells.toList.set (off+k) v).take (off+(k+1))=cells.toList.take (off+k)++[v]:=by
   rw[show off+(k+1)=off+k+1 by omega,List.take_add_one];rw[List.take_set_of_le (by omega),List.getElem?_set_self a]; rfl
  have h2:(cells.toList.set (off+k) v).drop (off+(k+1)+vs.length)=cells.toList.drop (off+k+(v::vs).length):=by
   rw[List.drop_set_of_lt (by omega)];simp only[dz];congr 1; omega
  rw[d,h2];simp
def P7 {a:Nat->rF (Nat×Nat)} {cells:Array Value} {i:Nat} {v:Value} {rest:rT (Nat×Value)} {off size:Nat} (d:a i=some (off,size)) (c:v.cells.size=size) (e:off+size<=cells.size) :
 Instr.fill a cells ((i,v)::rest)=Instr.fill a (cells.toList.take off++v.cells.toList++cells.toList.drop (off+size)).toArray rest:=by
 have h0:¬(v.cells.size≠size\/off+v.cells.size>cells.size):=by omega
 have b:=P0 off v.cells.toList 0 cells (by simp; omega);simp only[Instr.fill,d];rw[if_neg (by simpa using h0)];congr 1;apply fo;simp only[gq,f7,c] at b;rw[<-b,<-Array.foldl_toList,Array.toList_zipIdx]
def adK {fs:Array Field} {places:Nat->rF (Nat×Nat)} (t:∀i f n,fs[i]?=some f->szP P f.type=some n->places i=some (f.offset,n)) :
 ∀(ps:rT (Nat×AV)) (us:rT (Nat×Value)) (cs d:rT AV) (c:Array Value),afD P fs ps cs=some d->ÿ (fun a b=>a.1=b.1/\VR ν h w a.2 b.2) ps us->ÿ (VRc ν h w) cs c.toList ->
  ∃c',Instr.fill places c us=some c'/\ÿ (VRc ν h w) d c'.toList
 |[],[],cs,d,c,e,_,p=>by cases e; exact⟨c,rfl,p⟩
 |[],_::_,_,_,_,_,g,_=>g.elim
 |_::_,[],_,_,_,_,g,_=>g.elim
 |(i,v)::ps,(j,u)::us,cs,d,c,e,g,p=>by
  obtain⟨⟨o,k⟩,g⟩:=g;simp only at o; subst o;simp only[afD] at e
  split at e<;>try (cases e; done)
  rename_i f y
  split at e<;>try (cases e; done)
  rename_i vs l
  split at e<;>try (cases e; done)
  rename_i r
  split at e<;>try (cases e; done)
  rename_i z m;obtain⟨rfl,h2⟩:=s8 m;have s:=k.cells l;have q:=IZ k l;have x:=p.length;simp at x
  have r:szP P f.type=some vs.length:=by simpa using r
  rw[P7 (t i f _ y r) q (by omega)];exact adK t ps us _ d _ e g (((p.take _).append s).append (p.drop _))
def Ux {sz:Nat} {places:Nat->rF (Nat×Nat)} (r:∀i,places i=some (i*sz,sz)) :
 ∀(ps:rT (Nat×AV)) (us:rT (Nat×Value)) (cs d:rT AV) (c:Array Value),IM sz ps cs=some d->ÿ (fun a b=>a.1=b.1/\VR ν h w a.2 b.2) ps us->ÿ (VRc ν h w) cs c.toList ->
  ∃c',Instr.fill places c us=some c'/\ÿ (VRc ν h w) d c'.toList
 |[],[],cs,d,c,e,_,n=>by cases e; exact⟨c,rfl,n⟩
 |[],_::_,_,_,_,_,f,_=>f.elim
 |_::_,[],_,_,_,_,f,_=>f.elim
 |(i,v)::ps,(j,u)::us,cs,d,c,e,f,n=>by
  obtain⟨⟨m,g⟩,f⟩:=f;simp only at m; subst m;simp only[IM] at e
  split at e<;>try (cases e; done)
  rename_i vs k
  split at e<;>try (cases e; done)
  rename_i p
  split at e<;>try (cases e; done)
  rename_i t l;obtain⟨rfl,h2⟩:=s8 l;have q:=g.cells k;have o:=IZ g k;have s:=n.length;simp at s
  have p:vs.length=sz:=by simpa using p
  subst p;rw[P7 (r i) o (by omega)];exact Ux r ps us _ d _ e f (((n.take _).append q).append (n.drop _))
def Eu {S:St} {a:Act} (H:Sim ν S a w):∀(ps:rT (Nat×Operand)),ÿ (fun(x:Nat×AV) (y:Nat×Value)=>x.1=y.1/\VR ν S.h w x.2 y.2) (ps.map fun p=>(p.1,ev S.t p.2)) (ps.map fun p=>(p.1,a.eval p.2))
 |[]=>trivial
 |p::ps=>⟨⟨rfl,Ĉ H p.2⟩,Eu H ps⟩
def Bq (w:World):∀(fs:rT Field),fs.all (fun f=>(P.info? f.type).isSome)=true ->
 ∃l:rT (Nat×Nat),(fs.mapM (m:=Sem) fun(f:Field)=>do pure (f.offset,<-sizeOf f.type)).run P w=.ok l w/\∀(i:Nat),l[i]?=(fs[i]?).bind fun(f:Field)=>(szP P f.type).map fun n=>(f.offset,n)
 |[],_=>⟨[],rfl,fun i=>by simp⟩
 |f::fs,ha=>by
  simp only[fX,dt] at ha;obtain⟨i,hi⟩:=fZ.1 ha.1;obtain⟨l,b,h2⟩:=Bq w fs ha.2
  have a:szP P f.type=some i.size:=by simp[szP,hi]
  refine⟨(f.offset,i.size)::l,?_,fun j=>?_⟩
  ·simp only[List.mapM_cons,Sem.run_bind,mi a,Result.andThen_ok,Sem.run_pure];rw[b]; rfl
  ·cases j with
   |zero=>simp[a]
   |succ j=>simpa using h2 j
def SK {S:St} {a:Act} {t:TypeId} {fs:Array Field} {ps:Array (Nat×Operand)} {z:AV} {zs cs:rT AV} (H:Sim ν S a w) (r:P.underlying t=some (.struct fs)) (o:fs.toList.all (fun f=>(P.info? f.type).isSome)=true)
 (c:((P.info? t).bind (·.zero)).map cv=some z) (e:ĝ z=some zs) (B:afD P fs (ps.toList.map fun p=>(p.1,ev S.t p.2)) zs=some cs) :
 Ŏ P ν S.h w (Instr.build t (ps.map fun(i,x)=>(i,a.eval x))) (.agg cs) S.h:=by
 cases hi:P.info? t with
 |none=>simp[hi] at c
 |some i =>
 cases b:i.zero with
 |none=>simp[hi,b] at c
 |some d =>
 simp only[hi,b,eV,eJ,Option.some.injEq] at c;subst c;have C:=(Z1 (ν:=ν) (h:=S.h) (w:=w) d).cells e;obtain⟨l,k,g⟩:=Bq (P:=P) w fs.toList o
 obtain⟨c',D,h2⟩:=adK (ν:=ν) (h:=S.h) (w:=w) (P:=P) (fs:=fs) (places:=fun j=>l[j]?) (fun j f n A v=>by
  show l[j]?=_
  rw[g j]; simp only[fW]; rw[A]; simp[v]) _ _ zs cs d.cells B (Eu H ps.toList) C
 refine Ŏ.still H.heap (u:=.agg c') ?_ ⟨c',rfl,h2⟩
 have y:(fs.mapM (m:=Sem) fun f=>do pure (f.offset,<-sizeOf f.type)).run P w=.ok l.toArray w:=by
  rw[Array.mapM_eq_mapM_toList,Sem.run_map,k]; rfl
 have s:(ps.map fun(x:Nat×Operand)=>(x.1,a.eval x.2)).toList=ps.toList.map fun p=>(p.1,a.eval p.2):=by simp
 simp only[Instr.build,Sem.run_bind,zeroValue,typeInfo,run_program,Result.andThen_ok,hi,b,Sem.run_pure,run_underlying r];rw[y];simp only[Result.andThen_ok]
 have q:Instr.fill (fun x=>l.toArray[x]?) d.cells (ps.map fun(x:Nat×Operand)=>(x.1,a.eval x.2)).toList=some c':=by
  rw[s]; simpa using D
 erw [q]
 rfl
end
end Go.Am
end

noncomputable section
namespace Go.Am
variable [Globs] [Ghost]
section
variable {ν ν':Nat->Value} {h h':rT Blk} {w w':World} {P:Program}
def ab4 {S:St} {a:Act} {t e:TypeId} {n sz:Nat} {ps:Array (Nat×Operand)} {z:AV} {zs cs:rT AV} (H:Sim ν S a w) (k:P.underlying t=some (.array n e)) (l:szP P e=some sz)
 (c:((P.info? t).bind (·.zero)).map cv=some z) (f:ĝ z=some zs) (o:IM sz (ps.toList.map fun p=>(p.1,ev S.t p.2)) zs=some cs) :
 Ŏ P ν S.h w (Instr.build t (ps.map fun(i,x)=>(i,a.eval x))) (.agg cs) S.h:=by
 cases hi:P.info? t with
 |none=>simp[hi] at c
 |some i =>
 cases b:i.zero with
 |none=>simp[hi,b] at c
 |some d =>
 simp only[hi,b,eV,eJ,Option.some.injEq] at c;subst c;have q:=(Z1 (ν:=ν) (h:=S.h) (w:=w) d).cells f;obtain⟨c',r,h2⟩:=Ux (ν:=ν) (h:=S.h) (w:=w) (sz:=sz) (places:=fun j=>some (j*sz,sz)) (fun j=>rfl) _ _ zs cs d.cells o (Eu H ps.toList) q;refine Ŏ.still H.heap (u:=.agg c') ?_ ⟨c',rfl,h2⟩
 have m:(ps.map fun(x:Nat×Operand)=>(x.1,a.eval x.2)).toList=ps.toList.map fun p=>(p.1,a.eval p.2):=by simp
 simp only[Instr.build,Sem.run_bind,zeroValue,typeInfo,run_program,Result.andThen_ok,hi,b,Sem.run_pure,run_underlying k,mi l]
 have g:Instr.fill (fun j=>some (j*sz,sz)) d.cells (ps.map fun(x:Nat×Operand)=>(x.1,a.eval x.2)).toList=some c':=by rw[m]; exact r
 erw [g]
 rfl
def ag1 {t:TypeId} {agg:Bool} {n o:Nat} {cs e:rT AV} {v:AV} {us:Array Value} (H:HR ν h w) (k:ldP P t=some (agg,n)) (m:L7 cs o n=some e) (j:mkv agg e=some v) (p:ÿ (VRc ν h w) cs us.toList) :
 Ŏ P ν h w (part t us o) v h:=by
 obtain⟨d,hd,rfl,g⟩:=Wm k;obtain⟨s,h2⟩:=nO m
 have a:ÿ (VRc ν h w) e ((us.toList.drop o).take n):=by rw[s]; exact(p.drop o).take n
 obtain⟨r,q⟩:=amt j a;refine Ŏ.still H ?_ r;unfold part;simp only[Sem.run_bind,xw hd,Result.andThen_ok]
 cases c:QQ d with
 |true =>
  simp only[if_true,Sem.run_bind,mi g,Result.andThen_ok,Sem.run_pure,aay];congr 2;apply fo;rw[Array.toList_extract,List.extract_eq_take_drop];congr 1; omega
 |false =>
  have i:n=1:=by rw[<-h2]; exact q c
  subst i;simp only[aay]
  cases f:us.toList.drop o with
  |nil=>rw[f] at a; have:=a.length; rw[h2] at this; simp at this
  |cons u rest =>
   have b:us[o]?=some u:=by
    have:=congrArg (fun l=>l[0]?) f;simpa using this
   simp[b]
def alu {t:TypeId} {f:Nat} {fs:Array Field} {a:Field} {agg:Bool} {n:Nat} {cs c:rT AV} {v:AV} {b:Value} (H:HR ν h w) (e:P.underlying t=some (.struct fs)) (k:fs[f]?=some a)
 (i:ldP P a.type=some (agg,n)) (j:L7 cs a.offset n=some c) (g:mkv agg c=some v) (d:VR ν h w (.agg cs) b):Ŏ P ν h w (Instr.field t b f) v h:=by
 obtain⟨us,rfl,l⟩:=d;obtain⟨ν',w',u,m,h2⟩:=ag1 (P:=P) H i j g l;refine⟨ν',w',u,?_,h2⟩;simp only[Instr.field,Sem.run_bind,run_underlying e,Result.andThen_ok,k,asAgg,Sem.run_pure];exact m
def abC {t e:TypeId} {n m:Nat} {k:IntKind} {j:Int} {agg:Bool} {cs c:rT AV} {v:AV} {a:Value} (H:HR ν h w) (g:P.underlying t=some (.array n e))
 (o:0<=j/\j<n) (b:ldP P e=some (agg,m)) (p:L7 cs (j.toNat*m) m=some c) (l:mkv agg c=some v) (f:VR ν h w (.agg cs) a):Ŏ P ν h w (Instr.index t a (.int k j)) v h:=by
 obtain⟨us,rfl,q⟩:=f;obtain⟨ν',w',u,r,h2⟩:=ag1 (P:=P) H b p l q;obtain⟨d,hd,_,i⟩:=Wm b;refine⟨ν',w',u,?_,h2⟩;simp only[Instr.index,asIntOf,Sem.run_bind,Sem.run_pure,run_underlying g,Result.andThen_ok,o,and_self,if_true,mi i];exact r
def akA {x v:AV} {j:Value} {o:Nat} (e:xq h x o some=some v) (d:VR ν h w x j):∃a,j=.pointer (some a)/\VR ν h w v (.pointer (some (a.add o))):=by
 unfold xq at e
 split at e<;>try (cases e; done)
 ·cases e;obtain⟨cs,b,c,h2,rfl⟩:=d;exact⟨_,rfl,cs,b,c,h2,by rw[ų]⟩
 ·cases e;obtain⟨b,o',us,rfl,c,h2,i,g⟩:=d;exact⟨_,rfl,b,o',us,by rw[ų,Nat.add_assoc],c,h2,i,g⟩
 ·split at e<;>try (cases e; done)
  rename_i t g' fz xs k
  split at e<;>try (cases e; done)
  rename_i f;cases e;obtain⟨p,t2,q,n,l,c,h2,i⟩:=d;rw[k] at c; cases c;have m:=eq_of_beq f;subst m;obtain⟨hi,b,o',cap,g,rfl⟩:=i rfl;exact⟨_,rfl,by rw[ų]; rfl,_,_,_,_,k,du _,fun _=>⟨hi,b,o',cap,g,by rw[ų,Nat.add_assoc]⟩⟩
def ZK {t:TypeId} {f:Nat} {fs:Array Field} {b:Field} {n:Nat} {x v:AV} {c:Value} (H:HR ν h w) (g:P.underlying t=some (.struct fs)) (j:fs[f]?=some b)
 (i:szP P b.type=some (n+1)) (e:xq h x b.offset some=some v) (d:VR ν h w x c):Ŏ P ν h w (Instr.fieldAt t c f) v h:=by
 obtain⟨a,rfl,k⟩:=akA e d;refine Ŏ.still H ?_ k;simp[Instr.fieldAt,Instr.sureAddr,run_underlying g,j,fieldPlace,mi i]
def PP {t e:TypeId} {n sz id off:Nat} {k:IntKind} {j:Int} {a:Value} (H:HR ν h w) (d:P.underlying t=some (.array n e)) (g:0<=j/\j<n) (f:szP P e=some sz) (c:VR ν h w (.box id off) a) :
 Ŏ P ν h w (Instr.indexAt t a (.int k j)) (.box id (off+j.toNat*sz)) h:=by
 obtain⟨cs,b,i,h2,rfl⟩:=c;refine Ŏ.still H (u:=.pointer (some ⟨b,off+j.toNat*sz,none⟩)) ?_ ⟨cs,b,i,h2,rfl⟩;simp[Instr.indexAt,Instr.sureAddr,asIntOf,run_underlying d,mi f,g,ų]
def WW {k:IntKind} {n:Int} {v:AV} (e:arK k n some=some v):v=.int k (k.wrap n):=by
 unfold arK at e;cases e
 cases k<;>rfl
def M3 {gt:Bool} {f:Value->Value->Sem Value} (m:∀(k:IntKind) (a b:Int),(f (.int k a) (.int k b)).run P w=.ok (.int k (match gt with|true=>Zy a b|false=>W9 a b)) w) :
 ∀(l:rT AV) (us:rT Value) (x v:AV) (c:Value),jH gt x l some=some v->VR ν h w x c->ÿ (VR ν h w) l us->∃u,(us.foldlM f c).run P w=.ok u w/\VR ν h w v u
 |[],[],x,v,c,e,j,_=>by cases e; exact⟨c,rfl,j⟩
 |[],_::_,_,_,_,_,_,d=>d.elim
 |_::_,[],_,_,_,_,_,d=>d.elim
 |y::l,uy::us,x,v,c,e,j,d=>by
  cases x<;>try (simp[jH] at e; done)
  cases y<;>try (simp[jH] at e; done)
  rename_i k a r b;simp only[jH] at e
  split at e<;>try (cases e; done)
  rename_i n _;subst n
  have i:∀g:Bool,(match g with|true=>jH true (.int k (Zy a b)) l some|false=>jH false (.int k (W9 a b)) l some)=some v->jH g (.int k (match g with|true=>Zy a b|false=>W9 a b)) l some=some v:=fun g h=>by cases g<;>exact h
  have e:=i gt e;have q:c=.int k a:=j;have h2:uy=.int k b:=d.1;subst q h2;obtain⟨u,p,o⟩:=M3 m l us _ v _ e (show VR ν h w (.int k _) (.int k _) from rfl) d.2;refine⟨u,?_,o⟩;simp only[gA,Sem.run_bind,m,Result.andThen_ok];exact p
end
end Go.Am
end
