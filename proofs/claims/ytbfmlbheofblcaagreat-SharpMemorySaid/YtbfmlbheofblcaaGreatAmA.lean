/- lemmas -/
import Derived.CallsIn
import Derived.Lib.SlicesCompact
import Derived.WalkKit
import Derived.Laws.AppendOwn
import Derived.Laws.CopyRow
import Derived.Laws.MakeOwn
set_option linter.all false
abbrev AN.{u} (a:Type u):Type u:=Option a
abbrev AS.{u} (a:Type u):Type u:=List a
def cI:=@List.getElem?_eq_getElem
def cJ:=@Nat.le_refl
def cM:=@Bool.and_eq_true
def cN:=@List.length_append
def cO:=@List.getElem?_eq_some_iff
def cQ:=@List.mem_of_getElem?
def cR:=@List.mem_append
def cW:=@List.mem_cons
def cX:=@List.mem_singleton
def cY:=@List.length_cons
def cZ:=@Nat.eq_of_beq_eq_true
def dc:=@Nat.le_trans
def df:=@Nat.lt_of_lt_of_le
def dg:=@List.length_eq_zero_iff
def dh:=@List.mem_iff_getElem
def di:=@List.length_take
def dj:=@List.append_assoc
def dk:=@Bool.false_eq_true
def dl:=@Nat.mul_le_mul_right
def dm:=@List.length_nil
def dt:=@Nat.zero_add
def du:=@Int.toNat_natCast
def dv:=@List.append_nil
def dw:=@List.all_eq_true
def dz:=@Nat.add_mul
def dA:=@List.pairwise_iff_getElem
def dC:=@Nat.lt_or_ge
def dE:=@List.pairwise_cons
def dF:=@List.length_singleton
def dG:=@Nat.zero_le
def dH:=@List.flatMap_cons
def dI:=@List.mem_append_right
def dJ:=@Int.le_refl
def dK:=@Array.toList_inj
def dL:=@List.mem_map
def dM:=@Bool.not_true
def dN:=@List.mem_flatMap
def dO:=@List.findIdx?_eq_some_iff_getElem
def dP:=@List.any_eq_true
def dQ:=@List.length_filter_le
def dR:=@Array.getD_eq_getD_getElem?
def dS:=@List.length_map
def dT:=@Option.map_some
def dU:=@List.mem_append_left
def dV:=@List.mem_filter
def dW:=@List.prefix_rfl
def dX:=@List.filter_cons
def dY:=@List.getElem?_take
def dZ:=@List.contains_iff_mem
def d8:=@Bool.eq_iff_iff
def d9:=@List.filter_nil
def ee:=@Array.getElem?_eq_some_iff
def eh:=@List.findIdx?_eq_none_iff
def ej:=@List.take_of_length_le
def eo:=@List.prefix_append
def ez:=@Option.bind_some
def eA:=@Nat.le_of_ble_eq_true
def eD:=@List.getElem?_toArray
def eE:=@List.any_eq_false
def eF:=@List.find?_eq_none
def eG:=@Array.getElem?_push
def eI:=@Bool.not_eq_true'
def eJ:=@Bool.true_and
def eM:=@List.map_cons
def eN:=@Array.getElem?_setIfInBounds
def eO:=@List.prefix_append_right_inj
def eP:=@List.getElem?_append
def eQ:=@List.all_cons
def eR:=@List.getElem?_append_right
def eS:=@Bool.eq_false_iff
def eT:=@List.size_toArray
def eV:=@Eq.trans
def eW:=@List.getElem?_append_left
def eX:=@Array.ext'
def eY:=@List.drop_eq_getElem_cons
def eZ:=@Array.getElem?_append
def fc:=@Bool.not_eq_false'
def fe:=@List.cons_append
def ff:=@List.not_mem_nil
def fg:=@List.getElem?_drop
def fh:=@Nat.add_assoc
def fi:=@List.getElem_take
def fj:=@List.nodup_cons
def fk:=@List.foldl_cons
def fo:=@List.length_set
def fp:=@List.map_congr_left
def fq:=@List.flatMap_append
def ft:=@Array.length_toList
def fu:=@Nat.one_mul
def fw:=@List.map_nil
def fA:=@Option.getD_some
def fB:=@List.nodup_nil
def fC:=@Nat.eq_zero_or_pos
def fD:=@List.nil_append
def fE:=@Nat.add_zero
def fF:=@List.mem_cons_of_mem
def fG:=@Nat.ne_of_lt
def fH:=@Int.mul_le_mul_of_nonneg_right
def fI:=@Int.eq_ofNat_of_zero_le
def fJ:=@List.getElem?_cons_zero
def fK:=@List.flatten_append
def fL:=@List.filter_sublist
def fM:=@Int.mul_le_mul
def fN:=@Int.natAbs_mul
def fO:=@Int.natAbs_natCast
def fP:=@Int.mul_comm
def fQ:=@List.length_replicate
def fR:=@List.flatten_cons
def fS:=@Nat.mul_one
def fT:=@Bool.and_false
def fU:=@Array.toList_map
def fV:=@Nat.le_of_eq
def fW:=@Nat.mod_eq_of_lt
def fX:=@List.length_pos_iff
def fY:=@List.pairwise_singleton
def fZ:=@Nat.le_mul_of_pos_right
def f0:=@List.length_pos_of_mem
def f5:=@Nat.le_succ
def f6:=@Int.ediv_eq_iff_of_pos
def f7:=@List.getElem?_set
def f9:=@List.Perm.refl
def gd:=@Int.add_zero
def gg:=@Nat.mul_le_mul
def gh:=@List.drop_drop
def gi:=@Int.mul_nonneg
def gj:=@Array.getElem?_toList
def gk:=@Bool.or_eq_false_iff
def gn:=@List.flatten_nil
def gq:=@Int.add_mul
def gu:=@Int.toNat_of_nonneg
def gw:=@List.getElem?_range
def gx:=@List.append_toArray
def gy:=@Int.mul_tdiv_cancel
def gA:=@List.find?_some
def gB:=@List.mem_mapIdx
def gC:=@List.find?_cons
def gD:=@List.map_append
def gE:=@Nat.succ_pos
def gF:=@List.filter_append
def gG:=@Option.isSome_iff_exists
def gH:=@Nat.lt_succ_iff_lt_or_eq
def gI:=@Bool.false_and
def gJ:=@Nat.mod_lt
def gK:=@Bool.not_false
def gL:=@List.getElem?_map
def gM:=@Array.size_append
def gN:=@Int.one_mul
def gO:=@List.drop_length
def gP:=@List.length_drop
def gQ:=@Int.natCast_succ
def gR:=@List.getElem_mem
def gS:=@List.flatMap_nil
def gT:=@Nat.gcd_comm
def gU:=@Int.natCast_mul
def gV:=@Int.natAbs_tmod
noncomputable section
namespace Go.Am
inductive Ty where
 |unit
 |bool
 |int (k:IntKind)
 |str
 |slice (t:Ty)
 |map (k v:Ty)
 |ptr (t:Ty)
 |pair (a b:Ty)
 |fsl (t:Ty)
 deriving DecidableEq
@[reducible] def Val:Ty->Type
 |.unit=>Unit
 |.bool=>Bool
 |.int _=>Int
 |.str=>ByteArray
 |.slice t=>AS (Val t)
 |.map k v=>AS (Val k×Val v)
 |.ptr t=>Val t
 |.pair a b=>Val a×Val b
 |.fsl t=>AS (Val t)
def ers:Ty->Ty
 |.slice t=>.slice (ers t)
 |.fsl t=>.slice (ers t)
 |.map k v=>.map (ers k) (ers v)
 |.ptr t=>.ptr (ers t)
 |.pair a b=>.pair (ers a) (ers b)
 |.unit=>.unit
 |.bool=>.bool
 |.int k=>.int k
 |.str=>.str
def Ō:∀t,Val (ers t)=Val t
 |.slice t=>congrArg AS (Ō t)
 |.fsl t=>congrArg AS (Ō t)
 |.map k v=>by show AS (Val (ers k)×Val (ers v))=AS (Val k×Val v); rw[Ō k,Ō v]
 |.ptr t=>Ō t
 |.pair a b=>by show(Val (ers a)×Val (ers b))=(Val a×Val b); rw[Ō a,Ō b]
 |.unit=>rfl
 |.bool=>rfl
 |.int _=>rfl
 |.str=>rfl
inductive AV where
 |any
 |und
 |bool (b:Bool)
 |int (k:IntKind) (n:Int)
 |str (s:ByteArray)
 |nils
 |slc (t:Ty) (xs:List (Val t))
 |fsc (t:Ty) (xs:List (Val t))
 |own (id g:Nat)
 |sub (id g lo n:Nat)
 |nilm
 |mp (k v:Ty) (es:List (Val k×Val v))
 |omp (id:Nat)
 |nilp
 |box (id off:Nat)
 |eptr (t:Ty) (x:Val t) (off:Nat)
 |optr (id g i off:Nat)
 |dp (id g:Nat)
 |dq (id g i:Nat)
 |dr (id g i:Nat)
 |de (id g i j:Nat)
 |nilfn
 |yld
 |ifc (b:Bool)
 |ofn (id:Nat)
 |oit (id:Nat)
 |fn (f:Fn) (first caps:List AV)
 |agg (cs:List AV)
 |tup (vs:List AV)
inductive Blk where
 |dead
 |cells (cs:List AV)
 |row (t:Ty) (g:Nat) (fz:Bool) (xs:List (Val t))
 |map (k v:Ty) (es:List (Val k×Val v))
 |deep (k:IntKind) (g:Nat) (xss:List (List Int))
 |acc (t:Ty) (xs:List (Val t))
 |fns (es:List (ByteArray×AV))
 |iter (s:ByteArray) (pos:Int)
structure St where
 t:AS AV
 h:AS Blk
def Ty.size:Ty->Nat
 |.unit=>0
 |.pair a b=>a.size+b.size
 |_=>1
def Ty.isAgg:Ty->Bool
 |.unit=>true
 |.pair _ _=>true
 |_=>false
def flat:(t:Ty)->Val t->AS AV
 |.unit,_=>[]
 |.bool,b=>[.bool b]
 |.int k,n=>[.int k n]
 |.str,s=>[.str s]
 |.slice t,xs=>[.slc t xs]
 |.fsl t,xs=>[.fsc t xs]
 |.map k v,es=>[.mp k v es]
 |.ptr t,x=>[.eptr t x 0]
 |.pair a b,v=>flat a v.1++flat b v.2
def qB {F:Ty->Type} {a b:Ty} (h:a=b) (x:F a):F b:=h▸x
def Ő:(t:Ty)->AS AV->AN (Val t×AS AV)
 |.unit,l=>some ((),l)
 |.bool,.bool b::l=>some (b,l)
 |.int k,.int d n::l=>match decEq d k with
  |isTrue _=>some (n,l)
  |isFalse _=>none
 |.str,.str s::l=>some (s,l)
 |.slice _,.nils::l=>some ([],l)
 |.slice t,.slc c xs::l=>match decEq c t with
  |isTrue h=>some (qB (F:=fun t=>AS (Val t)) h xs,l)
  |isFalse _=>none
 |.slice t,.fsc c xs::l=>match decEq c t with
  |isTrue h=>some (qB (F:=fun t=>AS (Val t)) h xs,l)
  |isFalse _=>match decEq (ers c) t with
   |isTrue h=>some (qB (F:=fun t=>AS (Val t)) h (cast (congrArg AS (Ō c).symm) xs),l)
   |isFalse _=>none
 |.fsl _,.nils::l=>some ([],l)
 |.fsl t,.fsc c xs::l=>match decEq c t with
  |isTrue h=>some (qB (F:=fun t=>AS (Val t)) h xs,l)
  |isFalse _=>none
 |.map _ _,.nilm::l=>some ([],l)
 |.map k v,.mp d e es::l=>match decEq (Ty.map d e) (Ty.map k v) with
  |isTrue h=>some (qB (F:=Val) h es,l)
  |isFalse _=>none
 |.ptr t,.eptr c x 0::l=>match decEq c t with
  |isTrue h=>some ((qB (F:=Val) h x:Val t),l)
  |isFalse _=>none
 |.pair a b,l=>match Ő a l with
  |some (x,l)=>match Ő b l with
   |some (y,l)=>some ((x,y),l)
   |none=>none
  |none=>none
 |_,_=>none
def Ù (t:Ty) (l:AS AV):AN (Val t) :=
 match Ő t l with
 |some (x,[])=>some x
 |_=>none
def enc:(t:Ty)->Val t->AV
 |.unit,_=>.agg []
 |.pair a b,v=>.agg (flat (.pair a b) v)
 |.bool,b=>.bool b
 |.int k,n=>.int k n
 |.str,s=>.str s
 |.slice t,xs=>.slc t xs
 |.fsl t,xs=>.fsc t xs
 |.map k v,es=>.mp k v es
 |.ptr t,x=>.eptr t x 0
def ģ:AV->AN (AS AV)
 |.agg cs=>some cs
 |.any=>none
 |.und=>none
 |.tup _=>none
 |v=>some [v]
def lk (l:AS AV):Nat->AV:=List.rec (motive:=fun _=>Nat->AV) (fun _=>.any) (fun x _ a n=>Nat.rec (motive:=fun _=>AV) x (fun m _=>a m) n) l
def upd (l:AS AV):Nat->AV->AS AV:=List.rec (motive:=fun _=>Nat->AV->AS AV) (fun _ _=>[]) (fun x xs a n v=>Nat.rec (motive:=fun _=>AS AV) (v::xs) (fun m _=>x::a m v) n) l
def lkB (l:AS Blk):Nat->Blk:=List.rec (motive:=fun _=>Nat->Blk) (fun _=>.dead) (fun x _ a n=>Nat.rec (motive:=fun _=>Blk) x (fun m _=>a m) n) l
def ì (l:AS Blk):Nat->Blk->AS Blk:=List.rec (motive:=fun _=>Nat->Blk->AS Blk) (fun _ _=>[]) (fun x xs a n v=>Nat.rec (motive:=fun _=>AS Blk) (v::xs) (fun m _=>x::a m v) n) l
def afl (n:Nat):lk [] n=.any:=rfl
def afm (x:AV) (l:AS AV):lk (x::l) 0=x:=rfl
def afk (x:AV) (l:AS AV) (n:Nat):lk (x::l) (n+1)=lk l n:=rfl
def Rk (n:Nat) (v:AV):upd [] n v=[]:=rfl
def Rl (x v:AV) (l:AS AV):upd (x::l) 0 v=v::l:=rfl
def Rj (x v:AV) (l:AS AV) (n:Nat):upd (x::l) (n+1) v=x::upd l n v:=rfl
def Qf (n:Nat):lkB [] n=.dead:=rfl
def Qg (x:Blk) (l:AS Blk):lkB (x::l) 0=x:=rfl
def Qd (x:Blk) (l:AS Blk) (n:Nat):lkB (x::l) (n+1)=lkB l n:=rfl
def Fc (n:Nat) (v:Blk):ì [] n v=[]:=rfl
def Fe (x v:Blk) (l:AS Blk):ì (x::l) 0 v=v::l:=rfl
def E9 (x v:Blk) (l:AS Blk) (n:Nat):ì (x::l) (n+1) v=x::ì l n v:=rfl
def Hs:AS AV->Nat->Nat->AN (AS AV)
 |_,0,0=>some []
 |c::cs,0,n+1=>match Hs cs 0 n with
  |some l=>some (c::l)
  |none=>none
 |_::cs,o+1,n=>Hs cs o n
 |[],_,_=>none
def ZR:AS AV->Nat->AS AV->AN (AS AV)
 |cs,0,[]=>some cs
 |_::cs,0,v::vs=>match ZR cs 0 vs with
  |some l=>some (v::l)
  |none=>none
 |c::cs,o+1,vs=>match ZR cs o vs with
  |some l=>some (c::l)
  |none=>none
 |[],_,_=>none
def cv1:Value->AV
 |.bool b=>.bool b
 |.int k n=>.int k n
 |.string s=>.str s
 |.slice none 0 0=>.nils
 |.map none=>.nilm
 |.pointer none=>.nilp
 |.nilFunc=>.nilfn
 |.nilIface=>.ifc false
 |_=>.any
def cv:Value->AV
 |.agg cs=>match cs.toList.all Value.oneCell' with
  |true=>.agg (cs.toList.map cv1)
  |false=>.any
 |v=>cv1 v
def ev (t:AS AV):Operand->AV
 |.tmp i=>lk t i
 |.const v=>cv v
 |.func f=>.fn (.func f) [] []
 |.global _=>.any
def Lv:TypeDesc->Bool
 |.struct _=>true
 |.array _ _=>true
 |_=>false
def szP (P:Program) (t:TypeId):AN Nat :=
 match P.info? t with
 |some i=>some i.size
 |none=>none
def ldP (P:Program) (t:TypeId):AN (Bool×Nat) :=
 match P.underlying t with
 |some d=>match szP P t with
  |some n=>some (Lv d,n)
  |none=>none
 |none=>none
def mkv (agg:Bool) (cs:AS AV):AN AV :=
 match agg with
 |true=>some (.agg cs)
 |false=>match cs with
  |[v]=>some v
  |_=>none
def ahy:AS Ty->Ty
 |[]=>.unit
 |[t]=>t
 |t::ts=>.pair t (ahy ts)
def MX (P:Program):Nat->TypeId->AN Ty
 |0,_=>none
 |n+1,t=>match P.underlying t with
  |some .bool=>some .bool
  |some (.int k)=>some (.int k)
  |some .string=>some .str
  |some (.slice e)=>(MX P n e).map .slice
  |some (.map k e)=>match MX P n k,MX P n e with
   |some a,some b=>some (.map a b)
   |_,_=>none
  |some (.pointer e)=>(MX P n e).map .ptr
  |some (.struct fs)=>(fs.toList.mapM fun f=>MX P n f.type).map ahy
  |_=>none
def Ay (P:Program) (t:TypeId):AN TypeId :=
 match P.underlying t with
 |some (.slice e)=>some e
 |_=>none
def AQ (P:Program) (e:TypeId) (n:Nat):Bool :=
 match P.info? e with
 |some i=>i.size==n&&(decide (0<n)&&(decide (i.bytes<=32768)&&match i.zero with
  |some z=>z.cells.size==n
  |none=>false))
 |none=>false
def ñ (h:AS Blk):AV->AV
 |.own id g=>match lkB h id with
  |.row t g' _ xs=>match g==g' with
   |true=>.fsc t xs
   |false=>.any
  |_=>.any
 |.sub id g lo n=>match lkB h id with
  |.row t g' _ xs=>match g==g' with
   |true=>.fsc t ((xs.drop lo).take n)
   |false=>.any
  |_=>.any
 |.omp id=>match lkB h id with
  |.map k v es=>.mp k v es
  |_=>.any
 |v=>v
def XJ (h:AS Blk):AV->AV
 |.agg cs=>.agg (cs.map (ñ h))
 |v=>ñ h v
def o9 (h:AS Blk):AV->AS Blk
 |.own id _=>match lkB h id with
  |.row t g _ xs=>ì h id (.row t g true xs)
  |_=>h
 |.sub id _ _ _=>match lkB h id with
  |.row t g _ xs=>ì h id (.row t g true xs)
  |_=>h
 |_=>h
def xZ (h:AS Blk):AS AV->AS Blk
 |[]=>h
 |v::vs=>xZ (o9 h v) vs
def frz (h:AS Blk):AV->AS Blk
 |.agg cs=>xZ h cs
 |v=>o9 h v
def Ig:AV->Bool
 |.omp _=>false
 |.ofn _=>false
 |.oit _=>false
 |_=>true
def acz:AV->Bool
 |.agg cs=>cs.all Ig
 |v=>Ig v
def uY:AV->Bool
 |.bool _=>true
 |.int _ _=>true
 |.str _=>true
 |.nils=>true
 |.nilm=>true
 |.nilp=>true
 |.nilfn=>true
 |_=>false
def plain:AV->Bool
 |.agg cs=>cs.all uY
 |v=>uY v
def HS:AV->Bool
 |.tup vs=>vs.all plain
 |v=>plain v
def wr64 (n:Int):Int:=IntKind.i64.wrap n
def res:IntKind->Int->Int
 |.i64,n=>wr64 n
 |k,n=>k.wrap n
def Û (n:Nat):Bool:=decide (n<=4294967296)
def jN:(t:Ty)->Val t->Val t->Bool
 |.bool,a,b=>a==b
 |.int _,a,b=>decide (a=b)
 |.str,a,b=>a==b
 |_,_,_=>false
def Ez (P:Program) (t:TypeId) (k:Ty):Bool :=
 match P.underlying t with
 |some .bool=>match k with
  |.bool=>true
  |_=>false
 |some (.int i)=>match k with
  |.int j=>i==j
  |_=>false
 |_=>false
def Kh:AV->Bool
 |.agg _=>true
 |_=>false
def qT {k v:Ty} (x:Val k):AS (Val k×Val v)->AN (Val v)
 |[]=>none
 |e::es=>match jN k x e.1 with
  |true=>some e.2
  |false=>qT x es
def Hf {k v:Ty} (x:Val k) (y:Val v):AS (Val k×Val v)->AS (Val k×Val v)
 |[]=>[(x,y)]
 |e::es=>match jN k x e.1 with
  |true=>(x,y)::es
  |false=>e::Hf x y es
section
variable {ρ:Type}
def cmpI:BinOp->Int->Int->AN Bool
 |.eql,a,b=>some (a==b)
 |.neq,a,b=>some (a != b)
 |.lss,a,b=>some (decide (a<b))
 |.leq,a,b=>some (decide (a<=b))
 |.gtr,a,b=>some (decide (a>b))
 |.geq,a,b=>some (decide (a>=b))
 |_,_,_=>none
def arI:BinOp->Int->Int->AN Int
 |.add,a,b=>some (a+b)
 |.sub,a,b=>some (a-b)
 |.mul,a,b=>some (a*b)
 |_,_,_=>none
def arK (k:IntKind) (n:Int) (K:AV->AN ρ):AN ρ :=
 K (.int k (res k n))
def eqFs (P:Program) (a:TypeId->AS AV->AS AV->AN Bool->AN Bool) (cs b:AS AV):AS Field->AN Bool->AN Bool
 |[],rest=>rest
 | f :: fs, rest => match f.name != "_" with
  |false=>eqFs P a cs b fs rest
  |true=>match szP P f.type with
   |some n=>match Hs cs f.offset n,Hs b f.offset n with
    |some x,some y=>a f.type x y (eqFs P a cs b fs rest)
    |_,_=>none
   |none=>none
def eqIs (P:Program) (a:TypeId->AS AV->AS AV->AN Bool->AN Bool) (e:TypeId) (n:Nat) (cs b:AS AV):AS Nat->AN Bool->AN Bool
 |[],rest=>rest
 |i::is,rest=>match Hs cs (i*n) n,Hs b (i*n) n with
  |some x,some y=>a e x y (eqIs P a e n cs b is rest)
  |_,_=>none
def aiJ (P:Program):Nat->TypeId->AS AV->AS AV->AN Bool->AN Bool
 |0,_,_,_,_=>none
 |n+1,t,cs,ds,rest=>match P.underlying t with
  |some .bool=>match cs,ds with
   |[.bool a],[.bool b]=>match rest with
    |some r=>some ((a==b)&&r)
    |none=>none
   |_,_=>none
  |some (.int _)=>match cs,ds with
   |[.int k a],[.int c b]=>match decEq k c with
    |isTrue _=>match rest with
     |some r=>some (decide (a=b)&&r)
     |none=>none
    |isFalse _=>none
   |_,_=>none
  |some (.struct fs)=>match P.stoodInHeld t with
   |false=>eqFs P (aiJ P n) cs ds fs.toList rest
   |true=>none
  |some (.array len el)=>match szP P el with
   |some m=>eqIs P (aiJ P n) el m cs ds (List.range len) rest
   |none=>none
  |_=>none
def shlI (k:IntKind) (a b:Int):Int:=k.wrap (a*2 ^ (min b.toNat k.bits))
def shrI (k:IntKind) (a b:Int):Int:=a.fdiv (2 ^ (min b.toNat k.bits))
def WD:BinOp->AN Bool
 |.shl=>some true
 |.shr=>some false
 |_=>none
def shK (left:Bool) (k:IntKind) (a b:Int) (K:AV->AN ρ):AN ρ :=
 match decide (0<=b) with
 |true=>match left with
  |true=>K (.int k (shlI k a b))
  |false=>K (.int k (shrI k a b))
 |false=>none
def ahU (k:IntKind) (f:BitVec k.bits->BitVec k.bits->BitVec k.bits) (a b:Int):Int:=k.wrap (f (BitVec.ofInt k.bits a) (BitVec.ofInt k.bits b)).toNat
def andI (k:IntKind) (a b:Int):Int:=ahU k (fun a b=>a &&& b) a b
def orI (k:IntKind) (a b:Int):Int:=ahU k (fun a b=>a ||| b) a b
def xorI (k:IntKind) (a b:Int):Int:=ahU k (fun a b=>a ^^^ b) a b
def Xo (k:IntKind) (a b:Int):Int:=ahU k (fun a b=>a &&& ~~~b) a b
def aggT:AN TypeDesc->Bool
 |some (.struct _)=>true
 |some (.array _ _)=>true
 |_=>false
def ai3 (P:Program) (op:BinOp) (t:TypeId) (x y:AV) (K:AV->AN ρ):AN ρ :=
 match x,y with
 |.int k a,.int c b=>match WD op with
  |some l=>shK l k a b K
  |none=>match decEq k c with
   |isFalse _=>none
   |isTrue _=>match cmpI op a b with
    |some r=>K (.bool r)
    |none=>match arI op a b with
     |some r=>arK k r K
     |none=>match op with
      |.quo=>match decide (b=0) with
       |true=>none
       |false=>arK k (a.tdiv b) K
      |.rem=>match decide (b=0) with
       |true=>none
       |false=>K (.int k (a.tmod b))
      |.and=>K (.int k (andI k a b))
      |.or=>K (.int k (orI k a b))
      |.xor=>K (.int k (xorI k a b))
      |.andNot=>K (.int k (Xo k a b))
      |_=>none
 |.bool a,.bool b=>match P.underlying t with
  |some .bool=>match op with
   |.eql=>K (.bool (a==b))
   |.neq=>K (.bool (!(a==b)))
   |_=>none
  |_=>none
 |.str a,.str b=>match op with
  |.eql=>K (.bool (a.toList==b.toList))
  |.neq=>K (.bool (!(a.toList==b.toList)))
  |.add=>match Û (a.size+b.size) with
   |true=>K (.str (a++b))
   |false=>none
  |_=>none
 |.agg cs,.agg ds=>match aggT (P.underlying t) with
  |true=>match P.eqGuardType P.depth t with
   |false=>match aiJ P 8 t cs ds (some true) with
    |some r=>match op with
     |.eql=>K (.bool r)
     |.neq=>K (.bool (!r))
     |_=>none
    |none=>none
   |true=>none
  |false=>none
 |_,_=>none
def ado:Operand->Bool
 |.const .nilIface=>true
 |_=>false
def aiz (P:Program) (op:BinOp) (t:TypeId) (x:AV) (K:AV->AN ρ):AN ρ :=
 match P.underlying t with
 |some (.interface _)=>match x with
  |.ifc a=>match op with
   |.eql=>K (.bool (!a))
   |.neq=>K (.bool a)
   |_=>none
  |_=>none
 |_=>none
@[irreducible] def V4 (n:Nat):Int:=match n with
 |0=>0
 |k+1=>Int.ofNat (k+1)
def zQ (n:Nat):V4 n=n:=by unfold V4; cases n<;>rfl
def afn (d:AN TypeDesc) (h:AS Blk) (x:AV) (K:AV->AN ρ):AN ρ :=
 match d with
 |some (.slice _)=>match x with
  |.slc _ xs=>K (.int .i64 (V4 xs.length))
  |.fsc _ xs=>K (.int .i64 (V4 xs.length))
  |.nils=>K (.int .i64 0)
  |.own id g=>match lkB h id with
   |.row _ g' _ xs=>match g==g' with
    |true=>K (.int .i64 (V4 xs.length))
    |false=>none
   |_=>none
  |.sub id g _ n=>match lkB h id with
   |.row _ g' _ _=>match g==g' with
    |true=>K (.int .i64 (V4 n))
    |false=>none
   |_=>none
  |.dp id g=>match lkB h id with
   |.deep _ g' xss=>match g==g' with
    |true=>K (.int .i64 (V4 xss.length))
    |false=>none
   |_=>none
  |.dr id g i=>match lkB h id with
   |.deep _ g' xss=>match g==g' with
    |true=>match xss[i]? with
     |some xs=>K (.int .i64 (V4 xs.length))
     |none=>none
    |false=>none
   |_=>none
  |_=>none
 |some .string=>match x with
  |.str s=>K (.int .i64 (V4 s.size))
  |_=>none
 |some (.map _ _)=>match x with
  |.mp _ _ es=>K (.int .i64 (V4 es.length))
  |.nilm=>K (.int .i64 0)
  |.omp id=>match lkB h id with
   |.map _ _ es=>K (.int .i64 (V4 es.length))
   |_=>none
  |_=>none
 |_=>none
def LA:Nat->Nat->Int->(Nat->AN ρ)->AN ρ
 |0,_,_,_=>none
 |n+1,q,j,K=>match decide (j=(q:Int)) with
  |true=>K q
  |false=>LA n (q+1) j K
def zl (sz:Nat) (h:AS Blk) (x i:AV) (K:AV->AN ρ):AN ρ :=
 match i with
 |.int _ n=>match x with
  |.slc t xs=>match t.size==sz&&decide (0<=n) with
   |true=>match xs[n.toNat]? with
    |some e=>K (.eptr t e 0)
    |none=>none
   |false=>none
  |.fsc t xs=>match t.size==sz&&decide (0<=n) with
   |true=>match xs[n.toNat]? with
    |some e=>K (.eptr t e 0)
    |none=>none
   |false=>none
  |.own id g=>match lkB h id with
   |.row t g' _ xs=>match g==g'&&t.size==sz with
    |true=>match decide (0<=n)&&decide (n<xs.length) with
     |true=>K (.optr id g n.toNat 0)
     |false=>none
    |false=>none
   |_=>none
  |.sub id g lo m=>match lkB h id with
   |.row t g' _ _=>match g==g'&&t.size==sz with
    |true=>match decide (0<=n)&&decide (n<m) with
     |true=>K (.optr id g (lo+n.toNat) 0)
     |false=>none
    |false=>none
   |_=>none
  |.dp id g=>match lkB h id with
   |.deep _ g' xss=>match g==g'&&Nat.beq 1 sz with
    |true=>match decide (0<=n)&&decide (n<xss.length) with
     |true=>K (.dq id g n.toNat)
     |false=>none
    |false=>none
   |_=>none
  |.dr id g i=>match lkB h id with
   |.deep _ g' xss=>match g==g'&&Nat.beq 1 sz with
    |true=>match xss[i]? with
     |some xs=>match decide (0<=n)&&decide (n<xs.length) with
      |true=>K (.de id g i n.toNat)
      |false=>none
     |none=>none
    |false=>none
   |_=>none
  |_=>none
 |_=>none
def uT (h:AS Blk) (x:AV) (o:Nat) (K:AV->AN ρ):AN ρ :=
 match x with
 |.box id off=>K (.box id (off+o))
 |.eptr t e off=>K (.eptr t e (off+o))
 |.optr id g i off=>match lkB h id with
  |.row _ g' _ _=>match g==g' with
   |true=>K (.optr id g i (off+o))
   |false=>none
  |_=>none
 |_=>none
def J5 (P:Program) (h:AS Blk) (t:TypeId) (a:AV) (K:AV->AN ρ):AN ρ :=
 match ldP P t with
 |some (agg,n)=>match a with
  |.box id off=>match lkB h id with
   |.cells c=>match Hs c off n with
    |some cs=>match mkv agg cs with
     |some v=>K v
     |none=>none
    |none=>none
   |_=>none
  |.eptr ty e off=>match Hs (flat ty e) off n with
   |some cs=>match mkv agg cs with
    |some v=>K v
    |none=>none
   |none=>none
  |.optr id g i off=>match lkB h id with
   |.row ty g' _ xs=>match g==g' with
    |true=>match xs[i]? with
     |some e=>match Hs (flat ty e) off n with
      |some cs=>match mkv agg cs with
       |some v=>K v
       |none=>none
      |none=>none
     |none=>none
    |false=>none
   |_=>none
  |.dq id g i=>match lkB h id with
   |.deep _ g' _=>match g==g'&&(!agg&&Nat.beq n 1) with
    |true=>K (.dr id g i)
    |false=>none
   |_=>none
  |.de id g i j=>match lkB h id with
   |.deep k g' xss=>match g==g'&&(!agg&&Nat.beq n 1) with
    |true=>match xss[i]? with
     |some xs=>match xs[j]? with
      |some x=>K (.int k x)
      |none=>none
     |none=>none
    |false=>none
   |_=>none
  |_=>none
 |none=>none
def ph (P:Program) (h:AS Blk) (t:TypeId) (a v:AV) (K:AS Blk->AN ρ):AN ρ :=
 match ģ v with
 |some vs=>match szP P t==some vs.length with
  |true=>match a with
   |.box id off=>match lkB h id with
    |.cells c=>match ZR c off vs with
     |some c'=>K (ì h id (.cells c'))
     |none=>none
    |_=>none
   |.optr id g i off=>match acz v with
    |true=>match lkB (frz h v) id with
     |.row ty g' false xs=>match g==g' with
      |true=>match xs[i]? with
       |some e=>match ZR (flat ty e) off (vs.map (ñ h)) with
        |some b=>match Ù ty b with
         |some f=>K (ì (frz h v) id (.row ty g' false (xs.set i f)))
         |none=>none
        |none=>none
       |none=>none
      |false=>none
     |_=>none
    |false=>none
   |.de id g i j=>match v with
    |.int d y=>match lkB h id with
     |.deep k g' xss=>match g==g' with
      |true=>match decEq d k with
       |isTrue _=>match xss[i]? with
        |some xs=>match xs[j]? with
         |some _=>K (ì h id (.deep k g' (xss.set i (xs.set j y))))
         |none=>none
        |none=>none
       |isFalse _=>none
      |false=>none
     |_=>none
    |_=>none
   |_=>none
  |false=>none
 |none=>none
def ot (s:ByteArray) (j:Int) (K:AV->AN ρ):AN ρ :=
 match decide (0<=j) with
 |true=>match s[j.toNat]? with
  |some b=>K (.int .u8 b.toNat)
  |none=>none
 |false=>none
def oq (s:ByteArray) (lo hi:AN AV) (K:AV->AN ρ):AN ρ :=
 match lo,hi with
 |some (.int _ l),some (.int _ m)=>match decide (0<=l)&&(decide (l<=m)&&decide (m<=s.size)) with
  |true=>K (.str (s.extract l.toNat m.toNat))
  |false=>none
 |some (.int _ l),none=>match decide (0<=l)&&decide (l<=s.size) with
  |true=>K (.str (s.extract l.toNat s.size))
  |false=>none
 |none,some (.int _ m)=>match decide (0<=m)&&decide (m<=s.size) with
  |true=>K (.str (s.extract 0 m.toNat))
  |false=>none
 |_,_=>none
def qG (l:AS Int):ByteArray:=⟨(l.map fun n=>UInt8.ofNat n.toNat).toArray⟩
def zw (h:AS Blk) (x:AV) (K:AV->AN ρ):AN ρ :=
 match x with
 |.own id g=>match lkB h id with
  |.row (.int .u8) g' false xs=>match g==g' with
   |true=>K (.str (qG xs))
   |false=>none
  |_=>none
 |_=>none
def ahv (a b:ByteArray):Bool:=decide (a.data.toList=b.data.toList)
def zm (s:ByteArray):AS (ByteArray×AV)->(AN AV->AN ρ)->AN ρ
 |[],K=>K none
 |e::es,K=>match ahv s e.1 with
  |true=>K (some e.2)
  |false=>zm s es K
def Ow (s:ByteArray) (es:AS (ByteArray×AV)):Bool:=es.all fun e=>!ahv s e.1
def isFnV:AV->Bool
 |.fn _ _ _=>true
 |_=>false
def ox (sz:Nat) (h:AS Blk) (x:AV) (lo hi:AN AV) (eat:Bool) (K:AV->AS Blk->AN ρ):AN ρ :=
 match x with
 |.slc t xs=>match t.size==sz with
  |true=>match lo,hi with
   |some (.int _ l),some (.int _ m)=>match decide (0<=l)&&(decide (l<=m)&&decide (m<=xs.length)) with
    |true=>K (.slc t ((xs.drop l.toNat).take (m-l).toNat)) h
    |false=>none
   |some (.int _ l),none=>match decide (0<=l)&&decide (l<=xs.length) with
    |true=>K (.slc t (xs.drop l.toNat)) h
    |false=>none
   |none,some (.int _ m)=>match decide (0<=m)&&decide (m<=xs.length) with
    |true=>K (.slc t (xs.take m.toNat)) h
    |false=>none
   |none,none=>K (.slc t xs) h
   |_,_=>none
  |false=>none
 |.fsc t xs=>match t.size==sz with
  |true=>match lo,hi with
   |some (.int _ l),none=>match decide (0<=l)&&decide (l<=xs.length) with
    |true=>K (.fsc t (xs.drop l.toNat)) h
    |false=>none
   |_,_=>none
  |false=>none
 |.nils=>match lo,hi with
  |none,some (.int _ m)=>match decide (m=0) with
   |true=>K .nils h
   |false=>none
  |none,none=>K .nils h
  |_,_=>none
 |.own id g=>match lkB h id with
  |.row t g' fz xs=>match g==g'&&t.size==sz with
   |true=>match eat with
    |true=>match fz with
     |true=>none
     |false=>match lo,hi with
      |some (.int _ l),none=>match decide (0<=l)&&decide (l<=xs.length) with
       |true=>K (.own id (g+1)) (ì h id (.row t (g+1) false (xs.drop l.toNat)))
       |false=>none
      |none,some (.int _ m)=>match decide (0<=m)&&decide (m<=xs.length) with
       |true=>K (.own id (g+1)) (ì h id (.row t (g+1) false (xs.take m.toNat)))
       |false=>none
      |_,_=>none
    |false=>match lo,hi with
     |some (.int _ l),some (.int _ m)=>match decide (0<=l)&&(decide (l<=m)&&decide (m<=xs.length)) with
      |true=>K (.sub id g l.toNat (m-l).toNat) h
      |false=>none
     |some (.int _ l),none=>match decide (0<=l)&&decide (l<=xs.length) with
      |true=>K (.sub id g l.toNat (xs.length-l.toNat)) h
      |false=>none
     |none,some (.int _ m)=>match decide (0<=m)&&decide (m<=xs.length) with
      |true=>K (.sub id g 0 m.toNat) h
      |false=>none
     |_,_=>none
   |false=>none
  |_=>none
 |_=>none
def frT:Ty->Ty
 |.slice t=>.fsl (frT t)
 |.pair a b=>.pair (frT a) (frT b)
 |t=>t
def frTy (b:Bool) (o:AN Ty):AN Ty :=
 match b with
 |true=>o.map frT
 |false=>o
def rowTy (v:AV) (o:AN Ty):AN Ty :=
 match v with
 |.fsc a _=>match o with
  |some t=>match decEq (ers a) (ers t) with
   |isTrue _=>some a
   |isFalse _=>some t
  |none=>none
 |_=>o
def tV (P:Program) (h:AS Blk) (nid:Nat) (t:TypeId) (s x:AV) (K:AV->AS Blk->AN ρ):AN ρ :=
 match Ay P t with
 |some e=>match rowTy (ñ h x) (MX P 8 e) with
  |some ty=>match AQ P e ty.size with
   |true=>match Ù (.slice ty) [ñ h x] with
    |some ys=>match s with
     |.nils=>match Û ys.length with
      |true=>K (.own nid 0) (ì h nid (.row ty 0 false ys))
      |false=>none
     |.own id g=>match lkB h id with
      |.row ty' g' false xs=>match g==g' with
       |true=>match decEq ty ty' with
        |isTrue eq=>match Û (xs.length+ys.length) with
         |true=>K (.own id (g+1)) (ì h id (.row ty' (g+1) false (xs++qB (F:=fun t=>AS (Val t)) eq ys)))
         |false=>none
        |isFalse _=>none
       |false=>none
      |_=>none
     |_=>none
    |none=>none
   |false=>none
  |none=>none
 |none=>none
def QG (P:Program) (h:AS Blk) (nid:Nat) (t:TypeId) (s:AV) (a c:Nat) (K:AV->AS Blk->AN ρ):AN ρ :=
 match Ay P t with
 |some e=>match AQ P e 1 with
  |true=>match lkB h a with
   |.deep k b yss=>match c==b with
    |true=>match s with
     |.nils=>match Û yss.length with
      |true=>K (.dp nid 0) (ì (ì h a (.deep k (c+1) [])) nid (.deep k 0 yss))
      |false=>none
     |.dp id g=>match id==a with
      |true=>none
      |false=>match lkB h id with
       |.deep d g' xss=>match g==g' with
        |true=>match decEq d k with
         |isTrue _=>match Û (xss.length+yss.length) with
          |true=>K (.dp id (g+1)) (ì (ì h a (.deep k (c+1) [])) id (.deep d (g+1) (xss++yss)))
          |false=>none
         |isFalse _=>none
        |false=>none
       |_=>none
     |_=>none
    |false=>none
   |_=>none
  |false=>none
 |none=>none
def UO (P:Program) (h:AS Blk) (nid n:Nat) (t:TypeId) (ps:AS (Nat×AV)) (K:AV->AS Blk->AN ρ):AN ρ :=
 match ps with
 |[]=>none
 |p::l=>match l with
  |_::_=>none
  |[]=>match p.2 with
   |.own id g=>match Ay P t with
    |some e=>match AQ P e 1&&(Nat.beq p.1 0&&Nat.beq n 1) with
     |true=>match lkB h id with
      |.row (.int k) g' false xs=>match g==g' with
       |true=>K (.dp nid 0) (ì (ì h id (.row (.int k) (g+1) false [])) nid (.deep k 0 [xs]))
       |false=>none
      |_=>none
     |false=>none
    |none=>none
   |.dp id g=>match Ay P t with
    |some e=>match AQ P e 1&&(Nat.beq p.1 0&&Nat.beq n 1) with
     |true=>match lkB h id with
      |.deep k g' xss=>match g==g' with
       |true=>K (.own nid 0) (ì (ì h id (.deep k (g+1) [])) nid (.row (.slice (.slice (.int k))) 0 false [xss]))
       |false=>none
      |_=>none
     |false=>none
    |none=>none
   |_=>none
def AD (P:Program) (h:AS Blk) (nid:Nat) (t:TypeId) (s x:AV) (K:AV->AS Blk->AN ρ):AN ρ :=
 match s,x,Ay P t with
 |.nils,.int .i64 n,some e=>match MX P 8 e with
  |some ty=>match AQ P e ty.size with
   |true=>match (((P.info? e).bind (·.zero)).map cv).bind ģ with
    |some a=>match Ù ty a with
     |some z=>match decide (0<n)&&Û n.toNat with
      |true=>K (.own nid 0) (ì h nid (.row ty 0 false (List.replicate n.toNat z)))
      |false=>none
     |none=>none
    |none=>none
   |false=>none
  |none=>none
 |_,_,_=>none
def Dw (P:Program) (h:AS Blk) (t:TypeId) (x:AV) (K:AS Blk->AN ρ):AN ρ :=
 match x,Ay P t with
 |.nils,_=>K h
 |.sub id g lo n,some e=>match (((P.info? e).bind (·.zero)).map cv).bind ģ with
  |some a=>match lkB h id with
   |.row ty g' false xs=>match g==g' with
    |true=>match Ù ty a with
     |some z=>K (ì h id (.row ty g' false (xs.take lo++List.replicate n z++xs.drop (lo+n))))
     |none=>none
    |false=>none
   |_=>none
  |none=>none
 |_,_=>none
def funcT (P:Program) (t:TypeId):Bool :=
 match P.underlying t with
 |some (.func _ _ _)=>true
 |_=>false
def strT (P:Program) (t:TypeId):Bool :=
 match P.underlying t with
 |some .string=>true
 |_=>false
def u8T (P:Program) (t:TypeId):Bool :=
 match P.underlying t with
 |some (.int .u8)=>true
 |_=>false
def runeI (s:ByteArray) (p:Int):Int:=(Utf8.decode s p.toNat).1
def widI (s:ByteArray) (p:Int):Int:=(Utf8.decode s p.toNat).2
def PB (h:AS Blk) (x:AV) (K:AV->AS Blk->AN ρ):AN ρ :=
 match x with
 |.oit id=>match lkB h id with
  |.iter s p=>match decide (p<V4 s.size) with
   |true=>K (.tup [.bool true,.int .i64 p,.int .i32 (runeI s p)]) (ì h id (.iter s (p+widI s p)))
   |false=>K (.tup [.bool false]) h
  |_=>none
 |_=>none
def qt (P:Program) (h:AS Blk) (t:TypeId) (id:Nat) (i:AV) (ok:Bool) (K:AV->AN ρ):AN ρ :=
 match P.underlying t with
 |some (.map kt et)=>match ((P.info? et).bind (·.zero)).map cv with
  |some z=>match strT P kt,i,lkB h id with
   |true,.str s,.fns es=>zm s es fun r=>match r with
    |some v=>match ok with
     |true=>K (.tup [v,.bool true])
     |false=>K v
    |none=>match ok with
     |true=>K (.tup [z,.bool false])
     |false=>K z
   |_,_,_=>none
  |none=>none
 |_=>none
def Ť (P:Program) (h:AS Blk) (t:TypeId) (id:Nat) (i x:AV) (K:AS Blk->AN ρ):AN ρ :=
 match P.underlying t with
 |some (.map kt _)=>match strT P kt,i,lkB h id with
  |true,.str s,.fns es=>match Ow s es&&isFnV x with
   |true=>K (ì h id (.fns (es++[(s,x)])))
   |false=>none
  |_,_,_=>none
 |_=>none
def lF (P:Program) (h:AS Blk) (t:TypeId) (m i:AV) (ok:Bool) (K:AV->AN ρ):AN ρ :=
 match P.underlying t with
 |some (.map kt et)=>match MX P 8 kt,MX P 8 et,((P.info? et).bind (·.zero)).map cv with
  |some k,some v,some z=>match Ez P kt k,ñ h m with
   |true,.mp b a es=>match decEq (Ty.map b a) (Ty.map k v) with
    |isTrue eq=>match Ù k [i] with
     |some x=>match qT x (qB (F:=Val) eq es) with
      |some y=>match ok with
       |true=>K (.tup [enc v y,.bool true])
       |false=>K (enc v y)
      |none=>match ok with
       |true=>K (.tup [z,.bool false])
       |false=>K z
     |none=>none
    |isFalse _=>none
   |true,.nilm=>match Ù k [i] with
    |some _=>match ok with
     |true=>K (.tup [z,.bool false])
     |false=>K z
    |none=>none
   |_,_=>none
  |_,_,_=>none
 |_=>none
def ţ (P:Program) (h:AS Blk) (t:TypeId) (m i x:AV) (K:AS Blk->AN ρ):AN ρ :=
 match P.underlying t with
 |some (.map kt _)=>match m with
  |.omp id=>match lkB h id with
   |.map k v es=>match Ez P kt k&&(acz x&&Kh x==v.isAgg) with
    |true=>match Ù k [i],ģ (XJ h x) with
     |some a,some cs=>match Ù v cs with
      |some b=>K (ì (frz h x) id (.map k v (Hf a b es)))
      |none=>none
     |_,_=>none
    |false=>none
   |_=>none
  |_=>none
 |_=>none
def aaL (P:Program) (fs:Array Field):AS (Nat×AV)->AS AV->AN (AS AV)
 |[],cs=>some cs
 |(i,v)::ps,cs=>match fs[i]? with
  |some f=>match ģ v with
   |some vs=>match szP P f.type==some vs.length with
    |true=>match ZR cs f.offset vs with
     |some cs=>aaL P fs ps cs
     |none=>none
    |false=>none
   |none=>none
  |none=>none
def EJ (sz:Nat):AS (Nat×AV)->AS AV->AN (AS AV)
 |[],cs=>some cs
 |(i,v)::ps,cs=>match ģ v with
  |some vs=>match vs.length==sz with
   |true=>match ZR cs (i*sz) vs with
    |some cs=>EJ sz ps cs
    |none=>none
   |false=>none
  |none=>none
def HL (h:AS Blk) (ty:Ty):Nat->AS (Nat×AV)->AN (AS (Val ty))
 |_,[]=>some []
 |n,(i,v)::ps=>match i==n&&acz v with
  |true=>match ģ (XJ h v) with
   |some cs=>match Ù ty cs with
    |some x=>match HL h ty (n+1) ps with
     |some xs=>some (x::xs)
     |none=>none
    |none=>none
   |none=>none
  |false=>none
def frzA (h:AS Blk):AS (Nat×AV)->AS Blk
 |[]=>h
 |(_,v)::ps=>frzA (frz h v) ps
def Lu (a b:Int):Int:=if b>a then b else a
def Uk (a b:Int):Int:=if b<a then b else a
def jk (gt:Bool):AV->AS AV->(AV->AN ρ)->AN ρ
 |x,[],K=>K x
 |.int k a,.int c b::l,K=>match decEq k c with
  |isTrue _=>match gt with
   |true=>jk true (.int k (Lu a b)) l K
   |false=>jk false (.int k (Uk a b)) l K
  |isFalse _=>none
 |_,_,_=>none
def eatB (b:Bool) (ps:AS (Nat×AV)):Bool :=
 match b with
 |true=>!ps.any fun p=>Kh p.2
 |false=>false
def isV0:AV->Bool
 |.fn _ _ _=>false
 |.agg _=>false
 |.tup _=>false
 |_=>true
def sh:Operand->Operand->Bool
 |.tmp i,.tmp j=>i==j
 |.const (.int .i64 a),.const (.int .i64 b)=>decide (a=b)
 |_,_=>false
def opK (P:Program) (S:St) (nid:Nat) (eat:Bool) (o:Op) (K:AV->St->AN ρ):AN ρ :=
 let h (h:AS Blk):St:={t:=S.t,h:=h}
 match o with
 |.move x=>K (ev S.t x) S
 |.assign x=>K (ev S.t x) S
 |.pick c a b=>match ev S.t c with
  |.bool x=>match x with
   |true=>K (ev S.t a) S
   |false=>K (ev S.t b) S
  |_=>none
 |.box el x=>match ģ (ev S.t x) with
  |some cs=>match eat with
   |true=>match MX P 8 el with
    |some ty=>match Ù ty cs with
     |some y=>K (.eptr ty y 0) S
     |none=>none
    |none=>none
   |false=>K (.box nid 0) (h (ì S.h nid (.cells cs)))
  |none=>none
 |.alloc e=>match ((P.info? e).bind (·.zero)).map cv with
  |some z=>match ģ z with
   |some cs=>K (.box nid 0) (h (ì S.h nid (.cells cs)))
   |none=>none
  |none=>none
 |.build t ps=>match P.underlying t with
  |some (.struct fs)=>match fs.toList.all (fun f=>(P.info? f.type).isSome) with
   |true=>match ((P.info? t).bind (·.zero)).map cv with
    |some z=>match ģ z with
     |some d=>match aaL P fs (ps.toList.map fun p=>(p.1,ev S.t p.2)) d with
      |some cs=>K (.agg cs) S
      |none=>none
     |none=>none
    |none=>none
   |false=>none
  |some (.array _ e)=>match szP P e,((P.info? t).bind (·.zero)).map cv with
   |some sz,some z=>match ģ z with
    |some d=>match EJ sz (ps.toList.map fun p=>(p.1,ev S.t p.2)) d with
     |some cs=>K (.agg cs) S
     |none=>none
    |none=>none
   |_,_=>none
  |_=>none
 |.buildSlice t n ps=>match eatB eat (ps.toList.map fun p=>(p.1,ev S.t p.2)) with
  |true=>UO P S.h nid n t (ps.toList.map fun p=>(p.1,ev S.t p.2)) fun v h'=>K v (h h')
  |false=>match Ay P t with
  |some e=>match frTy eat (MX P 8 e) with
   |some ty=>match AQ P e ty.size&&(ps.toList.length==n&&decide (n*ty.size<=65536)) with
    |true=>match HL S.h ty 0 (ps.toList.map fun p=>(p.1,ev S.t p.2)) with
     |some xs=>K (.own nid 0) (h (ì (frzA S.h (ps.toList.map fun p=>(p.1,ev S.t p.2))) nid (.row ty 0 false xs)))
     |none=>none
    |false=>none
   |none=>none
  |none=>none
 |.load t a=>J5 P S.h t (ev S.t a) fun v=>K v S
 |.store t a v=>match eat with
  |true=>match ev S.t v with
   |.sub id g lo n=>match lkB S.h id with
    |.row ty g' false xs=>match g==g'&&decide (lo+n=xs.length) with
     |true=>ph P (ì S.h id (.row ty (g+1) false (xs.drop lo))) t (ev S.t a) (.own id (g+1)) fun h'=>K .any (h h')
     |false=>none
    |_=>none
   |_=>none
  |false=>ph P S.h t (ev S.t a) (ev S.t v) fun h'=>K .any (h h')
 |.nilCheck x=>match ev S.t x with
  |.box id off=>K (.box id off) S
  |.eptr t e off=>K (.eptr t e off) S
  |.optr id g i off=>match lkB S.h id with
   |.row _ g' _ _=>match g==g' with
    |true=>K (.optr id g i off) S
    |false=>none
   |_=>none
  |_=>none
 |.binOp op t x y _=>match ado y with
  |true=>aiz P op t (ev S.t x) fun v=>K v S
  |false=>ai3 P op t (ev S.t x) (ev S.t y) fun v=>K v S
 |.unOp op _ x=>match op,ev S.t x with
  |.not,.bool b=>K (.bool (!b)) S
  |.neg,.int k n=>arK k (0-n) fun v=>K v S
  |_,_=>none
 |.convert src dst x=>match P.underlying src,P.underlying dst,ev S.t x with
  |some _,some (.int k),.int _ n=>K (.int k (k.wrap n)) S
  |some (.slice e),some .string,v=>match u8T P e with
   |true=>zw S.h v fun v=>K v S
   |false=>none
  |_,_,_=>none
 |.makeFunc fn first captured=>match (first.toList.map (ev S.t)).all isV0&&(captured.toList.map (ev S.t)).all isV0 with
  |true=>K (.fn fn (first.toList.map (ev S.t)) (captured.toList.map (ev S.t))) S
  |false=>none
 |.makeMap t r=>match r,P.underlying t with
  |none,some (.map kt et)=>match MX P 8 kt,MX P 8 et with
   |some k,some v=>match (k.size==P.cellsOf kt)&&(v.size==P.cellsOf et) with
    |true=>K (.omp nid) (h (ì S.h nid (.map k v [])))
    |false=>none
   |_,_=>match strT P kt&&funcT P et with
    |true=>K (.ofn nid) (h (ì S.h nid (.fns [])))
    |false=>none
  |_,_=>none
 |.makeSlice t l c=>match sh l c,ev S.t l,Ay P t with
  |true,.int _ n,some e=>match MX P 8 e with
   |some ty=>match AQ P e ty.size with
    |true=>match (((P.info? e).bind (·.zero)).map cv).bind ģ with
     |some d=>match Ù ty d with
      |some z=>match decide (0<=n)&&Û n.toNat with
       |true=>K (.own nid 0) (h (ì S.h nid (.row ty 0 false (List.replicate n.toNat z))))
       |false=>none
      |none=>none
     |none=>none
    |false=>none
   |none=>none
  |_,_,_=>none
 |.slice t x lo hi mx=>match mx,P.underlying t with
  |none,some (.slice e)=>match szP P e with
   |some sz=>ox sz S.h (ev S.t x) (lo.map (ev S.t)) (hi.map (ev S.t)) eat fun v h'=>K v (h h')
   |none=>none
  |none,some .string=>match ev S.t x with
   |.str s=>oq s (lo.map (ev S.t)) (hi.map (ev S.t)) fun v=>K v S
   |_=>none
  |_,_=>none
 |.fieldAddr t x f=>match P.underlying t with
  |some (.struct fs)=>match fs[f]? with
   |some u=>match szP P u.type with
    |some (_+1)=>uT S.h (ev S.t x) u.offset fun v=>K v S
    |_=>none
   |none=>none
  |_=>none
 |.field t x f=>match P.underlying t,ev S.t x with
  |some (.struct fs),.agg cs=>match fs[f]? with
   |some u=>match ldP P u.type with
    |some (agg,n)=>match Hs cs u.offset n with
     |some A=>match mkv agg A with
      |some v=>K v S
      |none=>none
     |none=>none
    |none=>none
   |none=>none
  |_,_=>none
 |.indexAddr t x i=>match P.underlying t with
  |some (.slice e)=>match szP P e with
   |some sz=>zl sz S.h (ev S.t x) (ev S.t i) fun v=>K v S
   |none=>none
  |some (.array n e)=>match ev S.t x,ev S.t i with
   |.box id off,.int _ j=>match szP P e with
    |some sz=>LA n 0 j fun q=>K (.box id (off+q*sz)) S
    |none=>none
   |_,_=>none
  |_=>none
 |.index t x i=>match P.underlying t,ev S.t x,ev S.t i with
  |some (.array n e),.agg cs,.int _ j=>LA n 0 j fun q=>match ldP P e with
   |some (agg,m)=>match Hs cs (q*m) m with
    |some A=>match mkv agg A with
     |some v=>K v S
     |none=>none
    |none=>none
   |none=>none
  |some .string,.str s,.int _ j=>ot s j fun v=>K v S
  |_,_,_=>none
 |.lookup t m i ok=>match ev S.t m with
  |.ofn id=>qt P S.h t id (ev S.t i) ok fun v=>K v S
  |m=>lF P S.h t m (ev S.t i) ok fun v=>K v S
 |.mapUpdate t m i x=>match ev S.t m with
  |.ofn id=>Ť P S.h t id (ev S.t i) (ev S.t x) fun h'=>K .any (h h')
  |m=>ţ P S.h t m (ev S.t i) (ev S.t x) fun h'=>K .any (h h')
 |.insert t m i x=>match ev S.t m with
  |.ofn id=>Ť P S.h t id (ev S.t i) (ev S.t x) fun h'=>K .any (h h')
  |m=>ţ P S.h t m (ev S.t i) (ev S.t x) fun h'=>K .any (h h')
 |.range t x=>match P.underlying t,ev S.t x with
  |some .string,.str s=>K (.oit nid) (h (ì S.h nid (.iter s 0)))
  |_,_=>none
 |.next x b=>match b with
  |true=>PB S.h (ev S.t x) fun v h'=>K v (h h')
  |false=>none
 |.extract x i=>match ev S.t x with
  |.tup vs=>match vs[i]? with
   |some v=>K v S
   |none=>none
  |_=>none
 |.call ⟨.builtin b,args,tys⟩=>match b,args.toList,tys.toList with
  |.len,[x],t::_=>afn (P.underlying t) S.h (ev S.t x) fun v=>K v S
  |.append,[s,x],[t,B]=>match t==B with
   |true=>match ev S.t x with
    |.dp id g=>QG P S.h nid t (ev S.t s) id g fun v h'=>K v (h h')
    |y=>tV P S.h nid t (ev S.t s) y fun v h'=>K v (h h')
   |false=>match P.underlying B with
    |some (.int .i64)=>AD P S.h nid t (ev S.t s) (ev S.t x) fun v h'=>K v (h h')
    |_=>none
  |.clear,[x],[t]=>match P.underlying t with
   |some _=>Dw P S.h t (ev S.t x) fun h'=>K (.tup []) (h h')
   |none=>none
  |.cap,[x],t::_=>match P.underlying t,ev S.t x with
   |some (.slice _),.nils=>K (.int .i64 0) S
   |_,_=>none
  |.min,x::xs,_=>jk false (ev S.t x) (xs.map (ev S.t)) fun v=>K v S
  |.max,x::xs,_=>jk true (ev S.t x) (xs.map (ev S.t)) fun v=>K v S
  |_,_,_=>none
 |_=>none
def o_pick (P:Program) (S:St) (nid:Nat) (eat:Bool) (c a b:Operand) (K:AV->St->AN ρ):AN ρ :=
 let h (h:AS Blk):St:={t:=S.t,h:=h}
 match ev S.t c with
  |.bool x=>match x with
   |true=>K (ev S.t a) S
   |false=>K (ev S.t b) S
  |_=>none
def o_box (P:Program) (S:St) (nid:Nat) (eat:Bool) (a:TypeId) (x:Operand) (K:AV->St->AN ρ):AN ρ :=
 let h (h:AS Blk):St:={t:=S.t,h:=h}
 match ģ (ev S.t x) with
  |some cs=>match eat with
   |true=>match MX P 8 a with
    |some ty=>match Ù ty cs with
     |some y=>K (.eptr ty y 0) S
     |none=>none
    |none=>none
   |false=>K (.box nid 0) (h (ì S.h nid (.cells cs)))
  |none=>none
def aio (P:Program) (S:St) (nid:Nat) (eat:Bool) (e:TypeId) (K:AV->St->AN ρ):AN ρ :=
 let h (h:AS Blk):St:={t:=S.t,h:=h}
 match ((P.info? e).bind (·.zero)).map cv with
  |some z=>match ģ z with
   |some cs=>K (.box nid 0) (h (ì S.h nid (.cells cs)))
   |none=>none
  |none=>none
def aim (P:Program) (S:St) (nid:Nat) (eat:Bool) (t:TypeId) (ps:Array (Nat×Operand)) (K:AV->St->AN ρ):AN ρ :=
 let h (h:AS Blk):St:={t:=S.t,h:=h}
 match P.underlying t with
  |some (.struct fs)=>match fs.toList.all (fun f=>(P.info? f.type).isSome) with
   |true=>match ((P.info? t).bind (·.zero)).map cv with
    |some z=>match ģ z with
     |some a=>match aaL P fs (ps.toList.map fun p=>(p.1,ev S.t p.2)) a with
      |some cs=>K (.agg cs) S
      |none=>none
     |none=>none
    |none=>none
   |false=>none
  |some (.array _ e)=>match szP P e,((P.info? t).bind (·.zero)).map cv with
   |some sz,some z=>match ģ z with
    |some a=>match EJ sz (ps.toList.map fun p=>(p.1,ev S.t p.2)) a with
     |some cs=>K (.agg cs) S
     |none=>none
    |none=>none
   |_,_=>none
  |_=>none
def SN (P:Program) (S:St) (nid:Nat) (eat:Bool) (t:TypeId) (n:Nat) (ps:Array (Nat×Operand)) (K:AV->St->AN ρ):AN ρ :=
 let h (h:AS Blk):St:={t:=S.t,h:=h}
 match eatB eat (ps.toList.map fun p=>(p.1,ev S.t p.2)) with
  |true=>UO P S.h nid n t (ps.toList.map fun p=>(p.1,ev S.t p.2)) fun v h'=>K v (h h')
  |false=>match Ay P t with
  |some e=>match frTy eat (MX P 8 e) with
   |some ty=>match AQ P e ty.size&&(ps.toList.length==n&&decide (n*ty.size<=65536)) with
    |true=>match HL S.h ty 0 (ps.toList.map fun p=>(p.1,ev S.t p.2)) with
     |some xs=>K (.own nid 0) (h (ì (frzA S.h (ps.toList.map fun p=>(p.1,ev S.t p.2))) nid (.row ty 0 false xs)))
     |none=>none
    |false=>none
   |none=>none
  |none=>none
def o_load (P:Program) (S:St) (nid:Nat) (eat:Bool) (t:TypeId) (a:Operand) (K:AV->St->AN ρ):AN ρ :=
 let h (h:AS Blk):St:={t:=S.t,h:=h}
 J5 P S.h t (ev S.t a) fun v=>K v S
def aih (P:Program) (S:St) (nid:Nat) (eat:Bool) (t:TypeId) (a v:Operand) (K:AV->St->AN ρ):AN ρ :=
 let h (h:AS Blk):St:={t:=S.t,h:=h}
 match eat with
  |true=>match ev S.t v with
   |.sub id g lo n=>match lkB S.h id with
    |.row ty g' false xs=>match g==g'&&decide (lo+n=xs.length) with
     |true=>ph P (ì S.h id (.row ty (g+1) false (xs.drop lo))) t (ev S.t a) (.own id (g+1)) fun h'=>K .any (h h')
     |false=>none
    |_=>none
   |_=>none
  |false=>ph P S.h t (ev S.t a) (ev S.t v) fun h'=>K .any (h h')
def Z6 (P:Program) (S:St) (nid:Nat) (eat:Bool) (x:Operand) (K:AV->St->AN ρ):AN ρ :=
 let h (h:AS Blk):St:={t:=S.t,h:=h}
 match ev S.t x with
  |.box id off=>K (.box id off) S
  |.eptr t e off=>K (.eptr t e off) S
  |.optr id g i off=>match lkB S.h id with
   |.row _ g' _ _=>match g==g' with
    |true=>K (.optr id g i off) S
    |false=>none
   |_=>none
  |_=>none
def ain (P:Program) (S:St) (nid:Nat) (eat:Bool) (op:BinOp) (t:TypeId) (x y:Operand) (K:AV->St->AN ρ):AN ρ :=
 let h (h:AS Blk):St:={t:=S.t,h:=h}
 match ado y with
  |true=>aiz P op t (ev S.t x) fun v=>K v S
  |false=>ai3 P op t (ev S.t x) (ev S.t y) fun v=>K v S
def o_unOp (P:Program) (S:St) (nid:Nat) (eat:Bool) (op:UnOp) (x:Operand) (K:AV->St->AN ρ):AN ρ :=
 let h (h:AS Blk):St:={t:=S.t,h:=h}
 match op,ev S.t x with
  |.not,.bool b=>K (.bool (!b)) S
  |.neg,.int k n=>arK k (0-n) fun v=>K v S
  |_,_=>none
def acu (P:Program) (S:St) (nid:Nat) (eat:Bool) (a dst:TypeId) (x:Operand) (K:AV->St->AN ρ):AN ρ :=
 let h (h:AS Blk):St:={t:=S.t,h:=h}
 match P.underlying a,P.underlying dst,ev S.t x with
  |some _,some (.int k),.int _ n=>K (.int k (k.wrap n)) S
  |some (.slice e),some .string,v=>match u8T P e with
   |true=>zw S.h v fun v=>K v S
   |false=>none
  |_,_,_=>none
def Z7 (P:Program) (S:St) (nid:Nat) (eat:Bool) (fn:Fn) (first a:Array Operand) (K:AV->St->AN ρ):AN ρ :=
 let h (h:AS Blk):St:={t:=S.t,h:=h}
 match (first.toList.map (ev S.t)).all isV0&&(a.toList.map (ev S.t)).all isV0 with
  |true=>K (.fn fn (first.toList.map (ev S.t)) (a.toList.map (ev S.t))) S
  |false=>none
def acs (P:Program) (S:St) (nid:Nat) (eat:Bool) (t:TypeId) (r:AN Operand) (K:AV->St->AN ρ):AN ρ :=
 let h (h:AS Blk):St:={t:=S.t,h:=h}
 match r,P.underlying t with
  |none,some (.map kt et)=>match MX P 8 kt,MX P 8 et with
   |some k,some v=>match (k.size==P.cellsOf kt)&&(v.size==P.cellsOf et) with
    |true=>K (.omp nid) (h (ì S.h nid (.map k v [])))
    |false=>none
   |_,_=>match strT P kt&&funcT P et with
    |true=>K (.ofn nid) (h (ì S.h nid (.fns [])))
    |false=>none
  |_,_=>none
def VX (P:Program) (S:St) (nid:Nat) (eat:Bool) (t:TypeId) (l c:Operand) (K:AV->St->AN ρ):AN ρ :=
 let h (h:AS Blk):St:={t:=S.t,h:=h}
 match sh l c,ev S.t l,Ay P t with
  |true,.int _ n,some e=>match MX P 8 e with
   |some ty=>match AQ P e ty.size with
    |true=>match (((P.info? e).bind (·.zero)).map cv).bind ģ with
     |some a=>match Ù ty a with
      |some z=>match decide (0<=n)&&Û n.toNat with
       |true=>K (.own nid 0) (h (ì S.h nid (.row ty 0 false (List.replicate n.toNat z))))
       |false=>none
      |none=>none
     |none=>none
    |false=>none
   |none=>none
  |_,_,_=>none
def aii (P:Program) (S:St) (nid:Nat) (eat:Bool) (t:TypeId) (x:Operand) (lo hi a:AN Operand) (K:AV->St->AN ρ):AN ρ :=
 let h (h:AS Blk):St:={t:=S.t,h:=h}
 match a,P.underlying t with
  |none,some (.slice e)=>match szP P e with
   |some sz=>ox sz S.h (ev S.t x) (lo.map (ev S.t)) (hi.map (ev S.t)) eat fun v h'=>K v (h h')
   |none=>none
  |none,some .string=>match ev S.t x with
   |.str s=>oq s (lo.map (ev S.t)) (hi.map (ev S.t)) fun v=>K v S
   |_=>none
  |_,_=>none
def VZ (P:Program) (S:St) (nid:Nat) (eat:Bool) (t:TypeId) (x:Operand) (f:Nat) (K:AV->St->AN ρ):AN ρ :=
 let h (h:AS Blk):St:={t:=S.t,h:=h}
 match P.underlying t with
  |some (.struct fs)=>match fs[f]? with
   |some a=>match szP P a.type with
    |some (_+1)=>uT S.h (ev S.t x) a.offset fun v=>K v S
    |_=>none
   |none=>none
  |_=>none
def ail (P:Program) (S:St) (nid:Nat) (eat:Bool) (t:TypeId) (x:Operand) (f:Nat) (K:AV->St->AN ρ):AN ρ :=
 let h (h:AS Blk):St:={t:=S.t,h:=h}
 match P.underlying t,ev S.t x with
  |some (.struct fs),.agg cs=>match fs[f]? with
   |some a=>match ldP P a.type with
    |some (agg,n)=>match Hs cs a.offset n with
     |some b=>match mkv agg b with
      |some v=>K v S
      |none=>none
     |none=>none
    |none=>none
   |none=>none
  |_,_=>none
def VY (P:Program) (S:St) (nid:Nat) (eat:Bool) (t:TypeId) (x i:Operand) (K:AV->St->AN ρ):AN ρ :=
 let h (h:AS Blk):St:={t:=S.t,h:=h}
 match P.underlying t with
  |some (.slice e)=>match szP P e with
   |some sz=>zl sz S.h (ev S.t x) (ev S.t i) fun v=>K v S
   |none=>none
  |some (.array n e)=>match ev S.t x,ev S.t i with
   |.box id off,.int _ j=>match szP P e with
    |some sz=>LA n 0 j fun q=>K (.box id (off+q*sz)) S
    |none=>none
   |_,_=>none
  |_=>none
def aik (P:Program) (S:St) (nid:Nat) (eat:Bool) (t:TypeId) (x i:Operand) (K:AV->St->AN ρ):AN ρ :=
 let h (h:AS Blk):St:={t:=S.t,h:=h}
 match P.underlying t,ev S.t x,ev S.t i with
  |some (.array n e),.agg cs,.int _ j=>LA n 0 j fun q=>match ldP P e with
   |some (agg,m)=>match Hs cs (q*m) m with
    |some a=>match mkv agg a with
     |some v=>K v S
     |none=>none
    |none=>none
   |none=>none
  |some .string,.str s,.int _ j=>ot s j fun v=>K v S
  |_,_,_=>none
def afV (P:Program) (S:St) (nid:Nat) (eat:Bool) (t:TypeId) (m i:Operand) (ok:Bool) (K:AV->St->AN ρ):AN ρ :=
 let h (h:AS Blk):St:={t:=S.t,h:=h}
 match ev S.t m with
  |.ofn id=>qt P S.h t id (ev S.t i) ok fun v=>K v S
  |m=>lF P S.h t m (ev S.t i) ok fun v=>K v S
def VW (P:Program) (S:St) (nid:Nat) (eat:Bool) (t:TypeId) (m i x:Operand) (K:AV->St->AN ρ):AN ρ :=
 let h (h:AS Blk):St:={t:=S.t,h:=h}
 match ev S.t m with
  |.ofn id=>Ť P S.h t id (ev S.t i) (ev S.t x) fun h'=>K .any (h h')
  |m=>ţ P S.h t m (ev S.t i) (ev S.t x) fun h'=>K .any (h h')
def afW (P:Program) (S:St) (nid:Nat) (eat:Bool) (t:TypeId) (m i x:Operand) (K:AV->St->AN ρ):AN ρ :=
 let h (h:AS Blk):St:={t:=S.t,h:=h}
 match ev S.t m with
  |.ofn id=>Ť P S.h t id (ev S.t i) (ev S.t x) fun h'=>K .any (h h')
  |m=>ţ P S.h t m (ev S.t i) (ev S.t x) fun h'=>K .any (h h')
def aij (P:Program) (S:St) (nid:Nat) (eat:Bool) (t:TypeId) (x:Operand) (K:AV->St->AN ρ):AN ρ :=
 let h (h:AS Blk):St:={t:=S.t,h:=h}
 match P.underlying t,ev S.t x with
  |some .string,.str s=>K (.oit nid) (h (ì S.h nid (.iter s 0)))
  |_,_=>none
def o_next (P:Program) (S:St) (nid:Nat) (eat:Bool) (x:Operand) (b:Bool) (K:AV->St->AN ρ):AN ρ :=
 let h (h:AS Blk):St:={t:=S.t,h:=h}
 match b with
  |true=>PB S.h (ev S.t x) fun v h'=>K v (h h')
  |false=>none
def act (P:Program) (S:St) (nid:Nat) (eat:Bool) (x:Operand) (i:Nat) (K:AV->St->AN ρ):AN ρ :=
 let h (h:AS Blk):St:={t:=S.t,h:=h}
 match ev S.t x with
  |.tup vs=>match vs[i]? with
   |some v=>K v S
   |none=>none
  |_=>none
def o_call (P:Program) (S:St) (nid:Nat) (eat:Bool) (b:Builtin) (args:Array Operand) (tys:Array TypeId) (K:AV->St->AN ρ):AN ρ :=
 let h (h:AS Blk):St:={t:=S.t,h:=h}
 match b,args.toList,tys.toList with
  |.len,[x],t::_=>afn (P.underlying t) S.h (ev S.t x) fun v=>K v S
  |.append,[s,x],[t,a]=>match t==a with
   |true=>match ev S.t x with
    |.dp id g=>QG P S.h nid t (ev S.t s) id g fun v h'=>K v (h h')
    |y=>tV P S.h nid t (ev S.t s) y fun v h'=>K v (h h')
   |false=>match P.underlying a with
    |some (.int .i64)=>AD P S.h nid t (ev S.t s) (ev S.t x) fun v h'=>K v (h h')
    |_=>none
  |.clear,[x],[t]=>match P.underlying t with
   |some _=>Dw P S.h t (ev S.t x) fun h'=>K (.tup []) (h h')
   |none=>none
  |.cap,[x],t::_=>match P.underlying t,ev S.t x with
   |some (.slice _),.nils=>K (.int .i64 0) S
   |_,_=>none
  |.min,x::xs,_=>jk false (ev S.t x) (xs.map (ev S.t)) fun v=>K v S
  |.max,x::xs,_=>jk true (ev S.t x) (xs.map (ev S.t)) fun v=>K v S
  |_,_,_=>none
structure OpB (ρ:Type) where
 run:Program->St->Nat->Bool->(AV->St->AN ρ)->AN ρ
def opG (o:Op):OpB ρ :=
 match o with
 |.move x=>⟨fun P S nid eat K=>K (ev S.t x) S⟩
 |.assign x=>⟨fun P S nid eat K=>K (ev S.t x) S⟩
 |.pick c a b=>⟨fun P S nid eat K=>o_pick P S nid eat c a b K⟩
 |.box el x=>⟨fun P S nid eat K=>o_box P S nid eat el x K⟩
 |.alloc e=>⟨fun P S nid eat K=>aio P S nid eat e K⟩
 |.build t ps=>⟨fun P S nid eat K=>aim P S nid eat t ps K⟩
 |.buildSlice t n ps=>⟨fun P S nid eat K=>SN P S nid eat t n ps K⟩
 |.load t a=>⟨fun P S nid eat K=>o_load P S nid eat t a K⟩
 |.store t a v=>⟨fun P S nid eat K=>aih P S nid eat t a v K⟩
 |.nilCheck x=>⟨fun P S nid eat K=>Z6 P S nid eat x K⟩
 |.binOp op t x y _=>⟨fun P S nid eat K=>ain P S nid eat op t x y K⟩
 |.unOp op _ x=>⟨fun P S nid eat K=>o_unOp P S nid eat op x K⟩
 |.convert src dst x=>⟨fun P S nid eat K=>acu P S nid eat src dst x K⟩
 |.makeFunc fn first captured=>⟨fun P S nid eat K=>Z7 P S nid eat fn first captured K⟩
 |.makeMap t r=>⟨fun P S nid eat K=>acs P S nid eat t r K⟩
 |.makeSlice t l c=>⟨fun P S nid eat K=>VX P S nid eat t l c K⟩
 |.slice t x lo hi mx=>⟨fun P S nid eat K=>aii P S nid eat t x lo hi mx K⟩
 |.fieldAddr t x f=>⟨fun P S nid eat K=>VZ P S nid eat t x f K⟩
 |.field t x f=>⟨fun P S nid eat K=>ail P S nid eat t x f K⟩
 |.indexAddr t x i=>⟨fun P S nid eat K=>VY P S nid eat t x i K⟩
 |.index t x i=>⟨fun P S nid eat K=>aik P S nid eat t x i K⟩
 |.lookup t m i ok=>⟨fun P S nid eat K=>afV P S nid eat t m i ok K⟩
 |.mapUpdate t m i x=>⟨fun P S nid eat K=>VW P S nid eat t m i x K⟩
 |.insert t m i x=>⟨fun P S nid eat K=>afW P S nid eat t m i x K⟩
 |.range t x=>⟨fun P S nid eat K=>aij P S nid eat t x K⟩
 |.next x b=>⟨fun P S nid eat K=>o_next P S nid eat x b K⟩
 |.extract x i=>⟨fun P S nid eat K=>act P S nid eat x i K⟩
 |.call ⟨.builtin b,args,tys⟩=>⟨fun P S nid eat K=>o_call P S nid eat b args tys K⟩
 |_=>⟨fun P S nid eat K=>none⟩
def opF (P:Program) (S:St) (nid:Nat) (eat:Bool) (o:Op) (K:AV->St->AN ρ):AN ρ:=(opG o).run P S nid eat K
def Fs (P:Program) (S:St) (nid:Nat) (eat:Bool) (o:Op) (K:AV->St->AN ρ):opF P S nid eat o K=opK P S nid eat o K:=by
 cases o with
 |call c=>obtain⟨a,args,tys⟩:=c; cases a<;>rfl
 |_=>rfl
end
end Go.Am
end

noncomputable section
namespace Go.Am
def û (clone:Nat->Bool):Op->Bool
 |.box _ _=>true
 |.alloc _=>true
 |.buildSlice _ _ _=>true
 |.makeMap _ _=>true
 |.makeSlice _ _ _=>true
 |.range _ _=>true
 |.call ⟨.builtin .append,_,_⟩=>true
 |.call ⟨.value (.func f),_,_⟩=>clone f
 |_=>false
def tys:Ty->AS Ty->Ty
 |t,[]=>t
 |t,u::l=>.pair t (tys u l)
def tyL:AS Ty->Ty
 |[]=>.unit
 |t::l=>tys t l
structure ï where
 ts:AS Ty
 rs:AS Ty
 F:Val (tyL ts)->AN (Val (tyL rs))
structure YFun where
 ty:Ty
 all:AS (Val ty)
 stop:Bool
structure Env (ρ:Type) where
 P:Program
 eat:Nat->Nat->Bool
 clone:Nat->Bool
 sort:Nat->Bool
 compact:Nat->Bool
 inl:Nat->Bool
 fz:Nat->Bool
 pure:Nat->AN ï
 loops:AS Nat->Nat->Nat->Nat->St->(Exit->St->AN ρ)->AN ρ
 joins:AS Nat->Nat->Nat->Nat->AN (((St->AN ρ)->AN ρ)->(St->AN ρ)->AN ρ):=fun _ _ _ _=>none
 hint:Nat->AN Nat:=fun _=>none
 stop:AS Nat->Nat->Bool:=fun _ _=>false
 yld:AN YFun:=none
 yfast:Bool:=false
 ranges:AS Nat->Nat->Nat->Nat->AV->St->(Exit->St->AN ρ)->AN ρ:=fun _ _ _ _ _ _ _=>none
 ext:Nat->AN (AS Blk->AS AV->(AV->AS Blk->AN ρ)->AN ρ):=fun _=>none
 wp:(Program->AN ρ)->AN ρ:=fun f=>f P
 wp_eq:∀f,wp f=f P:=by intro f; rfl
 lazy:Bool:=false
section
variable {ρ:Type}
def cls (E:Env ρ):Op->Nat
 |.load _ _=>1
 |.indexAddr _ _ _=>1
 |.slice _ _ _ _ _=>1
 |.lookup _ _ _ _=>1
 |.convert _ _ _=>1
 |.buildSlice _ _ _=>2
 |.nilCheck _=>1
 |.fieldAddr _ _ _=>1
 |.box _ _=>1
 |.alloc _=>1
 |.makeMap _ _=>1
 |.makeSlice _ _ _=>1
 |.store _ _ _=>2
 |.mapUpdate _ _ _ _=>2
 |.range _ _=>1
 |.next _ _=>2
 |.insert _ _ _ _=>2
 |.call ⟨.builtin .append,_,_⟩=>2
 |.call ⟨.builtin .clear,_,_⟩=>2
 |.call ⟨.builtin _,_,_⟩=>1
 |.call ⟨.value (.func f),_,_⟩=>if E.clone f then 1 else if (E.pure f).isSome then(if E.fz f then 2 else 1) else if E.sort f||E.compact f then 2 else 3
 |.call ⟨.value (.tmp t),_,_⟩=>match E.hint t with
  |some g=>if (E.pure g).isSome&&!E.fz g then 1 else 3
  |none=>3
 |.call _=>3
 |_=>0
def MZ:AS Operand->AS Nat
 |[]=>[]
 |.tmp t::l=>t::MZ l
 |_::l=>MZ l
def nN (os:AS Oper) (j:Nat):Nat :=
 match os[j]? with
 |some o=>match o.dst with
  |some d=>d
  |none=>0
 |none=>0
def ε (os:AS Oper) (o:Oper):AS Nat :=
 (match o.guard with|some (j,_)=>[nN os j]|none=>[])++MZ o.op.operands.toList
def af2:AS Nat->AN Nat->Bool
 |l,some d=>l.contains d
 |_,none=>false
def Oq:Op->Bool
 |.call ⟨.value _,_,_⟩=>true
 |_=>false
def agM (E:Env ρ) (os:AS Oper) (a b:Oper):Bool :=
 (Oq a.op&&Oq b.op)||(cls E a.op==3||(cls E b.op==3&&Nat.ble 1 (cls E a.op))) ||
 af2 (ε os b) a.dst||af2 (ε os a) b.dst||(match a.dst,b.dst with|some x,some y=>x==y|_,_=>false)
def zq (E:Env ρ) (a b:Op):Bool:=(cls E a==2&&Nat.ble 1 (cls E b))||(Nat.ble 1 (cls E a)&&cls E b==2)
def Ţ:AS Oper->AS Nat->AS Nat
 |[],acc=>acc
 |o::os,acc=>Ţ os (acc++[o.after.toList.foldl (fun s e=>if Region.binds .any e then s ||| 2 ^ e.on ||| acc.getD e.on 0 else s) 0])
def xE (E:Env ρ) (all:AS Oper) (c:AS Nat):AS Oper->Nat->Bool
 |[],_=>true
 |b::bs,j=>((List.range j).all fun i=>match all[i]? with
    |some a=>!agM E all a b||(c.getD j 0).testBit i
    |none=>false)&&xE E all c bs (j+1)
def Vg:AS Oper->Nat->Bool
 |[],_=>true
 |o::os,j=>o.after.toList.all (fun e=>!Region.binds .any e||decide (e.on<j))&&Vg os (j+1)
def adU (E:Env ρ) (a:AS Oper):Bool:=Vg a 0&&xE E a (Ţ a []) a 0
def õ (t:AS AV) (d:AN Nat) (v:AV):AS AV :=
 match d with
 |none=>t
 |some d=>upd t d v
def uw (P:Program) (fn:Nat) (fz:Bool) (S:St) (nid:Nat) (x:AV) (K:AV->St->AN ρ):AN ρ :=
 match P.funcs[fn]? with
 |some f=>match (f.params[0]?).bind (Ay P) with
  |some e=>match MX P 8 e with
   |some ty=>match AQ P e ty.size with
    |true=>match Ù (.slice ty) [ñ S.h x] with
     |some ys=>match Û ys.length with
      |true=>match fz with
       |true=>K (.fsc ty ys) S
       |false=>K (.own nid 0) {t:=S.t,h:=ì S.h nid (.row ty 0 false ys)}
      |false=>none
     |none=>none
    |false=>none
   |none=>none
  |none=>none
 |none=>none
def Q4:AV->Bool
 |.own _ _=>true
 |.sub _ _ _ _=>true
 |.omp _=>true
 |.box _ _=>true
 |.optr _ _ _ _=>true
 |.dp _ _=>true
 |.dq _ _ _=>true
 |.dr _ _ _=>true
 |.de _ _ _ _=>true
 |.ofn _=>true
 |.oit _=>true
 |_=>false
def Ln:AV->Bool
 |.agg cs=>cs.any Q4
 |v=>Q4 v
def acx:AV->Bool
 |.omp _=>false
 |.box _ _=>false
 |.optr _ _ _ _=>false
 |.dp _ _=>false
 |.dq _ _ _=>false
 |.dr _ _ _=>false
 |.de _ _ _ _=>false
 |.ofn _=>false
 |.oit _=>false
 |_=>true
def acy:AV->Bool
 |.agg cs=>cs.all acx
 |v=>acx v
def afo (h:AS Blk) (t:Ty) (a:AV):AN (Val t) :=
 match t with
 |.ptr u=>match a with
  |.box id 0=>match lkB h id with
   |.cells cs=>Ù u (cs.map (ñ h))
   |_=>none
  |.eptr b x 0=>match decEq b u with
   |isTrue e=>some ((qB (F:=Val) e x:Val u))
   |isFalse _=>none
  |_=>none
 |t=>match a with
  |.dp id g=>match lkB h id with
   |.deep k g' xss=>match g==g' with
    |true=>match decEq (Ty.slice (.slice (.int k))) t with
     |isTrue e=>some (qB (F:=Val) e xss)
     |isFalse _=>none
    |false=>none
   |_=>none
  |a=>match Kh a==t.isAgg with
   |true=>match ģ (XJ h a) with
    |some cs=>Ù t cs
    |none=>none
   |false=>none
def adN:(l:AS Ty)->(t:Ty)->Val (tys t l)->AS AV
 |[],t,x=>[enc t x]
 |u::l,t,x=>enc t (x:Val t×Val (tys u l)).1::adN l u (x:Val t×Val (tys u l)).2
def UL:(l:AS Ty)->Val (tyL l)->AS AV
 |[],_=>[]
 |t::l,x=>adN l t x
def QZ (h:AS Blk):(l:AS Ty)->(t:Ty)->AS AV->AN (Val (tys t l))
 |[],t,as=>match as with
  |[]=>none
  |a::as=>match as with
   |[]=>afo h t a
   |_::_=>none
 |u::l,t,as=>match as with
  |[]=>none
  |a::as=>match afo h t a with
   |some x=>match QZ h l u as with
    |some y=>some ((x,y):Val t×Val (tys u l))
    |none=>none
   |none=>none
def DG (h:AS Blk) (l:AS Ty) (as:AS AV):AN (Val (tyL l)) :=
 match l with
 |[]=>match as with
  |[]=>some ()
  |_::_=>none
 |t::l=>QZ h l t as
def ahx (l:AS Ty) (h:AS Blk) (a:AV):AN (Val (tyL l)) :=
 match l with
 |[]=>none
 |[t]=>afo h t a
 |t::u::l=>match a with
  |.tup as=>QZ h (u::l) t as
  |_=>none
def Vt:(l:AS Ty)->Val (tyL l)->AV
 |[],_=>.tup []
 |[t],x=>enc t x
 |t::u::l,x=>.tup (adN (u::l) t x)
def Ä {α:Type} (x:AN α) (f:α->AN ρ):AN ρ :=
 match x with
 |some y=>f y
 |none=>none
def kO:AV->AS AV
 |.agg cs=>cs
 |v=>[v]
def Pc (b:Bool) (p:ï) (h:AS Blk) (args:AS AV) (K:AV->AS Blk->AN ρ):AN ρ :=
 match DG h p.ts args with
 |some x=>Ä (p.F x) fun y=>match HS (Vt p.rs y) with
  |true=>K (Vt p.rs y) h
  |false=>match args.all (fun a=>!Ln a) with
   |true=>K (Vt p.rs y) h
   |false=>match b||!args.all acy with
    |true=>none
    |false=>K (Vt p.rs y) (xZ h (args.flatMap kO))
 |none=>none
def afZ:AV->AN AV
 |.tup _=>none
 |v=>some v
def VK (P:Program) (h:AS Blk) (t:AS AV):ResultVar->AN AV
 |.tmp i=>afZ (lk t i)
 |.cell a ty=>match J5 P h ty (lk t a) some with
  |some v=>afZ v
  |none=>none
def HN (P:Program) (h:AS Blk) (t:AS AV):AS ResultVar->AN (AS AV)
 |[]=>some []
 |r::rs=>match VK P h t r with
  |some v=>match HN P h t rs with
   |some vs=>some (v::vs)
   |none=>none
  |none=>none
def kf (P:Program) (fn:Func) (S:St):AN AV :=
 match HN P S.h S.t fn.results.toList with
 |some [v]=>some v
 |some vs=>some (.tup vs)
 |none=>none
def abz (a:Int):AS Int->AS Int
 |[]=>[a]
 |b::t=>if a<=b then a::b::t else b::abz a t
def CV:AS Int->AS Int
 |[]=>[]
 |a::t=>abz a (CV t)
def Lx (l:AS Int):AS Int:=CV l
def O5 (h:AS Blk) (x:AV) (K:AV->AS Blk->AN ρ):AN ρ :=
 match x with
 |.own id g=>match lkB h id with
  |.row t g' false xs=>match g==g' with
   |true=>match decEq t (.int .i64) with
    |isTrue e=>match Û xs.length with
     |true=>K (.tup []) (ì h id (.row (.int .i64) g' false (Lx (qB (F:=fun t=>AS (Val t)) e xs))))
     |false=>none
    |isFalse _=>none
   |false=>none
  |_=>none
 |.nils=>K (.tup []) h
 |_=>none
def xG (l:AS Int):AS Int:=Go.Lib.compact l
def nW (h:AS Blk) (x:AV) (K:AV->AS Blk->AN ρ):AN ρ :=
 match x with
 |.own id g=>match lkB h id with
  |.row t g' false xs=>match g==g' with
   |true=>match decEq t (.int .i64) with
    |isTrue e=>match Û xs.length with
     |true=>K (.own id (g+1)) (ì h id (.row (.int .i64) (g+1) false (xG (qB (F:=fun t=>AS (Val t)) e xs))))
     |false=>none
    |isFalse _=>none
   |false=>none
  |_=>none
 |.nils=>K .nils h
 |_=>none
def WF:Operand->Bool
 |.func _=>true
 |_=>false
def ā:AV->AS Nat
 |.own id _=>[id]
 |.sub id _ _ _=>[id]
 |.omp id=>[id]
 |.box id _=>[id]
 |.optr id _ _ _=>[id]
 |.dp id _=>[id]
 |.dq id _ _=>[id]
 |.dr id _ _=>[id]
 |.de id _ _ _=>[id]
 |.ofn id=>[id]
 |.oit id=>[id]
 |_=>[]
def ab2:AV->AS Nat
 |.agg cs=>cs.flatMap ā
 |v=>ā v
def refs1:AV->AS Nat
 |.agg cs=>cs.flatMap ā
 |.fn _ a b=>a.flatMap ab2++b.flatMap ab2
 |v=>ā v
def aiq:AV->Bool
 |.fn _ _ _=>false
 |_=>true
def K3:Blk->AS AV
 |.cells cs=>cs
 |_=>[]
def refs2 (h:AS Blk) (v:AV):AS Nat:=refs1 v++(refs1 v).flatMap fun id=>(K3 (lkB h id)).flatMap ā
def adp:Blk->Bool
 |.dead=>true
 |_=>false
def OH (E:Env ρ) (t:AS AV) (o:Op):Bool :=
 match o with
 |.call ⟨.value (.tmp s),_,_⟩=>match E.hint s with
  |none=>true
  |some g=>match ev t (.tmp s) with
   |.fn (.func g') a b=>Nat.beq g' g&&(a.all aiq&&b.all aiq)
   |_=>false
 |_=>true
def kM (E:Env ρ) (S:St) (o:Op):Bool :=
 match Nat.ble 1 (cls E o) with
 |true=>(o.operands.toList.all fun x=>(refs2 S.h (ev S.t x)).all fun id=>!adp (lkB S.h id))&&OH E S.t o
 |false=>true
def KQ (E:Env ρ) (a:Bool) (fid:Nat) (o:Oper):Bool :=
 match o.op with
 |.store _ _ _=>E.eat fid 0
 |_=>!a&&E.eat fid (o.dst.getD 0)
def ahJ {α:Type} (f:α->α->Bool):AS α->AS α->Bool
 |[],[]=>true
 |a::l,b::m=>match f a b with
  |true=>ahJ f l m
  |false=>false
 |_,_=>false
def eqV:(t:Ty)->Val t->Val t->Bool
 |.unit,_,_=>true
 |.bool,a,b=>match a,b with
  |true,true=>true
  |false,false=>true
  |_,_=>false
 |.int _,a,b=>decide (a=b)
 |.str,a,b=>decide (@Eq ByteArray a b)
 |.slice t,a,b=>ahJ (eqV t) a b
 |.fsl t,a,b=>ahJ (eqV t) a b
 |.map s t,a,b=>ahJ (fun x y=>match eqV s x.1 y.1 with
  |true=>eqV t x.2 y.2
  |false=>false) a b
 |.ptr t,a,b=>eqV t a b
 |.pair s t,a,b=>match eqV s a.1 b.1 with
  |true=>eqV t a.2 b.2
  |false=>false
def QC {α:Type} {f:α->α->Bool} (c:∀a b,f a b=true->a=b):∀{l m:AS α},ahJ f l m=true->l=m
 |[],[],_=>rfl
 |a::l,b::m,h=>by
  unfold ahJ at h
  split at h
  ·rename_i d;rw[c a b d,QC c h]
  ·cases h
 |[],_::_,h=>by cases h
 |_::_,[],h=>by cases h
def Dk:∀(t:Ty) (a b:Val t),eqV t a b=true->a=b
 |.unit,_,_,_=>rfl
 |.bool,a,b,h=>by cases a<;>cases b<;>first|rfl|cases h
 |.int _,a,b,h=>of_decide_eq_true h
 |.str,a,b,h=>of_decide_eq_true h
 |.slice t,a,b,h=>QC (Dk t) h
 |.fsl t,a,b,h=>QC (Dk t) h
 |.map s t,a,b,h=>QC (fun x y h=>by
    split at h
    ·rename_i c;exact Prod.ext (Dk s _ _ c) (Dk t _ _ h)
    ·cases h) h
 |.ptr t,a,b,h=>Dk t a b h
 |.pair s t,a,b,h=>by
  unfold eqV at h
  split at h
  ·rename_i c;exact Prod.ext (Dk s _ _ c) (Dk t _ _ h)
  ·cases h
def Dj {α:Type} {f:α->α->Bool} (b:∀a,f a a=true):∀l:AS α,ahJ f l l=true
 |[]=>rfl
 |a::l=>by simp only[ahJ,b a]; exact Dj b l
def qe:∀(t:Ty) (a:Val t),eqV t a a=true
 |.unit,_=>rfl
 |.bool,a=>by cases a<;>rfl
 |.int _,a=>decide_eq_true rfl
 |.str,a=>decide_eq_true rfl
 |.slice t,a=>Dj (qe t) a
 |.fsl t,a=>Dj (qe t) a
 |.map s t,a=>Dj (fun x=>by simp only[qe s,qe t]) a
 |.ptr t,a=>qe t a
 |.pair s t,a=>by unfold eqV; simp only[qe s,qe t]
def preV (t:Ty):AS (Val t)->AS (Val t)->Bool
 |[],_=>true
 |_::_,[]=>false
 |x::l,y::m=>match eqV t x y with
  |true=>preV t l m
  |false=>false
def XV {t:Ty}:∀{l m:AS (Val t)},preV t l m=true->l <+: m
 |[],m,_=>List.nil_prefix
 |_::_,[],h=>by cases h
 |x::l,y::m,h=>by
  unfold preV at h
  split at h
  ·rename_i a;rw[Dk t _ _ a];exact(List.prefix_cons_inj y).2 (XV h)
  ·cases h
def yg {α:Type} {ρ:Type} (all l:AS α) (k:AN ρ):AN ρ:=open Classical in if l <+: all then k else none
def ygf {t:Ty} {ρ:Type} (a:Bool) (all l:AS (Val t)) (k:AN ρ):AN ρ:=match a with
 |false=>yg all l k
 |true=>match preV t l all with
  |true=>k
  |false=>none
def ygo {α:Type} (stop:Bool) (all l:AS α):Bool:=match stop with
 |false=>true
 |true=>open Classical in decide (l≠all)
def yldK (E:Env ρ) (h:AS Blk) (x:AV) (K:AV->AS Blk->AN ρ):AN ρ :=
 match E.yld with
 |some y=>match y.ty.isAgg with
  |true=>none
  |false=>match Ig x with
   |true=>match Ù y.ty [ñ h x] with
    |some v=>match lkB (o9 h x) 0 with
     |.acc t xs=>match decEq t y.ty with
      |isTrue e=>ygf E.yfast y.all (qB (F:=fun t=>AS (Val t)) e xs++[v]) (K (.bool (ygo y.stop y.all (qB (F:=fun t=>AS (Val t)) e xs++[v]))) (ì (o9 h x) 0 (.acc y.ty (qB (F:=fun t=>AS (Val t)) e xs++[v]))))
      |isFalse _=>none
     |_=>none
    |none=>none
   |false=>none
 |none=>none
def jo (E:Env ρ) (call:AS Nat->Bool->Nat->AS AV->AS Blk->(AV->AS Blk->AN ρ)->AN ρ) (fid:Nat) (path:AS Nat) (a:Bool) (S:St) (nid:Nat) (o:Oper) (K:AV->St->AN ρ):AN ρ :=
 match a&&!kM E S o.op with
 |true=>none
 |false=>E.wp fun P=>match o.op with
  |.call ⟨.value f,args,_⟩=>match ev S.t f with
   |.fn (.func g) first caps=>match E.clone g&&WF f with
    |true=>match args.toList with
     |[x]=>uw P g (E.eat fid (o.dst.getD 0)) S nid (ev S.t x) K
     |_=>none
    |false=>call path a g (first++(args.toList.map (ev S.t)++caps)) S.h fun v h=>K v {t:=S.t,h:=h}
   |.yld=>match args.toList with
    |[x]=>yldK E S.h (ev S.t x) fun v h=>K v {t:=S.t,h:=h}
    |_=>none
   |_=>none
  |op=>opF P S nid (KQ E a fid o) op K
def iC (E:Env ρ) (call:AS Nat->Bool->Nat->AS AV->AS Blk->(AV->AS Blk->AN ρ)->AN ρ) (fid:Nat) (path:AS Nat) (a:Bool) (S:St) (nid:Nat) (o:Oper) (K:AV->St->AN ρ):jo E call fid path a S nid o K=(
 match a&&!kM E S o.op with
 |true=>none
 |false=>match o.op with
  |.call ⟨.value f,args,_⟩=>match ev S.t f with
   |.fn (.func g) first caps=>match E.clone g&&WF f with
    |true=>match args.toList with
     |[x]=>uw E.P g (E.eat fid (o.dst.getD 0)) S nid (ev S.t x) K
     |_=>none
    |false=>call path a g (first++(args.toList.map (ev S.t)++caps)) S.h fun v h=>K v {t:=S.t,h:=h}
   |.yld=>match args.toList with
    |[x]=>yldK E S.h (ev S.t x) fun v h=>K v {t:=S.t,h:=h}
    |_=>none
   |_=>none
  |op=>opF E.P S nid (KQ E a fid o) op K):=by unfold jo; simp only[E.wp_eq]
def Z2 (E:Env ρ) (call:AS Nat->Bool->Nat->AS AV->AS Blk->(AV->AS Blk->AN ρ)->AN ρ) (fid:Nat) (path:AS Nat) (a:Bool) (all:AS Oper):AS Oper->Nat->Nat->St->(St->AN ρ)->AN ρ
 |[],_,_,S,K=>K S
 |o::os,i,nid,S,K =>
  let nid':=bif û E.clone o.op then nid+1 else nid
  match o.guard with
  |none=>jo E call fid (path++[i]) a S nid o fun v S=>Z2 E call fid path a all os (i+1) nid' {t:=õ S.t o.dst v,h:=S.h} K
  |some (j,want)=>match lk S.t (nN all j) with
   |.bool b=>match b with
    |true=>match want with
     |true=>jo E call fid (path++[i]) a {t:=upd S.t (nN all j) (.bool true),h:=S.h} nid o fun v S=>Z2 E call fid path a all os (i+1) nid' {t:=õ S.t o.dst v,h:=S.h} K
     |false=>Z2 E call fid path a all os (i+1) nid' {t:=õ (upd S.t (nN all j) (.bool true)) o.dst .und,h:=S.h} K
    |false=>match want with
     |false=>jo E call fid (path++[i]) a {t:=upd S.t (nN all j) (.bool false),h:=S.h} nid o fun v S=>Z2 E call fid path a all os (i+1) nid' {t:=õ S.t o.dst v,h:=S.h} K
     |true=>Z2 E call fid path a all os (i+1) nid' {t:=õ (upd S.t (nN all j) (.bool false)) o.dst .und,h:=S.h} K
   |.und=>Z2 E call fid path a all os (i+1) nid' {t:=õ S.t o.dst .und,h:=S.h} K
   |_=>none
def ya (E:Env ρ) (S:St) (o:Op):AS Nat :=
 match Nat.ble 1 (cls E o) with
 |true=>o.operands.toList.flatMap fun x=>refs2 S.h (ev S.t x)
 |false=>[]
def disj:AS Nat->AS Nat->Bool
 |[],_=>true
 |x::l,m=>!m.any (fun y=>Nat.beq y x)&&disj l m
def A0 (E:Env ρ) (all:AS Oper) (c:AS Nat) (j i:Nat) (d e:AS Nat):Bool :=
 disj d e||match all[j]?,all[i]? with
 |some a,some b=>!zq E a.op b.op||((c.getD j 0).testBit i||(c.getD i 0).testBit j)
 |_,_=>false
def chk (E:Env ρ) (all:AS Oper) (a:AS Nat) (acc:AS (Nat×AS Nat)) (i:Nat) (F:AS Nat):Bool :=
 acc.all fun p=>A0 E all a p.1 i p.2 F
def ack (E:Env ρ) (call:AS Nat->Bool->Nat->AS AV->AS Blk->(AV->AS Blk->AN ρ)->AN ρ) (fid:Nat) (path:AS Nat) (all:AS Oper) (a:AS Nat):AS Oper->Nat->Nat->AS (Nat×AS Nat)->St->(St->AN ρ)->AN ρ
 |[],_,_,_,S,K=>K S
 |o::os,i,nid,acc,S,K =>
  let nid':=bif û E.clone o.op then nid+1 else nid
  match o.guard with
  |none=>match chk E all a acc i (ya E S o.op) with
   |true=>jo E call fid (path++[i]) true S nid o fun v c=>ack E call fid path all a os (i+1) nid' ((i,ya E S o.op)::acc) {t:=õ c.t o.dst v,h:=c.h} K
   |false=>none
  |some (j,want)=>match lk S.t (nN all j) with
   |.bool b=>match b with
    |true=>match want with
     |true=>match chk E all a acc i (ya E S o.op) with
      |true=>jo E call fid (path++[i]) true {t:=upd S.t (nN all j) (.bool true),h:=S.h} nid o fun v c=>ack E call fid path all a os (i+1) nid' ((i,ya E S o.op)::acc) {t:=õ c.t o.dst v,h:=c.h} K
      |false=>none
     |false=>ack E call fid path all a os (i+1) nid' ((i,[])::acc) {t:=õ (upd S.t (nN all j) (.bool true)) o.dst .und,h:=S.h} K
    |false=>match want with
     |false=>match chk E all a acc i (ya E S o.op) with
      |true=>jo E call fid (path++[i]) true {t:=upd S.t (nN all j) (.bool false),h:=S.h} nid o fun v c=>ack E call fid path all a os (i+1) nid' ((i,ya E S o.op)::acc) {t:=õ c.t o.dst v,h:=c.h} K
      |false=>none
     |true=>ack E call fid path all a os (i+1) nid' ((i,[])::acc) {t:=õ (upd S.t (nN all j) (.bool false)) o.dst .und,h:=S.h} K
   |.und=>ack E call fid path all a os (i+1) nid' ((i,[])::acc) {t:=õ S.t o.dst .und,h:=S.h} K
   |_=>none
def η (clone:Nat->Bool):AS Oper->Nat
 |[]=>0
 |o::os=>bif û clone o.op then η clone os+1 else η clone os
def pY (all:AS Oper):AS Oper->Bool
 |[]=>true
 |o::os=>(match o.guard with
  |none=>true
  |some (j,_)=>match all[j]? with
   |some p=>p.dst.isSome
   |none=>false)&&pY all os
def HO (E:Env ρ) (call:AS Nat->Bool->Nat->AS AV->AS Blk->(AV->AS Blk->AN ρ)->AN ρ) (fid:Nat) (path:AS Nat) (b:Bool) (a:AS Oper) (S:St) (K:St->AN ρ):AN ρ :=
 match (b&&!adU E a)||!pY a a with
 |true=>none
 |false=>match b with
  |true=>ack E call fid path a (Ţ a []) a 0 S.h.length [] {t:=S.t,h:=S.h++List.replicate (η E.clone a) .dead} K
  |false=>Z2 E call fid path false a a 0 S.h.length {t:=S.t,h:=S.h++List.replicate (η E.clone a) .dead} K
def ady (v:AV) (k:AV->AN ρ):AN ρ :=
 AV.casesOn (motive_1:=fun _=>AN ρ) v (k .any) (k .und) (fun b=>k (.bool b)) (fun i n=>k (.int i n)) (fun s=>k (.str s)) (k .nils) (fun t xs=>k (.slc t xs)) (fun t xs=>k (.fsc t xs)) (fun id g=>k (.own id g)) (fun id g lo n=>k (.sub id g lo n)) (k .nilm) (fun a b es=>k (.mp a b es)) (fun id=>k (.omp id)) (k .nilp) (fun id off=>k (.box id off)) (fun t x off=>k (.eptr t x off)) (fun id g i off=>k (.optr id g i off)) (fun id g=>k (.dp id g)) (fun id g i=>k (.dq id g i)) (fun id g i=>k (.dr id g i)) (fun id g i j=>k (.de id g i j)) (k .nilfn) (k .yld) (fun b=>k (.ifc b)) (fun id=>k (.ofn id)) (fun id=>k (.oit id)) (fun f a b=>k (.fn f a b)) (fun cs=>k (.agg cs)) (fun vs=>k (.tup vs))
def YW (l:AS AV):(AS AV->AN ρ)->AN ρ:=List.rec (motive:=fun _=>(AS AV->AN ρ)->AN ρ) (fun k=>k []) (fun x _ a k=>ady x fun y=>a fun ys=>k (y::ys)) l
def wq:AS Blk->(AS Blk->AN ρ)->AN ρ
 |[],k=>k []
 |x::xs,k=>match x with
  |.dead=>wq xs fun ys=>k (.dead::ys)
  |.cells cs=>YW cs fun cs=>wq xs fun ys=>k (.cells cs::ys)
  |.row t g fz es=>wq xs fun ys=>k (.row t g fz es::ys)
  |.map a b es=>wq xs fun ys=>k (.map a b es::ys)
  |.deep q g xss=>wq xs fun ys=>k (.deep q g xss::ys)
  |.acc t es=>wq xs fun ys=>k (.acc t es::ys)
  |.fns es=>wq xs fun ys=>k (.fns es::ys)
  |.iter s p=>wq xs fun ys=>k (.iter s p::ys)
def adA (S:St) (k:St->AN ρ):AN ρ:=YW S.t fun t=>wq S.h fun h=>k {t:=t,h:=h}
def adx (v:AV) (k:AV->AN ρ):ady v k=k v:=by cases v<;>rfl
def Kt:∀(l:AS AV) (k:AS AV->AN ρ),YW l k=k l
 |[],_=>rfl
 |x::xs,k=>by show ady x (fun y=>YW xs fun ys=>k (y::ys))=_; rw[adx,Kt xs]
def Uv:∀(l:AS Blk) (k:AS Blk->AN ρ),wq l k=k l
 |[],_=>rfl
 |x::xs,k=>by cases x<;>simp only[wq,Kt]<;>rw[Uv xs]
def adz (S:St) (k:St->AN ρ):adA S k=k S:=by
 unfold adA; rw[Kt,Uv]
def adC (E:Env ρ) (S:St) (k:St->AN ρ):AN ρ:=match E.lazy with
 |true=>k S
 |false=>adA S k
def adB (E:Env ρ) (S:St) (k:St->AN ρ):adC E S k=k S:=by
 unfold adC; cases E.lazy with
 |true=>rfl
 |false=>exact adz S k
def Kj:Code->Nat
 |.region rid _ _=>rid+1
 |.seq a _=>Kj a
 |.block _ b=>Kj b
 |.loop b=>Kj b
 |_=>0
def goC (E:Env ρ) (call:AS Nat->Bool->Nat->AS AV->AS Blk->(AV->AS Blk->AN ρ)->AN ρ) (fid:Nat) (path:AS Nat) (m:Nat):Nat->Code->St->(Exit->St->AN ρ)->AN ρ
 |_,.skip,S,K=>K .normal S
 |_,.region rid ops draw,S,K=>HO E call fid (path++[rid]) draw ops.toList S fun S=>adC E S (K .normal)
 |bid,.seq a b,S,K=>match E.joins path fid (Kj b) m with
  |none=>goC E call fid path m bid a S fun e S=>match e with
   |.normal=>goC E call fid path m bid b S K
   |e=>K e S
  |some J=>J (fun k=>goC E call fid path m bid a S fun e S=>match e with
   |.normal=>k S
   |e=>K e S) (fun S=>goC E call fid path m bid b S K)
 |bid,.cond c a b,S,K=>match ev S.t c with
  |.bool x=>match x with
   |true=>goC E call fid path m bid a S K
   |false=>goC E call fid path m bid b S K
  |_=>none
 |_,.block id b,S,K=>goC E call fid path m id b S fun e S=>match e with
  |.exit j=>match j==id with
   |true=>K .normal S
   |false=>K (.exit j) S
  |e=>K e S
 |bid,.loop _,S,K=>E.loops path fid bid m S K
 |bid,.rangeFunc g _ _ _,S,K=>E.ranges path fid bid m (ev S.t g) S K
 |bid,.scope c,S,K=>goC E call fid path m bid c S fun e S=>match e with
  |.goto _=>none
  |e=>K e S
 |_,.exit id,S,K=>K (.exit id) S
 |_,.ret,S,K=>K .ret S
 |_,.label _,S,K=>K .normal S
 |_,_,_,_=>none
def UK (E:Env ρ) (call:AS Nat->Bool->Nat->AS AV->AS Blk->(AV->AS Blk->AN ρ)->AN ρ) (path:AS Nat) (f:Nat) (args:AS AV) (h:AS Blk) (K:AV->AS Blk->AN ρ):AN ρ :=
 E.wp fun P=>match P.funcs[f]? with
 |some fn=>match fn.body with
  |some c=>goC E call f path h.length 0 c {t:=args++List.replicate (fn.ntmps-args.length) .any,h:=h} fun e S=>match e with
   |.normal=>match kf P fn S with
    |some v=>K v S.h
    |none=>none
   |.ret=>match kf P fn S with
    |some v=>K v S.h
    |none=>none
   |_=>none
  |none=>none
 |none=>none
def aaO (E:Env ρ) (call:AS Nat->Bool->Nat->AS AV->AS Blk->(AV->AS Blk->AN ρ)->AN ρ) (path:AS Nat) (f:Nat) (args:AS AV) (h:AS Blk) (K:AV->AS Blk->AN ρ):UK E call path f args h K=(
 match E.P.funcs[f]? with
 |some fn=>match fn.body with
  |some c=>goC E call f path h.length 0 c {t:=args++List.replicate (fn.ntmps-args.length) .any,h:=h} fun e S=>match e with
   |.normal=>match kf E.P fn S with
    |some v=>K v S.h
    |none=>none
   |.ret=>match kf E.P fn S with
    |some v=>K v S.h
    |none=>none
   |_=>none
  |none=>none
 |none=>none):=by unfold UK; simp only[E.wp_eq]
def jm (E:Env ρ):Nat->AS Nat->Bool->Nat->AS AV->AS Blk->(AV->AS Blk->AN ρ)->AN ρ
 |0,_,_,_,_,_,_=>none
 |n+1,path,draw,f,args,h,K=>match E.pure f with
  |some g=>Pc (draw&&!E.fz f) g h args K
  |none=>match E.sort f with
   |true=>match args with
    |[x]=>O5 h x K
    |_=>none
   |false=>match E.compact f with
   |true=>match args with
    |[x]=>nW h x K
    |_=>none
   |false=>match E.ext f with
    |some X=>X h args K
    |none=>match E.inl f with
     |true=>match E.stop path f with
      |true=>none
      |false=>UK E (jm E n) path f args h K
     |false=>none
def topK (E:Env ρ) (f:Nat) (args:AS AV) (K:AS Blk->AV->AN ρ):AN ρ :=
 UK E (jm E 10) [] f args [] fun v h=>K h v
def Pd (p:ï) (E:Env (Val (tyL p.rs))) (f:Nat):Prop :=
 ∀x:Val (tyL p.ts),topK E f (UL p.ts x) (ahx p.rs)=p.F x
def iter {τ:Type} (f:τ->(τ->AN ρ)->AN ρ):Nat->τ->AN ρ
 |0,_=>none
 |n+1,x=>f x (iter f n)
class LC where
 lp:{ρ τ:Type}->(τ->(τ->AN ρ)->AN ρ)->τ->AN ρ
 ok:∀{ρ τ:Type} {f:τ->(τ->AN ρ)->AN ρ} {x:τ} {r:ρ},lp f x=some r->∃n,iter f n x=some r
def Ì [L:LC] {τ:Type} (f:τ->(τ->AN ρ)->AN ρ) (x:τ):AN ρ:=L.lp f x
def aaw [LC] {τ:Type} {f:τ->(τ->AN ρ)->AN ρ} {x:τ} {r:ρ} (h:Ì f x=some r):∃n,iter f n x=some r:=LC.ok h
open Classical in
def limT {τ:Type} (f:τ->(τ->AN ρ)->AN ρ) (x:τ):AN ρ :=
 if h:∃r:AN ρ,∃N,∀n,N<=n->iter f n x=r then Classical.choose h else none
instance lcT:LC:=⟨limT,fun {_ _ _ _ _} h=>by
 unfold limT at h
 split at h
 ·rename_i a;obtain⟨M,b⟩:=Classical.choose_spec a;exact⟨M,by rw[b M (cJ _),h]⟩
 ·cases h⟩
@[reducible] noncomputable def lcN (n:Nat):LC:=⟨fun {ρ τ} f=>Nat.rec (motive:=fun _=>τ->AN ρ) (fun _=>none) (fun _ a x=>f x a) n,fun {ρ τ f x r} h=>⟨n,by
 rw[<-h]; clear h
 induction n generalizing x with
 |zero=>rfl
 |succ n a=>exact congrArg (f x) (funext fun y=>a)⟩⟩
def af9 {τ:Type} {f:τ->(τ->AN ρ)->AN ρ} {x:τ} {r:AN ρ} (N:Nat) (h:∀n,N<=n->iter f n x=r):Ì f x=r:=by
 have a:∃r:AN ρ,∃N,∀n,N<=n->iter f n x=r:=⟨r,N,h⟩;show limT f x=r;unfold limT;rw[dif_pos a];obtain⟨M,b⟩:=Classical.choose_spec a;rw[<-b (max M N) (Nat.le_max_left _ _),h _ (Nat.le_max_right _ _)]
def O1 (a:St->(Exit->St->AN ρ)->AN ρ):Nat->St->(Exit->St->AN ρ)->AN ρ
 |0,_,_=>none
 |n+1,S,K=>a S fun e S=>match e with
  |.normal=>O1 a n S K
  |e=>K e S
def adD {α β:Type} (f:α->β->(α->AN ρ)->AN ρ):AS β->α->(α->AN ρ)->AN ρ
 |[],v,k=>k v
 |x::xs,v,k=>f v x fun a=>adD f xs a k
inductive LI where
 |lp (b:Code)
 |rf (g:Operand) (ps:Array Tmp) (a b:Code)
def Þ:Nat->Code->AS (Nat×LI)
 |bid,.seq a b=>Þ bid a++Þ bid b
 |bid,.cond _ a b=>Þ bid a++Þ bid b
 |_,.block id b=>Þ id b
 |bid,.loop b=>(bid,.lp b)::Þ bid b
 |bid,.scope b=>Þ bid b
 |bid,.rangeFunc g ps a b=>(bid,.rf g ps a b)::(Þ bid a++Þ bid b)
 |_,_=>[]
def LI.loops (bid:Nat):LI->AS (Nat×LI)
 |.lp b=>Þ bid b
 |.rf _ _ a b=>Þ bid a++Þ bid b
def T8 (c:AN Code) (bid:Nat):LI :=
 match c with
 |some c=>match (Þ 0 c).find? (fun x=>x.1==bid) with
  |some x=>x.2
  |none=>.lp .skip
 |none=>.lp .skip
def CS (c:AN Code) (bid:Nat):Code :=
 match T8 c bid with
 |.lp b=>b
 |.rf _ _ a b=>.seq a b
structure DV where
 ty:Ty
 val:Val ty
def K4 (t:Ty) (d:DV):AN (Val t) :=
 match decEq d.ty t with
 |isTrue h=>some (qB (F:=Val) h d.val)
 |isFalse _=>none
def ZM:(l:AS Ty)->(t:Ty)->AS DV->AN (Val (tys t l))
 |[],t,ds=>match ds with
  |[]=>none
  |d::ds=>match ds with
   |[]=>K4 t d
   |_::_=>none
 |u::l,t,ds=>match ds with
  |[]=>none
  |d::ds=>match K4 t d with
   |some x=>match ZM l u ds with
    |some y=>some ((x,y):Val t×Val (tys u l))
    |none=>none
   |none=>none
def ahZ (l:AS Ty) (a:AS DV):AN (Val (tyL l)) :=
 match l with
 |[]=>match a with
  |[]=>some ()
  |_::_=>none
 |t::l=>ZM l t a
def Z5:(t:Ty)->(l:AS Ty)->Val (tys t l)->AS DV
 |t,[],x=>[⟨t,x⟩]
 |t,u::l,x=>⟨t,(x:Val t×Val (tys u l)).1⟩::Z5 u l (x:Val t×Val (tys u l)).2
def VV:(l:AS Ty)->Val (tyL l)->AS DV
 |[],_=>[]
 |t::l,x=>Z5 t l x
inductive Pat where
 |any
 |con (t:Ty)
 |var (t:Ty)
 |own (i:Nat)
 |dp (i:Nat)
 |omp (i:Nat)
 |box (i off:Nat)
 |nils
 |nilp
 |nilfn
 |yld
 |fn (f:Nat) (caps:List (Nat×Nat))
 |fnd (f:Nat) (ts:List Ty)
 |ofn (i:Nat)
 |oit (i:Nat)
inductive iy where
 |dead
 |cells (ps:List Pat)
 |rowc (t:Ty)
 |rowf (t:Ty) (g:Nat)
 |rowv (t:Ty)
 |mapc (k v:Ty)
 |mapv (k v:Ty)
 |deepc (k:IntKind)
 |deepv (k:IntKind)
 |acc (t:Ty)
 |fns (es:List (ByteArray×Nat×List (Nat×Nat)))
 |itr
def aN:Nat->AS Pat->AS Pat
 |0,l=>l
 |n+1,l=>.any::aN n l
structure Tpl where
 n:Nat
 slots:AS Pat
 heap:AS iy
inductive Bd where
 |open_
 |new
 |newd
 |at_ (id:Nat)
structure Mt where
 bd:AS Bd
 cons:AS DV
 vars:AS DV
 freed:AS Nat
def ς:AS Bd->Nat->AN Bd
 |[],_=>none
 |x::_,0=>some x
 |_::xs,n+1=>ς xs n
def F2:AS Bd->Nat->Bd->AS Bd
 |[],_,_=>[]
 |_::xs,0,v=>v::xs
 |x::xs,n+1,v=>x::F2 xs n v
def DF (M:Mt) (i id:Nat):AN Mt :=
 match ς M.bd i with
 |some .open_=>some {M with bd:=F2 M.bd i (.at_ id)}
 |some (.at_ id')=>match id'==id with
  |true=>some M
  |false=>none
 |_=>none
def Xm (M:Mt) (i:Nat):AN Mt :=
 match ς M.bd i with
 |some .open_=>some {M with bd:=F2 M.bd i .new}
 |_=>none
def QV (M:Mt) (i:Nat):AN Mt :=
 match ς M.bd i with
 |some .open_=>some {M with bd:=F2 M.bd i .newd}
 |_=>none
def Ov (h:AS Blk):AV->AS Nat
 |.own id _=>match lkB h id with
  |.row _ _ false _=>[id]
  |_=>[]
 |.sub id _ _ _=>match lkB h id with
  |.row _ _ false _=>[id]
  |_=>[]
 |.omp id=>[id]
 |_=>[]
def qU (h:AS Blk):AS (Nat×Nat)->AS AV->Mt->AN Mt
 |[],[],M=>some M
 |(i,o)::ps,.box id off::vs,M=>match o==off with
  |true=>match lkB h id with
   |.cells _=>match DF M i id with
    |some M=>qU h ps vs M
    |none=>none
   |_=>none
  |false=>none
 |_,_,_=>none
def Hg (h:AS Blk):AS (ByteArray×Nat×AS (Nat×Nat))->AS (ByteArray×AV)->Mt->AN Mt
 |[],[],M=>some M
 |p::es,e::es',M=>match e.2 with
  |.fn (.func f) [] vs=>match ahv p.1 e.1&&Nat.beq p.2.1 f with
   |true=>match qU h p.2.2 vs M with
    |some M=>Hg h es es' M
    |none=>none
   |false=>none
  |_=>none
 |_,_,_=>none
def vm:AS Ty->AS AV->Mt->AN Mt
 |[],[],M=>some M
 |t::ts,.eptr a x o::vs,M=>match Nat.beq o 0 with
  |true=>match decEq a t with
   |isTrue _=>vm ts vs {M with cons:=M.cons++[⟨.ptr a,x⟩]}
   |isFalse _=>none
  |false=>none
 |_,_,_=>none
def ő (h:AS Blk) (p:Pat) (v:AV) (M:Mt):AN Mt :=
 match p with
 |.any=>some M
 |.con t=>match Ù t [ñ h v] with
  |some x=>some {M with cons:=M.cons++[⟨t,x⟩],freed:=Ov h v++M.freed}
  |none=>none
 |.var t=>match Ù t [ñ h v] with
  |some x=>some {M with vars:=M.vars++[⟨t,x⟩],freed:=Ov h v++M.freed}
  |none=>none
 |.own i=>match v with
  |.own id g=>match lkB h id with
   |.row _ g' false _=>match g==g' with
    |true=>DF M i id
    |false=>none
   |_=>none
  |.nils=>Xm M i
  |_=>none
 |.dp i=>match v with
  |.dp id g=>match lkB h id with
   |.deep _ g' _=>match g==g' with
    |true=>DF M i id
    |false=>none
   |_=>none
  |.nils=>QV M i
  |_=>none
 |.omp i=>match v with
  |.omp id=>match lkB h id with
   |.map _ _ _=>DF M i id
   |_=>none
  |_=>none
 |.box i off=>match v with
  |.box id off'=>match off==off' with
   |true=>match lkB h id with
    |.cells _=>DF M i id
    |_=>none
   |false=>none
  |_=>none
 |.nils=>match v with
  |.nils=>some M
  |_=>none
 |.nilp=>match v with
  |.nilp=>some M
  |_=>none
 |.nilfn=>match v with
  |.nilfn=>some M
  |_=>none
 |.yld=>match v with
  |.yld=>some M
  |_=>none
 |.fn f caps=>match v with
  |.fn (.func a) [] vs=>match f==a with
   |true=>qU h caps vs M
   |false=>none
  |_=>none
 |.fnd f ts=>match v with
  |.fn (.func a) [] vs=>match f==a with
   |true=>vm ts vs M
   |false=>none
  |_=>none
 |.ofn i=>match v with
  |.ofn id=>match lkB h id with
   |.fns _=>DF M i id
   |_=>none
  |_=>none
 |.oit i=>match v with
  |.oit id=>match lkB h id with
   |.iter _ _=>DF M i id
   |_=>none
  |_=>none
def NE (h:AS Blk):AS Pat->AS AV->Mt->AN Mt
 |[],_,M=>some M
 |p::ps,vs,M=>match ő h p (lk vs 0) M with
  |some M=>NE h ps vs.tail M
  |none=>none
def od (h:AS Blk):AS Pat->AS AV->Mt->AN Mt
 |[],[],M=>some M
 |p::ps,v::vs,M=>match ő h p v M with
  |some M=>od h ps vs M
  |none=>none
 |_,_,_=>none
def Ģ (h:AS Blk) (p:iy) (i:Nat) (M:Mt):AN Mt :=
 match p with
 |.dead=>match ς M.bd i with
  |some (.at_ id)=>match lkB h id with
   |.dead=>some M
   |_=>none
  |_=>none
 |.cells ps=>match ς M.bd i with
  |some (.at_ id)=>match lkB h id with
   |.cells cs=>od h ps cs M
   |_=>none
  |_=>none
 |.rowc t=>match ς M.bd i with
  |some (.at_ id)=>match lkB h id with
   |.row a _ false xs=>match decEq a t with
    |isTrue _=>some {M with cons:=M.cons++[⟨.slice a,xs⟩]}
    |isFalse _=>none
   |_=>none
  |some .new=>some {M with cons:=M.cons++[⟨.slice t,[]⟩]}
  |_=>none
 |.rowf t g=>match ς M.bd i with
  |some (.at_ id)=>match lkB h id with
   |.row a g' true xs=>match decEq a t with
    |isTrue _=>match decEq g' g with
     |isTrue _=>some {M with cons:=M.cons++[⟨.slice a,xs⟩]}
     |isFalse _=>none
    |isFalse _=>none
   |_=>none
  |_=>none
 |.rowv t=>match ς M.bd i with
  |some (.at_ id)=>match lkB h id with
   |.row a _ false xs=>match decEq a t with
    |isTrue _=>some {M with vars:=M.vars++[⟨.slice a,xs⟩]}
    |isFalse _=>none
   |_=>none
  |some .new=>some {M with vars:=M.vars++[⟨.slice t,[]⟩]}
  |_=>none
 |.mapc k v=>match ς M.bd i with
  |some (.at_ id)=>match lkB h id with
   |.map b c es=>match decEq (Ty.map b c) (Ty.map k v) with
    |isTrue _=>some {M with cons:=M.cons++[⟨.map b c,es⟩]}
    |isFalse _=>none
   |_=>none
  |_=>none
 |.mapv k v=>match ς M.bd i with
  |some (.at_ id)=>match lkB h id with
   |.map b c es=>match decEq (Ty.map b c) (Ty.map k v) with
    |isTrue _=>some {M with vars:=M.vars++[⟨.map b c,es⟩]}
    |isFalse _=>none
   |_=>none
  |_=>none
 |.deepc k=>match ς M.bd i with
  |some (.at_ id)=>match lkB h id with
   |.deep b _ xss=>match decEq b k with
    |isTrue _=>some {M with cons:=M.cons++[⟨.slice (.slice (.int b)),xss⟩]}
    |isFalse _=>none
   |_=>none
  |some .newd=>some {M with cons:=M.cons++[⟨.slice (.slice (.int k)),[]⟩]}
  |_=>none
 |.deepv k=>match ς M.bd i with
  |some (.at_ id)=>match lkB h id with
   |.deep b _ xss=>match decEq b k with
    |isTrue _=>some {M with vars:=M.vars++[⟨.slice (.slice (.int b)),xss⟩]}
    |isFalse _=>none
   |_=>none
  |some .newd=>some {M with vars:=M.vars++[⟨.slice (.slice (.int k)),[]⟩]}
  |_=>none
 |.fns es=>match ς M.bd i with
  |some (.at_ id)=>match lkB h id with
   |.fns es'=>Hg h es es' M
   |_=>none
  |_=>none
 |.itr=>match ς M.bd i with
  |some (.at_ id)=>match lkB h id with
   |.iter s q=>some {M with vars:=M.vars++[⟨.pair .str (.int .i64),(s,q)⟩]}
   |_=>none
  |_=>none
 |.acc t=>match ς M.bd i with
  |some (.at_ id)=>match lkB h id with
   |.acc a xs=>match decEq a t with
    |isTrue _=>some {M with vars:=M.vars++[⟨.slice a,xs⟩]}
    |isFalse _=>none
   |_=>none
  |_=>none
def Ft (h:AS Blk):AS iy->Nat->Mt->AN Mt
 |[],_,M=>some M
 |p::ps,i,M=>match Ģ h p i M with
  |some M=>Ft h ps (i+1) M
  |none=>none
def zC (pin:Nat) (n:Nat):AS Bd:=(List.range n).map fun i=>bif i<pin then .at_ i else .open_
def GV:AS Bd->AS Nat
 |[]=>[]
 |.at_ id::l=>id::GV l
 |_::l=>GV l
def distinct:AS Nat->Bool
 |[]=>true
 |x::l=>!l.contains x&&distinct l
def adu (h:AS Blk):Nat->Bool
 |0=>true
 |i+1=>match lkB h i with
  |.row _ (_+1) false _=>false
  |.deep _ (_+1) _=>false
  |_=>adu h i
def pn (T:Tpl) (pin:Nat) (cs vs:AS Ty) (S:St):AN (Val (tyL cs)×Val (tyL vs)) :=
 match decide (pin<=T.heap.length)&&(decide (T.slots.length<=T.n)&&(decide (T.n<=S.t.length)&&adu S.h pin)) with
 |true=>match NE S.h T.slots S.t {bd:=zC pin T.heap.length,cons:=[],vars:=[],freed:=[]} with
  |some M=>match Ft S.h T.heap 0 M with
   |some M=>match distinct (GV M.bd)&&M.freed.all (fun i=>!(GV M.bd).contains i) with
    |true=>match ahZ cs M.cons,ahZ vs M.vars with
     |some p,some v=>some (p,v)
     |_,_=>none
    |false=>none
   |none=>none
  |none=>none
 |false=>none
structure It where
 cons:AS DV
 vars:AS DV
def aaP:DV->AV
 |⟨.unit,_⟩=>.any
 |⟨.pair _ _,_⟩=>.any
 |⟨t,x⟩=>enc t x
def xi:AS Ty->It->AS AV×It
 |[],I=>([],I)
 |_::ts,I=>match I.cons with
  |d::ds=>match xi ts {I with cons:=ds} with
   |(vs,I)=>(aaP d::vs,I)
  |[]=>match xi ts I with
   |(vs,I)=>(.any::vs,I)
def oR (p:Pat) (I:It):AV×It :=
 match p with
 |.any=>(.any,I)
 |.con _=>match I.cons with
  |d::ds=>(aaP d,{I with cons:=ds})
  |[]=>(.any,I)
 |.var _=>match I.vars with
  |d::ds=>(aaP d,{I with vars:=ds})
  |[]=>(.any,I)
 |.own i=>(.own i 0,I)
 |.dp i=>(.dp i 0,I)
 |.omp i=>(.omp i,I)
 |.box i off=>(.box i off,I)
 |.nils=>(.nils,I)
 |.nilp=>(.nilp,I)
 |.nilfn=>(.nilfn,I)
 |.yld=>(.yld,I)
 |.ofn i=>(.ofn i,I)
 |.oit i=>(.oit i,I)
 |.fn f caps=>(.fn (.func f) [] (caps.map fun c=>.box c.1 c.2),I)
 |.fnd f ts=>match xi ts I with
  |(vs,I)=>(.fn (.func f) [] vs,I)
def EC:AS Pat->It->AS AV×It
 |[],I=>([],I)
 |p::ps,I=>match oR p I with
  |(v,I)=>match EC ps I with
   |(vs,I)=>(v::vs,I)
def rowDV:DV->Blk
 |⟨.slice t,xs⟩=>.row t 0 false xs
 |_=>.dead
def rowFz (g:Nat):DV->Blk
 |⟨.slice t,xs⟩=>.row t g true xs
 |_=>.dead
def accDV:DV->Blk
 |⟨.slice t,xs⟩=>.acc t xs
 |_=>.dead
def itrDV:DV->Blk
 |⟨.pair .str (.int .i64),x⟩=>.iter x.1 x.2
 |_=>.dead
def mapDV:DV->Blk
 |⟨.map k v,es⟩=>.map k v es
 |_=>.dead
def ahK:DV->Blk
 |⟨.slice (.slice (.int k)),xss⟩=>.deep k 0 xss
 |_=>.dead
def oQ (p:iy) (I:It):Blk×It :=
 match p with
 |.dead=>(.dead,I)
 |.cells ps=>match EC ps I with
  |(cs,I)=>(.cells cs,I)
 |.rowc _=>match I.cons with
  |d::ds=>(rowDV d,{I with cons:=ds})
  |[]=>(.dead,I)
 |.rowf _ g=>match I.cons with
  |d::ds=>(rowFz g d,{I with cons:=ds})
  |[]=>(.dead,I)
 |.rowv _=>match I.vars with
  |d::ds=>(rowDV d,{I with vars:=ds})
  |[]=>(.dead,I)
 |.mapc _ _=>match I.cons with
  |d::ds=>(mapDV d,{I with cons:=ds})
  |[]=>(.dead,I)
 |.mapv _ _=>match I.vars with
  |d::ds=>(mapDV d,{I with vars:=ds})
  |[]=>(.dead,I)
 |.deepc _=>match I.cons with
  |d::ds=>(ahK d,{I with cons:=ds})
  |[]=>(.dead,I)
 |.deepv _=>match I.vars with
  |d::ds=>(ahK d,{I with vars:=ds})
  |[]=>(.dead,I)
 |.fns es=>(.fns (es.map fun e=>(e.1,.fn (.func e.2.1) [] (e.2.2.map fun c=>.box c.1 c.2))),I)
 |.acc _=>match I.vars with
  |d::ds=>(accDV d,{I with vars:=ds})
  |[]=>(.dead,I)
 |.itr=>match I.vars with
  |d::ds=>(itrDV d,{I with vars:=ds})
  |[]=>(.dead,I)
def xY:AS iy->It->AS Blk×It
 |[],I=>([],I)
 |p::ps,I=>match oQ p I with
  |(b,I)=>match xY ps I with
   |(bs,I)=>(b::bs,I)
def ą (T:Tpl) (cs vs:AS Ty) (p:Val (tyL cs)) (v:Val (tyL vs)):St :=
 match EC T.slots {cons:=VV cs p,vars:=VV vs v} with
 |(t,I)=>match xY T.heap I with
  |(h,_)=>{t:=t++List.replicate (T.n-T.slots.length) .any,h:=h}
structure Æ where
 pin:Nat
 cs:AS Ty
 vs:AS Ty
 head:Tpl
 exits:AS (Exit×Tpl×AS Ty)
 alt:Bool:=false
def Æ.zs (L:Æ) (i:Nat):AS Ty:=match L.exits[i]? with|some x=>x.2.2|none=>[]
def Æ.tpl (L:Æ) (i:Nat):Tpl:=match L.exits[i]? with|some x=>x.2.1|none=>⟨0,[],[]⟩
def Æ.xk (L:Æ) (i:Nat):Exit:=match L.exits[i]? with|some x=>x.1|none=>.normal
def G7:Exit->Exit->Bool
 |.exit i,.exit j=>i==j
 |.ret,.ret=>true
 |_,_=>false
def ago:AS (Exit×Tpl×AS Ty)->Exit->Nat->AN Nat
 |[],_,_=>none
 |x::xs,e,i=>match G7 x.1 e with
  |true=>some i
  |false=>ago xs e (i+1)
def O3 (L:Æ) (b:Val (tyL L.cs)->Val (tyL L.vs)->AN ρ) (a:(i:Nat)->Val (tyL L.cs)->Val (tyL (L.zs i))->AN ρ) (e:Exit) (S:St):AN ρ :=
 match e with
 |.normal=>match pn L.head L.pin L.cs L.vs S with
  |some (p,v)=>b p v
  |none=>none
 |e=>match ago L.exits e 0 with
  |some i=>match pn (L.tpl i) L.pin L.cs (L.zs i) S with
   |some (p,z)=>a i p z
   |none=>none
  |none=>none
def fitsS (L:Æ) (S:St):Bool:=match L.alt with
 |false=>true
 |true=>match pn L.head L.pin L.cs L.vs S with
  |some _=>true
  |none=>false
def VJ [LC] (L:Æ) (bF:Val (tyL L.cs)->Val (tyL L.vs)->(Val (tyL L.vs)->AN ρ)->((i:Nat)->Val (tyL (L.zs i))->AN ρ)->AN ρ) (m:Nat) (S:St) (K:Exit->St->AN ρ):AN ρ :=
 match Nat.ble m L.pin with
 |true=>match pn L.head L.pin L.cs L.vs S with
  |some (p,v)=>Ì (fun v a=>bF p v a fun i z=>K (L.xk i) (ą (L.tpl i) L.cs (L.zs i) p z)) v
  |none=>none
 |false=>none
end
end Go.Am
end

noncomputable section
namespace Go.Am
def ò {α β:Type} (R:α->β->Prop):AS α->AS β->Prop
 |[],[]=>True
 |a::l,b::m=>R a b/\ò R l m
 |_,_=>False
section
variable {α β:Type} {R R':α->β->Prop}
def ò.length:∀{l:AS α} {m:AS β},ò R l m->l.length=m.length
 |[],[],_=>rfl
 |_::_,_::_,h=>by simp[ò.length h.2]
 |[],_::_,h=>h.elim
 |_::_,[],h=>h.elim
def ò.mono (c:∀a b,R a b->R' a b):∀{l:AS α} {m:AS β},ò R l m->ò R' l m
 |[],[],_=>trivial
 |_::_,_::_,h=>⟨c _ _ h.1,ò.mono c h.2⟩
 |[],_::_,h=>h.elim
 |_::_,[],h=>h.elim
def ò.append:∀{l:AS α} {m:AS β} {b:AS α} {a:AS β},ò R l m->ò R b a->ò R (l++b) (m++a)
 |[],[],_,_,_,h=>h
 |_::_,_::_,_,_,h,h'=>⟨h.1,ò.append h.2 h'⟩
 |[],_::_,_,_,h,_=>h.elim
 |_::_,[],_,_,h,_=>h.elim
def ò.get:∀{l:AS α} {m:AS β},ò R l m->∀{i:Nat} {a:α},l[i]?=some a->∃b,m[i]?=some b/\R a b
 |[],[],_,_,_,h=>by simp at h
 |_::_,b::_,h,0,_,e=>by simp at e; subst e; exact⟨b,by simp,h.1⟩
 |_::_,_::_,h,i+1,_,e=>by simpa using ò.get h.2 (by simpa using e)
 |[],_::_,h,_,_,_=>h.elim
 |_::_,[],h,_,_,_=>h.elim
def ò.get':∀{l:AS α} {m:AS β},ò R l m->∀{i:Nat} {b:β},m[i]?=some b->∃a,l[i]?=some a/\R a b
 |[],[],_,_,_,h=>by simp at h
 |a::_,_::_,h,0,_,e=>by simp at e; subst e; exact⟨a,by simp,h.1⟩
 |_::_,_::_,h,i+1,_,e=>by simpa using ò.get' h.2 (by simpa using e)
 |[],_::_,h,_,_,_=>h.elim
 |_::_,[],h,_,_,_=>h.elim
def ò.take:∀{l:AS α} {m:AS β} (n:Nat),ò R l m->ò R (l.take n) (m.take n)
 |_,_,0,_=>by simp[ò]
 |[],[],_+1,_=>by simp[ò]
 |_::_,_::_,n+1,h=>by simpa using⟨h.1,ò.take n h.2⟩
 |[],_::_,_+1,h=>h.elim
 |_::_,[],_+1,h=>h.elim
def ò.drop:∀{l:AS α} {m:AS β} (n:Nat),ò R l m->ò R (l.drop n) (m.drop n)
 |_,_,0,h=>by simpa using h
 |[],[],_+1,_=>by simp[ò]
 |_::_,_::_,n+1,h=>by simpa using ò.drop n h.2
 |[],_::_,_+1,h=>h.elim
 |_::_,[],_+1,h=>h.elim
def ò.of_get:∀{l:AS α} {m:AS β},l.length=m.length->(∀(i:Nat) (a:α) (b:β),l[i]?=some a->m[i]?=some b->R a b)->ò R l m
 |[],[],_,_=>trivial
 |a::l,b::m,c,h=>⟨h 0 a b (by simp) (by simp),ò.of_get (by simpa using c) fun i x y e d=>h (i+1) x y (by simpa using e) (by simpa using d)⟩
 |[],_::_,c,_=>by simp at c
 |_::_,[],c,_=>by simp at c
def ò.nil_left {m:AS β} (h:ò R [] m):m=[]:=by cases m with|nil=>rfl|cons=>exact h.elim
def ò.one {a:α} {m:AS β} (h:ò R [a] m):∃b,m=[b]/\R a b:=by
 cases m with
 |nil=>exact h.elim
 |cons b m=>exact⟨b,by rw[ò.nil_left h.2],h.1⟩
def ò.split:∀{l c:AS α} {m:AS β},ò R (l++c) m->∃u v,m=u++v/\ò R l u/\ò R c v
 |[],_,m,h=>⟨[],m,by simp,trivial,h⟩
 |a::l,c,b::m,h=>by
  obtain⟨u,v,rfl,d,h2⟩:=ò.split (l:=l) h.2;exact⟨b::u,v,by simp,⟨h.1,d⟩,h2⟩
 |_::_,_,[],h=>h.elim
def ò.map_left {γ:Type} {f:γ->α}:∀{l:AS γ} {m:AS β},ò (fun c b=>R (f c) b) l m->ò R (l.map f) m
 |[],[],_=>trivial
 |_::_,_::_,h=>⟨h.1,ò.map_left h.2⟩
 |[],_::_,h=>h.elim
 |_::_,[],h=>h.elim
end
def Ď (w:World) (b off:Nat) (vs:AS Value):Prop:=∀j v,vs[j]?=some v->w.cell? ⟨b,off+j,none⟩=some v
def uC (t:Ty) (vs:AS Value):Value :=
 match t.isAgg with
 |true=>.agg vs.toArray
 |false=>vs.headD undef
class ë where
 n:Nat
 Φ:World->Prop
 keep:∀w w':World,Φ w->(∀b,b<n->w'.heap[b]?=w.heap[b]?)->Φ w'
 cel:∀w:World,Φ w->∀b,b<n->∃c e r,w.heap[b]?=some (.cells c e r)
 E:Nat->Prop:=fun _=>False
variable [ë]
def CR (w:World) (av:Nat->Prop):(t:Ty)->Val t->AS Value->Prop
 |.unit,_,vs=>vs=[]
 |.bool,b,vs=>vs=[.bool b]
 |.int k,n,vs=>vs=[.int k n]
 |.str,s,vs=>vs=[.string s]
 |.slice t,xs,vs=>∃base cap,vs=[.slice base (xs:AS (Val t)).length cap]/\(xs:AS (Val t)).length<=cap /\
    ((xs : AS (Val t)) = [] \/ ∃ b off, base = some ⟨b, off, none⟩ /\ ¬ av b /\ b < w.heap.size /\
      ∀i x,(xs:AS (Val t))[i]?=some x->∃us,CR w av t x us/\Ď w b (off+i*t.size) us)
 |.map k v,es,vs=>∃r,vs=[.map r]/\((r=none/\(es:AS (Val k×Val v))=[]) \/
    ∃(b:Nat) (d:Array MapEntry) (f:Nat),r=some b/\¬av b/\w.heap[b]?=some (.map d f)/\d.size=(es:AS (Val k×Val v)).length /\
     ∀(i:Nat) (e:Val k×Val v),(es:AS (Val k×Val v))[i]?=some e->∃(m:MapEntry) (us:AS Value),d[i]?=some m/\CR w av k e.1 [m.key]/\CR w av v e.2 us/\m.val=uC v us)
 |.ptr t,x,vs=>∃b off us,vs=[.pointer (some ⟨b,off,none⟩)]/\¬av b/\b<w.heap.size/\CR w av t x us/\Ď w b off us
 |.pair a b,v,vs=>∃us g,vs=us++g/\CR w av a (v:Val a×Val b).1 us/\CR w av b (v:Val a×Val b).2 g
 |.fsl t,xs,vs=>∃base cap,vs=[.slice base (xs:AS (Val t)).length cap]/\(xs:AS (Val t)).length<=cap /\
    ((xs : AS (Val t)) = [] \/ ∃ b off c e, base = some ⟨b, off, none⟩ /\ ¬ av b /\ ¬ ë.E b /\ w.heap[b]? = some (.cells c e (0, 0)) /\ off + (xs : AS (Val t)).length * t.size <= c.size /\
      ∀i x,(xs:AS (Val t))[i]?=some x->∃us,CR w av t x us/\Ď w b (off+i*t.size) us)
def E6 (w:World) (av:Nat->Prop) (w':World) (av':Nat->Prop):Prop:=∀b,b<w.heap.size->¬av b->w'.heap[b]?=w.heap[b]?/\¬av' b
def à {w:World} {b:Nat} {o:Obj} (h:w.heap[b]?=some o):b<w.heap.size:=by
 rcases dC b w.heap.size with h'|h'
 ·exact h'
 ·rw[Array.getElem?_eq_none h'] at h; cases h
def Hk {w w':World} {b:Nat} (h:b<w.heap.size) (e:w'.heap[b]?=w.heap[b]?):b<w'.heap.size:=by
 rw[Array.getElem?_eq_getElem h] at e;exact à e
def Ď.keep {w w':World} {b off:Nat} {vs:AS Value} (h:Ď w b off vs) (e:w'.heap[b]?=w.heap[b]?):Ď w' b off vs :=
 fun j v a=>by rw[World.cell?_of_block (w:=w) (by exact e)]; exact h j v a
def CR.keep {w w':World} {av av':Nat->Prop} (K:E6 w av w' av'):∀{t:Ty} {x:Val t} {vs:AS Value},CR w av t x vs->CR w' av' t x vs
 |.unit,_,_,h=>h
 |.bool,_,_,h=>h
 |.int _,_,_,h=>h
 |.str,_,_,h=>h
 |.slice t,xs,vs,h=>by
  obtain⟨base,cap,e,q,h⟩:=h;refine⟨base,cap,e,q,?_⟩;rcases h with h|⟨b,off,hb,d,f,h⟩
  ·exact .inl h
  ·obtain⟨g,l⟩:=K b f d;refine .inr ⟨b,off,hb,l,Hk f g,fun i x n=>?_⟩;obtain⟨us,j,h2⟩:=h i x n;exact⟨us,CR.keep K j,h2.keep g⟩
 |.map k v,es,vs,h=>by
  obtain⟨r,e,h⟩:=h;refine⟨r,e,?_⟩;rcases h with h|⟨b,entries,clock,u,d,o,p,h⟩
  ·exact .inl h
  ·obtain⟨g,l⟩:=K b (à o) d;refine .inr ⟨b,entries,clock,u,l,g.trans o,p,fun i x n=>?_⟩;obtain⟨m,us,j,h2,A,z⟩:=h i x n;exact⟨m,us,j,CR.keep K h2,CR.keep K A,z⟩
 |.ptr t,x,vs,h=>by
  obtain⟨b,off,us,e,d,f,j,h2⟩:=h;obtain⟨g,l⟩:=K b f d;exact⟨b,off,us,e,l,Hk f g,CR.keep K j,h2.keep g⟩
 |.pair a b,x,vs,h=>by
  obtain⟨us,s,e,j,h2⟩:=h;exact⟨us,s,e,CR.keep K j,CR.keep K h2⟩
 |.fsl t,xs,vs,h=>by
  obtain⟨base,cap,e,q,h⟩:=h;refine⟨base,cap,e,q,?_⟩;rcases h with h|⟨b,off,c,B,hb,d,y,o,p,h⟩
  ·exact .inl h
  ·obtain⟨g,l⟩:=K b (à o) d;refine .inr ⟨b,off,c,B,hb,l,y,g.trans o,p,fun i x n=>?_⟩;obtain⟨us,j,h2⟩:=h i x n;exact⟨us,CR.keep K j,h2.keep g⟩
def CR.old {w:World} {av:Nat->Prop} {t:Ty} {xs:AS (Val t)} {vs:AS Value} (h:CR w av (.fsl t) xs vs):CR w av (.slice t) xs vs:=by
 obtain⟨base,cap,e,f,h⟩:=h;refine⟨base,cap,e,f,?_⟩;rcases h with h|⟨b,off,c,j,hb,a,i,d,g,h⟩
 ·exact .inl h
 ·exact .inr ⟨b,off,hb,a,à d,h⟩
def CR.length {w:World} {av:Nat->Prop}:∀{t:Ty} {x:Val t} {vs:AS Value},CR w av t x vs->vs.length=t.size
 |.unit,_,_,h=>by rw[h]; rfl
 |.bool,_,_,h=>by rw[h]; rfl
 |.int _,_,_,h=>by rw[h]; rfl
 |.str,_,_,h=>by rw[h]; rfl
 |.slice _,_,_,h=>by obtain⟨_,_,rfl,_⟩:=h; rfl
 |.fsl _,_,_,h=>by obtain⟨_,_,rfl,_⟩:=h; rfl
 |.map _ _,_,_,h=>by obtain⟨_,rfl,_⟩:=h; rfl
 |.ptr _,_,_,h=>by obtain⟨_,_,_,rfl,_⟩:=h; rfl
 |.pair a b,_,_,h=>by
  obtain⟨us,d,rfl,c,h2⟩:=h;rw[cN,CR.length c,CR.length h2]; rfl
def jz:Value->AN Nat
 |.pointer (some a)=>some a.block
 |.slice (some a) _ _=>some a.block
 |.map (some r)=>some r
 |_=>none
@[reducible] def ę:Value->Nat->Prop
 |.agg vs,b=>∃u∈vs.toList,jz u=some b
 |.pointer a,b=>jz (.pointer a)=some b
 |.slice a n c,b=>jz (.slice a n c)=some b
 |.map r,b=>jz (.map r)=some b
 |_,_=>False
def Blk.live:Blk->Bool
 |.dead=>false
 |.row _ _ fz _=>!fz
 |_=>true
def uM (ν:Nat->Value) (h:AS Blk) (b:Nat):Prop:=∃id,(lkB h id).live=true/\ę (ν id) b
def Ie:Obj->Bool
 |.cells _ _ _=>true
 |.map _ _=>true
 |.stringIter _ _=>true
 |_=>false
def ë.dat (w:World) (h:ë.Φ w) (b:Nat) (hb:b<ë.n):∃o,w.heap[b]?=some o/\Ie o=true:=by
 obtain⟨c,e,r,h⟩:=ë.cel w h b hb;exact⟨_,h,rfl⟩
structure StepJ (B:Nat) (O X:Nat->Prop) (w:World) (X':Nat->Prop) (w':World):Prop where
 os:w'.os=w.os
 tape:w'.tape=w.tape
 output:w'.output=w.output
 size:w.heap.size<=w'.heap.size
 av:∀b,b<w.heap.size->¬X b->¬X' b
 dat:∀(b:Nat) (o:Obj),w.heap[b]?=some o->Ie o=true->(X b->O b)->w'.heap[b]?=some o
 nd:∀(b:Nat) (o:Obj),w.heap[b]?=some o->Ie o=false->b<B->w'.heap[b]?=some o
 gl:ë.Φ w->∀b,b<ë.n->w'.heap[b]?=w.heap[b]?
class Ð where
 G:Nat->Prop
 D:AS Deferred
 Q:AN Nat
 M:Nat
 L:Nat
 B:Nat
 T:Ty
 J:(O X:Nat->Prop)->AS (Val T)->World->Prop
 st:∀O X X' xs w w',J O X xs w->StepJ B O X w X' w'->J O X' xs w'
@[reducible] def Ð.re (g:Ð) (G:Nat->Prop) (D:AS Deferred) (Q:AN Nat) (M:Nat):Ð:=⟨G,D,Q,M,g.L,g.B,g.T,g.J,g.st⟩
@[reducible] def Gh (G:Nat->Prop):Ð:=⟨G,[],none,0,0,0,.unit,fun _ _ _ _=>False,fun _ _ _ _ _ _ h=>h.elim⟩
variable [Ð]
@[reducible] def GE (b:Nat):Prop:=Ð.G b\/ë.E b
def Av (ν:Nat->Value) (h:AS Blk) (b:Nat):Prop:=uM ν h b\/Ð.G b
def VR0 (ν:Nat->Value) (h:AS Blk) (w:World):AV->Value->Prop
 |.any,_=>True
 |.und,v=>v=undef
 |.bool b,v=>v=.bool b
 |.int k n,v=>v=.int k n
 |.str s,v=>v=.string s
 |.nils,v=>v=.slice none 0 0
 |.slc t xs,v=>CR w (Av ν h) (.slice t) xs [v]
 |.fsc t xs,v=>CR w (Av ν h) (.fsl t) xs [v]
 |.own id g,v=>v.oneCell'=true/\∃t g' fz xs,lkB h id=.row t g' fz xs/\g<=g'/\(g=g'->v=ν id)
 |.sub id g lo n,v=>v.oneCell'=true/\∃t g' fz xs,lkB h id=.row t g' fz xs/\g<=g'/\(g=g'->lo+n<=xs.length/\∃base cap,ν id=.slice base xs.length cap/\v=.slice (if cap=lo then base else base.map (·.add (lo*t.size))) n (cap-lo))
 |.nilm,v=>v=.map none
 |.mp k e es,v=>CR w (Av ν h) (.map k e) es [v]
 |.omp id,v=>v.oneCell'=true/\∃k e es,lkB h id=.map k e es/\v=ν id
 |.nilp,v=>v=.pointer none
 |.box id off,v=>∃cs b,lkB h id=.cells cs/\ν id=.pointer (some ⟨b,0,none⟩)/\v=.pointer (some ⟨b,off,none⟩)
 |.eptr t x off,v=>∃b o us,v=.pointer (some ⟨b,o+off,none⟩)/\¬Av ν h b/\b<w.heap.size/\CR w (Av ν h) t x us/\Ď w b o us
 |.optr id g i off,v=>v.oneCell'=true/\∃t g' fz xs,lkB h id=.row t g' fz xs/\g<=g'/\(g=g'->i<xs.length/\∃b o cap,ν id=.slice (some ⟨b,o,none⟩) xs.length cap/\v=.pointer (some ⟨b,o+i*t.size+off,none⟩))
 |.nilfn,v=>v=.nilFunc
 |.yld,v=>v=.func (.yield Ð.L) #[] #[]
 |.ifc b,v=>v.oneCell'=true/\(b=false->v=.nilIface)/\(b=true->∃t u,v=.iface t u)
 |.ofn id,v=>v.oneCell'=true/\∃es,lkB h id=.fns es/\v=ν id
 |.oit id,v=>v.oneCell'=true/\∃s q,lkB h id=.iter s q/\v=ν id
 |.dp id g,v=>v.oneCell'=true/\∃k g' xss,lkB h id=.deep k g' xss/\g<=g'/\(g=g'->∃us,ν id=.agg (v::us).toArray)
 |.dq id g i,v=>v.oneCell'=true/\∃k g' xss,lkB h id=.deep k g' xss/\g<=g'/\(g=g'->i<xss.length/\∃us b o n cap,ν id=.agg (Value.slice (some ⟨b,o,none⟩) n cap::us).toArray/\v=.pointer (some ⟨b,o+i,none⟩))
 |.dr id g i,v=>v.oneCell'=true/\∃k g' xss,lkB h id=.deep k g' xss/\g<=g'/\(g=g'->∃u us,ν id=.agg (u::us).toArray/\us[i]?=some v)
 |.de id g i j,v=>v.oneCell'=true/\∃k g' xss,lkB h id=.deep k g' xss/\g<=g'/\(g=g'->∃u us b o n cap,ν id=.agg (u::us).toArray/\us[i]?=some (.slice (some ⟨b,o,none⟩) n cap)/\j<n/\v=.pointer (some ⟨b,o+j,none⟩))
 |_,_=>False
def VR1 (ν:Nat->Value) (h:AS Blk) (w:World):AV->Value->Prop
 |.fn f first caps,v=>∃fs cs,v=.func f fs cs/\ò (VR0 ν h w) first fs.toList/\ò (VR0 ν h w) caps cs.toList
 |a,v=>VR0 ν h w a v
def VRc (ν:Nat->Value) (h:AS Blk) (w:World) (a:AV) (v:Value):Prop:=VR1 ν h w a v/\v.oneCell'=true
def VR2 (ν:Nat->Value) (h:AS Blk) (w:World):AV->Value->Prop
 |.agg cs,v=>∃vs,v=.agg vs/\ò (VRc ν h w) cs vs.toList
 |a,v=>VR1 ν h w a v
def VR (ν:Nat->Value) (h:AS Blk) (w:World):AV->Value->Prop
 |.tup as,v=>∃vs,v=.tuple vs/\ò (VR2 ν h w) as vs.toList
 |a,v=>VR2 ν h w a v
def AV.isFn:AV->Bool
 |.fn _ _ _=>true
 |_=>false
def AV.isAgg:AV->Bool
 |.agg _=>true
 |_=>false
def AV.isTup:AV->Bool
 |.tup _=>true
 |_=>false
def sc {ν:Nat->Value} {h:AS Blk} {w:World} {a:AV} {v:Value} (b:a.isFn=false):VR1 ν h w a v=VR0 ν h w a v:=by
 cases a<;>first|rfl|cases b
def uB {ν:Nat->Value} {h:AS Blk} {w:World} {a:AV} {v:Value} (b:a.isAgg=false):VR2 ν h w a v=VR1 ν h w a v:=by
 cases a<;>first|rfl|cases b
def sa {ν:Nat->Value} {h:AS Blk} {w:World} {a:AV} {v:Value} (b:a.isTup=false):VR ν h w a v=VR2 ν h w a v:=by
 cases a<;>first|rfl|cases b
def Xq (w:World) (k:IntKind) (xs:AS Int) (u:Value):Prop:=∃base cap,u=.slice base xs.length cap/\xs.length<=cap /\
 ((base=none/\cap=0)\/∃b off c e,base=some ⟨b,off,none⟩/\w.heap[b]?=some (.cells c e (0,0))/\off+cap<=c.size/\∀(j:Nat) (x:Int),xs[j]?=some x->c[off+j]?=some (.int k x))
def Vq (l:AS Value):Prop:=l.Pairwise fun u v=>∀b,jz u=some b->jz v≠some b
def BR (ν:Nat->Value) (h:AS Blk) (w:World) (id:Nat):Blk->Prop
 |.dead=>True
 |.cells cs=>∃b c e,ν id=.pointer (some ⟨b,0,none⟩)/\w.heap[b]?=some (.cells c e (0,0))/\ò (VRc ν h w) cs c.toList
 |.row t _ false xs=>∃base cap,ν id=.slice base xs.length cap/\xs.length<=cap /\
    ((base = none /\ cap = 0) \/ ∃ b off c e, base = some ⟨b, off, none⟩ /\ w.heap[b]? = some (.cells c e (0, 0)) /\ off + cap * t.size <= c.size /\
      ∀i x,xs[i]?=some x->∃us,CR w (Av ν h) t x us/\Ď w b (off+i*t.size) us)
 |.row t _ true xs=>CR w (Av ν h) (.fsl t) xs [ν id]
 |.map k v es=>∃(b:Nat) (a:Array MapEntry) (d:Nat),ν id=.map (some b)/\w.heap[b]?=some (.map a d)/\a.size=(es:AS (Val k×Val v)).length /\
    ∀(i:Nat) (e:Val k×Val v),(es:AS (Val k×Val v))[i]?=some e->∃(m:MapEntry) (us:AS Value),a[i]?=some m/\CR w (Av ν h) k e.1 [m.key]/\CR w (Av ν h) v e.2 us/\m.val=uC v us
 |.deep k _ xss=>∃base cap us,ν id=.agg (Value.slice base xss.length cap::us).toArray/\xss.length<=cap/\Vq (Value.slice base xss.length cap::us) /\
    ((base=none/\cap=0)\/∃b off c e,base=some ⟨b,off,none⟩/\w.heap[b]?=some (.cells c e (0,0))/\off+cap<=c.size/\∀(i:Nat) (u:Value),us[i]?=some u->c[off+i]?=some u) /\
    ò (Xq w k) xss us
 |.fns es=>∃(b:Nat) (a:Array MapEntry) (d:Nat),ν id=.map (some b)/\w.heap[b]?=some (.map a d) /\
    ò (fun(e:ByteArray×AV) (m:MapEntry)=>m.key=.string e.1/\e.2.isFn=true/\VR1 ν h w e.2 m.val) es a.toList
 |.iter s q=>∃b,ν id=.pointer (some ⟨b,0,none⟩)/\w.heap[b]?=some (.stringIter s q.toNat)/\0<=q
 |.acc t xs=>∃us,ν id=.agg us/\(∀b,ę (ν id) b->∃o,w.heap[b]?=some o/\Ie o=true)/\∃e:t=Ð.T,Ð.J (ę (ν id)) (Av ν h) (qB (F:=fun t=>AS (Val t)) e xs) w
structure HR (ν:Nat->Value) (h:AS Blk) (w:World):Prop where
 blk:∀id,BR ν h w id (lkB h id)
 inj:∀i j b,(lkB h i).live=true->(lkB h j).live=true->ę (ν i) b->ę (ν j) b->i=j
 ghlt:∀b,GE b->b<w.heap.size
 ghne:∀id b,(lkB h id).live=true->ę (ν id) b->¬GE b
 glob:ë.Φ w
 globL:∀b,b<ë.n->¬uM ν h b
def HR.ghG {ν:Nat->Value} {h:AS Blk} {w:World} (H:HR ν h w) (id b:Nat) (c:(lkB h id).live=true) (h2:ę (ν id) b):¬Ð.G b:=fun a=>H.ghne id b c h2 (.inl a)
def HR.ghL {ν:Nat->Value} {h:AS Blk} {w:World} (H:HR ν h w) (b:Nat) (hb:Ð.G b):b<w.heap.size:=H.ghlt b (.inl hb)
def Blk.next (ν ν':Nat->Value) (id:Nat):Blk->Blk->Prop
 |.dead,_=>True
 |.cells _,B=>(∃cs,B=.cells cs)/\ν' id=ν id
 |.row t g _ xs,B=>∃g' fz xs',B=.row t g' fz xs'/\g<=g'/\(g=g'->ν' id=ν id/\xs'.length=xs.length)
 |.map k v _,B=>(∃es,B=.map k v es)/\ν' id=ν id
 |.deep k g xss,B=>∃g' a,B=.deep k g' a/\g<=g'/\(g=g'->ν' id=ν id/\a.length=xss.length)
 |.acc t _,B=>∃xs,B=.acc t xs
 |.fns _,B=>(∃es,B=.fns es)/\ν' id=ν id
 |.iter s _,B=>(∃q,B=.iter s q)/\ν' id=ν id
structure Ev (m:Nat) (ν:Nat->Value) (h:AS Blk) (w:World) (ν':Nat->Value) (h':AS Blk) (w':World):Prop where
 os:w'.os=w.os
 tape:w'.tape=w.tape
 output:w'.output=w.output
 size:w.heap.size<=w'.heap.size
 keep:E6 w (uM ν h) w' (uM ν' h')
 blk:∀id,id<m->(lkB h id).next ν ν' id (lkB h' id)
def Blk.next_refl (ν:Nat->Value) (id:Nat) (B:Blk):B.next ν ν id B:=by
 cases B with
 |dead=>trivial
 |cells cs=>exact⟨⟨cs,rfl⟩,rfl⟩
 |row t g fz xs=>exact⟨g,fz,xs,rfl,cJ _,fun _=>⟨rfl,rfl⟩⟩
 |map k v es=>exact⟨⟨es,rfl⟩,rfl⟩
 |deep k g xss=>exact⟨g,xss,rfl,cJ _,fun _=>⟨rfl,rfl⟩⟩
 |acc t xs=>exact⟨xs,rfl⟩
 |fns es=>exact⟨⟨es,rfl⟩,rfl⟩
 |iter s q=>exact⟨⟨q,rfl⟩,rfl⟩
def Blk.next_trans {ν ν' f:Nat->Value} {id:Nat} {A B C:Blk} (h:A.next ν ν' id B) (k:B.next ν' f id C):A.next ν f id C:=by
 cases A with
 |dead=>trivial
 |cells cs =>
  obtain⟨⟨E,rfl⟩,e⟩:=h;obtain⟨⟨u,rfl⟩,l⟩:=k;exact⟨⟨u,rfl⟩,l.trans e⟩
 |row t g fz xs =>
  obtain⟨g',D,xs',rfl,j,n⟩:=h;obtain⟨c,o,m,rfl,a,b⟩:=k;refine⟨c,o,m,rfl,dc j a,fun e=>?_⟩
  have r:g=g':=by omega
  have p:g'=c:=by omega
  exact⟨(b p).1.trans (n r).1,(b p).2.trans (n r).2⟩
 |map G v es =>
  obtain⟨⟨y,rfl⟩,e⟩:=h;obtain⟨⟨d,rfl⟩,l⟩:=k;exact⟨⟨d,rfl⟩,l.trans e⟩
 |deep q g xss =>
  obtain⟨g',z,rfl,j,n⟩:=h;obtain⟨c,i,rfl,a,b⟩:=k;refine⟨c,i,rfl,dc j a,fun e=>?_⟩
  have r:g=g':=by omega
  have p:g'=c:=by omega
  exact⟨(b p).1.trans (n r).1,(b p).2.trans (n r).2⟩
 |acc t xs =>
  obtain⟨xs',rfl⟩:=h;exact k
 |fns es =>
  obtain⟨⟨y,rfl⟩,e⟩:=h;obtain⟨⟨d,rfl⟩,l⟩:=k;exact⟨⟨d,rfl⟩,l.trans e⟩
 |iter s q =>
  obtain⟨⟨F,rfl⟩,e⟩:=h;obtain⟨⟨x,rfl⟩,l⟩:=k;exact⟨⟨x,rfl⟩,l.trans e⟩
def E6.refl (w:World) (av:Nat->Prop):E6 w av w av:=fun _ _ h=>⟨rfl,h⟩
def E6.trans {w w' c:World} {a f d:Nat->Prop} (h:E6 w a w' f) (k:E6 w' f c d):E6 w a c d :=
 fun b hb ha=>let ⟨e,j⟩:=h b hb ha; let ⟨i,g⟩:=k b (Hk hb e) j; ⟨i.trans e,g⟩
omit [Ð] in
def E6.or {w w':World} {a d g:Nat->Prop} (h:E6 w a w' d):E6 w (fun b=>a b\/g b) w' (fun b=>d b\/g b) :=
 fun b hb c=>⟨(h b hb fun q=>c (.inl q)).1,fun q=>q.elim (h b hb fun q=>c (.inl q)).2 fun q=>c (.inr q)⟩
def Ev.keepA {m:Nat} {ν ν':Nat->Value} {h h':AS Blk} {w w':World} (e:Ev m ν h w ν' h' w'):E6 w (Av ν h) w' (Av ν' h'):=e.keep.or
def Ev.refl (m:Nat) (ν:Nat->Value) (h:AS Blk) (w:World):Ev m ν h w ν h w :=
 ⟨rfl,rfl,rfl,cJ _,E6.refl _ _,fun _ _=>Blk.next_refl _ _ _⟩
def Ev.trans {m f:Nat} {ν ν' a:Nat->Value} {h h' d:AS Blk} {w w' c:World} (e:Ev m ν h w ν' h' w') (b:Ev f ν' h' w' a d c) (g:m<=f):Ev m ν h w a d c :=
 ⟨b.os.trans e.os,b.tape.trans e.tape,b.output.trans e.output,dc e.size b.size,e.keep.trans b.keep,
  fun id hi=>Blk.next_trans (e.blk id hi) (b.blk id (df hi g))⟩
def Ev.mono {m a:Nat} {ν ν':Nat->Value} {h h':AS Blk} {w w':World} (e:Ev m ν h w ν' h' w') (b:a<=m):Ev a ν h w ν' h' w' :=
 ⟨e.os,e.tape,e.output,e.size,e.keep,fun id hi=>e.blk id (df hi b)⟩
def Ņ:∀{h:AS Blk} {id:Nat} {B:Blk},lkB h id=B->B≠.dead->id<h.length
 |[],_,B,e,a=>absurd e.symm a
 |_::_,0,_,_,_=>gE _
 |_::_,_+1,_,e,a=>Nat.succ_lt_succ (Ņ e a)
section
variable {ν ν':Nat->Value} {h h':AS Blk} {w w':World}
def VR0.ev (e:Ev h.length ν h w ν' h' w'):∀{a:AV} {v:Value},VR0 ν h w a v->VR0 ν' h' w' a v:=by
 intro a v m
 cases a with
 |any=>trivial
 |und=>exact m
 |bool=>exact m
 |int=>exact m
 |str=>exact m
 |nils=>exact m
 |nilm=>exact m
 |nilp=>exact m
 |nilfn=>exact m
 |yld=>exact m
 |ifc b=>exact m
 |ofn id =>
  obtain⟨y,es,l,z⟩:=m;have hb:=e.blk id (Ņ l (by simp));rw[l] at hb;obtain⟨⟨E,c⟩,u⟩:=hb;exact⟨y,E,c,by rw[z,u]⟩
 |oit id =>
  obtain⟨y,s,q,l,z⟩:=m;have hb:=e.blk id (Ņ l (by simp));rw[l] at hb;obtain⟨⟨K,c⟩,u⟩:=hb;exact⟨y,s,K,c,by rw[z,u]⟩
 |slc t xs=>exact CR.keep e.keepA m
 |fsc t xs=>exact CR.keep e.keepA m
 |mp k t es=>exact CR.keep e.keepA m
 |own id g =>
  obtain⟨y,t,g',fz,xs,l,p,z⟩:=m;have hb:=e.blk id (Ņ l (by simp));rw[l] at hb;obtain⟨f,C,xs',c,d,u⟩:=hb;refine⟨y,t,f,C,xs',c,dc p d,fun G=>?_⟩
  have B:g=g':=by omega
  have A:g'=f:=by omega
  rw[z B,(u A).1]
 |sub id g lo n =>
  obtain⟨y,t,g',fz,xs,l,p,z⟩:=m;have hb:=e.blk id (Ņ l (by simp));rw[l] at hb;obtain⟨f,C,xs',c,d,u⟩:=hb;refine⟨y,t,f,C,xs',c,dc p d,fun G=>?_⟩
  have B:g=g':=by omega
  have A:g'=f:=by omega
  obtain⟨D,base,cap,h2,F⟩:=z B;obtain⟨I,H⟩:=u A;exact⟨by rw[H]; exact D,base,cap,by rw[I,H]; exact h2,F⟩
 |omp id =>
  obtain⟨y,k,t,es,l,z⟩:=m;have hb:=e.blk id (Ņ l (by simp));rw[l] at hb;obtain⟨⟨E,c⟩,u⟩:=hb;exact⟨y,k,t,E,c,by rw[z,u]⟩
 |box id off =>
  obtain⟨cs,b,l,D,h2⟩:=m;have hb:=e.blk id (Ņ l (by simp));rw[l] at hb;obtain⟨⟨J,c⟩,u⟩:=hb;exact⟨J,b,c,by rw[u]; exact D,h2⟩
 |eptr t x off =>
  obtain⟨b,o,us,D,h2,F,M,L⟩:=m;obtain⟨B,A⟩:=e.keepA b F h2;exact⟨b,o,us,D,A,Hk F B,CR.keep e.keepA M,L.keep B⟩
 |optr id g i off =>
  obtain⟨y,t,g',fz,xs,l,p,z⟩:=m;have hb:=e.blk id (Ņ l (by simp));rw[l] at hb;obtain⟨f,C,xs',c,d,u⟩:=hb;refine⟨y,t,f,C,xs',c,dc p d,fun G=>?_⟩
  have B:g=g':=by omega
  have A:g'=f:=by omega
  obtain⟨D,b,o,cap,h2,F⟩:=z B;obtain⟨I,H⟩:=u A;exact⟨by rw[H]; exact D,b,o,cap,by rw[I,H]; exact h2,F⟩
 |dp id g =>
  obtain⟨y,k,g',xss,l,p,z⟩:=m;have hb:=e.blk id (Ņ l (by simp));rw[l] at hb;obtain⟨f,r,c,d,u⟩:=hb;refine⟨y,k,f,r,c,dc p d,fun G=>?_⟩
  have B:g=g':=by omega
  have A:g'=f:=by omega
  rw[(u A).1];exact z B
 |dq id g i =>
  obtain⟨y,k,g',xss,l,p,z⟩:=m;have hb:=e.blk id (Ņ l (by simp));rw[l] at hb;obtain⟨f,r,c,d,u⟩:=hb;refine⟨y,k,f,r,c,dc p d,fun G=>?_⟩
  have B:g=g':=by omega
  have A:g'=f:=by omega
  rw[(u A).1,(u A).2];exact z B
 |dr id g i =>
  obtain⟨y,k,g',xss,l,p,z⟩:=m;have hb:=e.blk id (Ņ l (by simp));rw[l] at hb;obtain⟨f,r,c,d,u⟩:=hb;refine⟨y,k,f,r,c,dc p d,fun G=>?_⟩
  have B:g=g':=by omega
  have A:g'=f:=by omega
  rw[(u A).1];exact z B
 |de id g i j =>
  obtain⟨y,k,g',xss,l,p,z⟩:=m;have hb:=e.blk id (Ņ l (by simp));rw[l] at hb;obtain⟨f,r,c,d,u⟩:=hb;refine⟨y,k,f,r,c,dc p d,fun G=>?_⟩
  have B:g=g':=by omega
  have A:g'=f:=by omega
  rw[(u A).1];exact z B
 |fn=>exact m.elim
 |agg=>exact m.elim
 |tup=>exact m.elim
def VR1.ev (e:Ev h.length ν h w ν' h' w') {a:AV} {v:Value} (b:VR1 ν h w a v):VR1 ν' h' w' a v:=by
 cases c:a.isFn with
 |true =>
  cases a<;>try cases c
  obtain⟨fs,cs,f,h2,d⟩:=b;exact⟨fs,cs,f,h2.mono fun _ _=>VR0.ev e,d.mono fun _ _=>VR0.ev e⟩
 |false=>rw[sc c] at b ⊢; exact VR0.ev e b
def VRc.ev (e:Ev h.length ν h w ν' h' w') {a:AV} {v:Value} (b:VRc ν h w a v):VRc ν' h' w' a v:=⟨b.1.ev e,b.2⟩
def VR2.ev (e:Ev h.length ν h w ν' h' w') {a:AV} {v:Value} (b:VR2 ν h w a v):VR2 ν' h' w' a v:=by
 cases c:a.isAgg with
 |true =>
  cases a<;>try cases c
  obtain⟨vs,d,h2⟩:=b;exact⟨vs,d,h2.mono fun _ _=>VRc.ev e⟩
 |false=>rw[uB c] at b ⊢; exact VR1.ev e b
def VR.ev (e:Ev h.length ν h w ν' h' w') {a:AV} {v:Value} (b:VR ν h w a v):VR ν' h' w' a v:=by
 cases c:a.isTup with
 |true =>
  cases a<;>try cases c
  obtain⟨vs,d,h2⟩:=b;exact⟨vs,d,h2.mono fun _ _=>VR2.ev e⟩
 |false=>rw[sa c] at b ⊢; exact VR2.ev e b
end
def mk1 (k:Nat):Deferred:={target:=.collected k,args:=#[]}
def Fr (w:World) (a:AS Deferred):Prop :=
 (∃ms:AS Nat,a=ms.map mk1++Ð.D/\ms.Nodup/\∀k∈ms,w.heap[k]?=some (.deferred (some []))/\Ð.M<=k) /\
 (∀l,Ð.Q=some l->∃r,w.heap[l]?=some (.loop r))/\Ð.B<=Ð.M/\Ð.M<=w.heap.size
def Fr.keep {w w':World} {e:AS Deferred} (H:Fr w e) (f:w.heap.size<=w'.heap.size) (a:∀(b:Nat) (o:Obj),w.heap[b]?=some o->Ie o=false->w'.heap[b]?=some o):Fr w' e:=by
 obtain⟨⟨ms,p,h2,d⟩,n,m,j⟩:=H;exact⟨⟨ms,p,h2,fun k c=>⟨a k _ (d k c).1 rfl,(d k c).2⟩⟩,fun l i=>(n l i).imp fun r g=>a l _ g rfl,m,dc j f⟩
def Fr.bnd {w:World} {a:AS Deferred} (H:Fr w a):Ð.B<=w.heap.size:=dc H.2.2.1 H.2.2.2
structure Sim (ν:Nat->Value) (S:St) (a:Act) (w:World):Prop where
 defers:Fr w a.defers
 len:S.t.length<=a.tmps.size
 tmps:∀i,VR ν S.h w (lk S.t i) (a.tmps.getD i undef)
 heap:HR ν S.h w
def adf:∀(t:AS AV) (d:Nat) (v:AV) (i:Nat),lk (upd t d v) i=if i=d/\d<t.length then v else lk t i
 |[],d,v,i=>by simp[Rk,Rl,Rj,afl,afm,afk]
 |x::xs,0,v,0=>by simp[Rk,Rl,Rj,afl,afm,afk]
 |x::xs,0,v,i+1=>by simp[Rk,Rl,Rj,afl,afm,afk]
 |x::xs,d+1,v,0=>by simp[Rk,Rl,Rj,afl,afm,afk]
 |x::xs,d+1,v,i+1=>by simp[Rk,Rl,Rj,afl,afm,afk,adf xs d v i]
def adg:∀(t:AS AV) (d:Nat),t.length<=d->lk t d=.any
 |[],_,_=>rfl
 |x::xs,0,h=>by simp at h
 |x::xs,d+1,h=>by simpa[afl,afm,afk] using adg xs d (by simpa using h)
def On:∀(t:AS AV) (d:Nat) (v:AV),(upd t d v).length=t.length
 |[],_,_=>rfl
 |_::_,0,_=>rfl
 |_::xs,d+1,v=>by simp[Rk,Rl,Rj,On xs d v]
def tg:∀(h:AS Blk) (d:Nat) (B:Blk) (i:Nat),lkB (ì h d B) i=if i=d/\d<h.length then B else lkB h i
 |[],d,v,i=>by simp[Fc,Fe,E9,Qf,Qg,Qd]
 |x::xs,0,v,0=>by simp[Fc,Fe,E9,Qf,Qg,Qd]
 |x::xs,0,v,i+1=>by simp[Fc,Fe,E9,Qf,Qg,Qd]
 |x::xs,d+1,v,0=>by simp[Fc,Fe,E9,Qf,Qg,Qd]
 |x::xs,d+1,v,i+1=>by simp[Fc,Fe,E9,Qf,Qg,Qd,tg xs d v i]
def Ï:∀(h:AS Blk) (d:Nat) (B:Blk),(ì h d B).length=h.length
 |[],_,_=>rfl
 |_::_,0,_=>rfl
 |_::xs,d+1,v=>by simp[Fc,Fe,E9,Ï xs d v]
end Go.Am
end

noncomputable section
namespace Go.Am
variable [ë] [Ð]
section
variable {ν ν':Nat->Value} {h h':AS Blk} {w w':World}
def ad1 (v:Value):VR0 ν h w (cv1 v) v:=by
 unfold cv1; split<;>first|rfl|trivial|exact⟨rfl,fun _=>rfl,fun h=>by cases h⟩
def UT (v:Value):(cv1 v).isFn=false:=by
 unfold cv1; split<;>rfl
def aaR (v:Value):(cv1 v).isAgg=false:=by
 unfold cv1; split<;>rfl
def OI (v:Value):(cv1 v).isTup=false:=by
 unfold cv1; split<;>rfl
def ò.map_self {α β:Type} {R:α->β->Prop} {f:β->α}:∀{l:AS β},(∀b∈l,R (f b) b)->ò R (l.map f) l
 |[],_=>trivial
 |b::l,h=>⟨h b (by simp),ò.map_self fun c a=>h c (by simp[a])⟩
def US (v:Value):VR ν h w (cv v) v:=by
 unfold cv
 split
 ·rename_i cs
  split
  ·rename_i a;refine⟨cs,rfl,ò.map_self fun b hb=>⟨?_,dw.1 a b hb⟩⟩;rw[sc (UT b)]; exact ad1 b
  ·trivial
 ·rw[sa (OI _),uB (aaR _),sc (UT _)]; exact ad1 _
def UR (v:Value):(cv v).isTup=false:=by
 unfold cv
 split
 ·split<;>rfl
 ·exact OI _
def Ć {S:St} {a:Act} (H:Sim ν S a w) (x:Operand):VR ν S.h w (ev S.t x) (a.eval x):=by
 cases x with
 |tmp i=>exact H.tmps i
 |const v=>exact US v
 |func f=>exact⟨#[],#[],rfl,trivial,trivial⟩
 |global g=>trivial
def VR.one {a:AV} {v:Value} (b:VR ν h w a v) (ha:a.isAgg=false) (c:a.isTup=false):VR1 ν h w a v:=by
 rw[sa c,uB ha] at b; exact b
def VR1.up {a:AV} {v:Value} (b:VR1 ν h w a v):VR ν h w a v:=by
 cases c:a.isTup with
 |true =>
  cases a<;>try cases c
  exact b.elim
 |false =>
  cases ha:a.isAgg with
  |true =>
   cases a<;>try cases ha
   exact b.elim
  |false=>rw[sa c,uB ha]; exact b
def VR0.up {a:AV} {v:Value} (b:VR0 ν h w a v):VR1 ν h w a v:=by
 cases c:a.isFn with
 |true =>
  cases a<;>try cases c
  exact b.elim
 |false=>rw[sc c]; exact b
def CR.oneCell:∀{t:Ty} {x:Val t} {vs:AS Value} {av:Nat->Prop},CR w av t x vs->∀v∈vs,v.oneCell'=true
 |.unit,_,_,_,h=>by rw[show _=[] from h]; simp
 |.bool,_,_,_,h=>by rw[show _=[_] from h]; simp[Value.oneCell']
 |.int _,_,_,_,h=>by rw[show _=[_] from h]; simp[Value.oneCell']
 |.str,_,_,_,h=>by rw[show _=[_] from h]; simp[Value.oneCell']
 |.slice _,_,_,_,h=>by obtain⟨_,_,rfl,_⟩:=h; simp[Value.oneCell']
 |.fsl _,_,_,_,h=>by obtain⟨_,_,rfl,_⟩:=h; simp[Value.oneCell']
 |.map _ _,_,_,_,h=>by obtain⟨_,rfl,_⟩:=h; simp[Value.oneCell']
 |.ptr _,_,_,_,h=>by obtain⟨_,_,_,rfl,_⟩:=h; simp[Value.oneCell']
 |.pair a b,_,_,_,h=>by
  obtain⟨us,e,rfl,d,h2⟩:=h;intro v c;rcases cR.1 c with c|c
  ·exact CR.oneCell d v c
  ·exact CR.oneCell h2 v c
def VR1.oneCell {a:AV} {v:Value} {vs:AS AV} (c:VR1 ν h w a v) (d:ģ a=some vs):v.oneCell'=true:=by
 cases a with
 |any=>cases d
 |und=>cases d
 |agg=>exact c.elim
 |tup=>cases d
 |bool b=>rw[show v=_ from c]; rfl
 |int k n=>rw[show v=_ from c]; rfl
 |str s=>rw[show v=_ from c]; rfl
 |nils=>rw[show v=_ from c]; rfl
 |nilm=>rw[show v=_ from c]; rfl
 |nilp=>rw[show v=_ from c]; rfl
 |nilfn=>rw[show v=_ from c]; rfl
 |yld=>rw[show v=_ from c]; rfl
 |ifc b=>exact c.1
 |ofn id=>exact c.1
 |oit id=>exact c.1
 |slc t xs=>exact CR.oneCell c v (by simp)
 |fsc t xs=>exact CR.oneCell c v (by simp)
 |mp k t es=>exact CR.oneCell c v (by simp)
 |own id g=>exact c.1
 |sub id g lo n=>exact c.1
 |omp id=>exact c.1
 |box id off=>obtain⟨_,_,_,_,rfl⟩:=c; rfl
 |eptr t x off=>obtain⟨_,_,_,rfl,_⟩:=c; rfl
 |optr id g i off=>exact c.1
 |dp id g=>exact c.1
 |dq id g i=>exact c.1
 |dr id g i=>exact c.1
 |de id g i j=>exact c.1
 |fn f fs cs=>obtain⟨_,_,rfl,_⟩:=c; rfl
def oY {v:Value} (h:v.oneCell'=true):v.cells.toList=[v]:=by cases v<;>first|rfl|cases h
def VR.cells {a:AV} {v:Value} {vs:AS AV} (c:VR ν h w a v) (b:ģ a=some vs):ò (VRc ν h w) vs v.cells.toList:=by
 cases ha:a.isAgg with
 |true =>
  cases a<;>try cases ha
  obtain⟨us,rfl,h2⟩:=c;cases b;exact h2
 |false =>
  have e:a.isTup=false:=by cases a<;>first|rfl|cases b
  have d:=c.one ha e;have h2:=d.oneCell b
  have f:vs=[a]:=by cases a<;>simp_all[ģ,AV.isAgg]
  rw[f,oY h2];exact⟨⟨d,h2⟩,trivial⟩
def nP:∀{t:Ty} {x:Val t} {vs:AS Value},CR w (Av ν h) t x vs->ò (VRc ν h w) (flat t x) vs
 |.unit,_,_,a=>by rw[show _=[] from a]; trivial
 |.bool,_,_,a=>by rw[show _=[_] from a]; exact⟨⟨rfl,rfl⟩,trivial⟩
 |.int _,_,_,a=>by rw[show _=[_] from a]; exact⟨⟨rfl,rfl⟩,trivial⟩
 |.str,_,_,a=>by rw[show _=[_] from a]; exact⟨⟨rfl,rfl⟩,trivial⟩
 |.slice _,_,_,a=>by obtain⟨_,_,rfl,h'⟩:=id a; exact⟨⟨a,rfl⟩,trivial⟩
 |.fsl _,_,_,a=>by obtain⟨_,_,rfl,h'⟩:=id a; exact⟨⟨a,rfl⟩,trivial⟩
 |.map _ _,_,_,a=>by obtain⟨_,rfl,h'⟩:=id a; exact⟨⟨a,rfl⟩,trivial⟩
 |.ptr _,_,_,a=>by
  obtain⟨b,off,us,rfl,c,h2,e,d⟩:=id a;exact⟨⟨⟨b,off,us,rfl,c,h2,e,d⟩,rfl⟩,trivial⟩
 |.pair _ _,_,_,a=>by
  obtain⟨us,f,rfl,c,h2⟩:=a;exact(nP c).append (nP h2)
def Dl {t:Ty} {x:Val t} {vs:AS Value} (e:CR w (Av ν h) t x vs):VR ν h w (enc t x) (uC t vs):=by
 have d:=nP e
 cases t with
 |unit=>exact⟨vs.toArray,rfl,by simpa[flat] using d⟩
 |pair a b=>exact⟨vs.toArray,rfl,by simpa using d⟩
 |bool=>obtain⟨u,rfl,c⟩:=d.one; exact c.1.up
 |int k=>obtain⟨u,rfl,c⟩:=d.one; exact c.1.up
 |str=>obtain⟨u,rfl,c⟩:=d.one; exact c.1.up
 |slice t=>obtain⟨u,rfl,c⟩:=d.one; exact c.1.up
 |fsl t=>obtain⟨u,rfl,c⟩:=d.one; exact c.1.up
 |map k v=>obtain⟨u,rfl,c⟩:=d.one; exact c.1.up
 |ptr t=>obtain⟨u,rfl,c⟩:=d.one; exact c.1.up
def VRs (w:World) (av:Nat->Prop):AV->Value->Prop
 |.bool b,v=>v=.bool b
 |.int k n,v=>v=.int k n
 |.str s,v=>v=.string s
 |.nils,v=>v=.slice none 0 0
 |.nilm,v=>v=.map none
 |.slc t xs,v=>CR w av (.slice t) xs [v]
 |.fsc t xs,v=>CR w av (.fsl t) xs [v]
 |.mp k e es,v=>CR w av (.map k e) es [v]
 |.eptr t x off,v=>∃b o us,v=.pointer (some ⟨b,o+off,none⟩)/\¬av b/\b<w.heap.size/\CR w av t x us/\Ď w b o us
 |_,_=>True
def CR.mono {av av':Nat->Prop} (c:∀b,av' b->av b) {t:Ty} {x:Val t} {vs:AS Value} (d:CR w av t x vs):CR w av' t x vs :=
 d.keep fun b _ a=>⟨rfl,fun hb=>a (c b hb)⟩
def VRs.mono {av av':Nat->Prop} (d:∀b,av' b->av b) {a:AV} {v:Value} (c:VRs w av a v):VRs w av' a v:=by
 cases a<;>try exact c
 ·exact CR.mono d c
 ·exact CR.mono d c
 ·exact CR.mono d c
 ·obtain⟨b,o,us,i,h2,g,f,e⟩:=c;exact⟨b,o,us,i,fun hb=>h2 (d b hb),g,CR.mono d f,e⟩
def VR1.data {a:AV} {v:Value} (b:VR1 ν h w a v):VRs w (Av ν h) a v:=by
 cases a<;>first|exact b|trivial
def wJ {A B:Type} (h:A=B) (l:AS A):(cast (congrArg AS h) l).length=l.length/\∀i:Nat,(cast (congrArg AS h) l)[i]?=(l[i]?).map (cast h):=by
 subst h; exact⟨rfl,fun i=>by cases e:l[i]?<;>simp_all⟩
def U1 {A B C D:Type} (h:A=B) (k:C=D) (e:(A×C)=(B×D)) (x:A×C):cast e x=(cast h x.1,cast k x.2):=by subst h k; rfl
def Di:∀t,(ers t).size=t.size
 |.pair a b=>by show(ers a).size+(ers b).size=_; rw[Di a,Di b]; rfl
 |.unit|.bool|.int _|.str|.slice _|.fsl _|.map _ _|.ptr _=>rfl
def adL:∀t,(ers t).isAgg=t.isAgg
 |.pair _ _|.unit|.bool|.int _|.str|.slice _|.fsl _|.map _ _|.ptr _=>rfl
def CR.ers {av:Nat->Prop}:∀{t:Ty} {x:Val t} {vs:AS Value},CR w av t x vs->CR w av (Go.Am.ers t) (cast (Ō t).symm x) vs
 |.unit,_,_,h=>h
 |.bool,_,_,h=>h
 |.int _,_,_,h=>h
 |.str,_,_,h=>h
 |.slice t,xs,vs,h=>by
  obtain⟨base,cap,e,q,h⟩:=h;obtain⟨l,p⟩:=wJ (Ō t).symm xs;show CR w av (.slice (Go.Am.ers t)) (cast (congrArg AS (Ō t).symm) xs) vs;refine⟨base,cap,by rw[l]; exact e,by rw[l]; exact q,?_⟩;rcases h with h|⟨b,off,hb,d,f,h⟩
  ·exact .inl (dg.1 (by rw[l,show xs=[] from h]; rfl))
  ·refine .inr ⟨b,off,hb,d,f,fun i x c=>?_⟩;rw[p] at c
   cases hi:(xs:AS (Val t))[i]? with
   |none=>rw[hi] at c; cases c
   |some y =>
    rw[hi] at c; cases c;obtain⟨us,g,h2⟩:=h i y hi;exact⟨us,CR.ers g,by rw[Di]; exact h2⟩
 |.fsl t,xs,vs,h=>by
  obtain⟨base,cap,e,q,h⟩:=h.old;obtain⟨l,p⟩:=wJ (Ō t).symm xs;show CR w av (.slice (Go.Am.ers t)) (cast (congrArg AS (Ō t).symm) xs) vs;refine⟨base,cap,by rw[l]; exact e,by rw[l]; exact q,?_⟩;rcases h with h|⟨b,off,hb,d,f,h⟩
  ·exact .inl (dg.1 (by rw[l,show xs=[] from h]; rfl))
  ·refine .inr ⟨b,off,hb,d,f,fun i x c=>?_⟩;rw[p] at c
   cases hi:(xs:AS (Val t))[i]? with
   |none=>rw[hi] at c; cases c
   |some y =>
    rw[hi] at c; cases c;obtain⟨us,g,h2⟩:=h i y hi;exact⟨us,CR.ers g,by rw[Di]; exact h2⟩
 |.map k v,es,vs,h=>by
  obtain⟨r,e,h⟩:=h
  have o:(Val k×Val v)=(Val (Go.Am.ers k)×Val (Go.Am.ers v)):=by rw[Ō k,Ō v]
  obtain⟨l,p⟩:=wJ o es;show CR w av (.map (Go.Am.ers k) (Go.Am.ers v)) (cast (congrArg AS o) es) vs;refine⟨r,e,?_⟩;rcases h with⟨g,h⟩|⟨b,j,n,z,d,A,u,h⟩
  ·exact .inl ⟨g,dg.1 (by rw[l,show es=[] from h]; rfl)⟩
  ·refine .inr ⟨b,j,n,z,d,A,by rw[l]; exact u,fun i x c=>?_⟩;rw[p] at c
   cases hi:(es:AS (Val k×Val v))[i]? with
   |none=>rw[hi] at c; cases c
   |some y =>
    rw[hi] at c; cases c;obtain⟨m,us,g,h2,C,B⟩:=h i y hi;rw[U1 (Ō k).symm (Ō v).symm o];exact⟨m,us,g,CR.ers h2,CR.ers C,by rw[B]; unfold uC; rw[adL]⟩
 |.ptr t,x,vs,h=>by
  obtain⟨b,off,us,e,d,f,g,h2⟩:=h;exact⟨b,off,us,e,d,f,CR.ers g,h2⟩
 |.pair a b,x,vs,h=>by
  obtain⟨us,s,e,g,h2⟩:=h
  have o:(Val a×Val b)=(Val (Go.Am.ers a)×Val (Go.Am.ers b)):=by rw[Ō a,Ō b]
  show CR w av (.pair (Go.Am.ers a) (Go.Am.ers b)) (cast o x) vs;rw[U1 (Ō a).symm (Ō b).symm o];exact⟨us,s,e,CR.ers g,CR.ers h2⟩
def abI {av:Nat->Prop}:∀{t:Ty} {l:AS AV} {x:Val t} {f:AS AV} {vs:AS Value},Ő t l=some (x,f)->ò (VRs w av) l vs ->
 ∃us g,vs=us++g/\CR w av t x us/\ò (VRs w av) f g:=by
 intro t
 induction t with
 |unit=>intro l x f vs e c; simp only[Ő,Option.some.injEq,Prod.mk.injEq] at e; obtain⟨_,rfl⟩:=e; exact⟨[],vs,rfl,rfl,c⟩
 |bool =>
  intro l x f vs e c
  rcases l with _|⟨a,l⟩<;>try (simp[Ő] at e; done)
  cases a<;>simp only[Ő,reduceCtorEq,Option.some.injEq,Prod.mk.injEq] at e
  obtain⟨rfl,rfl⟩:=e
  cases vs with
  |nil=>exact c.elim
  |cons v vs=>exact⟨[v],vs,rfl,by rw[show v=_ from c.1]; rfl,c.2⟩
 |str =>
  intro l x f vs e c
  rcases l with _|⟨a,l⟩<;>try (simp[Ő] at e; done)
  cases a<;>simp only[Ő,reduceCtorEq,Option.some.injEq,Prod.mk.injEq] at e
  obtain⟨rfl,rfl⟩:=e
  cases vs with
  |nil=>exact c.elim
  |cons v vs=>exact⟨[v],vs,rfl,by rw[show v=_ from c.1]; rfl,c.2⟩
 |int k =>
  intro l x f vs e c
  rcases l with _|⟨a,l⟩<;>try (simp[Ő] at e; done)
  cases a<;>simp only[Ő,reduceCtorEq] at e
  split at e
  ·rename_i d _; subst d;simp only[Option.some.injEq,Prod.mk.injEq] at e;obtain⟨rfl,rfl⟩:=e
   cases vs with
   |nil=>exact c.elim
   |cons v vs=>exact⟨[v],vs,rfl,by rw[show v=_ from c.1]; rfl,c.2⟩
  ·cases e
 |slice t _ =>
  intro l x f vs e c
  rcases l with _|⟨a,l⟩<;>try (simp[Ő] at e; done)
  cases a<;>simp only[Ő,reduceCtorEq] at e
  ·simp only[Option.some.injEq,Prod.mk.injEq] at e;obtain⟨rfl,rfl⟩:=e
   cases vs with
   |nil=>exact c.elim
   |cons v vs=>exact⟨[v],vs,rfl,⟨none,0,by rw[show v=_ from c.1]; rfl,by simp,.inl rfl⟩,c.2⟩
  ·split at e
   ·rename_i d _; subst d;simp only[Option.some.injEq,Prod.mk.injEq] at e;obtain⟨rfl,rfl⟩:=e
    cases vs with
    |nil=>exact c.elim
    |cons v vs=>exact⟨[v],vs,rfl,c.1,c.2⟩
   ·cases e
  ·split at e
   ·rename_i d _; subst d;simp only[Option.some.injEq,Prod.mk.injEq] at e;obtain⟨rfl,rfl⟩:=e
    cases vs with
    |nil=>exact c.elim
    |cons v vs=>exact⟨[v],vs,rfl,CR.old (show CR w av (.fsl _) _ _ from c.1),c.2⟩
   ·split at e
    ·rename_i d _; subst d;simp only[Option.some.injEq,Prod.mk.injEq] at e;obtain⟨rfl,rfl⟩:=e
     cases vs with
     |nil=>exact c.elim
     |cons v vs=>exact⟨[v],vs,rfl,CR.ers (t:=.fsl _) c.1,c.2⟩
    ·cases e
 |fsl t _ =>
  intro l x f vs e c
  rcases l with _|⟨a,l⟩<;>try (simp[Ő] at e; done)
  cases a<;>simp only[Ő,reduceCtorEq] at e
  ·simp only[Option.some.injEq,Prod.mk.injEq] at e;obtain⟨rfl,rfl⟩:=e
   cases vs with
   |nil=>exact c.elim
   |cons v vs=>exact⟨[v],vs,rfl,⟨none,0,by rw[show v=_ from c.1]; rfl,by simp,.inl rfl⟩,c.2⟩
  ·split at e
   ·rename_i d _; subst d;simp only[Option.some.injEq,Prod.mk.injEq] at e;obtain⟨rfl,rfl⟩:=e
    cases vs with
    |nil=>exact c.elim
    |cons v vs=>exact⟨[v],vs,rfl,c.1,c.2⟩
   ·cases e
 |map k v _ _ =>
  intro l x f vs e c
  rcases l with _|⟨a,l⟩<;>try (simp[Ő] at e; done)
  cases a<;>simp only[Ő,reduceCtorEq] at e
  ·simp only[Option.some.injEq,Prod.mk.injEq] at e;obtain⟨rfl,rfl⟩:=e
   cases vs with
   |nil=>exact c.elim
   |cons v vs=>exact⟨[v],vs,rfl,⟨none,by rw[show v=_ from c.1],.inl ⟨rfl,rfl⟩⟩,c.2⟩
  ·split at e
   ·rename_i d _;cases d;simp only[Option.some.injEq,Prod.mk.injEq] at e;obtain⟨rfl,rfl⟩:=e
    cases vs with
    |nil=>exact c.elim
    |cons v vs=>exact⟨[v],vs,rfl,c.1,c.2⟩
   ·cases e
 |ptr t _ =>
  intro l x f vs e c
  rcases l with _|⟨a,l⟩<;>try (simp[Ő] at e; done)
  cases a<;>try (simp[Ő] at e; done)
  rename_i A z off
  cases off<;>try (simp[Ő] at e; done)
  simp only[Ő] at e
  split at e
  ·rename_i d _; subst d;simp only[Option.some.injEq,Prod.mk.injEq] at e;obtain⟨rfl,rfl⟩:=e
   cases vs with
   |nil=>exact c.elim
   |cons v vs =>
    obtain⟨b,o,us,n,h2,m,j,q⟩:=c.1;exact⟨[v],vs,rfl,⟨b,o,us,by rw[n]; rfl,h2,m,j,q⟩,c.2⟩
  ·cases e
 |pair a b iha ihb =>
  intro l x f vs e c;simp only[Ő] at e
  split at e
  ·rename_i y C s
   split at e
   ·rename_i u B r;simp only[Option.some.injEq,Prod.mk.injEq] at e;obtain⟨rfl,rfl⟩:=e;obtain⟨us,g,rfl,n,h2⟩:=iha s c;obtain⟨p,i,rfl,m,j⟩:=ihb r h2;exact⟨us++p,i,by simp,⟨us,p,rfl,n,m⟩,j⟩
   ·cases e
  ·cases e
def Ĝ {av:Nat->Prop} {t:Ty} {l:AS AV} {x:Val t} {vs:AS Value} (e:Ù t l=some x) (b:ò (VRs w av) l vs):CR w av t x vs:=by
 unfold Ù at e
 split at e<;>try (cases e; done)
 rename_i y c;cases e;obtain⟨us,a,rfl,d,h2⟩:=abI c b
 cases a with
 |nil=>simpa using d
 |cons=>exact h2.elim
end
end Go.Am
end

noncomputable section
namespace Go.Am
variable [ë] [Ð]
section
variable {ν ν':Nat->Value} {h h':AS Blk} {w w':World}
def HR.dat (H:HR ν h w) {b:Nat} (hb:uM ν h b):∃o,w.heap[b]?=some o/\Ie o=true:=by
 obtain⟨id,n,a⟩:=hb;have d:=H.blk id
 cases e:lkB h id with
 |dead=>rw[e] at n; cases n
 |cells cs =>
  rw[e] at d;obtain⟨m,c,x,f,h2,_⟩:=d;rw[f] at a; cases a; exact⟨_,h2,rfl⟩
 |row t g fz xs =>
  rw[e] at d n
  cases fz with
  |true=>cases n
  |false =>
   obtain⟨base,cap,f,_,h2⟩:=d;rcases h2 with⟨rfl,_⟩|⟨m,off,c,x,rfl,h2,_⟩
   ·rw[f] at a; cases a
   ·rw[f] at a; cases a; exact⟨_,h2,rfl⟩
 |map k v es =>
  rw[e] at d;obtain⟨m,j,l,f,h2,_⟩:=d;rw[f] at a; cases a; exact⟨_,h2,rfl⟩
 |fns es =>
  rw[e] at d;obtain⟨m,j,l,f,h2,_⟩:=d;rw[f] at a; cases a; exact⟨_,h2,rfl⟩
 |iter s q =>
  rw[e] at d;obtain⟨m,f,h2,_⟩:=d;rw[f] at a; cases a; exact⟨_,h2,rfl⟩
 |deep k g xss =>
  rw[e] at d;obtain⟨base,cap,us,f,B,ha,h2,z⟩:=d;rw[f] at a;obtain⟨u,p,hb⟩:=a;rcases cW.1 (by simpa using p) with rfl|p
  ·rcases h2 with⟨rfl,_⟩|⟨m,off,c,x,rfl,h2,_⟩
   ·cases hb
   ·cases hb; exact⟨_,h2,rfl⟩
  ·obtain⟨i,hi,rfl⟩:=dh.1 p;obtain⟨xs,_,y⟩:=z.get' (cI hi);obtain⟨base',cap',A,_,r⟩:=y;rw[A] at hb;rcases r with⟨rfl,_⟩|⟨m,off,c,x,rfl,r,_⟩
   ·cases hb
   ·cases hb; exact⟨_,r,rfl⟩
 |acc t xs =>
  rw[e] at d;obtain⟨us,f,h2,_⟩:=d;exact h2 b a
def HR.lt (H:HR ν h w) {b:Nat} (hb:uM ν h b):b<w.heap.size:=by
 obtain⟨o,a,_⟩:=H.dat hb;exact à a
def HR.nd {m:Nat} (H:HR ν h w) (e:Ev m ν h w ν' h' w') (b:Nat) (o:Obj) (hb:w.heap[b]?=some o) (c:Ie o=false):w'.heap[b]?=some o :=
 ((e.keep b (à hb) fun d=>by obtain⟨o',a,h2⟩:=H.dat d; rw[hb] at a; cases a; rw[c] at h2; cases h2).1).trans hb
def HR.gl {m:Nat} (H:HR ν h w) (e:Ev m ν h w ν' h' w') (b:Nat) (hb:b<ë.n):w'.heap[b]?=w.heap[b]? :=
 (e.keep b (by obtain⟨o,a,_⟩:=ë.dat w H.glob b hb; exact à a) (H.globL b hb)).1
def HR.globLE {m:Nat} (H:HR ν h w) (e:Ev m ν h w ν' h' w') (b:Nat) (hb:b<ë.n):¬uM ν' h' b :=
 (e.keep b (by obtain⟨o,a,_⟩:=ë.dat w H.glob b hb; exact à a) (H.globL b hb)).2
def HR.globE {m:Nat} (H:HR ν h w) (e:Ev m ν h w ν' h' w'):ë.Φ w':=ë.keep _ _ H.glob fun b hb=>H.gl e b hb
def HR.ltA (H:HR ν h w) {b:Nat} (hb:Av ν h b):b<w.heap.size:=hb.elim H.lt fun a=>H.ghlt b (.inl a)
def Xq.keep {k:IntKind} {xs:AS Int} {u:Value} (h:Xq w k xs u) (d:∀b,jz u=some b->b<w.heap.size->w'.heap[b]?=w.heap[b]?):Xq w' k xs u:=by
 obtain⟨base,cap,rfl,f,a⟩:=h;refine⟨base,cap,rfl,f,?_⟩;rcases a with a|⟨b,off,c,e,rfl,h2,g⟩
 ·exact .inl a
 ·exact .inr ⟨b,off,c,e,rfl,(d b rfl (à h2)).trans h2,g⟩
def ò.keepRows {k:IntKind}:∀{xss:AS (AS Int)} {us:AS Value},ò (Xq w k) xss us->(∀u∈us,∀b,jz u=some b->b<w.heap.size->w'.heap[b]?=w.heap[b]?)->ò (Xq w' k) xss us
 |[],[],_,_=>trivial
 |_::_,_::_,h,a=>⟨h.1.keep (a _ (by simp)),ò.keepRows h.2 fun u c=>a u (by simp[c])⟩
 |[],_::_,h,_=>h.elim
 |_::_,[],h,_=>h.elim
def BR.ev (e:Ev h.length ν h w ν' h' w') (F:∀(b:Nat) (o:Obj),w.heap[b]?=some o->Ie o=false->w'.heap[b]?=some o) (I:∀b,b<ë.n->w'.heap[b]?=w.heap[b]?) {id:Nat} (d:ν' id=ν id)
 (l:∀b,(lkB h id).live=true->ę (ν id) b->b<w.heap.size->w'.heap[b]?=w.heap[b]?) (H:BR ν h w id (lkB h id)):BR ν' h' w' id (lkB h id):=by
 cases y:lkB h id with
 |dead=>trivial
 |cells cs =>
  rw[y] at H l;obtain⟨b,c,C,f,h2,p⟩:=H;exact⟨b,c,C,d.trans f,(l b rfl (by rw[f]; rfl) (à h2)).trans h2,p.mono fun _ _=>VRc.ev e⟩
 |row t g fz xs =>
  rw[y] at H l
  cases fz with
  |true =>
   show CR w' _ _ _ [ν' id];rw[d]; exact CR.keep e.keepA H
  |false =>
   obtain⟨base,cap,f,J,h2⟩:=H;refine⟨base,cap,d.trans f,J,?_⟩;rcases h2 with h2|⟨b,off,c,C,rfl,p,r,B⟩
   ·exact .inl h2
   ·have L:=l b rfl (by rw[f]; rfl) (à p);refine .inr ⟨b,off,c,C,rfl,L.trans p,r,fun i x z=>?_⟩;obtain⟨us,A,K⟩:=B i x z;exact⟨us,CR.keep e.keepA A,K.keep L⟩
 |map k v es =>
  rw[y] at H l;obtain⟨b,a,j,f,h2,Q,p⟩:=H;refine⟨b,a,j,d.trans f,(l b rfl (by rw[f]; rfl) (à h2)).trans h2,Q,fun i x z=>?_⟩;obtain⟨m,us,r,B,A,K⟩:=p i x z;exact⟨m,us,r,CR.keep e.keepA B,CR.keep e.keepA A,K⟩
 |fns es =>
  rw[y] at H l;obtain⟨b,a,j,f,h2,p⟩:=H;exact⟨b,a,j,d.trans f,(l b rfl (by rw[f]; rfl) (à h2)).trans h2,p.mono fun _ _ q=>⟨q.1,q.2.1,q.2.2.ev e⟩⟩
 |iter s q =>
  rw[y] at H l;obtain⟨b,f,h2,p⟩:=H;exact⟨b,d.trans f,(l b rfl (by rw[f]; rfl) (à h2)).trans h2,p⟩
 |deep k g xss =>
  rw[y] at H l;obtain⟨base,cap,us,f,J,ha,h2,p⟩:=H;have own:∀u∈Value.slice base xss.length cap::us,∀b,jz u=some b->b<w.heap.size->w'.heap[b]?=w.heap[b]?:=fun u D b hb G=>l b rfl (by rw[f]; exact⟨u,by simpa using D,hb⟩) G;refine⟨base,cap,us,d.trans f,J,ha,?_,p.keepRows fun u D=>own u (by simp[D])⟩;rcases h2 with h2|⟨b,off,c,C,rfl,r,B,A⟩
  ·exact .inl h2
  ·exact .inr ⟨b,off,c,C,rfl,(own _ (.head _) b rfl (à r)).trans r,B,A⟩
 |acc t xs =>
  rw[y] at H l;obtain⟨us,f,h2,p,r⟩:=H;have same:∀b o,w.heap[b]?=some o->ę (ν id) b->w'.heap[b]?=some o:=fun b o hb E=>(l b rfl E (à hb)).trans hb;refine⟨us,d.trans f,fun b hb=>?_,p,?_⟩
  ·rw[d] at hb;obtain⟨o,O,N⟩:=h2 b hb;exact⟨o,same b o O hb,N⟩
  ·rw[d];refine Ð.st _ _ _ _ _ _ r ⟨e.os,e.tape,e.output,e.size,fun b hb S=>(e.keepA b hb S).2,fun b o hb _ z=>?_,fun b o hb E _=>F b o hb E,fun _ b hb=>I b hb⟩
   by_cases M:Av ν h b
   ·exact same b o hb (z M)
   ·exact(e.keepA b (à hb) M).1.trans hb
def í (ν:Nat->Value) (id:Nat) (v:Value):Nat->Value:=fun i=>if i=id then v else ν i
def Í (ν:Nat->Value) (id:Nat) (v:Value):í ν id v id=v:=by simp[í]
def ý (ν:Nat->Value) {id j:Nat} (v:Value) (a:j≠id):í ν id v j=ν j:=by simp[í,a]
def i5 (ν:Nat->Value) (id:Nat):í ν id (ν id)=ν:=by
 funext i; unfold í; split<;>simp_all
def Ü {h:AS Blk} {id:Nat} (B:Blk) (a:id<h.length):lkB (ì h id B) id=B:=by simp[tg,a]
def Ó {h:AS Blk} {id j:Nat} (B:Blk) (a:j≠id):lkB (ì h id B) j=lkB h j:=by simp[tg,a]
def Ev.upd (H:HR ν h w) {id:Nat} {B:Blk} {V:Value} (n:id<h.length) (p:w'.os=w.os) (c:w'.tape=w.tape) (m:w'.output=w.output)
 (d:w.heap.size<=w'.heap.size)
 (f:∀b,b<w.heap.size->((lkB h id).live=true->¬ę (ν id) b)->w'.heap[b]?=w.heap[b]?)
 (x:B.live=true->∀b,ę V b->((lkB h id).live=true/\ę (ν id) b)\/w.heap.size<=b)
 (e:(lkB h id).next ν (í ν id V) id B):Ev h.length ν h w (í ν id V) (ì h id B) w':=by
 refine⟨p,c,m,d,fun b hb r=>⟨f b hb fun i l=>r ⟨id,i,l⟩,?_⟩,fun j o=>?_⟩
 ·rintro⟨j,i,l⟩
  by_cases o:j=id
  ·subst o;rw[Ü B n] at i;rw[Í] at l;rcases x i b l with⟨u,h2⟩|u
   ·exact r ⟨j,u,h2⟩
   ·omega
  ·rw[Ó B o] at i;rw[ý ν V o] at l;exact r ⟨j,i,l⟩
 ·by_cases a:j=id
  ·subst a; rw[Ü B n]; exact e
  ·rw[Ó B a];have:=Blk.next_refl ν j (lkB h j)
   cases y:lkB h j with
   |dead=>trivial
   |cells cs=>exact⟨⟨cs,rfl⟩,ý ν V a⟩
   |row t g fz xs=>exact⟨g,fz,xs,rfl,cJ _,fun _=>⟨ý ν V a,rfl⟩⟩
   |map k v es=>exact⟨⟨es,rfl⟩,ý ν V a⟩
   |deep k g xss=>exact⟨g,xss,rfl,cJ _,fun _=>⟨ý ν V a,rfl⟩⟩
   |acc t xs=>exact⟨xs,rfl⟩
   |fns es=>exact⟨⟨es,rfl⟩,ý ν V a⟩
   |iter s q=>exact⟨⟨q,rfl⟩,ý ν V a⟩
def HR.upd (H:HR ν h w) {id:Nat} {B:Blk} {V:Value} (f:id<h.length) (e:Ev h.length ν h w (í ν id V) (ì h id B) w')
 (k:∀b,b<w.heap.size->((lkB h id).live=true->¬ę (ν id) b)->w'.heap[b]?=w.heap[b]?)
 (r:B.live=true->∀b,ę V b->((lkB h id).live=true/\ę (ν id) b)\/w.heap.size<=b)
 (t:BR (í ν id V) (ì h id B) w' id B):HR (í ν id V) (ì h id B) w':=by
 refine⟨fun j=>?_,fun i j b hi a d c=>?_,fun b hb=>df (H.ghlt b hb) e.size,fun j b l hb=>?_,H.globE e,H.globLE e⟩
 rotate_left 2
 ·by_cases a:j=id
  ·subst a;rw[Ü B f] at l;rw[Í] at hb;rcases r l b hb with⟨g,n⟩|g
   ·exact H.ghne j b g n
   ·exact fun s=>by have:=H.ghlt b s; omega
  ·rw[Ó B a] at l;rw[ý ν V a] at hb;exact H.ghne j b l hb
 ·by_cases a:j=id
  ·subst a; rw[Ü B f]; exact t
  ·rw[Ó B a];refine BR.ev e (H.nd e) (H.gl e) (ý ν V a) (fun b l hb o=>k b o fun p q=>a (H.inj j id b l p hb q)) (H.blk j)
 ·by_cases m:i=id<;>by_cases h2:j=id
  ·rw[m,h2]
  ·subst m;rw[Ü B f] at hi; rw[Ó B h2] at a;rw[Í] at d; rw[ý ν V h2] at c;rcases r hi b d with⟨g,n⟩|g
   ·exact H.inj i j b g a n c
   ·have:=H.lt ⟨j,a,c⟩; omega
  ·subst h2;rw[Ó B m] at hi; rw[Ü B f] at a;rw[ý ν V m] at d; rw[Í] at c;rcases r a b c with⟨g,n⟩|g
   ·exact H.inj i j b hi g d n
   ·have:=H.lt ⟨i,hi,d⟩; omega
  ·rw[Ó B m] at hi; rw[Ó B h2] at a;rw[ý ν V m] at d; rw[ý ν V h2] at c;exact H.inj i j b hi a d c
def Ev.new (H:HR ν h w) {id:Nat} {B:Blk} {V:Value} {o:Obj} {w':World} (d:id<h.length) (hd:lkB h id=.dead) (i:w'.heap=w.heap.push o) (g:w'.os=w.os) (a:w'.tape=w.tape) (c:w'.output=w.output)
 (k:∀b,ę V b->b=w.heap.size)
 (l:Ev h.length ν h w (í ν id V) (ì h id B) w'->BR (í ν id V) (ì h id B) w' id B) :
 Ev h.length ν h w (í ν id V) (ì h id B) w'/\HR (í ν id V) (ì h id B) w':=by
 have j:∀b,b<w.heap.size->((lkB h id).live=true->¬ę (ν id) b)->w'.heap[b]?=w.heap[b]?:=fun b hb _=>by
  rw[i,eG]; simp[fG hb]
 have f:B.live=true->∀b,ę V b->((lkB h id).live=true/\ę (ν id) b)\/w.heap.size<=b:=fun _ b hb=>.inr (by rw[k b hb]; exact cJ _);have e:=Ev.upd H (B:=B) (V:=V) d g a c (by rw[i]; simp) j f (by rw[hd]; trivial);exact⟨e,HR.upd H d e j f (l e)⟩
def Ę (b off n:Nat):(⟨b,off,none⟩:Addr).add n=⟨b,off+n,none⟩:=by
 unfold Addr.add; split
 ·rename_i h; subst h; rfl
 ·rfl
def HR.row_data (H:HR ν h w) {id g:Nat} {t:Ty} {fz:Bool} {xs:AS (Val t)} (hb:lkB h id=.row t g fz xs) :
 ∃base cap,ν id=.slice base xs.length cap/\xs.length<=cap/\(base=none->cap=0\/xs=[])/\((xs:AS (Val t))=[]\/∃b off,base=some ⟨b,off,none⟩/\b<w.heap.size/\(fz=true->¬Av ν h b) /\
  ∀i x,(xs:AS (Val t))[i]?=some x->∃us,CR w (Av ν h) t x us/\Ď w b (off+i*t.size) us):=by
 have j:=H.blk id;rw[hb] at j
 cases fz with
 |true =>
  obtain⟨base,cap,l,h2,a⟩:=j;refine⟨base,cap,by simpa using l,h2,fun f=>?_,?_⟩
  ·rcases a with a|⟨b,off,c,e,a,_⟩
   ·exact .inr a
   ·rw[f] at a; cases a
  ·rcases a with a|⟨b,off,c,e,a,d,_,m,_,k⟩
   ·exact .inl a
   ·exact .inr ⟨b,off,a,à m,fun _=>d,k⟩
 |false =>
  obtain⟨base,cap,l,h2,a⟩:=j;refine⟨base,cap,l,h2,fun f=>?_,?_⟩
  ·rcases a with⟨a,d⟩|⟨b,off,c,e,a,_⟩
   ·exact .inl d
   ·rw[f] at a; cases a
  ·rcases a with⟨a,d⟩|⟨b,off,c,e,a,d,m,k⟩
   ·exact .inl (dg.1 (by omega))
   ·exact .inr ⟨b,off,a,à d,fun n=>(by cases n),k⟩
def HR.row_new (H:HR ν h w) {id g:Nat} {t:Ty} {fz:Bool} {xs:AS (Val t)} (m:lkB h id=.row t g fz xs):∃base cap,ν id=.slice base xs.length cap/\xs.length<=cap /\
 (xs=[]\/∃b off c e,base=some ⟨b,off,none⟩/\(fz=true->¬Av ν h b)/\¬ë.E b/\w.heap[b]?=some (.cells c e (0,0))/\off+xs.length*t.size<=c.size /\
  ∀i x,xs[i]?=some x->∃us,CR w (Av ν h) t x us/\Ď w b (off+i*t.size) us):=by
 have k:=H.blk id;have d:=H.ghne id;rw[m] at k d
 cases fz with
 |true =>
  obtain⟨base,cap,j,h2,a⟩:=k;refine⟨base,cap,by simpa using j,h2,?_⟩;rcases a with a|⟨b,off,c,e,a,f,l⟩
  ·exact .inl a
  ·exact .inr ⟨b,off,c,e,a,fun _=>f,l⟩
 |false =>
  obtain⟨base,cap,j,h2,a⟩:=k;refine⟨base,cap,j,h2,?_⟩;rcases a with⟨a,f⟩|⟨b,off,c,e,a,f,l,p⟩
  ·exact .inl (dg.1 (by omega))
  ·refine .inr ⟨b,off,c,e,a,fun n=>(by cases n),fun o=>d b rfl (by rw[j,a]; rfl) (.inr o),f,dc (Nat.add_le_add_left (dl _ h2) _) l,p⟩
def AJ (H:HR ν h w) {av:Nat->Prop} (d:∀b,av b->Av ν h b) {a:AV} {v:Value} (f:VR1 ν h w a v)
 (r:∀id b,(∃g,a=.own id g)\/(∃g lo n,a=.sub id g lo n)\/a=.omp id->(lkB h id).live=true->ę (ν id) b->¬av b):VRs w av (ñ h a) v:=by
 cases a with
 |own id g =>
  obtain⟨Q,t,g',fz,xs,j,J,A⟩:=f;simp only[ñ,j]
  cases s:g==g' with
  |false=>trivial
  |true =>
   have K:g=g':=by simpa using s
   obtain⟨base,cap,q,h2,o⟩:=H.row_new j;rw[A K,q];refine⟨base,cap,rfl,h2,?_⟩;rcases o with o|⟨b,off,c,e,rfl,D,M,E,O,C⟩
   ·exact .inl o
   ·refine .inr ⟨b,off,c,e,rfl,?_,M,E,O,fun i x p=>?_⟩
    ·cases fz with
     |true=>exact fun ha=>D rfl (d b ha)
     |false=>exact r id b (.inl ⟨g,rfl⟩) (by rw[j]; rfl) (by rw[q]; rfl)
    ·obtain⟨us,B,N⟩:=C i x p;exact⟨us,CR.mono d B,N⟩
 |sub id g lo n =>
  obtain⟨Q,t,g',fz,xs,j,J,A⟩:=f;simp only[ñ,j]
  cases s:g==g' with
  |false=>trivial
  |true =>
   have K:g=g':=by simpa using s
   obtain⟨z,base',cap',y,I⟩:=A K;obtain⟨base,cap,q,h2,o⟩:=H.row_new j
   rw[q] at y; injection y with V W U; subst V; subst U
   have F:((xs.drop lo).take n).length=n:=by simp; omega
   refine⟨_,cap-lo,by rw[F]; exact congrArg (fun x=>[x]) I,by rw[F]; omega,?_⟩
   by_cases L:cap=lo
   ·exact .inl (dg.1 (by rw[F]; omega))
   rcases o with o|⟨b,off,c,e,rfl,D,M,E,O,C⟩
   ·exact .inl (by rw[o]; simp)
   ·refine .inr ⟨b,off+lo*t.size,c,e,by rw[if_neg L]; simp[Ę],?_,M,E,?_,fun i x p=>?_⟩
    ·cases fz with
     |true=>exact fun ha=>D rfl (d b ha)
     |false=>exact r id b (.inr (.inl ⟨g,lo,n,rfl⟩)) (by rw[j]; rfl) (by rw[q]; rfl)
    ·rw[F];have:=dl t.size z;rw[dz] at this;omega
    ·have G:xs[lo+i]?=some x:=by
      rw[dY] at p
      split at p
      ·simpa using p
      ·cases p
     obtain⟨us,B,N⟩:=C (lo+i) x G;refine⟨us,CR.mono d B,?_⟩
     have:off+lo*t.size+i*t.size=off+(lo+i)*t.size:=by rw[dz]; omega
     rw[this]; exact N
 |omp id =>
  obtain⟨Q,k,t,es,j,A⟩:=f;simp only[ñ,j];have S:=H.blk id;rw[j] at S;obtain⟨b,l,u,q,h2,T,o⟩:=S;rw[A,q];refine⟨some b,rfl,.inr ⟨b,l,u,rfl,r id b (.inr (.inr rfl)) (by rw[j]; rfl) (by rw[q]; rfl),h2,T,fun i x p=>?_⟩⟩;obtain⟨m,us,E,D,C,B⟩:=o i x p;exact⟨m,us,E,CR.mono d D,CR.mono d C,B⟩
 |any=>trivial
 |und=>trivial
 |bool=>exact f
 |int=>exact f
 |str=>exact f
 |nils=>exact f
 |slc=>exact CR.mono d f
 |fsc=>exact CR.mono d f
 |nilm=>exact f
 |mp=>exact CR.mono d f
 |nilp=>trivial
 |box=>trivial
 |eptr=>exact VRs.mono (a:=.eptr _ _ _) d f
 |optr=>trivial
 |dp=>trivial
 |dq=>trivial
 |dr=>trivial
 |de=>trivial
 |nilfn=>trivial
 |yld=>trivial
 |ifc=>trivial
 |ofn=>trivial
 |oit=>trivial
 |fn=>trivial
 |agg=>exact f.elim
 |tup=>exact f.elim
def M6 (H:HR ν h w) {a:AV} {v:Value} (d:VR1 ν h w a v):VRs w Ð.G (ñ h a) v :=
 AJ H (fun _ c=>.inr c) d fun id b _ e hb c=>H.ghne id b e hb (.inl c)
def FS (H:HR ν h w) {id g:Nat} {t:Ty} {fz:Bool} {xs:AS (Val t)} (o:lkB h id=.row t g fz xs) :
 Ev h.length ν h w ν (ì h id (.row t g true xs)) w/\HR ν (ì h id (.row t g true xs)) w/\(∀b,Av ν (ì h id (.row t g true xs)) b->Av ν h b) /\
  ((lkB h id).live=true->∀b,ę (ν id) b->¬Av ν (ì h id (.row t g true xs)) b):=by
 have m:id<h.length:=Ņ o (by simp)
 have a:∀b,Av ν (ì h id (.row t g true xs)) b->Av ν h b:=by
  rintro b (⟨j,d,h2⟩|p)
  ·by_cases n:j=id
   ·subst n; rw[Ü _ m] at d; cases d
   ·rw[Ó _ n] at d; exact .inl ⟨j,d,h2⟩
  ·exact .inr p
 have f:∀b,b<w.heap.size->((lkB h id).live=true->¬ę (ν id) b)->w.heap[b]?=w.heap[b]?:=fun _ _ _=>rfl
 have s:(Blk.row t g true xs).live=true->∀b,ę (ν id) b->((lkB h id).live=true/\ę (ν id) b)\/w.heap.size<=b:=fun z=>by cases z
 have e:Ev h.length ν h w (í ν id (ν id)) (ì h id (.row t g true xs)) w:=Ev.upd H m rfl rfl rfl (cJ _) f s (by
  rw[o]; exact⟨g,true,xs,rfl,cJ _,fun _=>⟨Í _ _ _,rfl⟩⟩)
 have k:∀b,ę (ν id) b->(lkB h id).live=true->¬Av ν (ì h id (.row t g true xs)) b:=by
  rintro b hb l (⟨j,d,h2⟩|p)
  ·by_cases n:j=id
   ·subst n; rw[Ü _ m] at d; cases d
   ·rw[Ó _ n] at d; exact n (H.inj j id b d l h2 hb)
  ·exact H.ghne id b l hb (.inl p)
 have r:HR (í ν id (ν id)) (ì h id (.row t g true xs)) w:=by
  refine HR.upd H m e f s ?_;show CR w _ (.fsl t) xs [í ν id (ν id) id];rw[i5]
  cases fz with
  |true =>
   have u:=H.blk id;rw[o] at u;exact CR.mono a u
  |false =>
   obtain⟨base,cap,d,h2,q⟩:=H.row_new o;rw[d];refine⟨base,cap,rfl,h2,?_⟩;rcases q with q|⟨b,off,c,e,rfl,F,A,E,v,D⟩
   ·exact .inl q
   ·refine .inr ⟨b,off,c,e,rfl,k b (by rw[d]; rfl) (by rw[o]; rfl),A,E,v,fun i x y=>?_⟩;obtain⟨us,C,B⟩:=D i x y;exact⟨us,CR.mono a C,B⟩
 rw[i5] at e r;exact⟨e,r,a,fun l b hb=>k b hb l⟩
def lI (h:AS Blk) (a:AV):(o9 h a).length=h.length:=by
 cases a<;>try rfl
 all_goals
  simp only[o9]
  split<;>first|rfl|exact Ï _ _ _
def Ko (H:HR ν h w) (a:AV):Ev h.length ν h w ν (o9 h a) w/\HR ν (o9 h a) w/\(∀b,Av ν (o9 h a) b->Av ν h b):=by
 have c:Ev h.length ν h w ν h w/\HR ν h w/\(∀b,Av ν h b->Av ν h b):=⟨Ev.refl _ _ _ _,H,fun _ hb=>hb⟩
 cases a<;>try exact c
 ·rename_i id g;simp only[o9]
  cases d:lkB h id<;>first|exact c|exact⟨(FS H d).1,(FS H d).2.1,(FS H d).2.2.1⟩
 ·rename_i id g lo n;simp only[o9]
  cases d:lkB h id<;>first|exact c|exact⟨(FS H d).1,(FS H d).2.1,(FS H d).2.2.1⟩
def Kn (H:HR ν h w) {a:AV} {v:Value} (d:VR1 ν h w a v) (i:Ig a=true):VRs w (Av ν (o9 h a)) (ñ h a) v:=by
 refine AJ H (Ko H a).2.2 d fun id b j e hb=>?_;rcases j with⟨g,rfl⟩|⟨g,lo,n,rfl⟩|rfl
 ·obtain⟨f,t,g',fz,xs,c,_⟩:=d;simp only[o9,c];exact(FS H c).2.2.2 e b hb
 ·obtain⟨f,t,g',fz,xs,c,_⟩:=d;simp only[o9,c];exact(FS H c).2.2.2 e b hb
 ·cases i
def DW (h:AS Blk) (a b:AV):ñ (o9 h a) b=ñ h b:=by
 have c:∀(id g:Nat) (t:Ty) (fz:Bool) (xs:AS (Val t)),lkB h id=.row t g fz xs->ñ (ì h id (.row t g true xs)) b=ñ h b:=by
  intro id g t fz xs m;have i:id<h.length:=Ņ m (by simp)
  have e:∀j,(∀{α:Type} (f:(t:Ty)->Nat->AS (Val t)->α) (d:α),(match lkB (ì h id (.row t g true xs)) j with|.row t g _ xs=>f t g xs|_=>d)=(match lkB h j with|.row t g _ xs=>f t g xs|_=>d)) /\
   (∀{α:Type} (f:(k v:Ty)->AS (Val k×Val v)->α) (d:α),(match lkB (ì h id (.row t g true xs)) j with|.map k v es=>f k v es|_=>d)=(match lkB h j with|.map k v es=>f k v es|_=>d)):=by
   intro j
   by_cases o:j=id
   ·subst o; rw[Ü _ i,m]; exact⟨fun _ _=>rfl,fun _ _=>rfl⟩
   ·rw[Ó _ o]; exact⟨fun _ _=>rfl,fun _ _=>rfl⟩
  cases b with
  |own j l=>exact(e j).1 (fun t g' xs=>match l==g' with|true=>AV.fsc t xs|false=>.any) .any
  |sub j l lo n=>exact(e j).1 (fun t g' xs=>match l==g' with|true=>AV.fsc t ((xs.drop lo).take n)|false=>.any) .any
  |omp j=>exact(e j).2 (fun k v es=>AV.mp k v es) .any
  |_=>rfl
 cases a<;>try rfl
 all_goals
  simp only[o9]
  split
  ·exact c _ _ _ _ _ ‹_›
  ·rfl
def As:∀(as:AS AV) {h:AS Blk},HR ν h w->Ev h.length ν h w ν (xZ h as) w/\HR ν (xZ h as) w/\(∀b,Av ν (xZ h as) b->Av ν h b)
 |[],h,H=>⟨Ev.refl _ _ _ _,H,fun _ hb=>hb⟩
 |a::as,h,H=>by
  obtain⟨e,i,d⟩:=Ko H a;obtain⟨f,g,c⟩:=As as i;refine⟨e.trans f (by rw[lI]; exact cJ _),g,fun b hb=>d b (c b hb)⟩
def HR.grow (H:HR ν h w) (c:∀b,b<w.heap.size->w'.heap[b]?=w.heap[b]?) (a:w.heap.size<=w'.heap.size) (f:w'.os=w.os) (h2:w'.tape=w.tape) (e:w'.output=w.output) (m:Nat):Ev m ν h w ν h w'/\HR ν h w':=by
 have ev:∀m,Ev m ν h w ν h w':=fun m=>⟨f,h2,e,a,fun b hb d=>⟨c b hb,d⟩,fun _ _=>Blk.next_refl _ _ _⟩;exact⟨ev m,fun id=>BR.ev (ev _) (H.nd (ev 0)) (H.gl (ev 0)) rfl (fun b _ _ hb=>c b hb) (H.blk id),H.inj,fun b hb=>df (H.ghlt b hb) a,H.ghne,H.globE (ev 0),H.globL⟩
end
def Sim.put {ν ν':Nat->Value} {S:St} {a:Act} {w w':World} {h':AS Blk} (H:Sim ν S a w) (e:Ev S.h.length ν S.h w ν' h' w') (g:HR ν' h' w') (d:AN Nat) {v:AV} {u:Value} (j:VR ν' h' w' v u) :
 Sim ν' {t:=õ S.t d v,h:=h'} (a.put d u) w':=by
 cases d with
 |none=>exact⟨H.defers.keep e.size (H.heap.nd e),H.len,fun i=>(H.tmps i).ev e,g⟩
 |some d =>
  refine⟨by simpa[Act.put] using H.defers.keep e.size (H.heap.nd e),by simpa[õ,Act.put,On] using H.len,fun i=>?_,g⟩;simp only[õ,adf,Act.put]
  by_cases hi:i=d/\d<S.t.length
  ·rw[if_pos hi];have b:d<a.tmps.size:=df hi.2 H.len;rw[hi.1];simpa[dR,eN,b] using j
  ·rw[if_neg hi]
   by_cases hd:i=d
   ·have c:S.t.length<=d:=by
     rcases dC d S.t.length with b|c
     ·exact absurd ⟨hd,b⟩ hi
     ·exact c
    have f:lk S.t i=.any:=by
     rw[hd]; exact adg _ _ c
    rw[f]; trivial
   ·have:(a.tmps.setIfInBounds d u).getD i undef=a.tmps.getD i undef:=by
     simp[dR,eN,Ne.symm hd]
    rw[this]; exact(H.tmps i).ev e
end Go.Am
end

noncomputable section
namespace Go.Am
variable [ë] [Ð]
section
variable {ν ν':Nat->Value} {h h':AS Blk} {w w':World} {P:Program}
def mB:∀{cs:AS AV} {o n:Nat} {a:AS AV},Hs cs o n=some a->a=(cs.drop o).take n/\a.length=n
 |cs,0,0,a,e=>by cases cs<;>(simp[Hs] at e; subst e; simp)
 |[],0,n+1,a,e=>by simp[Hs] at e
 |c::cs,0,n+1,a,e=>by
  simp only[Hs] at e
  split at e
  ·rename_i l d;cases e;obtain⟨b,h2⟩:=mB d;simp at b;exact⟨by simp[<-b],by simp[h2]⟩
  ·cases e
 |[],o+1,n,a,e=>by cases n<;>simp[Hs] at e
 |c::cs,o+1,n,a,e=>by
  have f:Hs cs o n=some a:=by cases n<;>simpa[Hs] using e
  simpa using mB f
def qJ:∀{cs:AS AV} {o:Nat} {vs a:AS AV},ZR cs o vs=some a->a=cs.take o++vs++cs.drop (o+vs.length)/\o+vs.length<=cs.length
 |cs,0,[],a,e=>by cases cs<;>(simp[ZR] at e; subst e; simp)
 |[],0,v::vs,a,e=>by simp[ZR] at e
 |c::cs,0,v::vs,a,e=>by
  simp only[ZR] at e
  split at e
  ·rename_i l d;cases e;obtain⟨b,h2⟩:=qJ d;simp at b h2;exact⟨by simp[b],by simpa using h2⟩
  ·cases e
 |[],o+1,vs,a,e=>by cases vs<;>simp[ZR] at e
 |c::cs,o+1,vs,a,e=>by
  obtain⟨l,d,rfl⟩:∃l,ZR cs o vs=some l/\a=c::l:=by
   cases vs<;>(simp only[ZR] at e; split at e<;>first|exact⟨_,‹_›,by cases e; rfl⟩|cases e)
  obtain⟨b,h2⟩:=qJ d;refine⟨?_,by simp; omega⟩;rw[b,show o+1+vs.length=(o+vs.length)+1 by omega];simp
def lg {t:TypeId} {n:Nat} (h:szP P t=some n) (w:World):(sizeOf t).run P w=.ok n w:=by
 unfold szP at h
 split at h
 ·rename_i i hi; cases h; simp[sizeOf,typeInfo,hi]
 ·cases h
def Qk {t:TypeId} {agg:Bool} {n:Nat} (h:ldP P t=some (agg,n)):∃d,P.underlying t=some d/\Lv d=agg/\szP P t=some n:=by
 unfold ldP at h
 split at h
 ·rename_i d hd
  split at h
  ·rename_i m a; cases h; exact⟨d,hd,rfl,a⟩
  ·cases h
 ·cases h
def uV {t:TypeId} {d:TypeDesc} (h:P.underlying t=some d) (w:World):(isAgg t).run P w=.ok (Lv d) w:=by
 unfold isAgg;simp only[Sem.run_bind,run_underlying h,Result.andThen_ok]
 cases d<;>rfl
def Vr (agg:Bool) (us:AS Value):Value:=match agg with|true=>.agg us.toArray|false=>us.headD undef
def si {t:TypeId} {agg:Bool} {n:Nat} (g:ldP P t=some (agg,n)) {us:AS Value} (c:us.length=n) (ha:agg=false->n=1) {a:Addr} (e:∀j v,us[j]?=some v->w.cell? (a.add j)=some v) :
 (loadVar t a).run P w=.ok (Vr agg us) w:=by
 obtain⟨d,hd,rfl,f⟩:=Qk g;unfold loadVar;simp only[Sem.run_bind,uV hd,Result.andThen_ok]
 cases b:Lv d with
 |true =>
  simp only[if_true,Sem.run_bind,lg f,Result.andThen_ok,<-c,run_loadCells_list w a us e];rfl
 |false =>
  have i:=ha b;obtain⟨u,rfl⟩:=List.length_eq_one_iff.1 (c.trans i);have h0:=e 0 u rfl
  have:a.add 0=a:=by simp[Addr.add]
  rw[this] at h0;simp[h0,Vr]
def ahB {agg:Bool} {cs:AS AV} {us:AS Value} {v:AV} (a:mkv agg cs=some v) (b:ò (VRc ν h w) cs us):VR ν h w v (Vr agg us)/\(agg=false->cs.length=1):=by
 cases agg with
 |true=>cases a; exact⟨⟨us.toArray,rfl,by simpa using b⟩,fun c=>by cases c⟩
 |false =>
  simp only[mkv] at a
  split at a
  ·cases a;obtain⟨u,rfl,d⟩:=b.one;exact⟨d.1.up,fun _=>rfl⟩
  ·cases a
def Ď.part {b off:Nat} {us:AS Value} (c:Ď w b off us) (o n:Nat):Ď w b (off+o) ((us.drop o).take n):=by
 intro j v a;rw[dY] at a
 split at a
 ·rw[fg] at a;have:=c (o+j) v a
  rwa [show off+(o+j)=off+o+j by omega] at this
 ·cases a
def Ď.addr {b off:Nat} {us:AS Value} (c:Ď w b off us):∀j v,us[j]?=some v->w.cell? ((⟨b,off,none⟩:Addr).add j)=some v:=fun j v a=>by rw[Ę]; exact c j v a
def Ď.of_cells {b:Nat} {c:Array Value} {e:TypeId} {f:Nat×Nat} (hb:w.heap[b]?=some (.cells c e f)):Ď w b 0 c.toList:=by
 intro j v a;simp[World.cell?,hb] at a ⊢;exact a
def ò.get2 {α β:Type} {R:α->β->Prop}:∀{l:AS α} {m:AS β},ò R l m->∀{i:Nat} {a:α} {b:β},l[i]?=some a->m[i]?=some b->R a b:=fun h _ _ _ ha hb=>by
 obtain⟨c,d,h2⟩:=h.get ha;rw[hb] at d;cases d;exact h2
def HR.table (H:HR ν h w) {id g:Nat} {k:IntKind} {xss:AS (AS Int)} (d:lkB h id=.deep k g xss) :
 ∃base cap us,ν id=.agg (Value.slice base xss.length cap::us).toArray/\xss.length<=cap/\Vq (Value.slice base xss.length cap::us) /\
  ((base=none/\cap=0)\/∃b off c e,base=some ⟨b,off,none⟩/\w.heap[b]?=some (.cells c e (0,0))/\off+cap<=c.size/\∀(i:Nat) (u:Value),us[i]?=some u->c[off+i]?=some u) /\
  ò (Xq w k) xss us:=by
 have a:=H.blk id;rw[d] at a;exact a
def kQ {l m:AS Value} (h:Value.agg l.toArray=Value.agg m.toArray):l=m:=by
 injection h with h
 exact dK.2 h |> fun e=>by simpa using e
def ade {t:TypeId} {a v:AV} {Q:Value} (H:HR ν h w) (e:J5 P h t a some=some v) (M:VR ν h w a Q) :
 ∃u,(Instr.loadAt t Q).run P w=.ok u w/\VR ν h w v u:=by
 unfold J5 at e
 split at e<;>try (cases e; done)
 rename_i agg n Y
 have fin:∀(b off o:Nat) (cs z:AS AV) (us:AS Value),ò (VRc ν h w) cs us->Hs cs o n=some z->Ď w b off us->Q=.pointer (some ⟨b,off+o,none⟩) ->
  mkv agg z=some v->∃u,(Instr.loadAt t Q).run P w=.ok u w/\VR ν h w v u:=by
  intro b off o cs z us hc I hca W r;obtain⟨f,h2⟩:=mB I
  have hd:ò (VRc ν h w) z ((us.drop o).take n):=by rw[f]; exact(hc.drop o).take n
  obtain⟨y,p⟩:=ahB r hd;refine⟨Vr agg ((us.drop o).take n),?_,y⟩;rw[W];simp only[Instr.loadAt,Instr.sureAddr,Sem.run_bind,Sem.run_pure,Result.andThen_ok];exact si Y (hd.length.symm.trans h2) (fun hf=>h2.symm.trans (p hf)) (hca.part o n).addr
 cases a with
 |box id off =>
  obtain⟨cs,b,f,h2,y⟩:=M;simp only[f] at e
  split at e<;>try (cases e; done)
  rename_i z I
  split at e<;>try (cases e; done)
  rename_i v' r;cases e;have hB:=H.blk id;rw[f] at hB;obtain⟨b',c,e',p,B,E⟩:=hB;rw[p] at h2; cases h2;exact fin b 0 off cs z c.toList E I (.of_cells B) (by rw[y]; simp) r
 |eptr ty x off =>
  obtain⟨b,o,us,f,h2,y,p,B⟩:=M;simp only at e
  split at e<;>try (cases e; done)
  rename_i z I
  split at e<;>try (cases e; done)
  rename_i v' r;cases e;exact fin b o off (flat ty x) z us (nP p) I B f r
 |optr id g i off =>
  obtain⟨ho,ty,g',fz,xs,f,h2,y⟩:=M;simp only[f] at e
  split at e<;>try (cases e; done)
  rename_i l
  have hge:g=g':=by simpa using l
  split at e<;>try (cases e; done)
  rename_i x K
  split at e<;>try (cases e; done)
  rename_i z I
  split at e<;>try (cases e; done)
  rename_i v' r;cases e;obtain⟨hi,b,o,cap,p,B⟩:=y hge;obtain⟨base,cap',E,h7,_,A⟩:=H.row_data f
  rw[p] at E; injection E with e1 e2 e3; subst e1; subst e3
  rcases A with A|⟨b',o',A,L,s,d⟩
  ·rw[A] at K; simp at K
  ·cases A;obtain⟨us,D,C⟩:=d i x K;exact fin b _ off (flat ty x) z us (nP D) I C B r
 |dq id g i =>
  obtain⟨ho,k,g',xss,f,h2,y⟩:=M;simp only[f] at e
  split at e<;>try (cases e; done)
  rename_i l;cases e;simp only[cM,beq_iff_eq,eI] at l;obtain⟨rfl,rfl,G⟩:=l;obtain rfl:=cZ G;obtain⟨hi,us,b,o,n,cap,p,B⟩:=y rfl;obtain⟨base,cap',S,E,h7,A,L,s⟩:=H.table f;rw[p] at E;have q:=kQ E
  injection q with q1 U
  subst U
  injection q1 with T q4 q5
  subst T;obtain⟨u,X⟩:∃u,us[i]?=some u:=⟨us[i]'(by rw[<-s.length]; exact hi),cI _⟩;rcases L with⟨L,_⟩|⟨b',o',c,e',L,d,D,C⟩
  ·cases L
  cases L;obtain⟨xs,K,J,O,F,_⟩:=s.get' X
  have N:u.oneCell'=true:=by rw[F]; rfl
  refine⟨u,?_,N,k,g,xss,f,cJ _,fun _=>⟨_,us,p,X⟩⟩;rw[B];simp only[Instr.loadAt,Instr.sureAddr,Sem.run_bind,Sem.run_pure,Result.andThen_ok];refine si (us:=[u]) Y rfl (fun _=>rfl) (fun j v Z=>?_)
  cases j with
  |zero =>
   simp at Z;subst Z;rw[Ę,fE];simp only[World.cell?,d];exact C i _ X
  |succ j=>simp at Z
 |de id g i j =>
  obtain⟨ho,k,g',xss,f,h2,y⟩:=M;simp only[f] at e
  split at e<;>try (cases e; done)
  rename_i l
  split at e<;>try (cases e; done)
  rename_i xs V
  split at e<;>try (cases e; done)
  rename_i x K;cases e;simp only[cM,beq_iff_eq,eI] at l;obtain⟨rfl,rfl,G⟩:=l;obtain rfl:=cZ G;obtain⟨u,us,b,o,n,cap,p,B,E,h7⟩:=y rfl;obtain⟨base,cap',S,A,_,_,_,s⟩:=H.table f;rw[p] at A;have q:=kQ A
  injection q with q1 U
  subst U;obtain⟨J,O,F,_,d⟩:=s.get2 V B
  injection F with T q4 q5
  subst T;rcases d with⟨d,_⟩|⟨b',o',c,e',d,D,C,h14⟩
  ·cases d
  cases d;refine⟨.int k x,?_,rfl⟩;rw[h7];simp only[Instr.loadAt,Instr.sureAddr,Sem.run_bind,Sem.run_pure,Result.andThen_ok];refine si (us:=[.int k x]) Y rfl (fun _=>rfl) (fun m v r=>?_)
  cases m with
  |zero =>
   simp at r;subst r;rw[Ę,fE];simp only[World.cell?,D];exact h14 j _ K
  |succ m=>simp at r
 |_=>cases e
def sf (w:World) (g:Nat) (c:Array Value):(w.setRow g c).heap.size=w.heap.size:=by simp[World.setRow]
def O8 (H:HR ν h w) {id g g' b o' cap':Nat} {t:Ty} {xs xs':AS (Val t)} {c c':Array Value} {e:TypeId} (l:lkB h id=.row t g false xs) (hb:ę (ν id) b)
 (r:w.heap[b]?=some (.cells c e (0,0))) (n:xs'.length<=cap') (m:o'+cap'*t.size<=c'.size)
 (f:g<g'\/(g=g'/\Value.slice (some ⟨b,o',none⟩) xs'.length cap'=ν id/\xs'.length=xs.length))
 (u:∀(i:Nat) (x:Val t),xs'[i]?=some x->∃us,CR w (Av ν h) t x us/\∀j v,us[j]?=some v->c'[o'+i*t.size+j]?=some v) :
 Ev h.length ν h w (í ν id (.slice (some ⟨b,o',none⟩) xs'.length cap')) (ì h id (.row t g' false xs')) (w.setRow b c') /\
  HR (í ν id (.slice (some ⟨b,o',none⟩) xs'.length cap')) (ì h id (.row t g' false xs')) (w.setRow b c'):=by
 have d:id<h.length:=Ņ l (by simp)
 have a:∀k,k<w.heap.size->((lkB h id).live=true->¬ę (ν id) k)->(w.setRow b c').heap[k]?=w.heap[k]?:=fun k _ o=>by
  refine setRow_other w b k c' fun q=>o (by rw[l]; rfl) (by rw[q]; exact hb)
 have s:(Blk.row t g' false xs').live=true->∀k,ę (Value.slice (some ⟨b,o',none⟩) xs'.length cap') k->((lkB h id).live=true/\ę (ν id) k)\/w.heap.size<=k:=fun _ k o=>by
  cases o; exact .inl ⟨by rw[l]; rfl,hb⟩
 have ev:=Ev.upd H (B:=.row t g' false xs') (V:=.slice (some ⟨b,o',none⟩) xs'.length cap') (w':=w.setRow b c') d rfl rfl rfl (by rw[sf]; exact cJ _) a s (by
  rw[l]
  refine⟨g',false,xs',rfl,by rcases f with f|⟨f,_⟩<;>omega,fun q=>?_⟩
  rcases f with f|⟨_,p,h2⟩
  ·omega
  ·exact⟨by rw[Í,p],h2⟩)
 refine⟨ev,HR.upd H d ev a s ⟨some ⟨b,o',none⟩,cap',Í _ _ _,n,.inr ⟨b,o',c',e,rfl,setRow_heap w b c c' e _ r,m,fun i x hi=>?_⟩⟩⟩;obtain⟨us,p,h2⟩:=u i x hi;refine⟨us,CR.keep ev.keepA p,fun j v y=>?_⟩;simp only[World.cell?,setRow_heap w b c c' e _ r];simpa using h2 j v y
def Au:∀(t:Ty) (x:Val t),(flat t x).length=t.size
 |.unit,_=>rfl
 |.bool,_=>rfl
 |.int _,_=>rfl
 |.str,_=>rfl
 |.slice _,_=>rfl
 |.fsl _,_=>rfl
 |.map _ _,_=>rfl
 |.ptr _,_=>rfl
 |.pair a b,x=>by rw[flat,cN,Au a,Au b]; rfl
def C1:∀{as:AS AV} {h:AS Blk} {vs:AS Value},HR ν h w->ò (VR1 ν h w) as vs->as.all Ig=true->ò (VRs w (Av ν (xZ h as))) (as.map (ñ h)) vs
 |[],_,[],_,_,_=>trivial
 |[],_,_::_,_,c,_=>c.elim
 |_::_,_,[],_,c,_=>c.elim
 |a::as,h,v::vs,H,c,d=>by
  simp only[eQ,cM] at d;obtain⟨e,g,j⟩:=Ko H a;have f:=C1 (vs:=vs) g (c.2.mono fun _ _=>VR1.ev e) d.2;have i:as.map (ñ (o9 h a))=as.map (ñ h):=fp fun b _=>DW h a b;rw[i] at f;refine⟨VRs.mono (As as g).2.2 (Kn H c.1 d.1),f⟩
def adw {v:AV} {vs:AS AV} (a:ģ v=some vs) (h:AS Blk):frz h v=xZ h vs/\(acz v=true->vs.all Ig=true):=by
 cases v<;>simp only[ģ,Option.some.injEq,reduceCtorEq] at a<;>subst a<;>exact⟨rfl,fun b=>by first|simpa[acz] using b|rfl⟩
def ŵ:∀(as:AS AV) (h:AS Blk),(xZ h as).length=h.length
 |[],_=>rfl
 |a::as,h=>by rw[xZ,ŵ as,lI]
def ET {v:AV} {u:Value} {vs:AS AV} (a:VR ν h w v u) (b:ģ v=some vs):u.cells.size=vs.length:=by
 have:=(a.cells b).length;simpa using this.symm
def pj {t:TypeId} {u:Value} {n b o:Nat} {c:Array Value} {e:TypeId} (f:szP P t=some n) (d:u.cells.size=n) (g:w.heap[b]?=some (.cells c e (0,0)))
 (a:o+n<=c.size) (i:∀v∈u.cells.toList,v.oneCell'=true) :
 (storeVar t ⟨b,o,none⟩ u).run P w=.ok () (w.setRow b (c.toList.take o++u.cells.toList++c.toList.drop (o+n)).toArray):=by
 have:=run_storeCells_at P b o e u.cells.toList 0 c w g (by simpa[d] using a) i;simp only[Nat.add_zero,Array.length_toList,d] at this;unfold storeVar;simp only[Sem.run_bind,lg f,Result.andThen_ok,d,ne_eq,not_true,if_false,this]
def ò.right_mem {α β:Type} {R:α->β->Prop}:∀{l:AS α} {m:AS β},ò R l m->∀b∈m,∃a,R a b
 |[],[],_,b,hb=>by cases hb
 |a::_,c::_,h,b,hb=>by
  rcases cW.1 hb with rfl|hb
  ·exact⟨a,h.1⟩
  ·exact ò.right_mem h.2 b hb
 |[],_::_,h,_,_=>h.elim
 |_::_,[],h,_,_=>h.elim
def ob {α:Type} (l m:AS α) (p k:Nat) (b:p+m.length<=l.length) :
 (l.take p++m++l.drop (p+m.length))[k]?=if k<p then l[k]? else if k<p+m.length then m[k-p]? else l[k]?:=by
 rw[eP,eP,cN,di,Nat.min_eq_left (by omega:p<=l.length)]
 by_cases a:k<p
 ·rw[if_pos (by omega),if_pos a,if_pos a,dY,if_pos a]
 ·rw[if_neg a,if_neg a]
  by_cases h2:k<p+m.length
  ·rw[if_pos h2,if_pos h2]
  ·rw[if_neg h2,if_neg h2,fg,show p+m.length+(k-(p+m.length))=k by omega]
def XH {t:TypeId} {a v:AV} {ua J:Value} (H:HR ν h w) (e:ph P h t a v some=some h') (ha:VR ν h w a ua) (hv:VR ν h w v J) :
 ∃w',(Instr.storeAt t ua J).run P w=.ok () w'/\HR ν h' w'/\Ev h.length ν h w ν h' w'/\h'.length=h.length:=by
 unfold ph at e
 split at e<;>try (cases e; done)
 rename_i vs O
 split at e<;>try (cases e; done)
 rename_i hs
 have hs:szP P t=some vs.length:=by simpa using hs
 have T:=hv.cells O;have X:∀v∈J.cells.toList,v.oneCell'=true:=fun v hv=>let ⟨_,h⟩:=T.right_mem v hv; h.2;have S:=ET hv O
 cases a with
 |box id off =>
  obtain⟨cs,b,I,h2,h3⟩:=ha;simp only[I] at e
  split at e<;>try (cases e; done)
  rename_i c' K;cases e;obtain⟨rfl,h5⟩:=qJ K;have hB:=H.blk id;rw[I] at hB;obtain⟨b',c,e',h6,h7,Z⟩:=hB;rw[h6] at h2; cases h2;have M:id<h.length:=Ņ I (by simp)
  have hcl:c.size=cs.length:=by simpa using Z.length.symm
  have l:=pj (P:=P) (o:=off) hs S h7 (by omega) X
  have d:∀k,k<w.heap.size->((lkB h id).live=true->¬ę (ν id) k)->(w.setRow b (c.toList.take off++J.cells.toList++c.toList.drop (off+vs.length)).toArray).heap[k]?=w.heap[k]? :=
   fun k _ r=>setRow_other w b k _ fun he=>r (by rw[I]; rfl) (by rw[h6,he]; rfl)
  have hV:(Blk.cells (cs.take off++vs++cs.drop (off+vs.length))).live=true->∀k,ę (ν id) k->((lkB h id).live=true/\ę (ν id) k)\/w.heap.size<=k:=fun _ k r=>.inl ⟨by rw[I]; rfl,r⟩;have ev:=Ev.upd H (B:=.cells (cs.take off++vs++cs.drop (off+vs.length))) (V:=ν id) (w':=w.setRow b (c.toList.take off++J.cells.toList++c.toList.drop (off+vs.length)).toArray) M rfl rfl rfl (by rw[sf]; exact cJ _) d hV (by rw[I]; exact⟨⟨_,rfl⟩,Í _ _ _⟩)
  have W:=HR.upd H M ev d hV ⟨b,_,e',(Í _ _ _).trans h6,setRow_heap w b c _ e' _ h7,by
   exact(((Z.take off).append T).append (Z.drop (off+vs.length))).mono fun _ _ A=>VRc.ev ev A⟩
  rw[i5] at ev W;exact⟨_,by rw[h3]; simpa[Instr.storeAt,Instr.sureAddr] using l,W,ev,Ï _ _ _⟩
 |optr id g i off =>
  simp only at e
  split at e<;>try (cases e; done)
  rename_i D;obtain⟨hfe,hfm⟩:=adw O h;have hfm:=hfm D;rw[hfe] at e;obtain⟨e1,H1,hlv⟩:=As vs H;have hsn:=C1 H (T.mono fun _ _ A=>A.1) hfm;have ha1:=ha.ev e1
  split at e<;>try (cases e; done)
  rename_i ty g' xs p
  split at e<;>try (cases e; done)
  rename_i hgg
  have hge:g=g':=by simpa using hgg
  split at e<;>try (cases e; done)
  rename_i x A
  split at e<;>try (cases e; done)
  rename_i cs' K
  split at e<;>try (cases e; done)
  rename_i x' hx';cases e;obtain⟨h4,h5⟩:=qJ K;rw[dS] at h4 h5;rw[Au] at h5;obtain⟨ho,ty2,g2,fz2,xs2,h6,h7,Z⟩:=ha1;rw[p] at h6;cases h6;obtain⟨hi,b,o,cap,h9,N⟩:=Z hge;have hB:=H1.blk id;rw[p] at hB;obtain⟨base,cap2,s,U,G⟩:=hB
  rw[h9] at s; injection s with q1 q2 q3; subst q1; subst q3
  rcases G with⟨G,_⟩|⟨b2,o2,c,e2,G,F,h15,h16⟩
  ·cases G
  cases G;obtain⟨us,h17,h18⟩:=h16 i x A;have hul:us.length=ty.size:=h17.length;have hii:(i+1)*ty.size<=cap*ty.size:=dl _ (by omega)
  have hi1:(i+1)*ty.size=i*ty.size+ty.size:=by rw[dz,fu]
  have l:=pj (P:=P) (o:=o+i*ty.size+off) hs S F (by omega) X
  have hcr:CR w (Av ν (xZ h vs)) ty x' (us.take off++J.cells.toList++us.drop (off+vs.length)):=by
   refine Ĝ hx' ?_;rw[h4];have hf:=(nP h17).mono fun _ _ A=>(VR1.data A.1);exact((hf.take off).append hsn).append (hf.drop _)
  have huc:J.cells.toList.length=vs.length:=by simpa using S
  obtain⟨ev,W⟩:=O8 H1 (xs':=xs.set i x') (g':=g') (o':=o) (cap':=cap) (c':=(c.toList.take (o+i*ty.size+off)++J.cells.toList++c.toList.drop (o+i*ty.size+off+vs.length)).toArray) p (by rw[h9]; rfl) F
   (by simpa using U) (by simp; omega) (.inr ⟨rfl,by simpa using h9.symm,by simp⟩) (fun j y hj=>by
    have Y:∀k,(c.toList.take (o+i*ty.size+off)++J.cells.toList++c.toList.drop (o+i*ty.size+off+vs.length)).toArray[k]? =
     if k<o+i*ty.size+off then c[k]? else if k<o+i*ty.size+off+vs.length then J.cells.toList[k-(o+i*ty.size+off)]? else c[k]?:=by
     intro k;have:=ob c.toList J.cells.toList (o+i*ty.size+off) k (by rw[huc]; simp; omega);rw[huc] at this;simpa using this
    rw[f7] at hj
    split at hj
    ·rename_i hij; subst hij;cases hj;refine⟨_,hcr,fun k v r=>?_⟩;rw[Y];have f:=fun v hv=>h18 k v hv;simp only[World.cell?,F] at f;rw[eP,eP] at r;simp only[cN,di,huc,hul] at r;rw[Nat.min_eq_left (by omega:off<=ty.size)] at r
     split at r
     ·split at r
      ·rw[if_pos (by omega)];rw[dY,if_pos (by omega)] at r;simpa using f v r
      ·rw[if_neg (by omega),if_pos (by omega)];rw[show o+i*ty.size+k-(o+i*ty.size+off)=k-off by omega]; exact r
     ·rw[if_neg (by omega),if_neg (by omega)];rw[fg,show off+vs.length+(k-(off+vs.length))=k by omega] at r;simpa using f v r
    ·rename_i hij;obtain⟨ws,h19,h20⟩:=h16 j y hj;refine⟨ws,h19,fun k v r=>?_⟩
     have hkl:k<ty.size:=by rw[<-h19.length]; exact(cO.1 r).1
     have f:=h20 k v r;simp only[World.cell?,F] at f;rw[Y]
     have hne:j*ty.size+ty.size<=i*ty.size\/i*ty.size+ty.size<=j*ty.size:=by
      rcases Nat.lt_or_gt_of_ne hij with E|E
      ·right;have:=dl ty.size (show i+1<=j from E);rw[dz,fu] at this; exact this
      ·left;have:=dl ty.size (show j+1<=i from E);rw[dz,fu] at this; exact this
     split
     ·simpa using f
     ·rw[if_neg (by omega)]; simpa using f)
  have hvv:í ν id (.slice (some ⟨b,o,none⟩) (xs.set i x').length cap)=ν:=by
   rw[fo,<-h9,i5]
  rw[hvv] at ev W;refine⟨_,by rw[N]; simpa[Instr.storeAt,Instr.sureAddr] using l,W,e1.trans ev (by rw[ŵ]; exact cJ _),by rw[Ï,ŵ]⟩
 |de id g i j =>
  simp only at e
  split at e<;>try (cases e; done)
  rename_i z y;obtain⟨ho,k,g',xss,I,h2,h3⟩:=ha;simp only[I] at e
  split at e<;>try (cases e; done)
  rename_i hgg
  split at e<;>try (cases e; done)
  rename_i hkk _
  split at e<;>try (cases e; done)
  rename_i xs hxs
  split at e<;>try (cases e; done)
  rename_i x A;cases e;subst hkk
  obtain rfl:g=g':=by simpa using hgg
  cases O;have huv:J=.int z y:=hv;subst huv;obtain⟨u,us,b,o,n,cap,h4,h5,h6,h7⟩:=h3 rfl;obtain⟨base,cap',us',Z,h9,hap,L,N⟩:=H.table I;rw[h4] at Z;have q:=kQ Z
  injection q with q1 q2
  subst q1;subst q2;have p:=N.get2 hxs h5;obtain⟨base2,cap2,hu2,hle2,s⟩:=p
  injection hu2 with q3 q4 q5
  subst q3 q4 q5;rcases s with⟨s,_⟩|⟨b',o',c,e',s,U,G,F⟩
  ·cases s
  cases s;have M:id<h.length:=Ņ I (by simp);have hmem:Value.slice (some ⟨b,o,none⟩) xs.length cap∈us:=cQ h5;have hjl:j<xs.length:=h6;have l:=pj (P:=P) (u:=.int z y) (o:=o+j) hs S U (by simp; omega) (by simp[Value.cells,Value.oneCell'])
  have hb:ę (ν id) b:=by rw[h4]; exact⟨Value.slice (some ⟨b,o,none⟩) xs.length cap,by simp[hmem],rfl⟩
  -- the cells
  let c':Array Value:=(c.toList.take (o+j)++(Value.int z y).cells.toList++c.toList.drop (o+j+1)).toArray
  have hc':∀m,c'[m]?=if m=o+j then some (Value.int z y) else c[m]?:=by
   intro m;have:=ob c.toList [Value.int z y] (o+j) m (by simp; omega);have e0:(Value.int z y).cells.toList=[Value.int z y]:=rfl;show(c.toList.take (o+j)++(Value.int z y).cells.toList++c.toList.drop (o+j+1)).toArray[m]?=_;rw[e0,eD];rw[show[Value.int z y].length=1 from rfl] at this;rw[this]
   by_cases D:m=o+j
   ·rw[if_neg (by omega),if_pos (by omega),if_pos D,D,Nat.sub_self]; rfl
   ·rw[if_neg D]
    split
    ·simp
    ·rw[if_neg (by omega)]; simp
  have T:c'.size=c.size:=by
   show(c.toList.take (o+j)++(Value.int z y).cells.toList++c.toList.drop (o+j+1)).toArray.size=c.size;have e0:(Value.int z y).cells.toList=[Value.int z y]:=rfl;rw[e0];simp;omega
  have d:∀m,m<w.heap.size->((lkB h id).live=true->¬ę (ν id) m)->(w.setRow b c').heap[m]?=w.heap[m]?:=fun m _ D =>
   setRow_other w b m c' fun he=>D (by rw[I]; rfl) (by rw[he]; exact hb)
  have hV:(Blk.deep z g (xss.set i (xs.set j y))).live=true->∀m,ę (ν id) m->((lkB h id).live=true/\ę (ν id) m)\/w.heap.size<=m:=fun _ m D=>.inl ⟨by rw[I]; rfl,D⟩
  have ev:=Ev.upd H (B:=.deep z g (xss.set i (xs.set j y))) (V:=ν id) (w':=w.setRow b c') M rfl rfl rfl (by rw[sf]; exact cJ _) d hV (by
   rw[I]; exact⟨g,_,rfl,cJ _,fun _=>⟨Í _ _ _,by simp⟩⟩)
  have hnew:(w.setRow b c').heap[b]?=some (.cells c' e' (0,0)):=setRow_heap w b c c' e' _ U
  -- other rows, and the table itself, lie elsewhere
  have C:∀m u',(Value.slice base xss.length cap'::us)[m]?=some u'->m≠i+1->∀q,jz u'=some q->q≠b:=by
   intro m u' D hne q hq he;subst he
   have hi1:(Value.slice base xss.length cap'::us)[i+1]?=some (Value.slice (some ⟨q,o,none⟩) xs.length cap):=by simpa using h5
   obtain⟨m1,em⟩:=cO.1 D;obtain⟨i1,ei⟩:=cO.1 hi1;rcases Nat.lt_or_gt_of_ne hne with E|hgt
   ·have:=dA.1 hap m (i+1) m1 i1 E q (by rw[em]; exact hq);rw[ei] at this;exact this rfl
   ·have:=dA.1 hap (i+1) m i1 m1 hgt q (by rw[ei]; rfl);rw[em] at this;exact this hq
  have hrows:ò (Xq (w.setRow b c') z) (xss.set i (xs.set j y)) us:=by
   refine ò.of_get (by rw[fo]; exact N.length) fun m zs u' hz Q=>?_;rw[f7] at hz
   by_cases D:i=m
   ·subst D;rw[if_pos rfl] at hz
    split at hz
    ·cases hz;rw[h5] at Q;cases Q;refine⟨some ⟨b,o,none⟩,cap,by simp,by simpa using hle2,.inr ⟨b,o,c',e',rfl,hnew,by omega,fun m x A=>?_⟩⟩;rw[hc'];rw[f7] at A
     by_cases hjm:j=m
     ·subst hjm;rw[if_pos rfl,if_pos hjl] at A;cases A;rw[if_pos rfl]
     ·rw[if_neg hjm] at A;rw[if_neg (by omega)];exact F m x A
    ·cases hz
   ·rw[if_neg D] at hz;refine(N.get2 hz Q).keep fun q hq E=>setRow_other w b q c' ?_;exact C (m+1) u' (by simpa using Q) (by omega) q hq
  have W:=HR.upd H M ev d hV ⟨base,cap',us,by rw[Í,h4,fo],by rw[fo]; exact h9,by rw[fo]; exact hap,by
   rcases L with L|⟨b2,o2,c2,e2,rfl,g1,g2,g3⟩
   ·exact .inl L
   ·exact .inr ⟨b2,o2,c2,e2,rfl,(setRow_other w b b2 c' (C 0 _ rfl (by omega) b2 rfl)).trans g1,g2,g3⟩,hrows⟩
  rw[i5] at ev W;refine⟨w.setRow b c',?_,W,ev,Ï _ _ _⟩;rw[h7];have hrun':(storeVar t ⟨b,o+j,none⟩ (Value.int z y)).run P w=.ok () (w.setRow b c'):=l;simpa only[Instr.storeAt,Instr.sureAddr,Sem.run_bind,Sem.run_pure,Result.andThen_ok] using hrun'
 |_=>cases e
end
end Go.Am
end

noncomputable section
namespace Go.Am
variable [ë] [Ð]
section
variable {ν ν':Nat->Value} {h h':AS Blk} {w w':World} {P:Program}
def SR (w:World) (av:Nat->Prop) (t:Ty) (xs:AS (Val t)) (base:AN Addr) (cap:Nat):Prop :=
 xs.length<=cap/\(xs=[]\/∃b off,base=some ⟨b,off,none⟩/\b<w.heap.size/\∀(i:Nat) (x:Val t),xs[i]?=some x->∃us,CR w av t x us/\Ď w b (off+i*t.size) us)
def SR.part {av:Nat->Prop} {t:Ty} {xs:AS (Val t)} {base:AN Addr} {cap l m:Nat} (e:SR w av t xs base cap) (p:l<=m) (o:m<=xs.length) :
 SR w av t ((xs.drop l).take (m-l)) (if cap=l then base else base.map (·.add (l*t.size))) (cap-l):=by
 obtain⟨q,h2⟩:=e
 have a:((xs.drop l).take (m-l)).length=m-l:=by simp; omega
 refine⟨by rw[a]; omega,?_⟩
 by_cases f:cap=l
 ·exact .inl (dg.1 (by rw[a]; omega))
 rcases h2 with h2|⟨b,off,rfl,n,k⟩
 ·exact .inl (by rw[h2]; simp)
 ·refine .inr ⟨b,off+l*t.size,by rw[if_neg f]; simp[Ę],n,fun i x c=>?_⟩
  have d:xs[l+i]?=some x:=by
   rw[dY] at c
   split at c
   ·simpa using c
   ·cases c
  obtain⟨us,j,g⟩:=k (l+i) x d;refine⟨us,j,?_⟩
  have:off+l*t.size+i*t.size=off+(l+i)*t.size:=by rw[dz]; omega
  rw[this]; exact g
def SR.ers {av:Nat->Prop} {t:Ty} {xs:AS (Val t)} {base:AN Addr} {cap:Nat} (c:SR w av t xs base cap):SR w av (Go.Am.ers t) (cast (congrArg AS (Ō t).symm) xs) base cap:=by
 obtain⟨d,e⟩:=wJ (Ō t).symm xs;refine⟨by rw[d]; exact c.1,?_⟩;rcases c.2 with h|⟨b,off,k,h2,j⟩
 ·exact .inl (dg.1 (by rw[d,h]; rfl))
 ·refine .inr ⟨b,off,k,h2,fun i x a=>?_⟩;rw[e] at a
  cases hi:xs[i]? with
  |none=>rw[hi] at a; cases a
  |some y =>
   rw[hi] at a; cases a;obtain⟨us,g,f⟩:=j i y hi;exact⟨us,CR.ers g,by rw[Di]; exact f⟩
def CR.slice_iff {av:Nat->Prop} {t:Ty} {xs:AS (Val t)} {v:Value}:CR w av (.slice t) xs [v] ↔
 ∃base cap,v=.slice base xs.length cap/\SR w av t xs base cap/\(xs=[]\/∀b off,base=some ⟨b,off,none⟩->¬av b):=by
 constructor
 ·rintro⟨base,cap,g,h2,a⟩;refine⟨base,cap,by simpa using g,⟨h2,?_⟩,?_⟩
  ·rcases a with a|⟨b,off,a,c,e,d⟩
   ·exact .inl a
   ·exact .inr ⟨b,off,a,e,d⟩
  ·rcases a with a|⟨b,off,a,c,e,d⟩
   ·exact .inl a
   ·exact .inr fun i f hb=>by rw[a] at hb; cases hb; exact c
 ·rintro⟨base,cap,rfl,⟨h2,a⟩,c⟩;refine⟨base,cap,rfl,h2,?_⟩;rcases a with a|⟨b,off,a,e,d⟩
  ·exact .inl a
  ·rcases c with c|c
   ·exact .inl c
   ·exact .inr ⟨b,off,a,c b off a,e,d⟩
def CR.part {av:Nat->Prop} {t:Ty} {xs:AS (Val t)} {base:AN Addr} {cap l m:Nat} (e:CR w av (.slice t) xs [.slice base xs.length cap]) (g:l<=m) (f:m<=xs.length) :
 CR w av (.slice t) ((xs.drop l).take (m-l)) [.slice (if cap=l then base else base.map (·.add (l*t.size))) (m-l) (cap-l)]:=by
 obtain⟨base',cap',j,h2,c⟩:=CR.slice_iff.1 e;cases j
 have a:((xs.drop l).take (m-l)).length=m-l:=by simp; omega
 refine CR.slice_iff.2 ⟨_,_,by rw[a],h2.part g f,?_⟩;rcases c with c|c
 ·exact .inl (by rw[c]; simp)
 rcases h2.2 with i|⟨k,off0,rfl,_⟩
 ·exact .inl (by rw[i]; simp)
 ·right;intro b off hb;have d:=c k off0 rfl
  split at hb
  ·cases hb; exact d
  ·simp only[dT,Ę,Option.some.injEq,Addr.mk.injEq] at hb;rw[<-hb.1]; exact d
def CR.partF {av:Nat->Prop} {t:Ty} {xs:AS (Val t)} {base:AN Addr} {cap l m:Nat} (o:CR w av (.fsl t) xs [.slice base xs.length cap]) (B:l<=m) (p:m<=xs.length) :
 CR w av (.fsl t) ((xs.drop l).take (m-l)) [.slice (if cap=l then base else base.map (·.add (l*t.size))) (m-l) (cap-l)]:=by
 obtain⟨base',cap',j,h2,g⟩:=o
 have j:Value.slice base xs.length cap=.slice base' xs.length cap':=by simpa using j
 injection j with z C y
 subst z; subst y
 have a:((xs.drop l).take (m-l)).length=m-l:=by simp; omega
 refine⟨_,_,by rw[a],by rw[a]; omega,?_⟩
 by_cases r:cap=l
 ·exact .inl (dg.1 (by rw[a]; omega))
 rcases g with g|⟨b,off,c,e,rfl,v,s,q,A,u⟩
 ·exact .inl (by rw[show xs=[] from g]; simp)
 ·refine .inr ⟨b,off+l*t.size,c,e,by rw[if_neg r]; simp[Ę],v,s,q,?_,fun i x d=>?_⟩
  ·rw[a];have n:=dl t.size p
   have k:(m-l)*t.size+l*t.size=m*t.size:=by rw[<-dz]; congr 1; omega
   omega
  ·have f:xs[l+i]?=some x:=by
    rw[dY] at d
    split at d
    ·simpa using d
    ·cases d
   obtain⟨us,n,k⟩:=u (l+i) x f;refine⟨us,n,?_⟩
   have:off+l*t.size+i*t.size=off+(l+i)*t.size:=by rw[dz]; omega
   rw[this]; exact k
def aiM (H:HR ν h w) {x:AV} {A:Value} {t:Ty} {ys:AS (Val t)} (p:VR ν h w x A) (e:Ù (.slice t) [ñ h x]=some ys) :
 ∃base cap,A=.slice base ys.length cap/\SR w (Av ν h) t ys base cap:=by
 have f:∀{a:AV},VRs w (Av ν h) a A->Ù (.slice t) [a]=some ys->∃base cap,A=.slice base ys.length cap/\SR w (Av ν h) t ys base cap:=fun j e=>by
  obtain⟨base,cap,u,h2,_⟩:=CR.slice_iff.1 (Ĝ e ⟨j,trivial⟩);exact⟨base,cap,u,h2⟩
 have z:∀{c:Ty} {k:AS (Val c)} {base:AN Addr} {cap:Nat},Ù (.slice t) [.fsc c k]=some ys->SR w (Av ν h) c k base cap->ys.length=k.length/\SR w (Av ν h) t ys base cap:=fun {c k base cap} e j=>by
  simp only[Ù,Ő] at e
  split at e<;>try (cases e; done)
  rename_i y s
  split at s
  ·rename_i D _;subst D;cases s; cases e;exact⟨rfl,j⟩
  ·split at s<;>try (cases s; done)
   rename_i D _;subst D;cases s; cases e;exact⟨(wJ (Ō c).symm k).1,j.ers⟩
 cases x with
 |own id g =>
  obtain⟨K,c,g',fz,xs,r,E,F⟩:=p;simp only[ñ,r] at e
  split at e
  ·rename_i i;obtain⟨base,cap,u,h2,_,d⟩:=H.row_data r
   obtain⟨v,B⟩:=z (base:=base) (cap:=cap) e ⟨h2,by
    rcases d with d|⟨b,off,d,I,_,G⟩
    ·exact .inl d
    ·exact .inr ⟨b,off,d,I,G⟩⟩
   exact⟨base,cap,by rw[F (by simpa using i),u,v],B⟩
  ·simp[Ù,Ő] at e
 |sub id g lo n =>
  obtain⟨K,c,g',fz,xs,r,E,F⟩:=p;simp only[ñ,r] at e
  split at e
  ·rename_i i;obtain⟨q,base',cap',o,C⟩:=F (by simpa using i);obtain⟨base,cap,u,h2,_,d⟩:=H.row_data r
   rw[u] at o; injection o with v B M; subst v; subst M
   have j:SR w (Av ν h) c xs base cap:=⟨h2,by
    rcases d with d|⟨b,off,d,I,_,G⟩
    ·exact .inl d
    ·exact .inr ⟨b,off,d,I,G⟩⟩
   have J:=j.part (l:=lo) (m:=lo+n) (by omega) q;rw[Nat.add_sub_cancel_left] at J
   have L:((xs.drop lo).take n).length=n:=by simp; omega
   obtain⟨v,B⟩:=z e J;refine⟨_,_,?_,B⟩;rw[v,L]; exact C
  ·simp[Ù,Ő] at e
 |omp id =>
  simp only[ñ] at e
  split at e<;>simp[Ù,Ő] at e
 |nils=>exact f (a:=.nils) (VR1.data (a:=.nils) p) e
 |slc c xs=>exact f (a:=.slc c xs) (VR1.data (a:=.slc c xs) p) e
 |fsc c xs=>exact f (a:=.fsc c xs) (VR1.data (a:=.fsc c xs) p) e
 |_=>simp[ñ,Ù,Ő] at e
def flatten {av:Nat->Prop} {b:Nat} {t:Ty}:∀(ys:AS (Val t)) (off:Nat),(∀(i:Nat) (y:Val t),ys[i]?=some y->∃us,CR w av t y us/\Ď w b (off+i*t.size) us) ->
 ∃news:AS Value,news.length=ys.length*t.size/\Ď w b off news/\(∀v∈news,v.oneCell'=true)/\∀(i:Nat) (y:Val t),ys[i]?=some y->CR w av t y ((news.drop (i*t.size)).take t.size)
 |[],off,_=>⟨[],by simp,fun j v c=>by simp at c,by simp,fun i y hi=>by simp at hi⟩
 |y::ys,off,H=>by
  obtain⟨us,f,h2⟩:=H 0 y rfl
  obtain⟨news,p,o,n,m⟩:=flatten ys (off+t.size) fun i z d=>by
   obtain⟨g,l,k⟩:=H (i+1) z (by simpa using d);refine⟨g,l,?_⟩;rw[show off+t.size+i*t.size=off+(i+1)*t.size by rw[dz]; omega]; exact k
  have a:us.length=t.size:=f.length;refine⟨us++news,by simp[a,p,dz]; omega,fun j v c=>?_,fun v e=>?_,fun i z d=>?_⟩
  ·rw[eP] at c
   split at c
   ·simpa using h2 j v c
   ·have:=o _ v c
    rwa [show off+t.size+(j-us.length)=off+j by omega] at this
  ·rcases cR.1 e with e|e
   ·exact CR.oneCell f v e
   ·exact n v e
  ·cases i with
   |zero =>
    simp at d; subst d;simpa[<-a] using f
   |succ i =>
    have:=m i z (by simpa using d);rw[show(i+1)*t.size=us.length+i*t.size by rw[dz,a]; omega,<-gh,List.drop_left];exact this
def SR.flat {av:Nat->Prop} {t:Ty} {ys:AS (Val t)} {base:AN Addr} {cap:Nat} (c:SR w av t ys base cap) :
 ∃news:AS Value,news.length=ys.length*t.size/\(∀a,base=some a->∀j v,news[j]?=some v->w.cell? (a.add j)=some v)/\(base=none->ys=[])/\(∀v∈news,v.oneCell'=true) /\
  ∀(i:Nat) (y:Val t),ys[i]?=some y->CR w av t y ((news.drop (i*t.size)).take t.size):=by
 rcases c.2 with rfl|⟨b,off,rfl,m,h2⟩
 ·exact⟨[],by simp,fun _ _ j v d=>by simp at d,fun _=>rfl,by simp,fun i y hi=>by simp at hi⟩
 ·obtain⟨news,l,k,g,f⟩:=flatten ys off h2;exact⟨news,l,fun a ha=>by cases ha; exact k.addr,fun e=>(by cases e),g,f⟩
end
end Go.Am
end

noncomputable section
namespace Go.Am
variable [ë] [Ð]
section
variable {ν ν':Nat->Value} {h h':AS Blk} {w w':World} {P:Program}
def yb (w:World) (av:Nat->Prop) (t:Ty) (xs:AS (Val t)) (news:AS Value):Prop :=
 news.length=xs.length*t.size/\∀(i:Nat) (x:Val t),xs[i]?=some x->CR w av t x ((news.drop (i*t.size)).take t.size)
def yb.append {av:Nat->Prop} {t:Ty} {xs ys:AS (Val t)} {m n:AS Value} (a:yb w av t xs m) (h2:yb w av t ys n):yb w av t (xs++ys) (m++n):=by
 refine⟨by simp[a.1,h2.1,dz],fun i x hi=>?_⟩;rw[eP] at hi
 split at hi
 ·rename_i b;have:=a.2 i x hi;have hb:(i+1)*t.size<=xs.length*t.size:=dl _ b;rw[dz,fu] at hb;rw[List.drop_append_of_le_length (by rw[a.1]; omega),List.take_append_of_le_length (by rw[gP,a.1]; omega)];exact this
 ·rename_i c;have:=h2.2 _ x hi
  have:i*t.size=m.length+(i-xs.length)*t.size:=by rw[a.1,<-dz]; congr 1; omega
  rw[this,<-gh,List.drop_left];exact h2.2 _ x hi
def yb.cells {av:Nat->Prop} {t:Ty} {xs:AS (Val t)} {news:AS Value} (b:yb w av t xs news) {c:Array Value} {o:Nat} (d:∀(j:Nat) (v:Value),news[j]?=some v->c[o+j]?=some v) :
 ∀(i:Nat) (x:Val t),xs[i]?=some x->∃us,CR w av t x us/\∀j v,us[j]?=some v->c[o+i*t.size+j]?=some v:=by
 intro i x hi;refine⟨_,b.2 i x hi,fun j v a=>?_⟩;rw[dY] at a
 split at a
 ·rw[fg] at a;have:=d _ v a
  rwa [show o+(i*t.size+j)=o+i*t.size+j by omega] at this
 ·cases a
def row_new (H:HR ν h w) {id g' cap':Nat} {t:Ty} {xs':AS (Val t)} {c':Array Value} {e:TypeId} {news:AS Value} (m:id<h.length)
 (g:∀V,(lkB h id).next ν (í ν id V) id (.row t g' false xs')) (n:w'.heap=w.heap.push (.cells c' e (0,0))) (p:w'.os=w.os) (f:w'.tape=w.tape) (l:w'.output=w.output)
 (q:xs'.length<=cap') (u:cap'*t.size<=c'.size) (y:yb w (Av ν h) t xs' news) (z:∀(j:Nat) (v:Value),news[j]?=some v->c'[j]?=some v) :
 Ev h.length ν h w (í ν id (.slice (some ⟨w.heap.size,0,none⟩) xs'.length cap')) (ì h id (.row t g' false xs')) w' /\
  HR (í ν id (.slice (some ⟨w.heap.size,0,none⟩) xs'.length cap')) (ì h id (.row t g' false xs')) w':=by
 have a:∀b,b<w.heap.size->((lkB h id).live=true->¬ę (ν id) b)->w'.heap[b]?=w.heap[b]?:=fun b hb _=>by
  rw[n,eG]; simp[fG hb]
 have s:(Blk.row t g' false xs').live=true->∀k,ę (Value.slice (some ⟨w.heap.size,0,none⟩) xs'.length cap') k->((lkB h id).live=true/\ę (ν id) k)\/w.heap.size<=k:=fun _ k A=>by
  cases A; exact .inr (cJ _)
 have ev:=Ev.upd H (B:=.row t g' false xs') (V:=.slice (some ⟨w.heap.size,0,none⟩) xs'.length cap') (w':=w') m p f l (by rw[n]; simp) a s (g _)
 have d:w'.heap[w.heap.size]?=some (.cells c' e (0,0)):=by rw[n]; simp
 refine⟨ev,HR.upd H m ev a s ⟨_,cap',Í _ _ _,q,.inr ⟨w.heap.size,0,c',e,rfl,d,by omega,fun i x hi=>?_⟩⟩⟩;obtain⟨us,C,h2⟩:=y.cells (o:=0) (c:=c') (fun j v r=>by simpa using z j v r) i x hi;refine⟨us,CR.keep ev.keepA C,fun j v r=>?_⟩;simp only[World.cell?,d];simpa using h2 j v r
def O9 (H:HR ν h w) {id g':Nat} {t:Ty} (d:id<h.length) (c:∀V,(lkB h id).next ν (í ν id V) id (.row t g' false [])) :
 Ev h.length ν h w (í ν id (.slice none 0 0)) (ì h id (.row t g' false [])) w/\HR (í ν id (.slice none 0 0)) (ì h id (.row t g' false [])) w:=by
 have a:∀b,b<w.heap.size->((lkB h id).live=true->¬ę (ν id) b)->w.heap[b]?=w.heap[b]?:=fun b hb _=>rfl
 have e:(Blk.row t g' false []).live=true->∀k,ę (Value.slice none 0 0) k->((lkB h id).live=true/\ę (ν id) k)\/w.heap.size<=k:=fun _ k f=>by cases f
 have ev:=Ev.upd H (B:=.row t g' false []) (V:=.slice none 0 0) (w':=w) d rfl rfl rfl (cJ _) a e (c _);exact⟨ev,HR.upd H d ev a e ⟨none,0,Í _ _ _,cJ _,.inl ⟨rfl,rfl⟩⟩⟩
def vl {id g:Nat} {t:Ty} {fz:Bool} {xs:AS (Val t)} {V:Value} {h:AS Blk} (a:id<h.length) (b:V.oneCell'=true):VR (í ν id V) (ì h id (.row t g fz xs)) w (.own id g) V :=
 ⟨b,t,g,fz,xs,Ü _ a,cJ _,fun _=>(Í _ _ _).symm⟩
def jT {e:TypeId} {n:Nat} (a:AQ P e n=true):∃i z,P.info? e=some i/\i.size=n/\0<n/\i.bytes<=32768/\i.zero=some z/\z.cells.size=n:=by
 unfold AQ at a
 split at a
 ·rename_i i hi;simp only[cM,beq_iff_eq,decide_eq_true_eq] at a;obtain⟨f,h2,d,b⟩:=a
  split at b
  ·rename_i z c;exact⟨i,z,hi,f,h2,d,c,by simpa using b⟩
  ·cases b
 ·cases a
def mK (t ty e:TypeId) (i:TypeInfo) (p:P.underlying t=some (.slice e)) (hi:P.info? e=some i)
 {g o sLen sCap:Nat} {b:Array Value} {n:TypeId} (r:w.heap[g]?=some (.cells b n (0,0)))
 (base:AN Addr) (m c:Nat) (news:AS Value) (q:news.length=m*i.size) (f:∀a,base=some a->∀j u,news[j]?=some u->w.cell? (a.add j)=some u) (hb:base=none->news=[]) (v:∀u∈news,u.oneCell'=true)
 (d:sLen+m<=sCap) (l:o+sLen*i.size+news.length<=b.size) :
 (Builtin.append_ #[t,t] ty #[.slice (some ⟨g,o,none⟩) sLen sCap,.slice base m c]).run P w =
  .ok (.slice (some ⟨g,o,none⟩) (sLen+m) sCap) (w.setRow g (b.toList.take (o+sLen*i.size)++news++b.toList.drop (o+sLen*i.size+news.length)).toArray):=by
 have s:(Builtin.firstCells i.size m (.slice base m c)).run P w=.ok news.toArray w:=by
  cases base with
  |none=>rw[hb rfl]; exact run_firstCells_none (P:=P) w _ _ _ _
  |some a=>exact run_firstCells_some (P:=P) w i.size m a m c news q (f a rfl)
 have k:=run_storeCells_at P g (o+sLen*i.size) n news 0 b w r (by simpa using l) v;simp only[fE] at k;simp[Builtin.append_,run_underlying p,sizeOf,typeInfo,hi,Builtin.lenOf,d,s,Ę,k]
def oz (t ty e:TypeId) (i:TypeInfo) (b:P.underlying t=some (.slice e)) (hi:P.info? e=some i) (base:AN Addr) (c:Nat) :
 (Builtin.append_ #[t,t] ty #[.slice none 0 0,.slice base 0 c]).run P w=.ok (.slice none 0 0) w:=by
 have f:(Builtin.firstCells i.size 0 (.slice base 0 c)).run P w=.ok #[] w:=by
  cases base with
  |none=>exact run_firstCells_none (P:=P) w _ _ _ _
  |some a=>exact run_firstCells_some (P:=P) w i.size 0 a 0 c [] (by simp) (fun j v d=>by simp at d)
 simp[Builtin.append_,run_underlying b,sizeOf,typeInfo,hi,Builtin.lenOf,f]
def Lm (H:HR ν h w) (t ty:TypeId) {e:TypeId} {i:TypeInfo} {z:Value} (N:P.underlying t=some (.slice e)) (hi:P.info? e=some i) (T:i.zero=some z) {f:Ty} (q:i.size=f.size) (hpos:0<f.size)
 (hby:i.bytes<=32768) (S:z.cells.size=f.size) {id g':Nat} (L:id<h.length) {xs ys:AS (Val f)} (r:∀V,(lkB h id).next ν (í ν id V) id (.row f g' false (xs++ys)))
 {base:AN Addr} {cap:Nat} {l:AN Addr} {cy:Nat} (hy:SR w (Av ν h) f ys l cy)
 (hx:(base=none/\cap=0/\xs=[])\/∃g,lkB h id=.row f g false xs/\g<g'/\ν id=.slice base xs.length cap)
 (A:xs.length+ys.length<=4294967296) :
 ∃V w',(Builtin.append_ #[t,t] ty #[.slice base xs.length cap,.slice l ys.length cy]).run P w=.ok V w'/\V.oneCell'=true /\
  Ev h.length ν h w (í ν id V) (ì h id (.row f g' false (xs++ys))) w'/\HR (í ν id V) (ì h id (.row f g' false (xs++ys))) w':=by
 obtain⟨news,p,D,C,Y,X⟩:=hy.flat;have J:yb w (Av ν h) f ys news:=⟨p,X⟩
 have o:(xs.length+ys.length)*i.bytes<=140737488355328:=by
  have:=gg A hby;omega
 have y:∀(s:Nat) (k:AS Value),yb w (Av ν h) f xs k ->
  ∃V w',(Result.ok (Value.slice (some ⟨w.heap.size,0,none⟩) (xs.length+ys.length) (grownCap w (xs.length+ys.length) s e))
   (w.drew.alloc (.cells (k.toArray++news.toArray++Builtin.zeroCells z.cells (grownCap w (xs.length+ys.length) s e-(xs.length+ys.length))) e)):Result Value)=.ok V w'/\V.oneCell'=true /\
  Ev h.length ν h w (í ν id V) (ì h id (.row f g' false (xs++ys))) w'/\HR (í ν id V) (ì h id (.row f g' false (xs++ys))) w':=by
  intro s k u;have Z:=grownCap_ge w (xs.length+ys.length) s e;have hr:=u.append J
  have:=row_new (w':=w.drew.alloc (.cells (k.toArray++news.toArray++Builtin.zeroCells z.cells (grownCap w (xs.length+ys.length) s e-(xs.length+ys.length))) e))
   H (cap':=grownCap w (xs.length+ys.length) s e) (g':=g') (t:=f) L r rfl rfl rfl rfl (by simpa using Z) (by
    simp only[gM,eT,size_zeroCells,S,u.1,J.1,<-dz]
    apply dl; omega) hr (fun j v B=>by
     rw[<-eD] at B;rw[eZ,if_pos]
     ·simpa using B
     ·have:=(ee.1 B).1
      simpa using this)
  rw[cN] at this;exact⟨_,_,rfl,rfl,this⟩
 rcases hx with⟨rfl,rfl,rfl⟩|⟨g,hl,hg,O⟩
 ·by_cases m:ys=[]
  ·subst m;have d:=oz (P:=P) (w:=w) t ty e i N hi l cy;exact⟨_,w,d,rfl,O9 H L r⟩
  ·have h0:0<ys.length:=fX.2 m
   have hb:∃a,l=some a:=by
    cases l with
    |none=>exact absurd (C rfl) m
    |some a=>exact⟨a,rfl⟩
   obtain⟨a,rfl⟩:=hb;have d:=run_append_nil (P:=P) w t ty e i z N hi T a ys.length cy news (by rw[q]; exact p) (D a rfl) h0 (by simp at A; omega) (by simp at o; omega);obtain⟨V,w',I,h2,M,E⟩:=y 0 [] ⟨by simp,fun i x hi=>by simp at hi⟩;refine⟨V,w',?_,h2,M,E⟩;rw[<-I];simpa using d
 ·have hB:=H.blk id;rw[hl] at hB;obtain⟨base',cap',I,h2,M⟩:=hB
  rw[O] at I; injection I with q1 q2 q3; subst q1; subst q3
  rcases M with⟨rfl,rfl⟩|⟨b,off,c,e',rfl,E,h5,h6⟩
  ·have U:xs=[]:=dg.1 (by omega);subst U
   by_cases m:ys=[]
   ·subst m;have d:=oz (P:=P) (w:=w) t ty e i N hi l cy;exact⟨_,w,d,rfl,O9 H L r⟩
   ·have h0:0<ys.length:=fX.2 m
    have hb:∃a,l=some a:=by
     cases l with
     |none=>exact absurd (C rfl) m
     |some a=>exact⟨a,rfl⟩
    obtain⟨a,rfl⟩:=hb;have d:=run_append_nil (P:=P) w t ty e i z N hi T a ys.length cy news (by rw[q]; exact p) (D a rfl) h0 (by simp at A; omega) (by simp at o; omega);obtain⟨V,w',I,h2,M,E⟩:=y 0 [] ⟨by simp,fun i x hi=>by simp at hi⟩;refine⟨V,w',?_,h2,M,E⟩;rw[<-I];simpa using d
  ·obtain⟨k,K,Q,ho3,W⟩:=flatten xs off h6;have u:yb w (Av ν h) f xs k:=⟨K,W⟩
   by_cases n:xs.length+ys.length<=cap
   ·have G:off+xs.length*i.size+news.length<=c.size:=by
     have:=dl f.size n;rw[q,p];rw[dz] at this;omega
    have d:=mK (P:=P) t ty e i N hi E l ys.length cy news (by rw[q]; exact p) D (fun hb=>by
     rw[C hb] at p; exact dg.1 (by simpa using p)) Y n G
    have F:=O8 H (xs':=xs++ys) (g':=g') (o':=off) (cap':=cap) (c':=(c.toList.take (off+xs.length*i.size)++news++c.toList.drop (off+xs.length*i.size+news.length)).toArray) hl
     (by rw[O]; rfl) E (by simpa using n) (by simp; omega) (.inl hg) ((u.append J).cells fun j v B=>by
      have hs:=ob c.toList news (off+xs.length*i.size) (off+j) (by simpa using G);rw[eD,hs];rw[eP] at B;rw[K,<-q] at B
      split at B
      ·rw[if_pos (by omega)];have:=Q j v B;simp only[World.cell?,E] at this;simpa using this
      ·have hjl:=(cO.1 B).1;rw[if_neg (by omega),if_pos (by omega)]
       rw[show off+j-(off+xs.length*i.size)=j-xs.length*i.size by omega]; exact B)
    rw[cN] at F;exact⟨_,_,d,rfl,F⟩
   ·by_cases m:ys=[]
    ·subst m; simp at n; omega
    have hb:∃a,l=some a:=by
     cases l with
     |none=>exact absurd (C rfl) m
     |some a=>exact⟨a,rfl⟩
    obtain⟨a,rfl⟩:=hb;have d:=run_append_grow (P:=P) w t ty e i z N hi T ⟨b,off,none⟩ xs.length cap k (by rw[q]; exact K) Q.addr a ys.length cy news (by rw[q]; exact p) (D a rfl) (by omega) (by omega) (growslice_fits (by omega) o);obtain⟨V,w',I,h2,M,E⟩:=y cap k u;exact⟨V,w',d.trans I,h2,M,E⟩
end
end Go.Am
end

noncomputable section
namespace Go.Am
variable [ë] [Ð]
section
variable {ν ν':Nat->Value} {h h':AS Blk} {w w':World} {P:Program}
def Ķ (P:Program) (ν:Nat->Value) (h:AS Blk) (w:World) (x:Sem Value) (v:AV) (h':AS Blk):Prop :=
 ∃ν' w' u,x.run P w=.ok u w'/\VR ν' h' w' v u/\HR ν' h' w'/\Ev h.length ν h w ν' h' w'/\h'.length=h.length
def Ķ.still {x:Sem Value} {u:Value} {v:AV} (H:HR ν h w) (b:x.run P w=.ok u w) (a:VR ν h w v u):Ķ P ν h w x v h :=
 ⟨ν,w,u,b,a,H,Ev.refl _ _ _ _,rfl⟩
def jh {t e:TypeId} (h:Ay P t=some e):P.underlying t=some (.slice e):=by
 unfold Ay at h
 split at h
 ·rename_i a h'; cases h; exact h'
 ·cases h
def aeU {nid:Nat} {t ty:TypeId} {s x v:AV} {us D:Value} (H:HR ν h w) (I:nid<h.length) (hd:lkB h nid=.dead)
 (e:tV P h nid t s x (fun v h=>some (v,h))=some (v,h')) (G:VR ν h w s us) (N:VR ν h w x D):Ķ P ν h w (Builtin.append_ #[t,t] ty #[us,D]) v h':=by
 unfold tV at e
 split at e<;>try (cases e; done)
 rename_i Z A
 split at e<;>try (cases e; done)
 rename_i T J
 split at e<;>try (cases e; done)
 rename_i l;obtain⟨i,z,hi,j,b,p,E,f⟩:=jT l
 split at e<;>try (cases e; done)
 rename_i ys q;obtain⟨U,cy,rfl,k⟩:=aiM H N q;have F:=jh A
 split at e
 ·-- nil
  split at e<;>try (cases e; done)
  rename_i a;cases e;have c:us=.slice none 0 0:=G;subst c
  obtain⟨V,w',d,h2,C,B⟩:=Lm H t ty F hi E j b p f (id:=nid) (g':=0) I (xs:=[]) (ys:=ys) (fun V=>by rw[hd]; trivial) (base:=none) (cap:=0) k (.inl ⟨rfl,rfl,rfl⟩)
   (by simp[Û] at a; simpa using a)
  exact⟨_,w',V,d,vl I h2,B,C,Ï _ _ _⟩
 ·rename_i id g
  split at e<;>try (cases e; done)
  rename_i M g' xs n
  split at e<;>try (cases e; done)
  rename_i u
  split at e<;>try (cases e; done)
  rename_i y _;subst y
  split at e<;>try (cases e; done)
  rename_i a
  have Q:g=g':=by simpa using u
  subst Q;obtain⟨W,t2,Y,S,L,m,O,r⟩:=G;rw[n] at m; cases m;have o:id<h.length:=Ņ n (by simp);have K:=H.blk id;rw[n] at K;obtain⟨base,cap,d,_,_⟩:=K
  have c:us=.slice base xs.length cap:=by rw[r rfl,d]
  subst c
  obtain⟨V,w',d,h2,C,B⟩:=Lm H t ty F hi E j b p f (id:=id) (g':=g+1) o (xs:=xs) (ys:=ys) (fun V=>by
   rw[n]; exact⟨g+1,false,xs++ys,rfl,f5 _,fun X=>by omega⟩) (base:=base) (cap:=cap) k (.inr ⟨g,n,Nat.lt_succ_self _,d⟩)
   (by simpa[Û] using a)
  cases e;exact⟨_,w',V,d,vl o h2,B,C,Ï _ _ _⟩
 ·cases e
def agl {t e:TypeId} {sz:Nat} {x i v:AV} {M ui:Value} (H:HR ν h w) (ht:P.underlying t=some (.slice e)) (hs:szP P e=some sz)
 (d:zl sz h x i some=some v) (G:VR ν h w x M) (hi:VR ν h w i ui):Ķ P ν h w (Instr.indexAt t M ui) v h:=by
 unfold zl at d
 split at d<;>try (cases d; done)
 rename_i k n;have W:ui=.int k n:=hi;subst W
 have run:∀(a:Addr) (len cap:Nat),0<=n->n<len->(Instr.indexAt t (.slice (some a) len cap) (.int k n)).run P w=.ok (.pointer (some (a.add (n.toNat*sz)))) w:=by
  intro a len cap h0 o;simp[Instr.indexAt,asIntOf,run_underlying ht,lg hs,h0,o]
 split at d
 ·rename_i ty xs
  split at d<;>try (cases d; done)
  rename_i z;simp only[cM,beq_iff_eq,decide_eq_true_eq] at z;obtain⟨f,h0⟩:=z
  split at d<;>try (cases d; done)
  rename_i y K;cases d;obtain⟨base,cap,rfl,E,l⟩:=CR.slice_iff.1 G;have p:=(cO.1 K).1;rcases E.2 with o|⟨b,off,rfl,o,h2⟩
  ·rw[o] at p; simp at p
  ·obtain⟨us,r,I⟩:=h2 _ y K;refine Ķ.still H (run _ _ _ h0 (by omega)) ?_;rcases l with l|l
   ·rw[l] at p; simp at p
   ·exact⟨b,off+n.toNat*ty.size,us,by rw[Ę,f]; rfl,l b off rfl,o,r,I⟩
 ·rename_i ty xs
  split at d<;>try (cases d; done)
  rename_i z;simp only[cM,beq_iff_eq,decide_eq_true_eq] at z;obtain⟨f,h0⟩:=z
  split at d<;>try (cases d; done)
  rename_i y K;cases d;obtain⟨base,cap,rfl,E,l⟩:=CR.slice_iff.1 (CR.old (show CR w (Av ν h) (.fsl ty) xs [M] from G));have p:=(cO.1 K).1;rcases E.2 with o|⟨b,off,rfl,o,h2⟩
  ·rw[o] at p; simp at p
  ·obtain⟨us,r,I⟩:=h2 _ y K;refine Ķ.still H (run _ _ _ h0 (by omega)) ?_;rcases l with l|l
   ·rw[l] at p; simp at p
   ·exact⟨b,off+n.toNat*ty.size,us,by rw[Ę,f]; rfl,l b off rfl,o,r,I⟩
 ·rename_i id g
  split at d<;>try (cases d; done)
  rename_i ty g' fz xs B
  split at d<;>try (cases d; done)
  rename_i z;simp only[cM,beq_iff_eq] at z;obtain⟨rfl,f⟩:=z
  split at d<;>try (cases d; done)
  rename_i u;simp only[cM,decide_eq_true_eq] at u;cases d;obtain⟨X,t2,Z,fz2,Q,j,F,A⟩:=G;rw[B] at j; cases j;obtain⟨base,cap,o,h2,_,r⟩:=H.row_data B
  have V:M=.slice base xs.length cap:=by rw[A rfl,o]
  subst V;rcases r with r|⟨b,off,rfl,r,_,_⟩
  ·rw[r] at u; simp at u; omega
  ·refine Ķ.still H (run _ _ _ u.1 u.2) ?_;refine⟨rfl,ty,g,fz,xs,B,cJ _,fun _=>⟨by omega,b,off,cap,o,?_⟩⟩;rw[Ę,f]; rfl
 ·rename_i id g lo m
  split at d<;>try (cases d; done)
  rename_i ty g' fz xs B
  split at d<;>try (cases d; done)
  rename_i z;simp only[cM,beq_iff_eq] at z;obtain⟨rfl,f⟩:=z
  split at d<;>try (cases d; done)
  rename_i u;simp only[cM,decide_eq_true_eq] at u;cases d;obtain⟨X,t2,Z,fz2,Q,j,F,A⟩:=G;rw[B] at j; cases j;obtain⟨base,cap,o,h2,_,r⟩:=H.row_data B;obtain⟨C,base',cap',s,D⟩:=A rfl
  rw[o] at s; injection s with O N q3; subst O; subst q3
  rcases r with r|⟨b,off,rfl,r,_,_⟩
  ·rw[r] at C; simp at C; omega
  ·have Y:¬cap=lo:=by omega
   rw[if_neg Y] at D;simp only[dT,Ę] at D;subst D;refine Ķ.still H (run _ _ _ u.1 u.2) ?_;refine⟨rfl,ty,g,fz,xs,B,cJ _,fun _=>⟨by omega,b,off,cap,o,?_⟩⟩;rw[Ę,<-f]
   have:off+lo*ty.size+n.toNat*ty.size=off+(lo+n.toNat)*ty.size:=by rw[dz]; omega
   rw[this]; rfl
 ·rename_i id g
  split at d<;>try (cases d; done)
  rename_i T g' xss B
  split at d<;>try (cases d; done)
  rename_i z;simp only[cM,beq_iff_eq] at z;obtain⟨rfl,f⟩:=z;obtain rfl:=cZ f
  split at d<;>try (cases d; done)
  rename_i u;simp only[cM,decide_eq_true_eq] at u;cases d;obtain⟨X,k3,Z,J,j,F,A⟩:=G;rw[B] at j; cases j;obtain⟨us,s⟩:=A rfl;obtain⟨base,cap,S,o,h2,_,r,_⟩:=H.table B;rw[s] at o;have q:=kQ o
  injection q with O N
  subst O N;rcases r with⟨rfl,r⟩|⟨b,off,c,e',rfl,_⟩
  ·omega
  ·refine Ķ.still H (run _ _ _ u.1 u.2) ?_;refine⟨rfl,T,g,xss,B,cJ _,fun _=>⟨by omega,us,b,off,_,cap,s,?_⟩⟩;rw[Ę,fS]
 ·rename_i id g i0
  split at d<;>try (cases d; done)
  rename_i T g' xss B
  split at d<;>try (cases d; done)
  rename_i z;simp only[cM,beq_iff_eq] at z;obtain⟨rfl,f⟩:=z;obtain rfl:=cZ f
  split at d<;>try (cases d; done)
  rename_i xs U
  split at d<;>try (cases d; done)
  rename_i u;simp only[cM,decide_eq_true_eq] at u;cases d;obtain⟨X,k3,Z,J,j,F,A⟩:=G;rw[B] at j; cases j;obtain⟨u0,us,s,hu⟩:=A rfl;obtain⟨base,cap,S,o,h2,_,_,r⟩:=H.table B;rw[s] at o;have q:=kQ o
  injection q with O N
  subst N;obtain⟨base2,L,rfl,hc2,I⟩:=r.get2 U hu;rcases I with⟨rfl,I⟩|⟨b,off,c,e',rfl,_⟩
  ·omega
  ·refine Ķ.still H (run _ _ _ u.1 u.2) ?_;refine⟨rfl,T,g,xss,B,cJ _,fun _=>⟨u0,us,b,off,_,L,s,hu,by omega,?_⟩⟩;rw[Ę,fS]
 ·cases d
def i6 {b:Nat} {es:Array MapEntry} {c:Nat} (hb:w.heap[b]?=some (.map es c)):(getObj b).run P w=.ok (.map es c) w:=by simp[getObj,Sem.run,hb]
def len_ok {t ty:TypeId} {x v:AV} {z:Value} (H:HR ν h w) (e:afn (P.underlying t) h x some=some v) (j:VR ν h w x z) {ts:Array TypeId} (g:ts[0]?=some t):Ķ P ν h w (Builtin.len_ ts ty #[z]) v h:=by
 unfold afn at e;simp only[zQ] at e
 split at e
 ·rename_i W o
  have run:∀(b:AN Addr) (n c:Nat),(Builtin.len_ ts ty #[.slice b n c]).run P w=.ok (.int .i64 n) w:=fun b n c=>by
   simp[Builtin.len_,g,run_underlying o,goInt]
  split at e<;>try (cases e; done)
  ·cases e;obtain⟨base,cap,rfl,_⟩:=CR.slice_iff.1 j;exact Ķ.still H (run _ _ _) rfl
  ·cases e;obtain⟨base,cap,rfl,_⟩:=CR.slice_iff.1 (CR.old j);exact Ķ.still H (run _ _ _) rfl
  ·cases e;have:z=.slice none 0 0:=j;subst this;exact Ķ.still H (run _ _ _) rfl
  ·split at e<;>try (cases e; done)
   rename_i E g' fz xs i
   split at e<;>try (cases e; done)
   rename_i f;cases e;obtain⟨B,t2,G,I,C,a,s,d⟩:=j;rw[i] at a; cases a;obtain⟨base,cap,l,_⟩:=H.row_data i;rw[d (by simpa using f),l];exact Ķ.still H (run _ _ _) rfl
  ·split at e<;>try (cases e; done)
   rename_i E g' fz xs i
   split at e<;>try (cases e; done)
   rename_i f;cases e;obtain⟨B,t2,G,I,C,a,s,d⟩:=j;rw[i] at a; cases a;obtain⟨_,base,cap,_,rfl⟩:=d (by simpa using f);exact Ķ.still H (run _ _ _) rfl
  ·split at e<;>try (cases e; done)
   rename_i M g' xss i
   split at e<;>try (cases e; done)
   rename_i f;cases e;obtain⟨B,Q,G,y,a,s,d⟩:=j;rw[i] at a; cases a;obtain⟨us,p⟩:=d (by simpa using f);obtain⟨base,cap,D,l,_⟩:=H.table i;rw[p] at l;have q:=kQ l
   injection q with L K
   subst L;exact Ķ.still H (run _ _ _) rfl
  ·split at e<;>try (cases e; done)
   rename_i M g' xss i
   split at e<;>try (cases e; done)
   rename_i f
   split at e<;>try (cases e; done)
   rename_i xs F;cases e;obtain⟨B,Q,G,y,a,s,d⟩:=j;rw[i] at a; cases a;obtain⟨Z,us,p,S⟩:=d (by simpa using f);obtain⟨base,cap,D,l,h2,_,_,A⟩:=H.table i;rw[p] at l;have q:=kQ l
   injection q with L K
   subst K;obtain⟨J,O,rfl,U,h4⟩:=A.get2 F S;exact Ķ.still H (run _ _ _) rfl
 ·rename_i o
  split at e<;>try (cases e; done)
  cases e;have:z=.string _:=j;subst this;exact Ķ.still H (by simp[Builtin.len_,g,run_underlying o,goInt]) rfl
 ·rename_i k W o
  split at e<;>try (cases e; done)
  ·cases e;obtain⟨r,T,l⟩:=j;cases T;rcases l with⟨rfl,rfl⟩|⟨b,m,u,rfl,_,h2,A,_⟩
   ·exact Ķ.still H (by simp[Builtin.len_,g,run_underlying o,goInt]) rfl
   ·exact Ķ.still H (by simp[Builtin.len_,g,run_underlying o,goInt,i6 h2,A]) rfl
  ·cases e;have:z=.map none:=j;subst this;exact Ķ.still H (by simp[Builtin.len_,g,run_underlying o,goInt]) rfl
  ·split at e<;>try (cases e; done)
   rename_i k' Y es i;cases e;obtain⟨B,M,X,V,a,d⟩:=j;rw[i] at a; cases a;have N:=H.blk ‹Nat›;rw[i] at N;obtain⟨b,m,u,l,h2,A,_⟩:=N;rw[d,l];exact Ķ.still H (by simp[Builtin.len_,g,run_underlying o,goInt,i6 h2,A]) rfl
 ·cases e
def RI {k:IntKind} {n:Int} {y:Nat} {a:BoundsCode} (h0:0<=n) (b:n<=y) (w:World):(Instr.sliceBound (.int k n) y a).run P w=.ok n.toNat w:=by
 simp[Instr.sliceBound,asIntOf,h0,b]
def Lo (low:AN Value) (l m:Nat):Prop:=(low=none/\l=0)\/∃k n,low=some (.int k n)/\0<=n/\n<=(m:Int)/\l=n.toNat
def Hi (a:AN Value) (len cap m:Nat):Prop:=(a=none/\m=len)\/∃k n,a=some (.int k n)/\0<=n/\n<=(cap:Int)/\m=n.toNat
def qK {t e:TypeId} {sz:Nat} (c:P.underlying t=some (.slice e)) (d:szP P e=some sz) {low b:AN Value} {a:AN Addr} {len cap l m:Nat} (f:Lo low l m) (g:Hi b len cap m) (w:World) :
 (Instr.sliceAt t (.slice a len cap) low b none).run P w=.ok (.slice (if cap=l then a else a.map (·.add (l*sz))) (m-l) (cap-l)) w:=by
 rcases f with⟨rfl,rfl⟩|⟨k,n,rfl,i,h2,rfl⟩<;>rcases g with⟨rfl,rfl⟩|⟨o,j,rfl,q,p,rfl⟩ <;>
  simp[Instr.sliceAt,run_underlying c,Instr.slice,Instr.sliceBounds,lg d,RI, *]
 rw[RI i h2]; rfl
def afF {t e:TypeId} {sz:Nat} {x v:AV} {lo hi:AN AV} {f j:AN Value} {O:Value} {eat:Bool} (H:HR ν h w) (M:P.underlying t=some (.slice e)) (N:szP P e=some sz)
 (d:ox sz h x lo hi eat (fun v h=>some (v,h))=some (v,h')) (s:VR ν h w x O)
 (A:∀a,lo=some a->∃u,f=some u/\VR ν h w a u) (p:lo=none->f=none) (F:∀a,hi=some a->∃u,j=some u/\VR ν h w a u) (q:hi=none->j=none) :
 Ķ P ν h w (Instr.sliceAt t O f j none) v h':=by
 have r:∀{k:IntKind} {n:Int} {m:Nat},lo=some (.int k n)->0<=n->n<=(m:Int)->Lo f n.toNat m:=fun e h0 z=>by
  obtain⟨u,h2,W⟩:=A _ e;have:u=_:=W;subst this;exact .inr ⟨_,_,h2,h0,z,rfl⟩
 have y:∀{k:IntKind} {n:Int} {len cap:Nat},hi=some (.int k n)->0<=n->n<=(cap:Int)->Hi j len cap n.toNat:=fun e h0 z=>by
  obtain⟨u,h2,W⟩:=F _ e;have:u=_:=W;subst this;exact .inr ⟨_,_,h2,h0,z,rfl⟩
 unfold ox at d
 split at d
 ·rename_i ty xs
  split at d<;>try (cases d; done)
  rename_i o
  have o:ty.size=sz:=by simpa using o
  obtain⟨base,cap,rfl,J,_⟩:=CR.slice_iff.1 s
  have fin:∀(l m:Nat),Lo f l m->Hi j xs.length cap m->l<=m->m<=xs.length->Ķ P ν h w (Instr.sliceAt t (.slice base xs.length cap) f j none) (.slc ty ((xs.drop l).take (m-l))) h:=fun l m D Q z h2=>by
   refine Ķ.still H (qK M N D Q w) ?_;rw[<-o];exact CR.part s z h2
  have T:=J.1
  split at d<;>try (cases d; done)
  ·split at d<;>try (cases d; done)
   rename_i hb;simp only[cM,decide_eq_true_eq] at hb;cases d;have:=fin _ _ (r rfl hb.1 (by omega)) (y rfl (by omega) (by omega)) (by omega) (by omega)
   rw[show ∀a b:Int,0<=a->a<=b->(b-a).toNat=b.toNat-a.toNat from fun a b _ _=>by omega]<;>first|exact this|omega
  ·split at d<;>try (cases d; done)
   rename_i hb;simp only[cM,decide_eq_true_eq] at hb;cases d;have:=fin _ xs.length (r rfl hb.1 (by omega)) (.inl ⟨q rfl,rfl⟩) (by omega) (cJ _)
   rwa [ej (by simp)] at this
  ·split at d<;>try (cases d; done)
   rename_i hb;simp only[cM,decide_eq_true_eq] at hb;cases d;have:=fin 0 _ (.inl ⟨p rfl,rfl⟩) (y rfl (by omega) (by omega)) (dG _) (by omega);simpa using this
  ·cases d;have:=fin 0 xs.length (.inl ⟨p rfl,rfl⟩) (.inl ⟨q rfl,rfl⟩) (dG _) (cJ _);simpa using this
 ·rename_i ty xs
  split at d<;>try (cases d; done)
  rename_i o
  have o:ty.size=sz:=by simpa using o
  obtain⟨base,cap,rfl,J,_⟩:=CR.slice_iff.1 (CR.old (show CR w (Av ν h) (.fsl ty) xs [O] from s))
  have fin:∀(l m:Nat),Lo f l m->Hi j xs.length cap m->l<=m->m<=xs.length->Ķ P ν h w (Instr.sliceAt t (.slice base xs.length cap) f j none) (.fsc ty ((xs.drop l).take (m-l))) h:=fun l m D Q z h2=>by
   refine Ķ.still H (qK M N D Q w) ?_;rw[<-o];exact CR.partF s z h2
  have T:=J.1
  split at d<;>try (cases d; done)
  split at d<;>try (cases d; done)
  rename_i hb;simp only[cM,decide_eq_true_eq] at hb;cases d;have:=fin _ xs.length (r rfl hb.1 (by omega)) (.inl ⟨q rfl,rfl⟩) (by omega) (cJ _)
  rwa [ej (by simp)] at this
 ·have I:O=.slice none 0 0:=s;subst I
  split at d<;>try (cases d; done)
  ·split at d<;>try (cases d; done)
   rename_i hb;simp only[decide_eq_true_eq] at hb;cases d;subst hb;refine Ķ.still H (qK M N (.inl ⟨p rfl,rfl⟩) (y rfl (by omega) (by omega)) w) ?_;simp; rfl
  ·cases d;refine Ķ.still H (qK M N (l:=0) (m:=0) (.inl ⟨p rfl,rfl⟩) (.inl ⟨q rfl,rfl⟩) w) ?_;simp; rfl
 ·rename_i id g
  split at d<;>try (cases d; done)
  rename_i ty g' fz xs D
  split at d<;>try (cases d; done)
  rename_i hc;simp only[cM,beq_iff_eq] at hc;obtain⟨rfl,o⟩:=hc;obtain⟨ho,t2,g2,fz2,xs2,S,hle,Y⟩:=s;rw[D] at S; cases S;obtain⟨base,cap,z,h2,W,h4⟩:=H.row_data D
  have I:O=.slice base xs.length cap:=by rw[Y rfl,z]
  subst I
  split at d
  ·-- the cut replaces the row
   split at d<;>try (cases d; done)
   have K:id<h.length:=Ņ D (by simp)
   have G:∀(l m:Nat),Lo f l m->Hi j xs.length cap m->l<=m->m<=xs.length->Ķ P ν h w (Instr.sliceAt t (.slice base xs.length cap) f j none) (.own id (g+1)) (ì h id (.row ty (g+1) false ((xs.drop l).take (m-l)))):=fun l m A F Z Q=>by
    have hB:=H.blk id;rw[D] at hB;obtain⟨base',cap',q1,_,q2⟩:=hB
    rw[z] at q1; injection q1 with e1 e2 e3; subst e1; subst e3
    have C:((xs.drop l).take (m-l)).length=m-l:=by simp; omega
    have U:∀b,ę (Value.slice (if cap=l then base else base.map (·.add (l*sz))) (m-l) (cap-l)) b->ę (ν id) b:=fun b hb=>by
     rw[z]
     cases base with
     |none=>split at hb<;>cases hb
     |some a =>
      split at hb
      ·exact hb
      ·have:(a.add (l*sz)).block=a.block:=by unfold Addr.add; split<;>rfl
       simp only[ę,jz,dT,Option.some.injEq] at hb ⊢;rw[<-hb,this]
    have E:∀b,b<w.heap.size->((lkB h id).live=true->¬ę (ν id) b)->w.heap[b]?=w.heap[b]?:=fun _ _ _=>rfl
    have hV:(Blk.row ty (g+1) false ((xs.drop l).take (m-l))).live=true->∀b,ę (Value.slice (if cap=l then base else base.map (·.add (l*sz))) (m-l) (cap-l)) b->((lkB h id).live=true/\ę (ν id) b)\/w.heap.size<=b :=
     fun _ b hb=>.inl ⟨by rw[D]; rfl,U b hb⟩
    have ev:=Ev.upd H (B:=.row ty (g+1) false ((xs.drop l).take (m-l))) (V:=.slice (if cap=l then base else base.map (·.add (l*sz))) (m-l) (cap-l)) (w':=w) K rfl rfl rfl (cJ _) E hV (by
     rw[D]; exact⟨g+1,false,_,rfl,f5 _,fun hf=>by omega⟩)
    refine⟨_,w,_,qK M N A F w,vl K rfl,HR.upd H K ev E hV ⟨_,cap-l,by rw[Í,C],by rw[C]; omega,?_⟩,ev,Ï _ _ _⟩;rcases q2 with⟨rfl,rfl⟩|⟨b,off,c,e',rfl,q3,q4,q5⟩
    ·left; exact⟨by split<;>rfl,by omega⟩
    ·right
     by_cases L:cap=l
     ·refine⟨b,off,c,e',by rw[if_pos L],q3,by rw[L,Nat.sub_self,Nat.zero_mul]; omega,fun i x s=>?_⟩;have:=(cO.1 s).1;rw[C] at this; omega
     ·refine⟨b,off+l*ty.size,c,e',by rw[if_neg L]; simp[Ę,o],q3,?_,fun i x s=>?_⟩
      ·have:(cap-l)*ty.size=cap*ty.size-l*ty.size:=Nat.sub_mul _ _ _;have h5:l*ty.size<=cap*ty.size:=dl _ (by omega);omega
      ·have X:xs[l+i]?=some x:=by
        rw[dY] at s
        split at s
        ·simpa using s
        ·cases s
       obtain⟨us,q6,q7⟩:=q5 (l+i) x X;refine⟨us,CR.keep ev.keepA q6,?_⟩
       have:off+l*ty.size+i*ty.size=off+(l+i)*ty.size:=by rw[dz]; omega
       rw[this]; exact q7
   split at d<;>try (cases d; done)
   ·split at d<;>try (cases d; done)
    rename_i hb;simp only[cM,decide_eq_true_eq] at hb;cases d;have:=G _ xs.length (r rfl hb.1 (by omega)) (.inl ⟨q rfl,rfl⟩) (by omega) (cJ _)
    rwa [ej (by simp)] at this
   ·split at d<;>try (cases d; done)
    rename_i hb;simp only[cM,decide_eq_true_eq] at hb;cases d;have:=G 0 _ (.inl ⟨p rfl,rfl⟩) (y rfl (by omega) (by omega)) (dG _) (by omega);simpa using this
  ·have fin:∀(l m:Nat),Lo f l m->Hi j xs.length cap m->l<=m->m<=xs.length->Ķ P ν h w (Instr.sliceAt t (.slice base xs.length cap) f j none) (.sub id g l (m-l)) h:=fun l m A F Z Q=>by
    refine Ķ.still H (qK M N A F w) ?_;refine⟨rfl,ty,g,fz,xs,D,cJ _,fun _=>⟨by omega,base,cap,z,by rw[o]⟩⟩
   split at d<;>try (cases d; done)
   ·split at d<;>try (cases d; done)
    rename_i hb;simp only[cM,decide_eq_true_eq] at hb;cases d;have:=fin _ _ (r rfl hb.1 (by omega)) (y rfl (by omega) (by omega)) (by omega) (by omega)
    rw[show ∀a b:Int,0<=a->a<=b->(b-a).toNat=b.toNat-a.toNat from fun a b _ _=>by omega]<;>first|exact this|omega
   ·split at d<;>try (cases d; done)
    rename_i hb;simp only[cM,decide_eq_true_eq] at hb;cases d;exact fin _ xs.length (r rfl hb.1 (by omega)) (.inl ⟨q rfl,rfl⟩) (by omega) (cJ _)
   ·split at d<;>try (cases d; done)
    rename_i hb;simp only[cM,decide_eq_true_eq] at hb;cases d;have:=fin 0 _ (.inl ⟨p rfl,rfl⟩) (y rfl (by omega) (by omega)) (dG _) (by omega);simpa using this
 ·cases d
def aiN (H:HR ν h w) {id g lo n:Nat} {ty:Ty} {xs:AS (Val ty)} {u:Value} (l:lkB h id=.row ty g false xs) (S:lo+n=xs.length) (I:VR ν h w (.sub id g lo n) u) :
 ∃ν',VR ν' (ì h id (.row ty (g+1) false (xs.drop lo))) w (.own id (g+1)) u/\HR ν' (ì h id (.row ty (g+1) false (xs.drop lo))) w/\Ev h.length ν h w ν' (ì h id (.row ty (g+1) false (xs.drop lo))) w:=by
 obtain⟨J,t2,W,L,C,k,K,q⟩:=I;rw[l] at k; cases k;obtain⟨_,base,cap,z,t⟩:=q rfl;have f:id<h.length:=Ņ l (by simp);have y:=H.blk id;rw[l] at y;obtain⟨base',cap',s,O,G⟩:=y
 rw[z] at s; injection s with N X M; subst N; subst M
 have d:(xs.drop lo).length=n:=by simp; omega
 have m:∀b,ę u b->ę (ν id) b:=fun b hb=>by
  rw[z];rw[t] at hb
  cases base with
  |none=>split at hb<;>cases hb
  |some a =>
   split at hb
   ·exact hb
   ·have:(a.add (lo*ty.size)).block=a.block:=by unfold Addr.add; split<;>rfl
    simp only[ę,jz,dT,Option.some.injEq] at hb ⊢;rw[<-hb,this]
 have e:∀b,b<w.heap.size->((lkB h id).live=true->¬ę (ν id) b)->w.heap[b]?=w.heap[b]?:=fun _ _ _=>rfl
 have v:(Blk.row ty (g+1) false (xs.drop lo)).live=true->∀b,ę u b->((lkB h id).live=true/\ę (ν id) b)\/w.heap.size<=b :=
  fun _ b hb=>.inl ⟨by rw[l]; rfl,m b hb⟩
 have ev:=Ev.upd H (B:=.row ty (g+1) false (xs.drop lo)) (V:=u) (w':=w) f rfl rfl rfl (cJ _) e v (by
  rw[l]; exact⟨g+1,false,_,rfl,f5 _,fun T=>by omega⟩)
 refine⟨_,vl f J,HR.upd H f ev e v ⟨_,cap-lo,by rw[Í,d,t],by rw[d]; omega,?_⟩,ev⟩;rcases G with⟨rfl,rfl⟩|⟨b,off,c,A,rfl,r,Q,F⟩
 ·left; exact⟨by split<;>rfl,by omega⟩
 ·right
  by_cases j:cap=lo
  ·refine⟨b,off,c,A,by rw[if_pos j],r,by rw[j,Nat.sub_self,Nat.zero_mul]; omega,fun i x p=>?_⟩;have:=(cO.1 p).1;rw[d] at this; omega
  ·refine⟨b,off+lo*ty.size,c,A,by rw[if_neg j]; simp[Ę],r,?_,fun i x p=>?_⟩
   ·have:(cap-lo)*ty.size=cap*ty.size-lo*ty.size:=Nat.sub_mul _ _ _;have U:lo*ty.size<=cap*ty.size:=dl _ (by omega);omega
   ·have o:xs[lo+i]?=some x:=by simpa using p
    obtain⟨us,E,D⟩:=F (lo+i) x o;refine⟨us,CR.keep ev.keepA E,?_⟩
    have:off+lo*ty.size+i*ty.size=off+(lo+i)*ty.size:=by rw[dz]; omega
    rw[this]; exact D
end
end Go.Am
end
