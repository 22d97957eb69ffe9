/- lemmas -/
import Derived.Test.YtdmegkgjpgcfgaaGreatAmF
import Derived.Test.YtdmegkgjpgcfgaaGreatMdTA
set_option linter.all false
set_option linter.unusedSectionVars false
set_option linter.unusedVariables false
set_option linter.unusedSimpArgs false
noncomputable section
namespace Go.Am
section
variable {ρ:Type}
def ł {α β:Type} (e:Nat→α→Option β):Nat→List α→Option β
 |_,[]=>none
 |i,a::t=>match e i a with
  |some b=>some b
  |none=>ł e (i+1) t
def mc {α β:Type} (l:List α) (e:Nat→α→Option β) (k0:β→Option ρ) (k1:Option ρ) {f:Int→(Int→Option ρ)→Option ρ}
 (h:∀(i:Nat) (a:α),i<l.length→l[i]?=some a→∀kn,f i kn=match e i a with|some b=>k0 b|none=>kn ((i:Int)+1))
 (hn:∀kn,f l.length kn=k1):Ê f 0=match ł e 0 l with|some b=>k0 b|none=>k1:=by
 refine acr l (fun i t=>match ł e i t with|some b=>k0 b|none=>k1) hn fun i a t hd hi ha kn hk=>?_;rw[h i a hi ha kn,hk,ł]
 cases e i a<;>rfl
def ĥ {α σ:Type} (l:List α) (g:Nat→σ) (r:Option ρ) {f:Int×σ→(Int×σ→Option ρ)→Option ρ} {s0:σ} (h0:g 0=s0)
 (h:∀(i:Nat) (a:α),i<l.length→l[i]?=some a→∀kn,f (i,g i) kn=kn ((i:Int)+1,g (i+1)))
 (hn:∀kn,f (l.length,g l.length) kn=r):Ê f (0,s0)=r:=by
 subst h0
 have hs:∀s,(s=g 0)→Ê f (0,s)=r:=fun s e=>Rn l (fun _ _ _=>r) (fun i s=>s=g i) (fun s hs kn=>by rw[hs]; exact hn kn) (fun i a t s hd hi ha hI kn hk=>by
  rw[hI,h i a hi ha kn]; exact hk _ rfl) e
 exact hs _ rfl
def La {α σ:Type} (l:List α) (g:Nat→σ) (r:Option ρ) {f:Int×σ→(Int×σ→Option ρ)→Option ρ} {s0:σ} (P:Nat→Prop) (h0:g 0=s0) (hP:P 0)
 (h:∀(i:Nat) (a:α),i<l.length→l[i]?=some a→P i→∀kn,f (i,g i) kn=r∨(P (i+1)∧f (i,g i) kn=kn ((i:Int)+1,g (i+1))))
 (hn:P l.length→∀kn,f (l.length,g l.length) kn=r):Ê f (0,s0)=r:=by
 subst h0
 have hs:∀s,(s=g 0∧P 0)→Ê f (0,s)=r:=fun s e=>Rn l (fun _ _ _=>r) (fun i s=>s=g i∧P i) (fun s hs kn=>by rw[hs.1]; exact hn hs.2 kn) (fun i a t s hd hi ha hI kn hk=>by
  rcases h i a hi ha hI.2 kn with h1|⟨h1,h2⟩
  ·rw[hI.1,h1]
  ·rw[hI.1,h2]; exact hk _ ⟨rfl,h1⟩) e
 exact hs _ ⟨rfl,hP⟩
def Ì {i n:Nat} (h:i<n) (hn:n≤1000000000) (f:Int→Option ρ):ck ((i:Int)+1) f=f ((i:Int)+1):=Ó (by omega) (by omega) f
def af9 {i n:Nat} (h:i<n) (x y:Option ρ):ifb (ilt (i:Int) (aaa n)) x y=x:=by simp[ć,Jo,h]
def à (n:Nat) (x y:Option ρ):ifb (ilt (n:Int) (aaa n)) x y=y:=by simp[ć,Jo]
def Ò {α:Type} {l:List α} {i:Nat} (h:i<l.length) (x y:Option ρ):ifb (ilt (i:Int) (Ù l)) x y=x:=af9 h x y
def LC {α:Type} (p:α→Bool):∀(i:Nat) (l:List α),ł (fun i a=>bif p a then some (i:Int) else none) i l=(l.findIdx? p).map fun j=>((i+j:Nat):Int)
 |_,[]=>rfl
 |i,a::t=>by
  simp only[ł,List.findIdx?_cons]
  cases hp:p a with
  |true=>simp
  |false =>
   simp only[cond_false,cQ,if_false];rw[LC p (i+1) t]
   cases t.findIdx? p with
   |none=>rfl
   |some j=>simp only[dE]; congr 1; omega
def G6 {α β:Type} (e:α→Option β):∀(i:Nat) (l:List α),ł (fun _ a=>e a) i l=l.findSome? e
 |_,[]=>rfl
 |i,a::t=>by
  simp only[ł,gh]
  cases e a with
  |some b=>rfl
  |none=>exact G6 e (i+1) t
def iO {α β:Type} {e:Nat→α→Option β}:∀{i:Nat} {l:List α},ł e i l=none↔∀j a,l[j]?=some a→e (i+j) a=none
 |_,[]=>by simp[ł]
 |i,a::t=>by
  simp only[ł];constructor
  ·intro h j b hb
   cases he:e i a with
   |some c=>rw[he] at h; cases h
   |none =>
    rw[he] at h
    cases j with
    |zero=>simp at hb; subst hb; simpa using he
    |succ j=>have:=(iO.1 h) j b (by simpa using hb); rw[←this]; congr 1; omega
  ·intro h;have h0:=h 0 a (by simp);simp only[fu] at h0;rw[h0]
   exact iO.2 fun j b hb=>by have:=h (j+1) b (by simpa using hb); rw[←this]; congr 1; omega
def take_succ {α:Type} {l:List α} {i:Nat} {a:α} (h:l[i]?=some a):l.take (i+1)=l.take i++[a]:=by rw[List.take_succ,h]; rfl
end
end Go.Am
end

noncomputable section
namespace Go.Proofs.ZzM
open Go Go.Am
section
variable {ρ:Type}
def Ę {τ:Type} {f:τ→(τ→Option ρ)→Option ρ} {r:Option ρ} (I:τ→Prop) (μ:τ→Nat)
 (h:∀x,I x→(∀kn,f x kn=r)∨∃y,I y∧μ y<μ x∧∀kn,f x kn=kn y) {x:τ} (hx:I x):Ê f x=r :=
 tE (F:=fun _=>r) I μ (fun x hx kn hk=>by
  rcases h x hx with h1|⟨y,h1,h2,h3⟩
  ·exact h1 kn
  ·rw[h3,hk y h1 h2]) hx
def jx {α:Type} (l:List α) (p:α→Bool) (k0:Int→Option ρ) (k1:Option ρ) {f:Int→(Int→Option ρ)→Option ρ}
 (h:∀(i:Nat) (a:α),i<l.length→l[i]?=some a→∀kn,f i kn=if p a then k0 i else kn ((i:Int)+1))
 (hn:∀kn,f l.length kn=k1):Ê f 0=match l.findIdx? p with|some j=>k0 j|none=>k1:=by
 rw[mc l (fun i a=>bif p a then some (i:Int) else none) k0 k1 (fun i a hi ha kn=>by rw[h i a hi ha kn]; cases p a<;>rfl) hn,LC]
 cases l.findIdx? p with
 |none=>rfl
 |some j=>simp
def ĵ {α:Type} (l:List α) (p:α→Bool) (k0:Int→Option ρ) (K k1:Option ρ) {f:Int→(Int→Option ρ)→Option ρ} (hK:∀j:Nat,k0 j=K)
 (h:∀(i:Nat) (a:α),i<l.length→l[i]?=some a→∀kn,f i kn=if p a then k0 i else kn ((i:Int)+1))
 (hn:∀kn,f l.length kn=k1):Ê f 0=if l.any p then K else k1:=by
 rw[jx l p k0 k1 h hn]
 cases hf:l.findIdx? p with
 |none =>
  have:l.any p=false:=by
   rw[dz];intro x hx;have:=dB.1 hf x hx;simp[this]
  simp[this]
 |some j =>
  have:l.any p=true:=by
   have:=dI.1 hf;obtain⟨hj,hp,_⟩:=this;exact dc.2 ⟨_,eT hj,hp⟩
  simp[this,hK]
end
abbrev ý:Type:=Int×Int×Int×(Int×Int)×((Int×Int)×Int)
abbrev Mq:Type:=Int×((Int×Int)×Int)
abbrev Cmp:Type:=Int×Int×List Int×List Int×Int×(Int×(Int×Int))
abbrev Ė:Type:=(Int×Int)×List ý×List (Int×Int)×List Mq×List Cmp×List (Int×Int)
abbrev Sys:Type:=Int×List (Int×Int×Int)
abbrev Maker:Type:=Ė×List (Int×Int)×Sys×List (Int×Int)
section
variable {ρ:Type}
def Ø {b:Bool} (h:b=true) (x y:Option ρ):ifb b x y=x:=by rw[h]; rfl
def Í {b:Bool} (h:b=false) (x y:Option ρ):ifb b x y=y:=by rw[h]; rfl
end
def I64 (n:Int):Prop:=-9223372036854775808≤n∧n≤9223372036854775807
def inP (n lo hi:Int):Bool:=decide (lo≤n)&&decide (n≤hi)
def Ph (n:Int):Bool:=inP n 0 20000
def od (s:Int×Int) (lo hi:Int):Bool:=decide (lo≤s.1)&&(decide (s.1≤s.2)&&decide (s.2≤hi))
def Ε (n lo hi:Int):ē n lo hi=some (inP n lo hi):=by
 unfold ē FB inP ile
 cases decide (lo≤n)<;>rfl
def IA (n:Int):kT n=some (Ph n):=by
 unfold kT KY;rw[Ε]; rfl
def D3 (s:Int×Int) (lo hi:Int):Δ s lo hi=some (od s lo hi):=by
 unfold Δ FK od ile
 cases decide (lo≤s.1)<;>cases decide (s.1≤s.2)<;>rfl
def PC {n:Int} (h:I64 n):rG n=some (n.natAbs:Int):=by
 obtain⟨h1,h2⟩:=h;unfold rG QK
 by_cases hn:n<0
 ·have:ilt n 0=true:=by simpa using hn
  rw[Ø this];congr 1;simp only[IntKind.wrap,IntKind.bits,IntKind.signed];simp;omega
 ·have:ilt n 0=false:=by simpa using hn
  rw[Í this];congr 1;simp only[IntKind.wrap,IntKind.bits,IntKind.signed];simp;omega
def aga (a b:Nat):LK a b=some ((Nat.gcd a b:Nat):Int):=by
 unfold LK WW;refine Ę (fun x:Int×Int=>∃c d:Nat,x=((c:Int),(d:Int))∧Nat.gcd c d=Nat.gcd a b) (fun x=>x.2.toNat) ?_ ⟨a,b,rfl,rfl⟩;rintro x ⟨c,d,rfl,hg⟩
 cases d with
 |zero =>
  refine .inl fun kn=>?_;rw[Nat.gcd_zero_right] at hg;unfold yI;simp[hg,ine]
 |succ d =>
  refine .inr ⟨(((d+1:Nat):Int),((c % (d+1):Nat):Int)),⟨d+1,c % (d+1),rfl,?_⟩,?_,fun kn=>?_⟩
  ·rw[←hg,Nat.gcd_comm c (d+1),Nat.gcd_rec (d+1) c,Nat.gcd_comm]
  ·have:=Nat.mod_lt c (gG d);simp only[cP];omega
  ·unfold yI
   have h1:ine ((d+1:Nat):Int) 0=true:=by simp[ine]; omega
   have h2:BX ((d+1:Nat):Int) 0=false:=by simp[BX]; omega
   simp only[h1,Ø Í h2];congr 1
def Mv (r:Int×Int):Bool :=
 decide (1≤r.2)&&(decide (r.2≤2147483647)&&(decide ((r.1.natAbs:Int)≤2147483647)&&decide (Nat.gcd r.1.natAbs r.2.natAbs=1)))
def Sk {r:Int×Int} (h:I64 r.1):tQ r=some (Mv r):=by
 unfold tQ KI Mv
 by_cases h1:1≤r.2
 ·by_cases h2:r.2≤2147483647
  ·have h3:I64 r.2:=⟨by omega,by omega⟩
   have e1:ige r.2 1=true:=by simp[ige,h1]
   have e2:ile r.2 2147483647=true:=by simp[ile,h2]
   rw[Ø e1,Ø e2,PC h,À]
   by_cases h4:(r.1.natAbs:Int)≤2147483647
   ·have e4:ile (r.1.natAbs:Int) 2147483647=true:=by simp[ile,h4]
    rw[Ø e4,À,PC h3,À,aga,À];congr 1;rw[gj];simp only[ieq,beq_iff_eq,h1,h2,h4,decide_true,dY,decide_eq_true_eq];omega
   ·have e4:ile (r.1.natAbs:Int) 2147483647=false:=by simp[ile]; omega
    rw[Í e4];simp[h4]
  ·have e1:ige r.2 1=true:=by simp[ige,h1]
   have e2:ile r.2 2147483647=false:=by simp[ile]; omega
   rw[Ø e1,Í e2];simp[h2]
 ·have e1:ige r.2 1=false:=by simp[ige]; omega
  rw[Í e1];simp[h1]
def AP (g:ý):Bool :=
 Mv g.2.2.2.2.1&&inP g.2.2.2.2.1.1 (-1000) 1000&&decide (g.2.2.2.2.1.2≤100)&&inP g.1 1 1099511627776&&Ph g.2.1&&inP g.2.2.1 1 1125899906842624&&od g.2.2.2.1 (-1073741824) 1073741824&&inP g.2.2.2.2.2 0 1048576
def aar {g:ý} (h:I64 g.2.2.2.2.1.1):vv g=some (AP g):=by
 unfold vv BJ AP;rw[Sk h,Ε,Ε,IA,Ε,D3,Ε];generalize Mv g.2.2.2.2.1=x1;generalize inP g.2.2.2.2.1.1 (-1000) 1000=x2;generalize inP g.1 1 1099511627776=x3;generalize Ph g.2.1=x4;generalize inP g.2.2.1 1 1125899906842624=x5;generalize od g.2.2.2.1 (-1073741824) 1073741824=x6;generalize inP g.2.2.2.2.2 0 1048576=x7;unfold ile;generalize decide (g.2.2.2.2.1.2≤100)=x8
 cases x1<;>cases x2<;>cases x3<;>cases x4<;>cases x5<;>cases x6<;>cases x8<;>rfl
section
variable {ρ:Type}
def UU {α:Type} {l:List α} {i:Nat} {a:α} (h0:0<i) (h:l[i-1]?=some a) (f:α→Option ρ):ĝ l ((i:Int)-1) f=f a:=by
 have:((i:Int)-1)=((i-1:Nat):Int):=by omega
 rw[this,È h]
def adA {i:Nat} (h:0<i) (hn:i≤1000000000) (f:Int→Option ρ):ck ((i:Int)-1) f=f ((i:Int)-1):=Ó (by omega) (by omega) f
def Ŧ {i n:Nat} (h:i<n) (x:Option ρ):è ((ile 0 (i:Int))&&(ilt (i:Int) (n:Int))) x=x:=by
 have:((ile 0 (i:Int))&&(ilt (i:Int) (n:Int)))=true:=by simp[ile,ilt,h]
 rw[this,Am.iff_true]
def ė {α:Type} {l:List α} {i:Nat} {a:α} (h:l[i]?=some a) (f:α→Option ρ):Ľ l (Int.toNat (i:Int)) f=f a:=by
 rw[cP]; exact iW h f
end
def tX {α:Type} (key:α→Int) (l:List α) (i:Nat) (a:α):Bool :=
 decide (0<i)&&(l[i-1]?).any fun q=>decide (key a≤key q)
def S8 {α:Type} {l:List α} {i:Nat} (hi:i<l.length) (h0:0<i):∃q,l[i-1]?=some q :=
 ⟨l[i-1],cw (by omega)⟩
def IM {α:Type} (key:α→Int) (l:List α):(∀i a,l[i]?=some a→tX key l i a=false)↔l.Pairwise (fun a b=>key a<key b):=by
 rw[df];constructor
 ·intro h
  have step:∀i (h1:i+1<l.length),key l[i]<key l[i+1]:=by
   intro i h1;have:=h (i+1) l[i+1] (cw h1);simp only[tX,Nat.add_sub_cancel,gG,decide_true,dY,cw (show i<l.length by omega),Option.any_some,decide_eq_false_iff_not] at this;omega
  intro i j hi hj hij
  induction j with
  |zero=>omega
  |succ j ih =>
   have:=step j hj;rcases cV i j with hlt|hge
   ·have:=ih (by omega) hlt; omega
   ·have:i=j:=by omega
    subst this; assumption
 ·intro h i a ha;obtain⟨hi,rfl⟩:=List.getElem?_eq_some_iff.1 ha;unfold tX
  cases i with
  |zero=>rfl
  |succ i =>
   have:=h i (i+1) (by omega) hi (by omega);simp only[Nat.add_sub_cancel,gG,decide_true,dY,cw (show i<l.length by omega),Option.any_some,decide_eq_false_iff_not];omega
def xZ (l:List ý) (i:Nat) (g:ý):Option Int :=
 if !AP g then some 1 else if tX (fun g=>g.1) l i g then some 6 else none
def nV (b:Ė):Int:=(ł (xZ b.2.1) 0 b.2.1).getD 0
def NV {b:Ė} (hr:∀g∈b.2.1,I64 g.2.2.2.2.1.1) (hn:b.2.1.length≤1000):ŷ b=some (nV b):=by
 unfold ŷ pH;refine Eq.trans (mc b.2.1 (xZ b.2.1) some (some 0) (fun i a hi ha kn=>?_) (fun kn=>?_)) ?_
 ·try dsimp only
  unfold iA;rw[Ò hi,È ha,aar (hr a (List.mem_of_getElem? ha)),À];unfold xZ
  cases hg:AP a with
  |false=>simp
  |true =>
   simp only[dw,é,cQ,if_false];rcases fS i with h0|h0
   ·subst h0
    have:igt ((0:Nat):Int) 0=false:=by simp[igt]
    rw[Í this,Ì hi (by omega)];simp[tX]
   ·obtain⟨q,hq⟩:=S8 hi h0
    have h1:igt (i:Int) 0=true:=by simp[igt]; omega
    rw[Ø h1,adA h0 (by omega),UU h0 hq];simp only[tX,h0,decide_true,Bool.true_and,hq,Option.any_some];unfold ile
    cases h2:decide (a.1≤q.1) with
    |true=>simp
    |false =>
     rw[é,Ì hi (by omega)];simp
 ·try dsimp only
  unfold iA;rw[à]
 ·unfold nV
  cases ł (xZ b.2.1) 0 b.2.1<;>rfl
def SP (l:List ý):List (Int×ý):=l.foldl (fun m g=>Oz (k:=tI) (v:=Õ) g.1 g m) []
def iB (b:Ė):List (Int×ý):=SP b.2.1
def EM {b:Ė} (hn:b.2.1.length≤1000):Ķ b=some (iB b):=by
 unfold Ķ BG;refine ĥ b.2.1 (fun i=>SP (b.2.1.take i)) _ rfl (fun i a hi ha kn=>?_) (fun kn=>?_)
 ·try dsimp only
  unfold mw;rw[Ò hi,È ha,Ì hi (by omega),take_succ ha];simp only[SP,List.foldl_append,List.foldl_cons,List.foldl_nil]
 ·try dsimp only
  unfold mw;rw[à,List.take_length];rfl
def Tz (x y:Int) (g:ý):∀m:List (Int×ý),qt (k:=tI) (v:=Õ) x (Oz (k:=tI) (v:=Õ) y g m)=if x=y then some g else qt (k:=tI) (v:=Õ) x m
 |[]=>by
  unfold Oz qt i6 qt
  by_cases h:x=y<;>simp[h]
 |e::m=>by
  unfold Oz
  by_cases h:y=e.1
  ·have:i6 tI y e.1=true:=by simp[i6,h]
   rw[this]
   try dsimp only
   unfold qt i6
   by_cases h2:x=y
   ·simp[h2]
   ·have:¬x=e.1:=fun h3=>h2 (h3.trans h.symm);simp[h2,this]
  ·have:i6 tI y e.1=false:=by simp[i6,h]
   rw[this]
   try dsimp only
   have ih:=Tz x y g m;unfold qt
   by_cases h2:x=e.1
   ·have:i6 tI x e.1=true:=by simp[i6,h2]
    rw[this];have:¬x=y:=fun h3=>h (h3.symm.trans h2);simp[this]
   ·have:i6 tI x e.1=false:=by simp[i6,h2]
    rw[this];exact ih
def ĉ (b:Ė) (id:Int):Option ý:=b.2.1.find? fun g=>g.1==id
def Ws (x:Int) (l:List ý):qt (k:=tI) (v:=Õ) x (SP l)=l.reverse.find? fun g=>g.1==x:=by
 unfold SP;rw[←List.foldr_reverse]
 induction l.reverse with
 |nil=>rfl
 |cons g t ih =>
  rw[List.foldr_cons,Tz,ih,fA]
  by_cases h:x=g.1
  ·simp[h]
  ·have:(g.1==x)=false:=by simp; exact fun h2=>h h2.symm
   simp[h,this]
def G7 {l:List ý} (h:l.Pairwise fun a b=>a.1<b.1) (x:Int):l.reverse.find? (fun g=>g.1==x)=l.find? fun g=>g.1==x:=by
 induction l with
 |nil=>rfl
 |cons g t ih =>
  rw[dj] at h;rw[List.reverse_cons,List.find?_append,ih h.2,fA]
  by_cases hx:g.1=x
  ·have:t.find? (fun g=>g.1==x)=none:=dU.2 fun y hy=>by have:g.1<y.1:=h.1 y hy; simp; omega
   rw[this]; simp[hx]
  ·have:(g.1==x)=false:=by simp[hx]
   simp[this]
def yC {b:Ė} (h:b.2.1.Pairwise fun a b=>a.1<b.1) (x:Int):qt (k:=tI) (v:=Õ) x (iB b)=ĉ b x:=by
 unfold iB ĉ;rw[Ws,G7 h]
def mH (s:List (Int×ý)) (id day:Int):Int :=
 match qt (k:=tI) (v:=Õ) id s with
 |some g=>if day<g.2.1 then 4 else 0
 |none=>5
def Wt (s:List (Int×ý)) (id day:Int):il s id day=some (mH s id day):=by
 unfold il rZ mH
 cases h:qt (k:=tI) (v:=Õ) id s with
 |none=>simp only[Mn,h]
 |some g =>
  simp only[Mn,h];rw[ć]
  by_cases h2:day<g.2.1<;>simp[h2]
def abn (s:List (Int×ý)) (id day:Int):Int:=if !Ph day then 1 else mH s id day
def Td (s:List (Int×ý)) (id day:Int):ķ id day s=some (abn s id day):=by
 unfold ķ BI abn;rw[IA,À,Wt,À]
 cases Ph day<;>rfl
def Ro (b:Ė) (s:List (Int×ý)) (i:Nat) (l:Mq):Int :=
 if !od l.2.1 0 20000 then 1 else if !inP l.2.2 0 1048576 then 1 else if mH s l.1 l.2.1.1 != 0 then mH s l.1 l.2.1.1 else
 if (b.2.2.2.1.take i).any (fun x=>x.1==l.1&&(decide (x.2.1.1≤l.2.1.2)&&decide (l.2.1.1≤x.2.1.2))) then 9 else
 if b.2.2.1.any (fun u=>u.1==l.1&&inP u.2 l.2.1.1 l.2.1.2) then 9 else 0
def Vi {b:Ė} (hn:b.2.2.2.1.length≤1000) (hu:b.2.2.1.length≤1000) (s:List (Int×ý)) {i:Nat} {l:Mq} (hl:b.2.2.2.1[i]?=some l):Μ b s i=some (Ro b s i l):=by
 unfold Μ vg Ro;have hi:i<b.2.2.2.1.length:=(List.getElem?_eq_some_iff.1 hl).1;rw[È hl,D3,À,Ε,À,Wt,À]
 cases od l.2.1 0 20000 with
 |false=>rfl
 |true =>
 cases inP l.2.2 0 1048576 with
 |false=>rfl
 |true =>
 cases hm:(mH s l.1 l.2.1.1 != 0) with
 |true =>
  have:ine (mH s l.1 l.2.1.1) 0=true:=hm;simp[this]
 |false =>
 have hm':ine (mH s l.1 l.2.1.1) 0=false:=hm
 have hg:((ile (0:Int) (i:Int))&&(ile (i:Int) (ò b.2.2.2.1)))=true:=by simp[ile,ò]; omega
 simp only[dw,é,hm',cQ,if_false];rw[ċ hg,cP]
 have inner:∀(k:Int→Option Int),Ê (fun(v:Int) kk=>Γ b.2.2.1 (Ù b.2.2.1) l.1 l.2.1.1 l.2.1.2 v (fun u=>kk u) (fun z=>ifb (ige z 0) (k 9) (k 0)) (fun _=>k 0)) (0:Int)=if b.2.2.1.any (fun u=>u.1==l.1&&inP u.2 l.2.1.1 l.2.1.2) then k 9 else k 0:=by
  intro k;refine ĵ b.2.2.1 _ (fun z=>ifb (ige z 0) (k 9) (k 0)) (k 9) (k 0) (fun j=>?_) (fun j a hj ha kn=>?_) (fun kn=>?_)
  ·have:ige (j:Int) 0=true:=by simp[ige]
   rw[Ø this]
  ·try dsimp only
   unfold Γ;rw[Ò hj,È ha,Ε,À,Ì hj (by omega)]
   cases h1:(a.1==l.1) with
   |false =>
    have:ieq a.1 l.1=false:=h1;simp[this]
   |true =>
    have:ieq a.1 l.1=true:=h1;rw[this]
    cases inP a.2 l.2.1.1 l.2.1.2<;>simp
  ·try dsimp only
   unfold Γ;rw[à]
 rw[inner];refine dS (ĵ (b.2.2.2.1.take i) (fun x=>x.1==l.1&&(decide (x.2.1.1≤l.2.1.2)&&decide (l.2.1.1≤x.2.1.2))) (fun z=>ifb (ige z 0) (some 9) (if b.2.2.1.any (fun u=>u.1==l.1&&inP u.2 l.2.1.1 l.2.1.2) then some 9 else some 0)) (some 9) (if b.2.2.1.any (fun u=>u.1==l.1&&inP u.2 l.2.1.1 l.2.1.2) then some 9 else some 0) (fun j=>?_) (fun j a hj ha kn=>?_) (fun kn=>?_)) ?_
 ·have:ige (j:Int) 0=true:=by simp[ige]
  rw[Ø this]
 ·try dsimp only
  unfold jN
  have hj':j≤1000:=by rw[cT] at hj; omega
  rw[Ò hj,È ha,Ì hj (by rw[cT]; omega)]
  cases h1:(a.1==l.1) with
  |false =>
   have:ieq a.1 l.1=false:=h1;simp[this]
  |true =>
   have:ieq a.1 l.1=true:=h1;rw[this]
   cases h2:decide (a.2.1.1≤l.2.1.2)<;>cases h3:decide (l.2.1.1≤a.2.1.2)<;>simp[ile,h2,h3,ć]<;>simp_all
 ·try dsimp only
  unfold jN;rw[à]
 ·cases List.any (b.2.2.2.1.take i) _<;>cases b.2.2.1.any _<;>rfl
def VH {l:List Int} (hn:l.length≤1000000) (x:Int):ω l x=some (match l.findIdx? (·==x) with|some j=>(j:Int)|none=>-1):=by
 unfold ω lX;refine Eq.trans (jx l (·==x) some (some (-1)) (fun i a hi ha kn=>?_) (fun kn=>?_)) ?_
 ·try dsimp only
  unfold Ω;rw[Ò hi,È ha,Ì hi (by omega),ć]
  by_cases h:x=a
  ·subst h; simp[ieq]
  ·have h2:¬a=x:=fun e=>h e.symm;simp[ieq,h,h2]
 ·try dsimp only
  unfold Ω;rw[à]
 ·cases l.findIdx? (·==x)<;>rfl
def ń {l:List Int} (hn:l.length≤1000000) (x:Int):Ü l x=some (l.contains x):=by
 unfold Ü jp;rw[VH hn,À];congr 1
 cases h:l.findIdx? (·==x) with
 |none =>
  have:l.contains x=false:=by
   rw[dN];intro hc;have:=dB.1 h x (by simpa using hc);simp at this
  rw[this]; rfl
 |some j =>
  obtain⟨hj,hp,_⟩:=dI.1 h
  have:l.contains x=true:=by
   have h2:l[j]=x:=by simpa using hp
   rw[←h2]; simp
  rw[this];simp[ige]
def ü (a b:List Int):List Int:=a.filter fun x=>!b.contains x
def xW {a b:List Int} (ha:a.length≤1000000) (hb:b.length≤1000000):Λ a b=some (ü a b):=by
 unfold Λ Q2;rw[Ú (by omega),Am.iff_true]
 have second:∀z:Nat,z<a.length→ü (a.take z) b=a.take z→b.contains (a[z]?.getD 0)=true →
  Ê (fun(v13:(Val (.pair tI (.pair tI (.slice tI))))) kk17=>jW b v13.1 v13.2.1 v13.2.2 (fun u14 u15 u16=>kk17 (u14,u15,u16)) (fun z12=>è ((ile (0:Int) z12.1)&&(ile z12.1 (ò z12.2))) (è ((ile (0:Int) z12.1)&&(ile z12.1 (ò (List.take (Int.toNat z12.1) z12.2++List.replicate (List.length z12.2-(Int.toNat z12.1)) (0:Int)++List.drop ((Int.toNat z12.1)+(List.length z12.2-(Int.toNat z12.1))) z12.2)))) (some (List.take (Int.toNat z12.1) (List.drop 0 (List.take (Int.toNat z12.1) z12.2++List.replicate (List.length z12.2-(Int.toNat z12.1)) (0:Int)++List.drop ((Int.toNat z12.1)+(List.length z12.2-(Int.toNat z12.1))) z12.2))))))) ((z:Int),((z:Int)+1),a)=some (ü a b):=by
  intro z hz hp hc
  refine Ę (fun x:Int×Int×List Int=>∃i j:Nat,x.1=i∧x.2.1=j∧i<j∧j≤a.length∧x.2.2.length=a.length∧x.2.2.take i=ü (a.take j) b∧x.2.2.drop j=a.drop j) (fun x=>a.length-x.2.1.toNat) ?_
   ⟨z,z+1,rfl,by simp,by omega,by omega,rfl,?_,rfl⟩
  ·rintro⟨x1,x2,s⟩ ⟨i,j,h1,h2,hij,hja,hl,ht,hd⟩;simp only at h1 h2 hl ht hd;subst h1 h2;rcases cV j a.length with hj|hj
   ·refine .inr ?_
    have hsj:s[j]?=some a[j]:=by
     have h3:(s.drop j)[0]?=(a.drop j)[0]?:=by rw[hd]
     rw[dZ,dZ] at h3;simpa[cw hj] using h3
    have hjs:j<s.length:=by omega
    have hta:ü (a.take (j+1)) b=ü (a.take j) b++if b.contains a[j] then[] else[a[j]]:=by
     rw[take_succ (cw hj),ü,ü,eG];congr 1
     cases h:b.contains a[j] with
     |true=>simp only[d9,h,dw,cQ,if_false,eY,if_true]
     |false=>simp only[d9,h,ft,cQ,if_false,eY,if_true]
    cases h:b.contains a[j] with
    |true =>
     refine⟨(i,(j:Int)+1,s),⟨i,j+1,rfl,by simp,by omega,by omega,hl,?_,?_⟩,by simp; omega,fun kn=>?_⟩
     ·rw[hta,h]; simpa using ht
     ·have:=congrArg (List.drop 1) hd;simpa[fJ,Nat.add_comm] using this
     ·try dsimp only
      unfold jW;rw[Ò hjs,Ŧ hjs,ė hsj,ń hb,À,h];simp only[Bool.not_true,é];rw[Ì hjs (by omega)]
    |false =>
     have his:i<s.length:=by omega
     refine⟨((i:Int)+1,(j:Int)+1,s.set i a[j]),⟨i+1,j+1,by simp,by simp,by omega,by omega,by simpa using hl,?_,?_⟩,by simp; omega,fun kn=>?_⟩
     ·show List.take (i+1) (s.set i a[j])=_;rw[hta,h,List.take_succ,fE,List.take_set_of_le (cz i),ht];simp[his]
     ·show List.drop (j+1) (s.set i a[j])=_;rw[List.drop_set_of_lt (by omega)];have:=congrArg (List.drop 1) hd;simpa[fJ,Nat.add_comm] using this
     ·try dsimp only
      unfold jW;rw[Ò hjs,Ŧ hjs,ė hsj,ń hb,À,h];simp only[Bool.not_false,oy];rw[Ŧ his,ė (List.getElem?_eq_getElem his),Ì his (by omega),Ì hjs (by omega),Int.toNat_natCast]
   ·refine .inl fun kn=>?_
    have hje:j=s.length:=by omega
    try dsimp only
    unfold jW;rw[hje,à];dsimp only
    have g1:((ile (0:Int) (i:Int))&&(ile (i:Int) (ò s)))=true:=by simp[ile,ò]; omega
    rw[ċ g1]
    have g2:((ile (0:Int) (i:Int))&&(ile (i:Int) (ò (List.take (Int.toNat (i:Int)) s++List.replicate (List.length s-(Int.toNat (i:Int))) (0:Int)++List.drop ((Int.toNat (i:Int))+(List.length s-(Int.toNat (i:Int)))) s))))=true:=by
     simp[ile,ò]; omega
    rw[ċ g2,cP,List.drop_zero,cJ,fh (by simp; omega),List.take_take,Nat.min_self,ht];rw[dT (by omega)]
  ·show List.take z a=ü (a.take (z+1)) b;have hz':a[z]?=some a[z]:=cw hz;rw[take_succ hz',ü,eG];rw[hz'] at hc;simp only[gC] at hc
   have:List.filter (fun x=>!b.contains x) [a[z]]=[]:=by simp only[d9,hc,dw,cQ,if_false,eY]
   rw[this,cW];exact hp.symm
 refine dS (jx a (fun x=>b.contains x) (fun z4=>ifb (ieq z4 (-1:Int)) (some a) (ck (z4+(1:Int)) fun n5=>Ê (fun(v13:(Val (.pair tI (.pair tI (.slice tI))))) kk17=>jW b v13.1 v13.2.1 v13.2.2 (fun u14 u15 u16=>kk17 (u14,u15,u16)) (fun z12=>è ((ile (0:Int) z12.1)&&(ile z12.1 (ò z12.2))) (è ((ile (0:Int) z12.1)&&(ile z12.1 (ò (List.take (Int.toNat z12.1) z12.2++List.replicate (List.length z12.2-(Int.toNat z12.1)) (0:Int)++List.drop ((Int.toNat z12.1)+(List.length z12.2-(Int.toNat z12.1))) z12.2)))) (some (List.take (Int.toNat z12.1) (List.drop 0 (List.take (Int.toNat z12.1) z12.2++List.replicate (List.length z12.2-(Int.toNat z12.1)) (0:Int)++List.drop ((Int.toNat z12.1)+(List.length z12.2-(Int.toNat z12.1))) z12.2))))))) (z4,n5,a))) (some a) (fun i x hi hx kn=>?_) (fun kn=>?_)) ?_
 ·try dsimp only
  unfold vc;rw[Ò hi,Ŧ hi,ė hx,ń hb,À,Ì hi (by omega),ć]
 ·try dsimp only
  unfold vc;rw[à]
 ·cases h:a.findIdx? (fun x=>b.contains x) with
  |none =>
   have:ü a b=a:=by
    rw[ü,gd];intro x hx;have:=dB.1 h x hx;simpa using this
   rw[this]
  |some z =>
   obtain⟨hz,hc,hlt⟩:=dI.1 h
   have h1:ieq (z:Int) (-1)=false:=by simp[ieq]
   try dsimp only
   rw[Í h1,Ì hz (by omega)];refine second z hz ?_ ?_
   ·rw[ü,gd];intro x hx;obtain⟨j,hj,rfl⟩:=cM.1 hx;rw[cT] at hj;rw[eM];have:=hlt j (by omega);simpa using this
   ·rw[cw hz]; exact hc
def Hg (l:List Int) (i:Nat) (a:Int):Option Bool:=if !inP a 1 1099511627776 then some false else if tX (fun x=>x) l i a then some false else none
def wD (l:List Int):Bool:=match ł (Hg l) 0 l with|some _=>false|none=>decide (l.length≤6)
def D2 {l:List Int} (hn:l.length≤1000000):mh l=some (wD l):=by
 unfold mh FJ;refine Eq.trans (mc l (Hg l) some (some (decide (l.length≤6))) (fun i a hi ha kn=>?_) (fun kn=>?_)) ?_
 ·try dsimp only
  unfold ox;rw[Ò hi,È ha,Ε,À];unfold Hg
  cases inP a 1 1099511627776 with
  |false=>rfl
  |true =>
   simp only[dw,é,cQ,if_false];rcases fS i with h0|h0
   ·subst h0
    have:igt ((0:Nat):Int) 0=false:=by simp[igt]
    rw[Í this,Ì hi (by omega)];simp[tX]
   ·obtain⟨q,hq⟩:=S8 hi h0
    have h1:igt (i:Int) 0=true:=by simp[igt]; omega
    rw[Ø h1,adA h0 (by omega),UU h0 hq];simp only[tX,h0,decide_true,Bool.true_and,hq,Option.any_some];unfold ile
    cases h2:decide (a≤q) with
    |true=>rfl
    |false =>
     rw[é,Ì hi (by omega)];rfl
 ·try dsimp only
  unfold ox;rw[à,Ï];simp[ile];omega
 ·have hb:∀x,ł (Hg l) 0 l=some x→x=false:=by
   have:∀(m:List Int) (j:Nat) (x:Bool),ł (Hg l) j m=some x→x=false:=by
    intro m
    induction m with
    |nil=>intro j x h; cases h
    |cons a m ih =>
     intro j x h;unfold ł at h
     cases hp:Hg l j a with
     |none=>rw[hp] at h; exact ih _ _ h
     |some y =>
      rw[hp] at h;cases h;unfold Hg at hp
      split at hp
      ·cases hp; rfl
      ·split at hp
       ·cases hp; rfl
       ·cases hp
   exact this l 0
  unfold wD
  cases h:ł (Hg l) 0 l with
  |none=>rfl
  |some x=>rw[hb x h]
def Jb (l:List Int):wD l=true↔(∀x∈l,1≤x∧x≤1099511627776)∧l.Pairwise (·<·)∧l.length≤6:=by
 have h0:ł (Hg l) 0 l=none↔(∀x∈l,1≤x∧x≤1099511627776)∧l.Pairwise (·<·):=by
  rw[iO,←IM (fun x=>x) l];constructor
  ·intro h
   have h1:∀(j:Nat) (a:Int),l[j]?=some a→inP a 1 1099511627776=true∧tX (fun x=>x) l j a=false:=by
    intro j a ha;have:=h j a ha;rw[Nat.zero_add] at this;unfold Hg at this
    split at this
    ·cases this
    ·split at this
     ·cases this
     ·rename_i h1 h2;exact⟨by simpa using h1,by simpa using h2⟩
   refine⟨fun x hx=>?_,fun i a ha=>(h1 i a ha).2⟩;obtain⟨j,hj,rfl⟩:=cM.1 hx;have:=(h1 j l[j] (cw hj)).1;simpa[inP] using this
  ·rintro⟨h1,h2⟩ j a ha;rw[dh];have h3:=h1 a (cG ha)
   have:inP a 1 1099511627776=true:=by simpa[inP] using h3
   simp[Hg,this,h2 j a ha]
 unfold wD
 cases h:ł (Hg l) 0 l with
 |none =>
  obtain⟨h1,h2⟩:=h0.1 h;simp only[decide_eq_true_eq];exact⟨fun h3=>⟨h1,h2,h3⟩,fun h3=>h3.2.2⟩
 |some x =>
  constructor
  ·intro h2; cases h2
  ·rintro⟨h1,h2,h3⟩;rw[h0.2 ⟨h1,h2⟩] at h; cases h
def Mk {a b:List Int} (ha:a.length≤1000000) (hb:b.length≤1000000):Ģ [a,b]=some (a++b):=by
 have hk:∀n:Nat,n≤4000000→∀(f:Int→Option (List Int)),ck (n:Int) f=f n:=fun n h f=>Ó (by omega) (by omega) f
 have second:Ê (fun(v9:(Val (.pair tI (.slice tI)))) kk12=>Ĝ [a,b] (Ù [a,b]) v9.1 v9.2 (fun u10 u11=>kk12 (u10,u11)) (fun z8=>some z8)) ((0:Int),([]:List Int))=some (a++b):=by
  refine ĥ [a,b] (fun i=>([a,b].take i).flatten) (some (a++b)) (f:=fun(v9:(Val (.pair tI (.slice tI)))) kk12=>Ĝ [a,b] (Ù [a,b]) v9.1 v9.2 (fun u10 u11=>kk12 (u10,u11)) (fun z8=>some z8)) rfl (fun i x hi hx kn=>?_) (fun kn=>?_)
  ·try dsimp only
   unfold Ĝ;rw[Ò hi,È hx,Ì hi (by simp),take_succ hx,List.flatten_append]
   have:î ((List.take i [a,b]).flatten.length+x.length)=true:=by
    refine Ú ?_
    have h1:x.length≤1000000:=by
     have:=cG hx;simp at this
     rcases this with rfl|rfl<;>assumption
    have h2:(List.take i [a,b]).flatten.length≤2000000:=by
     have:i=0∨i=1:=by simp at hi; omega
     rcases this with rfl|rfl<;>simp<;>omega
    omega
   rw[ċ this];simp
  ·try dsimp only
   unfold Ĝ;rw[à];simp
 unfold Ģ kJ;refine Ę (fun x:Int×Int=>∃i:Nat,i≤2∧x=((([a,b].take i).flatten.length:Int),(i:Int))) (fun x=>2-x.2.toNat) ?_ ⟨0,by omega,rfl⟩;rintro x ⟨i,hi,rfl⟩;rcases Nat.lt_or_ge i 2 with h2|h2
 ·refine .inr ⟨((([a,b].take (i+1)).flatten.length:Int),(i:Int)+1),⟨i+1,h2,by simp⟩,by simp; omega,fun kn=>?_⟩;have hi':i<[a,b].length:=h2;obtain⟨x,hx⟩:∃x,[a,b][i]?=some x:=⟨_,cw hi'⟩
  have hxl:x.length≤1000000:=by
   have:=cG hx;simp at this
   rcases this with rfl|rfl<;>assumption
  have h3:(List.take i [a,b]).flatten.length≤2000000:=by
   have:i=0∨i=1:=by omega
   rcases this with rfl|rfl<;>simp<;>omega
  try dsimp only
  unfold Κ;rw[Ò hi',È hx,Ï]
  have e1:(((List.take i [a,b]).flatten.length:Int)+(x.length:Int))=((List.take i [a,b]).flatten.length+x.length:Nat):=by omega
  rw[e1,hk _ (by omega)]
  have:ilt ((((List.take i [a,b]).flatten.length+x.length:Nat)):Int) 0=false:=by simp[ilt]; omega
  rw[Í this,Ì hi' (by simp),take_succ hx];simp
 ·refine .inl fun kn=>?_
  obtain rfl:i=2:=by omega
  try dsimp only
  unfold Κ;rw[show((2:Nat):Int)=(([a,b].length:Nat):Int) from rfl,à]
  have e1:((List.take 2 [a,b]).flatten.length:Int)=((a.length+b.length:Nat):Int):=by simp
  have e2:ilt (((a.length+b.length:Nat)):Int) 0=false:=by simp[ilt]; omega
  rw[e1];dsimp only;rw[Í e2,Int.sub_zero,hk _ (by omega)];rcases Nat.eq_zero_or_pos (a.length+b.length) with h0|h0
  ·have:igt (((a.length+b.length:Nat)):Int) 0=false:=by simp[igt]; omega
   rw[Í this];exact second
  ·have:igt (((a.length+b.length:Nat)):Int) 0=true:=by simp[igt]; omega
   rw[Ø this]
   have:((ilt (0:Int) (((a.length+b.length:Nat)):Int))&&(î (Int.toNat (((a.length+b.length:Nat)):Int))))=true:=by
    rw[cP,Ú (by omega)];simp[ilt]; omega
   rw[ċ this]
   have:ile 0 (ò (List.replicate (Int.toNat (((a.length+b.length:Nat)):Int)) (0:Int)))=true:=by simp[ile]
   rw[ċ this];exact second
def lm (b:Ė) (id day:Int):Option Mq:=b.2.2.2.1.find? fun l=>l.1==id&&inP day l.2.1.1 l.2.1.2
def RH {α:Type} (p:α→Bool):∀l:List α,l.find? p=(match l.findIdx? p with|some j=>l[j]?|none=>none)
 |[]=>rfl
 |a::l=>by
  rw[fA,List.findIdx?_cons]
  cases h:p a with
  |true=>simp
  |false =>
   simp only[cQ,if_false];rw[RH p l]
   cases l.findIdx? p<;>simp
def ad2 {b:Ė} (hn:b.2.2.2.1.length≤1000) (id day:Int):vw b id day=some (match lm b id day with|some l=>(l,true)|none=>((0,(0,0),0),false)):=by
 unfold vw Rc;refine Eq.trans (jx b.2.2.2.1 (fun l=>l.1==id&&inP day l.2.1.1 l.2.1.2) (fun z5=>ifb (ilt z5 (0:Int)) (some (((0:Int),((0:Int),(0:Int)),(0:Int)),false)) (ĝ b.2.2.2.1 z5 fun e6=>some (e6,true))) (some ((0,(0,0),0),false)) (fun i a hi ha kn=>?_) (fun kn=>?_)) ?_
 ·try dsimp only
  unfold vh;rw[Ò hi,È ha,Ε,À,Ì hi (by omega)]
  cases h1:(a.1==id) with
  |false =>
   have:ieq a.1 id=false:=h1;simp[this]
  |true =>
   have:ieq a.1 id=true:=h1;rw[this]
   cases inP day a.2.1.1 a.2.1.2<;>simp
 ·try dsimp only
  unfold vh;rw[à]
 ·unfold lm;rw[RH]
  cases h:b.2.2.2.1.findIdx? (fun l=>l.1==id&&inP day l.2.1.1 l.2.1.2) with
  |none=>rfl
  |some j =>
   obtain⟨hj,_,_⟩:=dI.1 h
   have:ilt (j:Int) 0=false:=by simp[ilt]
   try dsimp only
   rw[Í this,È (cw hj),cw hj]
section
variable {ρ:Type}
def abd {α:Type} {all l:List α} (k:Option ρ) (h:l <+: all):yg all l k=k:=by unfold yg; rw[if_pos h]
def RD {α β:Type} {f:List α→β→(List α→Option ρ)→Option ρ} {g:β→List α} {al:List α}:∀{xs:List β} {v:List α} {K:List α→Option ρ},
 (∀v y kn,y∈xs→(v++g y) <+: al→f v y kn=kn (v++g y))→(v++xs.flatMap g) <+: al→ya f xs v K=K (v++xs.flatMap g)
 |[],v,K,_,_=>by simp[ya]
 |x::xs,v,K,h,hp=>by
  rw[du,←cJ] at hp ⊢;rw[ya,h v x _ (by simp) ((dG _ _).trans hp),RD (fun v y kn hy=>h v y kn (dk _ hy)) hp]
end
def abk {rec:List Int→Option (List Int)} {l xs:List Int} (h:yO l=some xs):jo xs rec l some=some (xs,l):=by
 unfold yO at h
 have hk:î l.length=true:=by cases e:î l.length with|true=>rfl|false=>rw[e] at h; cases h
 rw[ċ hk] at h;cases h
 have hk2:l.length≤4294967296:=by simpa[î] using hk
 unfold jo
 refine ĥ l (fun i=>l.take i) _ rfl (fun i a hi ha kn=>?_) (fun kn=>?_)<;>(try dsimp only)<;>unfold gX
 ·rw[Ò hi,È ha,←take_succ ha,abd _ (List.take_prefix _ _),Ó (by omega) (by omega)]
 ·rw[à,fp]
def X7:∀(n:Nat) {l y:List Int},l.length=n→y∈Iq n l→y.length=n
 |0,l,y,_,h=>by simp[Iq] at h; simp[h]
 |n+1,l,y,hl,h=>by
  have hne:¬l.length=0:=by omega
  simp only[Iq,if_neg hne,dg,fX,di] at h;obtain⟨i,hi,z,hz,rfl⟩:=h;have:=X7 n (l:=l.take i++l.drop (i+1)) (by simp; omega) hz;simp[this]
def Sq:∀{l:List (Int×List Int)} {y:List (List Int)},y∈jA l→y.length=l.length
 |[],y,h=>by simp[jA] at h; simp[h]
 |m::r,y,h=>by
  simp only[jA,dg,di] at h;obtain⟨x,_,z,hz,rfl⟩:=h;simp[Sq hz]
def agP {α:Type} {n i:Nat} (h:i<n) (g:Nat→List α):((List.range i).flatMap g++g i) <+: (List.range n).flatMap g:=by
 have:List.range n=List.range i++i::(List.range (n-i-1)).map (i+1+·):=by
  rw[show n=(i+1)+(n-i-1) by omega,List.range_add,fC,cJ];simp[show i+1+(n-i-1)-i-1=n-i-1 by omega]
 rw[this,fm,du,←cJ];exact dG _ _
def VM (n:Nat) (l:List Int):Option (List (List Int)):=è (decide (l.length<n)&&decide (l.length≤9)) (some (Iq l.length l))
def abO {n:Nat} {l:List Int} (h:l.length<n) (h9:l.length≤9):VM n l=some (Iq l.length l):=by unfold VM; rw[ċ (by simp[h,h9])]
def Ys {n:Nat} {l:List Int} {xs:List (List Int)} (h:VM n l=some xs):l.length<n∧l.length≤9∧xs=Iq l.length l:=by
 unfold VM at h
 cases hb:(decide (l.length<n)&&decide (l.length≤9)) with
 |false=>rw[hb] at h; cases h
 |true =>
  rw[hb] at h; cases h;simp only[cA,decide_eq_true_eq] at hb;exact⟨hb.1,hb.2,rfl⟩
def ab1 {n:Nat} {l:List Int} {xs:List (List Int)} (h:VM (n+1) l=some xs):wZ xs (VM n) l some=some (xs,l):=by
 obtain⟨h1,h2,rfl⟩:=Ys h;unfold wZ
 by_cases h0:l.length=0
 ·obtain rfl:l=[]:=List.eq_nil_of_length_eq_zero h0;rw[show ifb (ieq (Ù ([]:List Int)) (0:Int))=fun(x y:Option (List (List Int)×List Int))=>x from by funext x y; simp[Ï,ieq,ć]];exact abd _ (by simp[Iq])
 ·obtain⟨k,hk⟩:∃k,l.length=k+1:=⟨l.length-1,by omega⟩
  have hF:Iq l.length l=(List.range l.length).flatMap fun i=>(Iq k (l.take i++l.drop (i+1))).map (l.getD i 0::·):=by
   rw[hk];show(if l.length=0 then[[]] else _)=_;rw[if_neg h0,hk]
  have hne:ieq (Ù l) (0:Int)=false:=by rw[Ï]; exact decide_eq_false (by omega)
  rw[Í hne];rw[hF]
  refine ĥ l (fun i=>(List.range i).flatMap fun i=>(Iq k (l.take i++l.drop (i+1))).map (l.getD i 0::·)) _ rfl (fun i a hi ha kn=>?_) (fun kn=>?_)<;>(try dsimp only)<;>unfold pl
  ·have hr:(l.take i++l.drop (i+1)).length=k:=by simp; omega
   rw[Ò hi,È ha,ċ (by simp[ile,ò]; omega),Ó (by omega) (by omega),ċ (by simp[ile,ò]; omega),cP,show Int.toNat ((i:Int)+1)=i+1 by omega,
    Mk (by simp; omega) (by simp; omega),À,abO (by omega) (by omega),À,hr]
   have hga:l.getD i 0=a:=by rw[dX,ha]; rfl
   have hm:∀xs:List (List Int),xs.map (l.getD i 0::·)=xs.flatMap fun y=>[a::y]:=fun xs=>by
    rw[hga]; induction xs with|nil=>rfl|cons x xs ih=>simp[ih]
   have hp:=agP hi fun i=>(Iq k (l.take i++l.drop (i+1))).map (l.getD i 0::·)
   have hs:(List.range (i+1)).flatMap (fun i=>(Iq k (l.take i++l.drop (i+1))).map (l.getD i 0::·))=(List.range i).flatMap (fun i=>(Iq k (l.take i++l.drop (i+1))).map (l.getD i 0::·))++(Iq k (l.take i++l.drop (i+1))).flatMap fun y=>[a::y]:=by
    rw[fC,fm,du,List.flatMap_nil,cW,hm]
   rw[hs];rw[hm] at hp;refine(RD (g:=fun y=>[a::y]) (fun v y kn hy hv=>?_) hp).trans ?_
   ·unfold pk;have:=X7 k hr hy;rw[ċ (Ú (by simp; omega))];exact abd _ hv
   ·dsimp only;rw[Ó (by omega) (by omega)]
  ·rw[à]
def VN (n:Nat) (l:List (Int×List Int)):Option (List (List (List Int))):=è (decide (l.length<n)&&(decide (l.length≤9)&&l.all fun m=>decide (m.2.length≤9))) (some (jA l))
def Yt {n:Nat} {l:List (Int×List Int)} {xs:List (List (List Int))} (h:VN n l=some xs):l.length<n∧l.length≤9∧(∀m∈l,m.2.length≤9)∧xs=jA l:=by
 unfold VN at h
 cases hb:(decide (l.length<n)&&(decide (l.length≤9)&&l.all fun m=>decide (m.2.length≤9))) with
 |false=>rw[hb] at h; cases h
 |true =>
  rw[hb] at h; cases h;simp only[cA,decide_eq_true_eq,cX] at hb;exact⟨hb.1,hb.2.1,hb.2.2,rfl⟩
def abP {n:Nat} {l:List (Int×List Int)} (h:l.length<n) (h9:l.length≤9) (ha:∀m∈l,m.2.length≤9):VN n l=some (jA l):=by
 unfold VN; rw[ċ (by simp only[Bool.and_eq_true,decide_eq_true_eq,List.all_eq_true]; exact⟨h,h9,ha⟩)]
def XJ {n:Nat} {l:List (Int×List Int)} {xs:List (List (List Int))} (h:VN (n+1) l=some xs):rQ xs (VN n) l some=some (xs,l):=by
 obtain⟨h1,h2,h3,rfl⟩:=Yt h;unfold rQ
 cases l with
 |nil =>
  rw[show ifb (ieq (Ù ([]:List (Int×List Int))) (0:Int))=fun(x y:Option (List (List (List Int))×List (Int×List Int)))=>x from by funext x y; simp[Ï,ieq,ć]];exact abd _ (by simp[jA])
 |cons e r =>
  have hne:ieq (Ù (e::r)) (0:Int)=false:=by rw[Ï]; exact decide_eq_false (by simp only[cO]; omega)
  rw[Í hne];have he:=h3 e (by simp);rw[show ĝ (e::r) (0:Int)=fun f=>f e from by funext f; rfl];dsimp only;rw[show yP e.2=some (Iq e.2.length e.2) from by unfold yP; rw[ċ (by simp[he])],À];have hF:jA (e::r)=(Iq e.2.length e.2).flatMap fun x=>(jA r).map (x::·):=rfl
  have hm:∀(x:List Int),(jA r).map (x::·)=(jA r).flatMap fun y=>[x::y]:=fun x=>by
   generalize jA r=ys
   induction ys with|nil=>rfl|cons y ys ih=>simp[ih]
  refine(RD (g:=fun x=>(jA r).map (x::·)) (al:=jA (e::r)) (fun v x kn hx hv=>?_) (by rw[dM,←hF]; exact dC)).trans ?_
  ·unfold lV;simp only[List.length_cons] at h1 h2;rw[ċ (by simp[ile,ò]; omega),show List.drop 1 (e::r)=r from rfl,abP (by omega) (by omega) (fun m hm=>h3 m (by simp[hm])),À];rw[hm] at hv ⊢;refine RD (g:=fun y=>[x::y]) (fun v y kn hy hv=>?_) hv;unfold lU;have:=Sq hy;rw[ċ (Ú (by simp; omega))];exact abd _ hv
  ·rw[dM,←hF]
def Z3 {l:List Int} {xs:List (List Int)} (h:yP l=some xs):VM 10 l=some xs:=by
 unfold yP at h
 cases hb:decide (l.length≤9) with
 |false=>rw[hb] at h; cases h
 |true =>
  rw[hb] at h; cases h;have:=of_decide_eq_true hb;exact abO (by omega) this
def Vf {l:List (Int×List Int)} {xs:List (List (List Int))} (h:me l=some xs):VN 10 l=some xs:=by
 unfold me at h
 cases hb:(decide (l.length≤9)&&l.all fun m=>decide (m.2.length≤9)) with
 |false=>rw[hb] at h; cases h
 |true =>
  rw[hb] at h; cases h;simp only[cA,decide_eq_true_eq,cX] at hb;exact abP (by omega) hb.1 hb.2
end Go.Proofs.ZzM
end
