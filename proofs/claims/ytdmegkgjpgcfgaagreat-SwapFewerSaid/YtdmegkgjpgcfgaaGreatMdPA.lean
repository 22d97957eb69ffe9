/- lemmas -/
import Derived.Test.YtdmegkgjpgcfgaaGreatAmF
import Derived.Test.YtdmegkgjpgcfgaaGreatMdTA
set_option linter.all false
set_option linter.unusedSectionVars false
set_option linter.unusedVariables false
set_option linter.unusedSimpArgs false
noncomputable section
namespace Go.Am
section
variable {ρ:Type}
def Ň {α β:Type} (e:Nat→α→Option β):Nat→List α→Option β
 |_,[]=>none
 |i,a::t=>match e i a with
  |some b=>some b
  |none=>Ň e (i+1) t
def mj {α β:Type} (l:List α) (e:Nat→α→Option β) (k0:β→Option ρ) (k1:Option ρ) {f:Int→(Int→Option ρ)→Option ρ}
 (h:∀(i:Nat) (a:α),i<l.length→l[i]?=some a→∀kn,f i kn=match e i a with|some b=>k0 b|none=>kn ((i:Int)+1))
 (hn:∀kn,f l.length kn=k1):Ê f 0=match Ň e 0 l with|some b=>k0 b|none=>k1:=by
 refine ab0 l (fun i t=>match Ň e i t with|some b=>k0 b|none=>k1) hn fun i a t hd hi ha kn hk=>?_;rw[h i a hi ha kn,hk,Ň]
 cases e i a<;>rfl
def ġ {α σ:Type} (l:List α) (g:Nat→σ) (r:Option ρ) {f:Int×σ→(Int×σ→Option ρ)→Option ρ} {s0:σ} (h0:g 0=s0)
 (h:∀(i:Nat) (a:α),i<l.length→l[i]?=some a→∀kn,f (i,g i) kn=kn ((i:Int)+1,g (i+1)))
 (hn:∀kn,f (l.length,g l.length) kn=r):Ê f (0,s0)=r:=by
 subst h0
 have hs:∀s,(s=g 0)→Ê f (0,s)=r:=fun s e=>Q4 l (fun _ _ _=>r) (fun i s=>s=g i) (fun s hs kn=>by rw[hs]; exact hn kn) (fun i a t s hd hi ha hI kn hk=>by
  rw[hI,h i a hi ha kn]; exact hk _ rfl) e
 exact hs _ rfl
def KN {α σ:Type} (l:List α) (g:Nat→σ) (r:Option ρ) {f:Int×σ→(Int×σ→Option ρ)→Option ρ} {s0:σ} (P:Nat→Prop) (h0:g 0=s0) (hP:P 0)
 (h:∀(i:Nat) (a:α),i<l.length→l[i]?=some a→P i→∀kn,f (i,g i) kn=r∨(P (i+1)∧f (i,g i) kn=kn ((i:Int)+1,g (i+1))))
 (hn:P l.length→∀kn,f (l.length,g l.length) kn=r):Ê f (0,s0)=r:=by
 subst h0
 have hs:∀s,(s=g 0∧P 0)→Ê f (0,s)=r:=fun s e=>Q4 l (fun _ _ _=>r) (fun i s=>s=g i∧P i) (fun s hs kn=>by rw[hs.1]; exact hn hs.2 kn) (fun i a t s hd hi ha hI kn hk=>by
  rcases h i a hi ha hI.2 kn with h1|⟨h1,h2⟩
  ·rw[hI.1,h1]
  ·rw[hI.1,h2]; exact hk _ ⟨rfl,h1⟩) e
 exact hs _ ⟨rfl,hP⟩
def Ë {i n:Nat} (h:i<n) (hn:n≤1000000000) (f:Int→Option ρ):ck ((i:Int)+1) f=f ((i:Int)+1):=Ô (by omega) (by omega) f
def afT {i n:Nat} (h:i<n) (x y:Option ρ):ifb (ilt (i:Int) (ZG n)) x y=x:=by simp[Č,I5,h]
def â (n:Nat) (x y:Option ρ):ifb (ilt (n:Int) (ZG n)) x y=y:=by simp[Č,I5]
def Ò {α:Type} {l:List α} {i:Nat} (h:i<l.length) (x y:Option ρ):ifb (ilt (i:Int) (Ø l)) x y=x:=afT h x y
def Le {α:Type} (p:α→Bool):∀(i:Nat) (l:List α),Ň (fun i a=>bif p a then some (i:Int) else none) i l=(l.findIdx? p).map fun j=>((i+j:Nat):Int)
 |_,[]=>rfl
 |i,a::t=>by
  simp only[Ň,List.findIdx?_cons]
  cases hp:p a with
  |true=>simp
  |false =>
   simp only[cond_false,cV,if_false];rw[Le p (i+1) t]
   cases t.findIdx? p with
   |none=>rfl
   |some j=>simp only[dK]; congr 1; omega
def GR {α β:Type} (e:α→Option β):∀(i:Nat) (l:List α),Ň (fun _ a=>e a) i l=l.findSome? e
 |_,[]=>rfl
 |i,a::t=>by
  simp only[Ň,gu]
  cases e a with
  |some b=>rfl
  |none=>exact GR e (i+1) t
def i5 {α β:Type} {e:Nat→α→Option β}:∀{i:Nat} {l:List α},Ň e i l=none↔∀j a,l[j]?=some a→e (i+j) a=none
 |_,[]=>by simp[Ň]
 |i,a::t=>by
  simp only[Ň];constructor
  ·intro h j b hb
   cases he:e i a with
   |some c=>rw[he] at h; cases h
   |none =>
    rw[he] at h
    cases j with
    |zero=>simp at hb; subst hb; simpa using he
    |succ j=>have:=(i5.1 h) j b (by simpa using hb); rw[←this]; congr 1; omega
  ·intro h;have h0:=h 0 a (by simp);simp only[fH] at h0;rw[h0]
   exact i5.2 fun j b hb=>by have:=h (j+1) b (by simpa using hb); rw[←this]; congr 1; omega
def take_succ {α:Type} {l:List α} {i:Nat} {a:α} (h:l[i]?=some a):l.take (i+1)=l.take i++[a]:=by rw[List.take_succ,h]; rfl
end
end Go.Am
end

noncomputable section
namespace Go.Proofs.ZzM
open Go Go.Am
section
variable {ρ:Type}
def ĕ {τ:Type} {f:τ→(τ→Option ρ)→Option ρ} {r:Option ρ} (I:τ→Prop) (μ:τ→Nat)
 (h:∀x,I x→(∀kn,f x kn=r)∨∃y,I y∧μ y<μ x∧∀kn,f x kn=kn y) {x:τ} (hx:I x):Ê f x=r :=
 tv (F:=fun _=>r) I μ (fun x hx kn hk=>by
  rcases h x hx with h1|⟨y,h1,h2,h3⟩
  ·exact h1 kn
  ·rw[h3,hk y h1 h2]) hx
def iX {α:Type} (l:List α) (p:α→Bool) (k0:Int→Option ρ) (k1:Option ρ) {f:Int→(Int→Option ρ)→Option ρ}
 (h:∀(i:Nat) (a:α),i<l.length→l[i]?=some a→∀kn,f i kn=if p a then k0 i else kn ((i:Int)+1))
 (hn:∀kn,f l.length kn=k1):Ê f 0=match l.findIdx? p with|some j=>k0 j|none=>k1:=by
 rw[mj l (fun i a=>bif p a then some (i:Int) else none) k0 k1 (fun i a hi ha kn=>by rw[h i a hi ha kn]; cases p a<;>rfl) hn,Le]
 cases l.findIdx? p with
 |none=>rfl
 |some j=>simp
def ũ {α:Type} (l:List α) (p:α→Bool) (k0:Int→Option ρ) (K k1:Option ρ) {f:Int→(Int→Option ρ)→Option ρ} (hK:∀j:Nat,k0 j=K)
 (h:∀(i:Nat) (a:α),i<l.length→l[i]?=some a→∀kn,f i kn=if p a then k0 i else kn ((i:Int)+1))
 (hn:∀kn,f l.length kn=k1):Ê f 0=if l.any p then K else k1:=by
 rw[iX l p k0 k1 h hn]
 cases hf:l.findIdx? p with
 |none =>
  have:l.any p=false:=by
   rw[dM];intro x hx;have:=dC.1 hf x hx;simp[this]
  simp[this]
 |some j =>
  have:l.any p=true:=by
   have:=dF.1 hf;obtain⟨hj,hp,_⟩:=this;exact dg.2 ⟨_,fe hj,hp⟩
  simp[this,hK]
end
abbrev Ā:Type:=Int×Int×Int×(Int×Int)×((Int×Int)×Int)
abbrev L8:Type:=Int×((Int×Int)×Int)
abbrev Cmp:Type:=Int×Int×List Int×List Int×Int×(Int×(Int×Int))
abbrev ę:Type:=(Int×Int)×List Ā×List (Int×Int)×List L8×List Cmp×List (Int×Int)
abbrev Sys:Type:=Int×List (Int×Int×Int)
abbrev Maker:Type:=ę×List (Int×Int)×Sys×List (Int×Int)
section
variable {ρ:Type}
def Ù {b:Bool} (h:b=true) (x y:Option ρ):ifb b x y=x:=by rw[h]; rfl
def Î {b:Bool} (h:b=false) (x y:Option ρ):ifb b x y=y:=by rw[h]; rfl
end
def I64 (n:Int):Prop:=-9223372036854775808≤n∧n≤9223372036854775807
def inP (n lo hi:Int):Bool:=decide (lo≤n)&&decide (n≤hi)
def O0 (n:Int):Bool:=inP n 0 20000
def oe (s:Int×Int) (lo hi:Int):Bool:=decide (lo≤s.1)&&(decide (s.1≤s.2)&&decide (s.2≤hi))
def ζ (n lo hi:Int):Ę n lo hi=some (inP n lo hi):=by
 unfold Ę Fs inP ile
 cases decide (lo≤n)<;>rfl
def Ig (n:Int):ln n=some (O0 n):=by
 unfold ln KA;rw[ζ]; rfl
def DM (s:Int×Int) (lo hi:Int):Γ s lo hi=some (oe s lo hi):=by
 unfold Γ FA oe ile
 cases decide (lo≤s.1)<;>cases decide (s.1≤s.2)<;>rfl
def Pj {n:Int} (h:I64 n):rr n=some (n.natAbs:Int):=by
 obtain⟨h1,h2⟩:=h;unfold rr Qt
 by_cases hn:n<0
 ·have:ilt n 0=true:=by simpa using hn
  rw[Ù this];congr 1;simp only[IntKind.wrap,IntKind.bits,IntKind.signed];simp;omega
 ·have:ilt n 0=false:=by simpa using hn
  rw[Î this];congr 1;simp only[IntKind.wrap,IntKind.bits,IntKind.signed];simp;omega
def afU (a b:Nat):Lj a b=some ((Nat.gcd a b:Nat):Int):=by
 unfold Lj Wt;refine ĕ (fun x:Int×Int=>∃c d:Nat,x=((c:Int),(d:Int))∧Nat.gcd c d=Nat.gcd a b) (fun x=>x.2.toNat) ?_ ⟨a,b,rfl,rfl⟩;rintro x ⟨c,d,rfl,hg⟩
 cases d with
 |zero =>
  refine .inl fun kn=>?_;rw[Nat.gcd_zero_right] at hg;unfold yy;simp[hg,ine]
 |succ d =>
  refine .inr ⟨(((d+1:Nat):Int),((c % (d+1):Nat):Int)),⟨d+1,c % (d+1),rfl,?_⟩,?_,fun kn=>?_⟩
  ·rw[←hg,Nat.gcd_comm c (d+1),Nat.gcd_rec (d+1) c,Nat.gcd_comm]
  ·have:=Nat.mod_lt c (gN d);simp only[cT];omega
  ·unfold yy
   have h1:ine ((d+1:Nat):Int) 0=true:=by simp[ine]; omega
   have h2:AB ((d+1:Nat):Int) 0=false:=by simp[AB]; omega
   simp only[h1,Ù Î h2];congr 1
def Mc (r:Int×Int):Bool :=
 decide (1≤r.2)&&(decide (r.2≤2147483647)&&(decide ((r.1.natAbs:Int)≤2147483647)&&decide (Nat.gcd r.1.natAbs r.2.natAbs=1)))
def RT {r:Int×Int} (h:I64 r.1):tK r=some (Mc r):=by
 unfold tK Kj Mc
 by_cases h1:1≤r.2
 ·by_cases h2:r.2≤2147483647
  ·have h3:I64 r.2:=⟨by omega,by omega⟩
   have e1:ige r.2 1=true:=by simp[ige,h1]
   have e2:ile r.2 2147483647=true:=by simp[ile,h2]
   rw[Ù e1,Ù e2,Pj h,À]
   by_cases h4:(r.1.natAbs:Int)≤2147483647
   ·have e4:ile (r.1.natAbs:Int) 2147483647=true:=by simp[ile,h4]
    rw[Ù e4,À,Pj h3,À,afU,À];congr 1;rw[gz];simp only[ieq,beq_iff_eq,h1,h2,h4,decide_true,eh,decide_eq_true_eq];omega
   ·have e4:ile (r.1.natAbs:Int) 2147483647=false:=by simp[ile]; omega
    rw[Î e4];simp[h4]
  ·have e1:ige r.2 1=true:=by simp[ige,h1]
   have e2:ile r.2 2147483647=false:=by simp[ile]; omega
   rw[Ù e1,Î e2];simp[h2]
 ·have e1:ige r.2 1=false:=by simp[ige]; omega
  rw[Î e1];simp[h1]
def Az (g:Ā):Bool :=
 Mc g.2.2.2.2.1&&inP g.2.2.2.2.1.1 (-1000) 1000&&decide (g.2.2.2.2.1.2≤100)&&inP g.1 1 1099511627776&&O0 g.2.1&&inP g.2.2.1 1 1125899906842624&&oe g.2.2.2.1 (-1073741824) 1073741824&&inP g.2.2.2.2.2 0 1048576
def ZY {g:Ā} (h:I64 g.2.2.2.2.1.1):vq g=some (Az g):=by
 unfold vq Bu Az;rw[RT h,ζ,ζ,Ig,ζ,DM,ζ];generalize Mc g.2.2.2.2.1=x1;generalize inP g.2.2.2.2.1.1 (-1000) 1000=x2;generalize inP g.1 1 1099511627776=x3;generalize O0 g.2.1=x4;generalize inP g.2.2.1 1 1125899906842624=x5;generalize oe g.2.2.2.1 (-1073741824) 1073741824=x6;generalize inP g.2.2.2.2.2 0 1048576=x7;unfold ile;generalize decide (g.2.2.2.2.1.2≤100)=x8
 cases x1<;>cases x2<;>cases x3<;>cases x4<;>cases x5<;>cases x6<;>cases x8<;>rfl
section
variable {ρ:Type}
def UC {α:Type} {l:List α} {i:Nat} {a:α} (h0:0<i) (h:l[i-1]?=some a) (f:α→Option ρ):Ĭ l ((i:Int)-1) f=f a:=by
 have:((i:Int)-1)=((i-1:Nat):Int):=by omega
 rw[this,É h]
def ac8 {i:Nat} (h:0<i) (hn:i≤1000000000) (f:Int→Option ρ):ck ((i:Int)-1) f=f ((i:Int)-1):=Ô (by omega) (by omega) f
def Ī {i n:Nat} (h:i<n) (x:Option ρ):ß ((ile 0 (i:Int))&&(ilt (i:Int) (n:Int))) x=x:=by
 have:((ile 0 (i:Int))&&(ilt (i:Int) (n:Int)))=true:=by simp[ile,ilt,h]
 rw[this,Am.iff_true]
def ò {α:Type} {l:List α} {i:Nat} {a:α} (h:l[i]?=some a) (f:α→Option ρ):ĸ l (Int.toNat (i:Int)) f=f a:=by
 rw[cT]; exact iJ h f
end
def tR {α:Type} (key:α→Int) (l:List α) (i:Nat) (a:α):Bool :=
 decide (0<i)&&(l[i-1]?).any fun q=>decide (key a≤key q)
def SJ {α:Type} {l:List α} {i:Nat} (hi:i<l.length) (h0:0<i):∃q,l[i-1]?=some q :=
 ⟨l[i-1],cE (by omega)⟩
def Iu {α:Type} (key:α→Int) (l:List α):(∀i a,l[i]?=some a→tR key l i a=false)↔l.Pairwise (fun a b=>key a<key b):=by
 rw[dm];constructor
 ·intro h
  have step:∀i (h1:i+1<l.length),key l[i]<key l[i+1]:=by
   intro i h1;have:=h (i+1) l[i+1] (cE h1);simp only[tR,Nat.add_sub_cancel,gN,decide_true,eh,cE (show i<l.length by omega),Option.any_some,decide_eq_false_iff_not] at this;omega
  intro i j hi hj hij
  induction j with
  |zero=>omega
  |succ j ih =>
   have:=step j hj;rcases cZ i j with hlt|hge
   ·have:=ih (by omega) hlt; omega
   ·have:i=j:=by omega
    subst this; assumption
 ·intro h i a ha;obtain⟨hi,rfl⟩:=List.getElem?_eq_some_iff.1 ha;unfold tR
  cases i with
  |zero=>rfl
  |succ i =>
   have:=h i (i+1) (by omega) hi (by omega);simp only[Nat.add_sub_cancel,gN,decide_true,eh,cE (show i<l.length by omega),Option.any_some,decide_eq_false_iff_not];omega
def xS (l:List Ā) (i:Nat) (g:Ā):Option Int :=
 if !Az g then some 1 else if tR (fun g=>g.1) l i g then some 6 else none
def nY (b:ę):Int:=(Ň (xS b.2.1) 0 b.2.1).getD 0
def NE {b:ę} (hr:∀g∈b.2.1,I64 g.2.2.2.2.1.1) (hn:b.2.1.length≤1000):Ÿ b=some (nY b):=by
 unfold Ÿ pC;refine Eq.trans (mj b.2.1 (xS b.2.1) some (some 0) (fun i a hi ha kn=>?_) (fun kn=>?_)) ?_
 ·try dsimp only
  unfold iL;rw[Ò hi,É ha,ZY (hr a (List.mem_of_getElem? ha)),À];unfold xS
  cases hg:Az a with
  |false=>simp
  |true =>
   simp only[dz,é,cV,if_false];rcases fY i with h0|h0
   ·subst h0
    have:igt ((0:Nat):Int) 0=false:=by simp[igt]
    rw[Î this,Ë hi (by omega)];simp[tR]
   ·obtain⟨q,hq⟩:=SJ hi h0
    have h1:igt (i:Int) 0=true:=by simp[igt]; omega
    rw[Ù h1,ac8 h0 (by omega),UC h0 hq];simp only[tR,h0,decide_true,Bool.true_and,hq,Option.any_some];unfold ile
    cases h2:decide (a.1≤q.1) with
    |true=>simp
    |false =>
     rw[é,Ë hi (by omega)];simp
 ·try dsimp only
  unfold iL;rw[â]
 ·unfold nY
  cases Ň (xS b.2.1) 0 b.2.1<;>rfl
def Sv (l:List Ā):List (Int×Ā):=l.foldl (fun m g=>Oe (k:=tI) (v:=Õ) g.1 g m) []
def iE (b:ę):List (Int×Ā):=Sv b.2.1
def EB {b:ę} (hn:b.2.1.length≤1000):Ľ b=some (iE b):=by
 unfold Ľ Br;refine ġ b.2.1 (fun i=>Sv (b.2.1.take i)) _ rfl (fun i a hi ha kn=>?_) (fun kn=>?_)
 ·try dsimp only
  unfold mH;rw[Ò hi,É ha,Ë hi (by omega),take_succ ha];simp only[Sv,List.foldl_append,List.foldl_cons,List.foldl_nil]
 ·try dsimp only
  unfold mH;rw[â,List.take_length];rfl
def Th (x y:Int) (g:Ā):∀m:List (Int×Ā),qm (k:=tI) (v:=Õ) x (Oe (k:=tI) (v:=Õ) y g m)=if x=y then some g else qm (k:=tI) (v:=Õ) x m
 |[]=>by
  unfold Oe qm jf qm
  by_cases h:x=y<;>simp[h]
 |e::m=>by
  unfold Oe
  by_cases h:y=e.1
  ·have:jf tI y e.1=true:=by simp[jf,h]
   rw[this]
   try dsimp only
   unfold qm jf
   by_cases h2:x=y
   ·simp[h2]
   ·have:¬x=e.1:=fun h3=>h2 (h3.trans h.symm);simp[h2,this]
  ·have:jf tI y e.1=false:=by simp[jf,h]
   rw[this]
   try dsimp only
   have ih:=Th x y g m;unfold qm
   by_cases h2:x=e.1
   ·have:jf tI x e.1=true:=by simp[jf,h2]
    rw[this];have:¬x=y:=fun h3=>h (h3.symm.trans h2);simp[this]
   ·have:jf tI x e.1=false:=by simp[jf,h2]
    rw[this];exact ih
def ċ (b:ę) (id:Int):Option Ā:=b.2.1.find? fun g=>g.1==id
def VU (x:Int) (l:List Ā):qm (k:=tI) (v:=Õ) x (Sv l)=l.reverse.find? fun g=>g.1==x:=by
 unfold Sv;rw[←List.foldr_reverse]
 induction l.reverse with
 |nil=>rfl
 |cons g t ih =>
  rw[List.foldr_cons,Th,ih,fJ]
  by_cases h:x=g.1
  ·simp[h]
  ·have:(g.1==x)=false:=by simp; exact fun h2=>h h2.symm
   simp[h,this]
def GS {l:List Ā} (h:l.Pairwise fun a b=>a.1<b.1) (x:Int):l.reverse.find? (fun g=>g.1==x)=l.find? fun g=>g.1==x:=by
 induction l with
 |nil=>rfl
 |cons g t ih =>
  rw[dv] at h;rw[List.reverse_cons,List.find?_append,ih h.2,fJ]
  by_cases hx:g.1=x
  ·have:t.find? (fun g=>g.1==x)=none:=d9.2 fun y hy=>by have:g.1<y.1:=h.1 y hy; simp; omega
   rw[this]; simp[hx]
  ·have:(g.1==x)=false:=by simp[hx]
   simp[this]
def yr {b:ę} (h:b.2.1.Pairwise fun a b=>a.1<b.1) (x:Int):qm (k:=tI) (v:=Õ) x (iE b)=ċ b x:=by
 unfold iE ċ;rw[VU,GS h]
def mP (s:List (Int×Ā)) (id day:Int):Int :=
 match qm (k:=tI) (v:=Õ) id s with
 |some g=>if day<g.2.1 then 4 else 0
 |none=>5
def VV (s:List (Int×Ā)) (id day:Int):iC s id day=some (mP s id day):=by
 unfold iC rQ mP
 cases h:qm (k:=tI) (v:=Õ) id s with
 |none=>simp only[L5,h]
 |some g =>
  simp only[L5,h];rw[Č]
  by_cases h2:day<g.2.1<;>simp[h2]
def aaU (s:List (Int×Ā)) (id day:Int):Int:=if !O0 day then 1 else mP s id day
def SO (s:List (Int×Ā)) (id day:Int):ľ id day s=some (aaU s id day):=by
 unfold ľ Bt aaU;rw[Ig,À,VV,À]
 cases O0 day<;>rfl
def Q5 (b:ę) (s:List (Int×Ā)) (i:Nat) (l:L8):Int :=
 if !oe l.2.1 0 20000 then 1 else if !inP l.2.2 0 1048576 then 1 else if mP s l.1 l.2.1.1 != 0 then mP s l.1 l.2.1.1 else
 if (b.2.2.2.1.take i).any (fun x=>x.1==l.1&&(decide (x.2.1.1≤l.2.1.2)&&decide (l.2.1.1≤x.2.1.2))) then 9 else
 if b.2.2.1.any (fun u=>u.1==l.1&&inP u.2 l.2.1.1 l.2.1.2) then 9 else 0
def UW {b:ę} (hn:b.2.2.2.1.length≤1000) (hu:b.2.2.1.length≤1000) (s:List (Int×Ā)) {i:Nat} {l:L8} (hl:b.2.2.2.1[i]?=some l):Κ b s i=some (Q5 b s i l):=by
 unfold Κ uZ Q5;have hi:i<b.2.2.2.1.length:=(List.getElem?_eq_some_iff.1 hl).1;rw[É hl,DM,À,ζ,À,VV,À]
 cases oe l.2.1 0 20000 with
 |false=>rfl
 |true =>
 cases inP l.2.2 0 1048576 with
 |false=>rfl
 |true =>
 cases hm:(mP s l.1 l.2.1.1 != 0) with
 |true =>
  have:ine (mP s l.1 l.2.1.1) 0=true:=hm;simp[this]
 |false =>
 have hm':ine (mP s l.1 l.2.1.1) 0=false:=hm
 have hg:((ile (0:Int) (i:Int))&&(ile (i:Int) (ì b.2.2.2.1)))=true:=by simp[ile,ì]; omega
 simp only[dz,é,hm',cV,if_false];rw[ð hg,cT]
 have inner:∀(k:Int→Option Int),Ê (fun(v:Int) kk=>Β b.2.2.1 (Ø b.2.2.1) l.1 l.2.1.1 l.2.1.2 v (fun u=>kk u) (fun z=>ifb (ige z 0) (k 9) (k 0)) (fun _=>k 0)) (0:Int)=if b.2.2.1.any (fun u=>u.1==l.1&&inP u.2 l.2.1.1 l.2.1.2) then k 9 else k 0:=by
  intro k;refine ũ b.2.2.1 _ (fun z=>ifb (ige z 0) (k 9) (k 0)) (k 9) (k 0) (fun j=>?_) (fun j a hj ha kn=>?_) (fun kn=>?_)
  ·have:ige (j:Int) 0=true:=by simp[ige]
   rw[Ù this]
  ·try dsimp only
   unfold Β;rw[Ò hj,É ha,ζ,À,Ë hj (by omega)]
   cases h1:(a.1==l.1) with
   |false =>
    have:ieq a.1 l.1=false:=h1;simp[this]
   |true =>
    have:ieq a.1 l.1=true:=h1;rw[this]
    cases inP a.2 l.2.1.1 l.2.1.2<;>simp
  ·try dsimp only
   unfold Β;rw[â]
 rw[inner];refine eI (ũ (b.2.2.2.1.take i) (fun x=>x.1==l.1&&(decide (x.2.1.1≤l.2.1.2)&&decide (l.2.1.1≤x.2.1.2))) (fun z=>ifb (ige z 0) (some 9) (if b.2.2.1.any (fun u=>u.1==l.1&&inP u.2 l.2.1.1 l.2.1.2) then some 9 else some 0)) (some 9) (if b.2.2.1.any (fun u=>u.1==l.1&&inP u.2 l.2.1.1 l.2.1.2) then some 9 else some 0) (fun j=>?_) (fun j a hj ha kn=>?_) (fun kn=>?_)) ?_
 ·have:ige (j:Int) 0=true:=by simp[ige]
  rw[Ù this]
 ·try dsimp only
  unfold jX
  have hj':j≤1000:=by rw[cY] at hj; omega
  rw[Ò hj,É ha,Ë hj (by rw[cY]; omega)]
  cases h1:(a.1==l.1) with
  |false =>
   have:ieq a.1 l.1=false:=h1;simp[this]
  |true =>
   have:ieq a.1 l.1=true:=h1;rw[this]
   cases h2:decide (a.2.1.1≤l.2.1.2)<;>cases h3:decide (l.2.1.1≤a.2.1.2)<;>simp[ile,h2,h3,Č]<;>simp_all
 ·try dsimp only
  unfold jX;rw[â]
 ·cases List.any (b.2.2.2.1.take i) _<;>cases b.2.2.1.any _<;>rfl
def Vi {l:List Int} (hn:l.length≤1000000) (x:Int):gT l x=some (match l.findIdx? (·==x) with|some j=>(j:Int)|none=>-1):=by
 unfold gT me;refine Eq.trans (iX l (·==x) some (some (-1)) (fun i a hi ha kn=>?_) (fun kn=>?_)) ?_
 ·try dsimp only
  unfold Ω;rw[Ò hi,É ha,Ë hi (by omega),Č]
  by_cases h:x=a
  ·subst h; simp[ieq]
  ·have h2:¬a=x:=fun e=>h e.symm;simp[ieq,h,h2]
 ·try dsimp only
  unfold Ω;rw[â]
 ·cases l.findIdx? (·==x)<;>rfl
def ħ {l:List Int} (hn:l.length≤1000000) (x:Int):Û l x=some (l.contains x):=by
 unfold Û jz;rw[Vi hn,À];congr 1
 cases h:l.findIdx? (·==x) with
 |none =>
  have:l.contains x=false:=by
   rw[d8];intro hc;have:=dC.1 h x (by simpa using hc);simp at this
  rw[this]; rfl
 |some j =>
  obtain⟨hj,hp,_⟩:=dF.1 h
  have:l.contains x=true:=by
   have h2:l[j]=x:=by simpa using hp
   rw[←h2]; simp
  rw[this];simp[ige]
def ÿ (a b:List Int):List Int:=a.filter fun x=>!b.contains x
def xP {a b:List Int} (ha:a.length≤1000000) (hb:b.length≤1000000):Ι a b=some (ÿ a b):=by
 unfold Ι QK;rw[Ó (by omega),Am.iff_true]
 have second:∀z:Nat,z<a.length→ÿ (a.take z) b=a.take z→b.contains (a[z]?.getD 0)=true →
  Ê (fun(v13:(Val (.pair tI (.pair tI (.slice tI))))) kk17=>ka b v13.1 v13.2.1 v13.2.2 (fun u14 u15 u16=>kk17 (u14,u15,u16)) (fun z12=>ß ((ile (0:Int) z12.1)&&(ile z12.1 (ì z12.2))) (ß ((ile (0:Int) z12.1)&&(ile z12.1 (ì (List.take (Int.toNat z12.1) z12.2++List.replicate (List.length z12.2-(Int.toNat z12.1)) (0:Int)++List.drop ((Int.toNat z12.1)+(List.length z12.2-(Int.toNat z12.1))) z12.2)))) (some (List.take (Int.toNat z12.1) (List.drop 0 (List.take (Int.toNat z12.1) z12.2++List.replicate (List.length z12.2-(Int.toNat z12.1)) (0:Int)++List.drop ((Int.toNat z12.1)+(List.length z12.2-(Int.toNat z12.1))) z12.2))))))) ((z:Int),((z:Int)+1),a)=some (ÿ a b):=by
  intro z hz hp hc
  refine ĕ (fun x:Int×Int×List Int=>∃i j:Nat,x.1=i∧x.2.1=j∧i<j∧j≤a.length∧x.2.2.length=a.length∧x.2.2.take i=ÿ (a.take j) b∧x.2.2.drop j=a.drop j) (fun x=>a.length-x.2.1.toNat) ?_
   ⟨z,z+1,rfl,by simp,by omega,by omega,rfl,?_,rfl⟩
  ·rintro⟨x1,x2,s⟩ ⟨i,j,h1,h2,hij,hja,hl,ht,hd⟩;simp only at h1 h2 hl ht hd;subst h1 h2;rcases cZ j a.length with hj|hj
   ·refine .inr ?_
    have hsj:s[j]?=some a[j]:=by
     have h3:(s.drop j)[0]?=(a.drop j)[0]?:=by rw[hd]
     rw[dV,dV] at h3;simpa[cE hj] using h3
    have hjs:j<s.length:=by omega
    have hta:ÿ (a.take (j+1)) b=ÿ (a.take j) b++if b.contains a[j] then[] else[a[j]]:=by
     rw[take_succ (cE hj),ÿ,ÿ,eo];congr 1
     cases h:b.contains a[j] with
     |true=>simp only[dS,h,dz,cV,if_false,eM,if_true]
     |false=>simp only[dS,h,ff,cV,if_false,eM,if_true]
    cases h:b.contains a[j] with
    |true =>
     refine⟨(i,(j:Int)+1,s),⟨i,j+1,rfl,by simp,by omega,by omega,hl,?_,?_⟩,by simp; omega,fun kn=>?_⟩
     ·rw[hta,h]; simpa using ht
     ·have:=congrArg (List.drop 1) hd;simpa[fi,gO] using this
     ·try dsimp only
      unfold ka;rw[Ò hjs,Ī hjs,ò hsj,ħ hb,À,h];simp only[Bool.not_true,é];rw[Ë hjs (by omega)]
    |false =>
     have his:i<s.length:=by omega
     refine⟨((i:Int)+1,(j:Int)+1,s.set i a[j]),⟨i+1,j+1,by simp,by simp,by omega,by omega,by simpa using hl,?_,?_⟩,by simp; omega,fun kn=>?_⟩
     ·show List.take (i+1) (s.set i a[j])=_;rw[hta,h,List.take_succ,fq,gq (cF i),ht];simp[his]
     ·show List.drop (j+1) (s.set i a[j])=_;rw[gy (by omega)];have:=congrArg (List.drop 1) hd;simpa[fi,gO] using this
     ·try dsimp only
      unfold ka;rw[Ò hjs,Ī hjs,ò hsj,ħ hb,À,h];simp only[Bool.not_false,jg];rw[Ī his,ò (List.getElem?_eq_getElem his),Ë his (by omega),Ë hjs (by omega),Int.toNat_natCast]
   ·refine .inl fun kn=>?_
    have hje:j=s.length:=by omega
    try dsimp only
    unfold ka;rw[hje,â];dsimp only
    have g1:((ile (0:Int) (i:Int))&&(ile (i:Int) (ì s)))=true:=by simp[ile,ì]; omega
    rw[ð g1]
    have g2:((ile (0:Int) (i:Int))&&(ile (i:Int) (ì (List.take (Int.toNat (i:Int)) s++List.replicate (List.length s-(Int.toNat (i:Int))) (0:Int)++List.drop ((Int.toNat (i:Int))+(List.length s-(Int.toNat (i:Int)))) s))))=true:=by
     simp[ile,ì]; omega
    rw[ð g2,cT,gF,cP,eS (by simp; omega),List.take_take,Nat.min_self,ht];rw[dT (by omega)]
  ·show List.take z a=ÿ (a.take (z+1)) b;have hz':a[z]?=some a[z]:=cE hz;rw[take_succ hz',ÿ,eo];rw[hz'] at hc;simp only[gL] at hc
   have:List.filter (fun x=>!b.contains x) [a[z]]=[]:=by simp only[dS,hc,dz,cV,if_false,eM]
   rw[this,df];exact hp.symm
 refine eI (iX a (fun x=>b.contains x) (fun z4=>ifb (ieq z4 (-1:Int)) (some a) (ck (z4+(1:Int)) fun n5=>Ê (fun(v13:(Val (.pair tI (.pair tI (.slice tI))))) kk17=>ka b v13.1 v13.2.1 v13.2.2 (fun u14 u15 u16=>kk17 (u14,u15,u16)) (fun z12=>ß ((ile (0:Int) z12.1)&&(ile z12.1 (ì z12.2))) (ß ((ile (0:Int) z12.1)&&(ile z12.1 (ì (List.take (Int.toNat z12.1) z12.2++List.replicate (List.length z12.2-(Int.toNat z12.1)) (0:Int)++List.drop ((Int.toNat z12.1)+(List.length z12.2-(Int.toNat z12.1))) z12.2)))) (some (List.take (Int.toNat z12.1) (List.drop 0 (List.take (Int.toNat z12.1) z12.2++List.replicate (List.length z12.2-(Int.toNat z12.1)) (0:Int)++List.drop ((Int.toNat z12.1)+(List.length z12.2-(Int.toNat z12.1))) z12.2))))))) (z4,n5,a))) (some a) (fun i x hi hx kn=>?_) (fun kn=>?_)) ?_
 ·try dsimp only
  unfold uW;rw[Ò hi,Ī hi,ò hx,ħ hb,À,Ë hi (by omega),Č]
 ·try dsimp only
  unfold uW;rw[â]
 ·cases h:a.findIdx? (fun x=>b.contains x) with
  |none =>
   have:ÿ a b=a:=by
    rw[ÿ,fB];intro x hx;have:=dC.1 h x hx;simpa using this
   rw[this]
  |some z =>
   obtain⟨hz,hc,hlt⟩:=dF.1 h
   have h1:ieq (z:Int) (-1)=false:=by simp[ieq]
   try dsimp only
   rw[Î h1,Ë hz (by omega)];refine second z hz ?_ ?_
   ·rw[ÿ,fB];intro x hx;obtain⟨j,hj,rfl⟩:=cR.1 hx;rw[cY] at hj;rw[eQ];have:=hlt j (by omega);simpa using this
   ·rw[cE hz]; exact hc
def G4 (l:List Int) (i:Nat) (a:Int):Option Bool:=if !inP a 1 1099511627776 then some false else if tR (fun x=>x) l i a then some false else none
def wA (l:List Int):Bool:=match Ň (G4 l) 0 l with|some _=>false|none=>decide (l.length≤6)
def DL {l:List Int} (hn:l.length≤1000000):mr l=some (wA l):=by
 unfold mr Fz;refine Eq.trans (mj l (G4 l) some (some (decide (l.length≤6))) (fun i a hi ha kn=>?_) (fun kn=>?_)) ?_
 ·try dsimp only
  unfold ox;rw[Ò hi,É ha,ζ,À];unfold G4
  cases inP a 1 1099511627776 with
  |false=>rfl
  |true =>
   simp only[dz,é,cV,if_false];rcases fY i with h0|h0
   ·subst h0
    have:igt ((0:Nat):Int) 0=false:=by simp[igt]
    rw[Î this,Ë hi (by omega)];simp[tR]
   ·obtain⟨q,hq⟩:=SJ hi h0
    have h1:igt (i:Int) 0=true:=by simp[igt]; omega
    rw[Ù h1,ac8 h0 (by omega),UC h0 hq];simp only[tR,h0,decide_true,Bool.true_and,hq,Option.any_some];unfold ile
    cases h2:decide (a≤q) with
    |true=>rfl
    |false =>
     rw[é,Ë hi (by omega)];rfl
 ·try dsimp only
  unfold ox;rw[â,Ñ];simp[ile];omega
 ·have hb:∀x,Ň (G4 l) 0 l=some x→x=false:=by
   have:∀(m:List Int) (j:Nat) (x:Bool),Ň (G4 l) j m=some x→x=false:=by
    intro m
    induction m with
    |nil=>intro j x h; cases h
    |cons a m ih =>
     intro j x h;unfold Ň at h
     cases hp:G4 l j a with
     |none=>rw[hp] at h; exact ih _ _ h
     |some y =>
      rw[hp] at h;cases h;unfold G4 at hp
      split at hp
      ·cases hp; rfl
      ·split at hp
       ·cases hp; rfl
       ·cases hp
   exact this l 0
  unfold wA
  cases h:Ň (G4 l) 0 l with
  |none=>rfl
  |some x=>rw[hb x h]
def IR (l:List Int):wA l=true↔(∀x∈l,1≤x∧x≤1099511627776)∧l.Pairwise (·<·)∧l.length≤6:=by
 have h0:Ň (G4 l) 0 l=none↔(∀x∈l,1≤x∧x≤1099511627776)∧l.Pairwise (·<·):=by
  rw[i5,←Iu (fun x=>x) l];constructor
  ·intro h
   have h1:∀(j:Nat) (a:Int),l[j]?=some a→inP a 1 1099511627776=true∧tR (fun x=>x) l j a=false:=by
    intro j a ha;have:=h j a ha;rw[Nat.zero_add] at this;unfold G4 at this
    split at this
    ·cases this
    ·split at this
     ·cases this
     ·rename_i h1 h2;exact⟨by simpa using h1,by simpa using h2⟩
   refine⟨fun x hx=>?_,fun i a ha=>(h1 i a ha).2⟩;obtain⟨j,hj,rfl⟩:=cR.1 hx;have:=(h1 j l[j] (cE hj)).1;simpa[inP] using this
  ·rintro⟨h1,h2⟩ j a ha;rw[du];have h3:=h1 a (cN ha)
   have:inP a 1 1099511627776=true:=by simpa[inP] using h3
   simp[G4,this,h2 j a ha]
 unfold wA
 cases h:Ň (G4 l) 0 l with
 |none =>
  obtain⟨h1,h2⟩:=h0.1 h;simp only[decide_eq_true_eq];exact⟨fun h3=>⟨h1,h2,h3⟩,fun h3=>h3.2.2⟩
 |some x =>
  constructor
  ·intro h2; cases h2
  ·rintro⟨h1,h2,h3⟩;rw[h0.2 ⟨h1,h2⟩] at h; cases h
def L3 {a b:List Int} (ha:a.length≤1000000) (hb:b.length≤1000000):Ħ [a,b]=some (a++b):=by
 have hk:∀n:Nat,n≤4000000→∀(f:Int→Option (List Int)),ck (n:Int) f=f n:=fun n h f=>Ô (by omega) (by omega) f
 have second:Ê (fun(v9:(Val (.pair tI (.slice tI)))) kk12=>ĝ [a,b] (Ø [a,b]) v9.1 v9.2 (fun u10 u11=>kk12 (u10,u11)) (fun z8=>some z8)) ((0:Int),([]:List Int))=some (a++b):=by
  refine ġ [a,b] (fun i=>([a,b].take i).flatten) (some (a++b)) (f:=fun(v9:(Val (.pair tI (.slice tI)))) kk12=>ĝ [a,b] (Ø [a,b]) v9.1 v9.2 (fun u10 u11=>kk12 (u10,u11)) (fun z8=>some z8)) rfl (fun i x hi hx kn=>?_) (fun kn=>?_)
  ·try dsimp only
   unfold ĝ;rw[Ò hi,É hx,Ë hi (by simp),take_succ hx,List.flatten_append]
   have:æ ((List.take i [a,b]).flatten.length+x.length)=true:=by
    refine Ó ?_
    have h1:x.length≤1000000:=by
     have:=cN hx;simp at this
     rcases this with rfl|rfl<;>assumption
    have h2:(List.take i [a,b]).flatten.length≤2000000:=by
     have:i=0∨i=1:=by simp at hi; omega
     rcases this with rfl|rfl<;>simp<;>omega
    omega
   rw[ð this];simp
  ·try dsimp only
   unfold ĝ;rw[â];simp
 unfold Ħ kX;refine ĕ (fun x:Int×Int=>∃i:Nat,i≤2∧x=((([a,b].take i).flatten.length:Int),(i:Int))) (fun x=>2-x.2.toNat) ?_ ⟨0,by omega,rfl⟩;rintro x ⟨i,hi,rfl⟩;rcases Nat.lt_or_ge i 2 with h2|h2
 ·refine .inr ⟨((([a,b].take (i+1)).flatten.length:Int),(i:Int)+1),⟨i+1,h2,by simp⟩,by simp; omega,fun kn=>?_⟩;have hi':i<[a,b].length:=h2;obtain⟨x,hx⟩:∃x,[a,b][i]?=some x:=⟨_,cE hi'⟩
  have hxl:x.length≤1000000:=by
   have:=cN hx;simp at this
   rcases this with rfl|rfl<;>assumption
  have h3:(List.take i [a,b]).flatten.length≤2000000:=by
   have:i=0∨i=1:=by omega
   rcases this with rfl|rfl<;>simp<;>omega
  try dsimp only
  unfold Η;rw[Ò hi',É hx,Ñ]
  have e1:(((List.take i [a,b]).flatten.length:Int)+(x.length:Int))=((List.take i [a,b]).flatten.length+x.length:Nat):=by omega
  rw[e1,hk _ (by omega)]
  have:ilt ((((List.take i [a,b]).flatten.length+x.length:Nat)):Int) 0=false:=by simp[ilt]; omega
  rw[Î this,Ë hi' (by simp),take_succ hx];simp
 ·refine .inl fun kn=>?_
  obtain rfl:i=2:=by omega
  try dsimp only
  unfold Η;rw[show((2:Nat):Int)=(([a,b].length:Nat):Int) from rfl,â]
  have e1:((List.take 2 [a,b]).flatten.length:Int)=((a.length+b.length:Nat):Int):=by simp
  have e2:ilt (((a.length+b.length:Nat)):Int) 0=false:=by simp[ilt]; omega
  rw[e1];dsimp only;rw[Î e2,Int.sub_zero,hk _ (by omega)];rcases Nat.eq_zero_or_pos (a.length+b.length) with h0|h0
  ·have:igt (((a.length+b.length:Nat)):Int) 0=false:=by simp[igt]; omega
   rw[Î this];exact second
  ·have:igt (((a.length+b.length:Nat)):Int) 0=true:=by simp[igt]; omega
   rw[Ù this]
   have:((ilt (0:Int) (((a.length+b.length:Nat)):Int))&&(æ (Int.toNat (((a.length+b.length:Nat)):Int))))=true:=by
    rw[cT,Ó (by omega)];simp[ilt]; omega
   rw[ð this]
   have:ile 0 (ì (List.replicate (Int.toNat (((a.length+b.length:Nat)):Int)) (0:Int)))=true:=by simp[ile]
   rw[ð this];exact second
def lG (b:ę) (id day:Int):Option L8:=b.2.2.2.1.find? fun l=>l.1==id&&inP day l.2.1.1 l.2.1.2
def Ro {α:Type} (p:α→Bool):∀l:List α,l.find? p=(match l.findIdx? p with|some j=>l[j]?|none=>none)
 |[]=>rfl
 |a::l=>by
  rw[fJ,List.findIdx?_cons]
  cases h:p a with
  |true=>simp
  |false =>
   simp only[cV,if_false];rw[Ro p l]
   cases l.findIdx? p<;>simp
def adC {b:ę} (hn:b.2.2.2.1.length≤1000) (id day:Int):vr b id day=some (match lG b id day with|some l=>(l,true)|none=>((0,(0,0),0),false)):=by
 unfold vr QU;refine Eq.trans (iX b.2.2.2.1 (fun l=>l.1==id&&inP day l.2.1.1 l.2.1.2) (fun z5=>ifb (ilt z5 (0:Int)) (some (((0:Int),((0:Int),(0:Int)),(0:Int)),false)) (Ĭ b.2.2.2.1 z5 fun e6=>some (e6,true))) (some ((0,(0,0),0),false)) (fun i a hi ha kn=>?_) (fun kn=>?_)) ?_
 ·try dsimp only
  unfold vc;rw[Ò hi,É ha,ζ,À,Ë hi (by omega)]
  cases h1:(a.1==id) with
  |false =>
   have:ieq a.1 id=false:=h1;simp[this]
  |true =>
   have:ieq a.1 id=true:=h1;rw[this]
   cases inP day a.2.1.1 a.2.1.2<;>simp
 ·try dsimp only
  unfold vc;rw[â]
 ·unfold lG;rw[Ro]
  cases h:b.2.2.2.1.findIdx? (fun l=>l.1==id&&inP day l.2.1.1 l.2.1.2) with
  |none=>rfl
  |some j =>
   obtain⟨hj,_,_⟩:=dF.1 h
   have:ilt (j:Int) 0=false:=by simp[ilt]
   try dsimp only
   rw[Î this,É (cE hj),cE hj]
section
variable {ρ:Type}
def aaJ {α:Type} {all l:List α} (k:Option ρ) (h:l <+: all):yg all l k=k:=by unfold yg; rw[if_pos h]
def Rl {α β:Type} {f:List α→β→(List α→Option ρ)→Option ρ} {g:β→List α} {al:List α}:∀{xs:List β} {v:List α} {K:List α→Option ρ},
 (∀v y kn,y∈xs→(v++g y) <+: al→f v y kn=kn (v++g y))→(v++xs.flatMap g) <+: al→xT f xs v K=K (v++xs.flatMap g)
 |[],v,K,_,_=>by simp[xT]
 |x::xs,v,K,h,hp=>by
  rw[dD,←cP] at hp ⊢;rw[xT,h v x _ (by simp) ((dO _ _).trans hp),Rl (fun v y kn hy=>h v y kn (dk _ hy)) hp]
end
def aaR {rec:List Int→Option (List Int)} {l xs:List Int} (h:yE l=some xs):jy xs rec l some=some (xs,l):=by
 unfold yE at h
 have hk:æ l.length=true:=by cases e:æ l.length with|true=>rfl|false=>rw[e] at h; cases h
 rw[ð hk] at h;cases h
 have hk2:l.length≤4294967296:=by simpa[æ] using hk
 unfold jy
 refine ġ l (fun i=>l.take i) _ rfl (fun i a hi ha kn=>?_) (fun kn=>?_)<;>(try dsimp only)<;>unfold il
 ·rw[Ò hi,É ha,←take_succ ha,aaJ _ (List.take_prefix _ _),Ô (by omega) (by omega)]
 ·rw[â,fF]
def XA:∀(n:Nat) {l y:List Int},l.length=n→y∈H7 n l→y.length=n
 |0,l,y,_,h=>by simp[H7] at h; simp[h]
 |n+1,l,y,hl,h=>by
  have hne:¬l.length=0:=by omega
  simp only[H7,if_neg hne,dt,gb,dj] at h;obtain⟨i,hi,z,hz,rfl⟩:=h;have:=XA n (l:=l.take i++l.drop (i+1)) (by simp; omega) hz;simp[this]
def RW:∀{l:List (Int×List Int)} {y:List (List Int)},y∈jL l→y.length=l.length
 |[],y,h=>by simp[jL] at h; simp[h]
 |m::r,y,h=>by
  simp only[jL,dt,dj] at h;obtain⟨x,_,z,hz,rfl⟩:=h;simp[RW hz]
def agy {α:Type} {n i:Nat} (h:i<n) (g:Nat→List α):((List.range i).flatMap g++g i) <+: (List.range n).flatMap g:=by
 have:List.range n=List.range i++i::(List.range (n-i-1)).map (i+1+·):=by
  rw[show n=(i+1)+(n-i-1) by omega,List.range_add,fI,cP];simp[show i+1+(n-i-1)-i-1=n-i-1 by omega]
 rw[this,fC,dD,←cP];exact dO _ _
def Vm (n:Nat) (l:List Int):Option (List (List Int)):=ß (decide (l.length<n)&&decide (l.length≤9)) (some (H7 l.length l))
def abm {n:Nat} {l:List Int} (h:l.length<n) (h9:l.length≤9):Vm n l=some (H7 l.length l):=by unfold Vm; rw[ð (by simp[h,h9])]
def XW {n:Nat} {l:List Int} {xs:List (List Int)} (h:Vm n l=some xs):l.length<n∧l.length≤9∧xs=H7 l.length l:=by
 unfold Vm at h
 cases hb:(decide (l.length<n)&&decide (l.length≤9)) with
 |false=>rw[hb] at h; cases h
 |true =>
  rw[hb] at h; cases h;simp only[cG,decide_eq_true_eq] at hb;exact⟨hb.1,hb.2,rfl⟩
def abC {n:Nat} {l:List Int} {xs:List (List Int)} (h:Vm (n+1) l=some xs):wX xs (Vm n) l some=some (xs,l):=by
 obtain⟨h1,h2,rfl⟩:=XW h;unfold wX
 by_cases h0:l.length=0
 ·obtain rfl:l=[]:=List.eq_nil_of_length_eq_zero h0;rw[show ifb (ieq (Ø ([]:List Int)) (0:Int))=fun(x y:Option (List (List Int)×List Int))=>x from by funext x y; simp[Ñ,ieq,Č]];exact aaJ _ (by simp[H7])
 ·obtain⟨k,hk⟩:∃k,l.length=k+1:=⟨l.length-1,by omega⟩
  have hF:H7 l.length l=(List.range l.length).flatMap fun i=>(H7 k (l.take i++l.drop (i+1))).map (l.getD i 0::·):=by
   rw[hk];show(if l.length=0 then[[]] else _)=_;rw[if_neg h0,hk]
  have hne:ieq (Ø l) (0:Int)=false:=by rw[Ñ]; exact decide_eq_false (by omega)
  rw[Î hne];rw[hF]
  refine ġ l (fun i=>(List.range i).flatMap fun i=>(H7 k (l.take i++l.drop (i+1))).map (l.getD i 0::·)) _ rfl (fun i a hi ha kn=>?_) (fun kn=>?_)<;>(try dsimp only)<;>unfold pe
  ·have hr:(l.take i++l.drop (i+1)).length=k:=by simp; omega
   rw[Ò hi,É ha,ð (by simp[ile,ì]; omega),Ô (by omega) (by omega),ð (by simp[ile,ì]; omega),cT,show Int.toNat ((i:Int)+1)=i+1 by omega,
    L3 (by simp; omega) (by simp; omega),À,abm (by omega) (by omega),À,hr]
   have hga:l.getD i 0=a:=by rw[ej,ha]; rfl
   have hm:∀xs:List (List Int),xs.map (l.getD i 0::·)=xs.flatMap fun y=>[a::y]:=fun xs=>by
    rw[hga]; induction xs with|nil=>rfl|cons x xs ih=>simp[ih]
   have hp:=agy hi fun i=>(H7 k (l.take i++l.drop (i+1))).map (l.getD i 0::·)
   have hs:(List.range (i+1)).flatMap (fun i=>(H7 k (l.take i++l.drop (i+1))).map (l.getD i 0::·))=(List.range i).flatMap (fun i=>(H7 k (l.take i++l.drop (i+1))).map (l.getD i 0::·))++(H7 k (l.take i++l.drop (i+1))).flatMap fun y=>[a::y]:=by
    rw[fI,fC,dD,List.flatMap_nil,df,hm]
   rw[hs];rw[hm] at hp;refine(Rl (g:=fun y=>[a::y]) (fun v y kn hy hv=>?_) hp).trans ?_
   ·unfold pd;have:=XA k hr hy;rw[ð (Ó (by simp; omega))];exact aaJ _ hv
   ·dsimp only;rw[Ô (by omega) (by omega)]
  ·rw[â]
def Vn (n:Nat) (l:List (Int×List Int)):Option (List (List (List Int))):=ß (decide (l.length<n)&&(decide (l.length≤9)&&l.all fun m=>decide (m.2.length≤9))) (some (jL l))
def XX {n:Nat} {l:List (Int×List Int)} {xs:List (List (List Int))} (h:Vn n l=some xs):l.length<n∧l.length≤9∧(∀m∈l,m.2.length≤9)∧xs=jL l:=by
 unfold Vn at h
 cases hb:(decide (l.length<n)&&(decide (l.length≤9)&&l.all fun m=>decide (m.2.length≤9))) with
 |false=>rw[hb] at h; cases h
 |true =>
  rw[hb] at h; cases h;simp only[cG,decide_eq_true_eq,dh] at hb;exact⟨hb.1,hb.2.1,hb.2.2,rfl⟩
def abn {n:Nat} {l:List (Int×List Int)} (h:l.length<n) (h9:l.length≤9) (ha:∀m∈l,m.2.length≤9):Vn n l=some (jL l):=by
 unfold Vn; rw[ð (by simp only[Bool.and_eq_true,decide_eq_true_eq,List.all_eq_true]; exact⟨h,h9,ha⟩)]
def Xf {n:Nat} {l:List (Int×List Int)} {xs:List (List (List Int))} (h:Vn (n+1) l=some xs):rI xs (Vn n) l some=some (xs,l):=by
 obtain⟨h1,h2,h3,rfl⟩:=XX h;unfold rI
 cases l with
 |nil =>
  rw[show ifb (ieq (Ø ([]:List (Int×List Int))) (0:Int))=fun(x y:Option (List (List (List Int))×List (Int×List Int)))=>x from by funext x y; simp[Ñ,ieq,Č]];exact aaJ _ (by simp[jL])
 |cons e r =>
  have hne:ieq (Ø (e::r)) (0:Int)=false:=by rw[Ñ]; exact decide_eq_false (by simp only[cS]; omega)
  rw[Î hne];have he:=h3 e (by simp);rw[show Ĭ (e::r) (0:Int)=fun f=>f e from by funext f; rfl];dsimp only;rw[show yF e.2=some (H7 e.2.length e.2) from by unfold yF; rw[ð (by simp[he])],À];have hF:jL (e::r)=(H7 e.2.length e.2).flatMap fun x=>(jL r).map (x::·):=rfl
  have hm:∀(x:List Int),(jL r).map (x::·)=(jL r).flatMap fun y=>[x::y]:=fun x=>by
   generalize jL r=ys
   induction ys with|nil=>rfl|cons y ys ih=>simp[ih]
  refine(Rl (g:=fun x=>(jL r).map (x::·)) (al:=jL (e::r)) (fun v x kn hx hv=>?_) (by rw[dI,←hF]; exact dL)).trans ?_
  ·unfold mc;simp only[List.length_cons] at h1 h2;rw[ð (by simp[ile,ì]; omega),show List.drop 1 (e::r)=r from rfl,abn (by omega) (by omega) (fun m hm=>h3 m (by simp[hm])),À];rw[hm] at hv ⊢;refine Rl (g:=fun y=>[x::y]) (fun v y kn hy hv=>?_) hv;unfold mb;have:=RW hy;rw[ð (Ó (by simp; omega))];exact aaJ _ hv
  ·rw[dI,←hF]
def Zz {l:List Int} {xs:List (List Int)} (h:yF l=some xs):Vm 10 l=some xs:=by
 unfold yF at h
 cases hb:decide (l.length≤9) with
 |false=>rw[hb] at h; cases h
 |true =>
  rw[hb] at h; cases h;have:=of_decide_eq_true hb;exact abm (by omega) this
def US {l:List (Int×List Int)} {xs:List (List (List Int))} (h:mn l=some xs):Vn 10 l=some xs:=by
 unfold mn at h
 cases hb:(decide (l.length≤9)&&l.all fun m=>decide (m.2.length≤9)) with
 |false=>rw[hb] at h; cases h
 |true =>
  rw[hb] at h; cases h;simp only[cG,decide_eq_true_eq,dh] at hb;exact abn (by omega) hb.1 hb.2
end Go.Proofs.ZzM
end
