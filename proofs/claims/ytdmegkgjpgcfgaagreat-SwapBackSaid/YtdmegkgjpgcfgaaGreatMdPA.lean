/- lemmas -/
import Derived.Test.YtdmegkgjpgcfgaaGreatAmF
import Derived.Test.YtdmegkgjpgcfgaaGreatMdTA
set_option linter.all false
set_option linter.unusedSectionVars false
set_option linter.unusedVariables false
set_option linter.unusedSimpArgs false
noncomputable section
namespace Go.Am
section
variable {ρ:Type}
def ķ {α β:Type} (e:Nat→α→Option β):Nat→List α→Option β
 |_,[]=>none
 |i,a::t=>match e i a with
  |some b=>some b
  |none=>ķ e (i+1) t
def jZ {α β:Type} (l:List α) (e:Nat→α→Option β) (k0:β→Option ρ) (k1:Option ρ) {f:Int→(Int→Option ρ)→Option ρ}
 (h:∀(i:Nat) (a:α),i<l.length→l[i]?=some a→∀kn,f i kn=match e i a with|some b=>k0 b|none=>kn ((i:Int)+1))
 (hn:∀kn,f l.length kn=k1):Ê f 0=match ķ e 0 l with|some b=>k0 b|none=>k1:=by
 refine ace l (fun i t=>match ķ e i t with|some b=>k0 b|none=>k1) hn fun i a t hd hi ha kn hk=>?_;rw[h i a hi ha kn,hk,ķ]
 cases e i a<;>rfl
def ģ {α σ:Type} (l:List α) (g:Nat→σ) (r:Option ρ) {f:Int×σ→(Int×σ→Option ρ)→Option ρ} {s0:σ} (h0:g 0=s0)
 (h:∀(i:Nat) (a:α),i<l.length→l[i]?=some a→∀kn,f (i,g i) kn=kn ((i:Int)+1,g (i+1)))
 (hn:∀kn,f (l.length,g l.length) kn=r):Ê f (0,s0)=r:=by
 subst h0
 have hs:∀s,(s=g 0)→Ê f (0,s)=r:=fun s e=>Ro l (fun _ _ _=>r) (fun i s=>s=g i) (fun s hs kn=>by rw[hs]; exact hn kn) (fun i a t s hd hi ha hI kn hk=>by
  rw[hI,h i a hi ha kn]; exact hk _ rfl) e
 exact hs _ rfl
def K9 {α σ:Type} (l:List α) (g:Nat→σ) (r:Option ρ) {f:Int×σ→(Int×σ→Option ρ)→Option ρ} {s0:σ} (P:Nat→Prop) (h0:g 0=s0) (hP:P 0)
 (h:∀(i:Nat) (a:α),i<l.length→l[i]?=some a→P i→∀kn,f (i,g i) kn=r∨(P (i+1)∧f (i,g i) kn=kn ((i:Int)+1,g (i+1))))
 (hn:P l.length→∀kn,f (l.length,g l.length) kn=r):Ê f (0,s0)=r:=by
 subst h0
 have hs:∀s,(s=g 0∧P 0)→Ê f (0,s)=r:=fun s e=>Ro l (fun _ _ _=>r) (fun i s=>s=g i∧P i) (fun s hs kn=>by rw[hs.1]; exact hn hs.2 kn) (fun i a t s hd hi ha hI kn hk=>by
  rcases h i a hi ha hI.2 kn with h1|⟨h1,h2⟩
  ·rw[hI.1,h1]
  ·rw[hI.1,h2]; exact hk _ ⟨rfl,h1⟩) e
 exact hs _ ⟨rfl,hP⟩
def Ë {i n:Nat} (h:i<n) (hn:n≤1000000000) (f:Int→Option ρ):ck ((i:Int)+1) f=f ((i:Int)+1):=Ó (by omega) (by omega) f
def af4 {i n:Nat} (h:i<n) (x y:Option ρ):ifb (ilt (i:Int) (Z4 n)) x y=x:=by simp[Č,Ji,h]
def ß (n:Nat) (x y:Option ρ):ifb (ilt (n:Int) (Z4 n)) x y=y:=by simp[Č,Ji]
def Ñ {α:Type} {l:List α} {i:Nat} (h:i<l.length) (x y:Option ρ):ifb (ilt (i:Int) (Ø l)) x y=x:=af4 h x y
def LC {α:Type} (p:α→Bool):∀(i:Nat) (l:List α),ķ (fun i a=>bif p a then some (i:Int) else none) i l=(l.findIdx? p).map fun j=>((i+j:Nat):Int)
 |_,[]=>rfl
 |i,a::t=>by
  simp only[ķ,List.findIdx?_cons]
  cases hp:p a with
  |true=>simp
  |false =>
   simp only[cond_false,cS,if_false];rw[LC p (i+1) t]
   cases t.findIdx? p with
   |none=>rfl
   |some j=>simp only[dB]; congr 1; omega
def G9 {α β:Type} (e:α→Option β):∀(i:Nat) (l:List α),ķ (fun _ a=>e a) i l=l.findSome? e
 |_,[]=>rfl
 |i,a::t=>by
  simp only[ķ,gq]
  cases e a with
  |some b=>rfl
  |none=>exact G9 e (i+1) t
def iO {α β:Type} {e:Nat→α→Option β}:∀{i:Nat} {l:List α},ķ e i l=none↔∀j a,l[j]?=some a→e (i+j) a=none
 |_,[]=>by simp[ķ]
 |i,a::t=>by
  simp only[ķ];constructor
  ·intro h j b hb
   cases he:e i a with
   |some c=>rw[he] at h; cases h
   |none =>
    rw[he] at h
    cases j with
    |zero=>simp at hb; subst hb; simpa using he
    |succ j=>have:=(iO.1 h) j b (by simpa using hb); rw[←this]; congr 1; omega
  ·intro h;have h0:=h 0 a (by simp);simp only[fC] at h0;rw[h0]
   exact iO.2 fun j b hb=>by have:=h (j+1) b (by simpa using hb); rw[←this]; congr 1; omega
def take_succ {α:Type} {l:List α} {i:Nat} {a:α} (h:l[i]?=some a):l.take (i+1)=l.take i++[a]:=by rw[List.take_succ,h]; rfl
end
end Go.Am
end

noncomputable section
namespace Go.Proofs.ZzM
open Go Go.Am
section
variable {ρ:Type}
def Ę {τ:Type} {f:τ→(τ→Option ρ)→Option ρ} {r:Option ρ} (I:τ→Prop) (μ:τ→Nat)
 (h:∀x,I x→(∀kn,f x kn=r)∨∃y,I y∧μ y<μ x∧∀kn,f x kn=kn y) {x:τ} (hx:I x):Ê f x=r :=
 tv (F:=fun _=>r) I μ (fun x hx kn hk=>by
  rcases h x hx with h1|⟨y,h1,h2,h3⟩
  ·exact h1 kn
  ·rw[h3,hk y h1 h2]) hx
def jt {α:Type} (l:List α) (p:α→Bool) (k0:Int→Option ρ) (k1:Option ρ) {f:Int→(Int→Option ρ)→Option ρ}
 (h:∀(i:Nat) (a:α),i<l.length→l[i]?=some a→∀kn,f i kn=if p a then k0 i else kn ((i:Int)+1))
 (hn:∀kn,f l.length kn=k1):Ê f 0=match l.findIdx? p with|some j=>k0 j|none=>k1:=by
 rw[jZ l (fun i a=>bif p a then some (i:Int) else none) k0 k1 (fun i a hi ha kn=>by rw[h i a hi ha kn]; cases p a<;>rfl) hn,LC]
 cases l.findIdx? p with
 |none=>rfl
 |some j=>simp
def Š {α:Type} (l:List α) (p:α→Bool) (k0:Int→Option ρ) (K k1:Option ρ) {f:Int→(Int→Option ρ)→Option ρ} (hK:∀j:Nat,k0 j=K)
 (h:∀(i:Nat) (a:α),i<l.length→l[i]?=some a→∀kn,f i kn=if p a then k0 i else kn ((i:Int)+1))
 (hn:∀kn,f l.length kn=k1):Ê f 0=if l.any p then K else k1:=by
 rw[jt l p k0 k1 h hn]
 cases hf:l.findIdx? p with
 |none =>
  have:l.any p=false:=by
   rw[dG];intro x hx;have:=dD.1 hf x hx;simp[this]
  simp[this]
 |some j =>
  have:l.any p=true:=by
   have:=dK.1 hf;obtain⟨hj,hp,_⟩:=this;exact dj.2 ⟨_,eT hj,hp⟩
  simp[this,hK]
end
abbrev õ:Type:=Int×Int×Int×(Int×Int)×((Int×Int)×Int)
abbrev Mi:Type:=Int×((Int×Int)×Int)
abbrev Cmp:Type:=Int×Int×List Int×List Int×Int×(Int×(Int×Int))
abbrev Ğ:Type:=(Int×Int)×List õ×List (Int×Int)×List Mi×List Cmp×List (Int×Int)
abbrev Sys:Type:=Int×List (Int×Int×Int)
abbrev Maker:Type:=Ğ×List (Int×Int)×Sys×List (Int×Int)
section
variable {ρ:Type}
def Ù {b:Bool} (h:b=true) (x y:Option ρ):ifb b x y=x:=by rw[h]; rfl
def Ì {b:Bool} (h:b=false) (x y:Option ρ):ifb b x y=y:=by rw[h]; rfl
end
def I64 (n:Int):Prop:=-9223372036854775808≤n∧n≤9223372036854775807
def inP (n lo hi:Int):Bool:=decide (lo≤n)&&decide (n≤hi)
def LQ (n:Int):Bool:=inP n 0 20000
def nS (s:Int×Int) (lo hi:Int):Bool:=decide (lo≤s.1)&&(decide (s.1≤s.2)&&decide (s.2≤hi))
def Φ (n lo hi:Int):ė n lo hi=some (inP n lo hi):=by
 unfold ė FJ inP ile
 cases decide (lo≤n)<;>rfl
def Iy (n:Int):kO n=some (LQ n):=by
 unfold kO KX;rw[Φ]; rfl
def DY (s:Int×Int) (lo hi:Int):ź s lo hi=some (nS s lo hi):=by
 unfold ź FR nS ile
 cases decide (lo≤s.1)<;>cases decide (s.1≤s.2)<;>rfl
def PA {n:Int} (h:I64 n):rC n=some (n.natAbs:Int):=by
 obtain⟨h1,h2⟩:=h;unfold rC QM
 by_cases hn:n<0
 ·have:ilt n 0=true:=by simpa using hn
  rw[Ù this];congr 1;simp only[IntKind.wrap,IntKind.bits,IntKind.signed];simp;omega
 ·have:ilt n 0=false:=by simpa using hn
  rw[Ì this];congr 1;simp only[IntKind.wrap,IntKind.bits,IntKind.signed];simp;omega
def af5 (a b:Nat):LJ a b=some ((Nat.gcd a b:Nat):Int):=by
 unfold LJ WP;refine Ę (fun x:Int×Int=>∃c d:Nat,x=((c:Int),(d:Int))∧Nat.gcd c d=Nat.gcd a b) (fun x=>x.2.toNat) ?_ ⟨a,b,rfl,rfl⟩;rintro x ⟨c,d,rfl,hg⟩
 cases d with
 |zero =>
  refine .inl fun kn=>?_;rw[Nat.gcd_zero_right] at hg;unfold yp;simp[hg,ine]
 |succ d =>
  refine .inr ⟨(((d+1:Nat):Int),((c % (d+1):Nat):Int)),⟨d+1,c % (d+1),rfl,?_⟩,?_,fun kn=>?_⟩
  ·rw[←hg,Nat.gcd_comm c (d+1),Nat.gcd_rec (d+1) c,Nat.gcd_comm]
  ·have:=Nat.mod_lt c (gL d);simp only[cQ];omega
  ·unfold yp
   have h1:ine ((d+1:Nat):Int) 0=true:=by simp[ine]; omega
   have h2:kQ ((d+1:Nat):Int) 0=false:=by simp[kQ]; omega
   simp only[h1,Ù Ì h2];congr 1
def Mu (r:Int×Int):Bool :=
 decide (1≤r.2)&&(decide (r.2≤2147483647)&&(decide ((r.1.natAbs:Int)≤2147483647)&&decide (Nat.gcd r.1.natAbs r.2.natAbs=1)))
def Sg {r:Int×Int} (h:I64 r.1):tG r=some (Mu r):=by
 unfold tG KH Mu
 by_cases h1:1≤r.2
 ·by_cases h2:r.2≤2147483647
  ·have h3:I64 r.2:=⟨by omega,by omega⟩
   have e1:ige r.2 1=true:=by simp[ige,h1]
   have e2:ile r.2 2147483647=true:=by simp[ile,h2]
   rw[Ù e1,Ù e2,PA h,À]
   by_cases h4:(r.1.natAbs:Int)≤2147483647
   ·have e4:ile (r.1.natAbs:Int) 2147483647=true:=by simp[ile,h4]
    rw[Ù e4,À,PA h3,À,af5,À];congr 1;rw[fU];simp only[ieq,beq_iff_eq,h1,h2,h4,decide_true,d9,decide_eq_true_eq];omega
   ·have e4:ile (r.1.natAbs:Int) 2147483647=false:=by simp[ile]; omega
    rw[Ì e4];simp[h4]
  ·have e1:ige r.2 1=true:=by simp[ige,h1]
   have e2:ile r.2 2147483647=false:=by simp[ile]; omega
   rw[Ù e1,Ì e2];simp[h2]
 ·have e1:ige r.2 1=false:=by simp[ige]; omega
  rw[Ì e1];simp[h1]
def AD (g:õ):Bool :=
 Mu g.2.2.2.2.1&&inP g.2.2.2.2.1.1 (-1000) 1000&&decide (g.2.2.2.2.1.2≤100)&&inP g.1 1 1099511627776&&LQ g.2.1&&inP g.2.2.1 1 1125899906842624&&nS g.2.2.2.1 (-1073741824) 1073741824&&inP g.2.2.2.2.2 0 1048576
def aak {g:õ} (h:I64 g.2.2.2.2.1.1):vl g=some (AD g):=by
 unfold vl BC AD;rw[Sg h,Φ,Φ,Iy,Φ,DY,Φ];generalize Mu g.2.2.2.2.1=x1;generalize inP g.2.2.2.2.1.1 (-1000) 1000=x2;generalize inP g.1 1 1099511627776=x3;generalize LQ g.2.1=x4;generalize inP g.2.2.1 1 1125899906842624=x5;generalize nS g.2.2.2.1 (-1073741824) 1073741824=x6;generalize inP g.2.2.2.2.2 0 1048576=x7;unfold ile;generalize decide (g.2.2.2.2.1.2≤100)=x8
 cases x1<;>cases x2<;>cases x3<;>cases x4<;>cases x5<;>cases x6<;>cases x8<;>rfl
section
variable {ρ:Type}
def UT {α:Type} {l:List α} {i:Nat} {a:α} (h0:0<i) (h:l[i-1]?=some a) (f:α→Option ρ):Ċ l ((i:Int)-1) f=f a:=by
 have:((i:Int)-1)=((i-1:Nat):Int):=by omega
 rw[this,È h]
def adk {i:Nat} (h:0<i) (hn:i≤1000000000) (f:Int→Option ρ):ck ((i:Int)-1) f=f ((i:Int)-1):=Ó (by omega) (by omega) f
def š {i n:Nat} (h:i<n) (x:Option ρ):è ((ile 0 (i:Int))&&(ilt (i:Int) (n:Int))) x=x:=by
 have:((ile 0 (i:Int))&&(ilt (i:Int) (n:Int)))=true:=by simp[ile,ilt,h]
 rw[this,Am.iff_true]
def Ė {α:Type} {l:List α} {i:Nat} {a:α} (h:l[i]?=some a) (f:α→Option ρ):Ľ l (Int.toNat (i:Int)) f=f a:=by
 rw[cQ]; exact iV h f
end
def tO {α:Type} (key:α→Int) (l:List α) (i:Nat) (a:α):Bool :=
 decide (0<i)&&(l[i-1]?).any fun q=>decide (key a≤key q)
def SY {α:Type} {l:List α} {i:Nat} (hi:i<l.length) (h0:0<i):∃q,l[i-1]?=some q :=
 ⟨l[i-1],cA (by omega)⟩
def IJ {α:Type} (key:α→Int) (l:List α):(∀i a,l[i]?=some a→tO key l i a=false)↔l.Pairwise (fun a b=>key a<key b):=by
 rw[dh];constructor
 ·intro h
  have step:∀i (h1:i+1<l.length),key l[i]<key l[i+1]:=by
   intro i h1;have:=h (i+1) l[i+1] (cA h1);simp only[tO,Nat.add_sub_cancel,gL,decide_true,d9,cA (show i<l.length by omega),Option.any_some,decide_eq_false_iff_not] at this;omega
  intro i j hi hj hij
  induction j with
  |zero=>omega
  |succ j ih =>
   have:=step j hj;rcases cX i j with hlt|hge
   ·have:=ih (by omega) hlt; omega
   ·have:i=j:=by omega
    subst this; assumption
 ·intro h i a ha;obtain⟨hi,rfl⟩:=List.getElem?_eq_some_iff.1 ha;unfold tO
  cases i with
  |zero=>rfl
  |succ i =>
   have:=h i (i+1) (by omega) hi (by omega);simp only[Nat.add_sub_cancel,gL,decide_true,d9,cA (show i<l.length by omega),Option.any_some,decide_eq_false_iff_not];omega
def xL (l:List õ) (i:Nat) (g:õ):Option Int :=
 if !AD g then some 1 else if tO (fun g=>g.1) l i g then some 6 else none
def nJ (b:Ğ):Int:=(ķ (xL b.2.1) 0 b.2.1).getD 0
def NW {b:Ğ} (hr:∀g∈b.2.1,I64 g.2.2.2.2.1.1) (hn:b.2.1.length≤1000):Ű b=some (nJ b):=by
 unfold Ű pA;refine Eq.trans (jZ b.2.1 (xL b.2.1) some (some 0) (fun i a hi ha kn=>?_) (fun kn=>?_)) ?_
 ·try dsimp only
  unfold iy;rw[Ñ hi,È ha,aak (hr a (List.mem_of_getElem? ha)),À];unfold xL
  cases hg:AD a with
  |false=>simp
  |true =>
   simp only[dA,é,cS,if_false];rcases fV i with h0|h0
   ·subst h0
    have:igt ((0:Nat):Int) 0=false:=by simp[igt]
    rw[Ì this,Ë hi (by omega)];simp[tO]
   ·obtain⟨q,hq⟩:=SY hi h0
    have h1:igt (i:Int) 0=true:=by simp[igt]; omega
    rw[Ù h1,adk h0 (by omega),UT h0 hq];simp only[tO,h0,decide_true,Bool.true_and,hq,Option.any_some];unfold ile
    cases h2:decide (a.1≤q.1) with
    |true=>simp
    |false =>
     rw[é,Ë hi (by omega)];simp
 ·try dsimp only
  unfold iy;rw[ß]
 ·unfold nJ
  cases ķ (xL b.2.1) 0 b.2.1<;>rfl
def SM (l:List õ):List (Int×õ):=l.foldl (fun m g=>Mn (k:=tI) (v:=Ô) g.1 g m) []
def iz (b:Ğ):List (Int×õ):=SM b.2.1
def EO {b:Ğ} (hn:b.2.1.length≤1000):ĸ b=some (iz b):=by
 unfold ĸ Bz;refine ģ b.2.1 (fun i=>SM (b.2.1.take i)) _ rfl (fun i a hi ha kn=>?_) (fun kn=>?_)
 ·try dsimp only
  unfold mq;rw[Ñ hi,È ha,Ë hi (by omega),take_succ ha];simp only[SM,List.foldl_append,List.foldl_cons,List.foldl_nil]
 ·try dsimp only
  unfold mq;rw[ß,List.take_length];rfl
def TA (x y:Int) (g:õ):∀m:List (Int×õ),oW (k:=tI) (v:=Ô) x (Mn (k:=tI) (v:=Ô) y g m)=if x=y then some g else oW (k:=tI) (v:=Ô) x m
 |[]=>by
  unfold Mn oW i5 oW
  by_cases h:x=y<;>simp[h]
 |e::m=>by
  unfold Mn
  by_cases h:y=e.1
  ·have:i5 tI y e.1=true:=by simp[i5,h]
   rw[this]
   try dsimp only
   unfold oW i5
   by_cases h2:x=y
   ·simp[h2]
   ·have:¬x=e.1:=fun h3=>h2 (h3.trans h.symm);simp[h2,this]
  ·have:i5 tI y e.1=false:=by simp[i5,h]
   rw[this]
   try dsimp only
   have ih:=TA x y g m;unfold oW
   by_cases h2:x=e.1
   ·have:i5 tI x e.1=true:=by simp[i5,h2]
    rw[this];have:¬x=y:=fun h3=>h (h3.symm.trans h2);simp[this]
   ·have:i5 tI x e.1=false:=by simp[i5,h2]
    rw[this];exact ih
def þ (b:Ğ) (id:Int):Option õ:=b.2.1.find? fun g=>g.1==id
def Wm (x:Int) (l:List õ):oW (k:=tI) (v:=Ô) x (SM l)=l.reverse.find? fun g=>g.1==x:=by
 unfold SM;rw[←List.foldr_reverse]
 induction l.reverse with
 |nil=>rfl
 |cons g t ih =>
  rw[List.foldr_cons,TA,ih,fi]
  by_cases h:x=g.1
  ·simp[h]
  ·have:(g.1==x)=false:=by simp; exact fun h2=>h h2.symm
   simp[h,this]
def Ha {l:List õ} (h:l.Pairwise fun a b=>a.1<b.1) (x:Int):l.reverse.find? (fun g=>g.1==x)=l.find? fun g=>g.1==x:=by
 induction l with
 |nil=>rfl
 |cons g t ih =>
  rw[dk] at h;rw[List.reverse_cons,List.find?_append,ih h.2,fi]
  by_cases hx:g.1=x
  ·have:t.find? (fun g=>g.1==x)=none:=dQ.2 fun y hy=>by have:g.1<y.1:=h.1 y hy; simp; omega
   rw[this]; simp[hx]
  ·have:(g.1==x)=false:=by simp[hx]
   simp[this]
def yk {b:Ğ} (h:b.2.1.Pairwise fun a b=>a.1<b.1) (x:Int):oW (k:=tI) (v:=Ô) x (iz b)=þ b x:=by
 unfold iz þ;rw[Wm,Ha h]
def mD (s:List (Int×õ)) (id day:Int):Int :=
 match oW (k:=tI) (v:=Ô) id s with
 |some g=>if day<g.2.1 then 4 else 0
 |none=>5
def Wn (s:List (Int×õ)) (id day:Int):ik s id day=some (mD s id day):=by
 unfold ik rU mD
 cases h:oW (k:=tI) (v:=Ô) id s with
 |none=>simp only[Iw,h]
 |some g =>
  simp only[Iw,h];rw[Č]
  by_cases h2:day<g.2.1<;>simp[h2]
def abc (s:List (Int×õ)) (id day:Int):Int:=if !LQ day then 1 else mD s id day
def S8 (s:List (Int×õ)) (id day:Int):Ĺ id day s=some (abc s id day):=by
 unfold Ĺ BB abc;rw[Iy,À,Wn,À]
 cases LQ day<;>rfl
def Rp (b:Ğ) (s:List (Int×õ)) (i:Nat) (l:Mi):Int :=
 if !nS l.2.1 0 20000 then 1 else if !inP l.2.2 0 1048576 then 1 else if mD s l.1 l.2.1.1 != 0 then mD s l.1 l.2.1.1 else
 if (b.2.2.2.1.take i).any (fun x=>x.1==l.1&&(decide (x.2.1.1≤l.2.1.2)&&decide (l.2.1.1≤x.2.1.2))) then 9 else
 if b.2.2.1.any (fun u=>u.1==l.1&&inP u.2 l.2.1.1 l.2.1.2) then 9 else 0
def Vf {b:Ğ} (hn:b.2.2.2.1.length≤1000) (hu:b.2.2.1.length≤1000) (s:List (Int×õ)) {i:Nat} {l:Mi} (hl:b.2.2.2.1[i]?=some l):Δ b s i=some (Rp b s i l):=by
 unfold Δ uS Rp;have hi:i<b.2.2.2.1.length:=(List.getElem?_eq_some_iff.1 hl).1;rw[È hl,DY,À,Φ,À,Wn,À]
 cases nS l.2.1 0 20000 with
 |false=>rfl
 |true =>
 cases inP l.2.2 0 1048576 with
 |false=>rfl
 |true =>
 cases hm:(mD s l.1 l.2.1.1 != 0) with
 |true =>
  have:ine (mD s l.1 l.2.1.1) 0=true:=hm;simp[this]
 |false =>
 have hm':ine (mD s l.1 l.2.1.1) 0=false:=hm
 have hg:((ile (0:Int) (i:Int))&&(ile (i:Int) (ñ b.2.2.2.1)))=true:=by simp[ile,ñ]; omega
 simp only[dA,é,hm',cS,if_false];rw[Đ hg,cQ]
 have inner:∀(k:Int→Option Int),Ê (fun(v:Int) kk=>Ź b.2.2.1 (Ø b.2.2.1) l.1 l.2.1.1 l.2.1.2 v (fun u=>kk u) (fun z=>ifb (ige z 0) (k 9) (k 0)) (fun _=>k 0)) (0:Int)=if b.2.2.1.any (fun u=>u.1==l.1&&inP u.2 l.2.1.1 l.2.1.2) then k 9 else k 0:=by
  intro k;refine Š b.2.2.1 _ (fun z=>ifb (ige z 0) (k 9) (k 0)) (k 9) (k 0) (fun j=>?_) (fun j a hj ha kn=>?_) (fun kn=>?_)
  ·have:ige (j:Int) 0=true:=by simp[ige]
   rw[Ù this]
  ·try dsimp only
   unfold Ź;rw[Ñ hj,È ha,Φ,À,Ë hj (by omega)]
   cases h1:(a.1==l.1) with
   |false =>
    have:ieq a.1 l.1=false:=h1;simp[this]
   |true =>
    have:ieq a.1 l.1=true:=h1;rw[this]
    cases inP a.2 l.2.1.1 l.2.1.2<;>simp
  ·try dsimp only
   unfold Ź;rw[ß]
 rw[inner];refine eh (Š (b.2.2.2.1.take i) (fun x=>x.1==l.1&&(decide (x.2.1.1≤l.2.1.2)&&decide (l.2.1.1≤x.2.1.2))) (fun z=>ifb (ige z 0) (some 9) (if b.2.2.1.any (fun u=>u.1==l.1&&inP u.2 l.2.1.1 l.2.1.2) then some 9 else some 0)) (some 9) (if b.2.2.1.any (fun u=>u.1==l.1&&inP u.2 l.2.1.1 l.2.1.2) then some 9 else some 0) (fun j=>?_) (fun j a hj ha kn=>?_) (fun kn=>?_)) ?_
 ·have:ige (j:Int) 0=true:=by simp[ige]
  rw[Ù this]
 ·try dsimp only
  unfold jK
  have hj':j≤1000:=by rw[cW] at hj; omega
  rw[Ñ hj,È ha,Ë hj (by rw[cW]; omega)]
  cases h1:(a.1==l.1) with
  |false =>
   have:ieq a.1 l.1=false:=h1;simp[this]
  |true =>
   have:ieq a.1 l.1=true:=h1;rw[this]
   cases h2:decide (a.2.1.1≤l.2.1.2)<;>cases h3:decide (l.2.1.1≤a.2.1.2)<;>simp[ile,h2,h3,Č]<;>simp_all
 ·try dsimp only
  unfold jK;rw[ß]
 ·cases List.any (b.2.2.2.1.take i) _<;>cases b.2.2.1.any _<;>rfl
def VA {l:List Int} (hn:l.length≤1000000) (x:Int):ς l x=some (match l.findIdx? (·==x) with|some j=>(j:Int)|none=>-1):=by
 unfold ς lT;refine Eq.trans (jt l (·==x) some (some (-1)) (fun i a hi ha kn=>?_) (fun kn=>?_)) ?_
 ·try dsimp only
  unfold Ο;rw[Ñ hi,È ha,Ë hi (by omega),Č]
  by_cases h:x=a
  ·subst h; simp[ieq]
  ·have h2:¬a=x:=fun e=>h e.symm;simp[ieq,h,h2]
 ·try dsimp only
  unfold Ο;rw[ß]
 ·cases l.findIdx? (·==x)<;>rfl
def Œ {l:List Int} (hn:l.length≤1000000) (x:Int):á l x=some (l.contains x):=by
 unfold á jl;rw[VA hn,À];congr 1
 cases h:l.findIdx? (·==x) with
 |none =>
  have:l.contains x=false:=by
   rw[dW];intro hc;have:=dD.1 h x (by simpa using hc);simp at this
  rw[this]; rfl
 |some j =>
  obtain⟨hj,hp,_⟩:=dK.1 h
  have:l.contains x=true:=by
   have h2:l[j]=x:=by simpa using hp
   rw[←h2]; simp
  rw[this];simp[ige]
def ý (a b:List Int):List Int:=a.filter fun x=>!b.contains x
def xH {a b:List Int} (ha:a.length≤1000000) (hb:b.length≤1000000):Γ a b=some (ý a b):=by
 unfold Γ Q4;rw[Û (by omega),Am.iff_true]
 have second:∀z:Nat,z<a.length→ý (a.take z) b=a.take z→b.contains (a[z]?.getD 0)=true →
  Ê (fun(v13:(Val (.pair tI (.pair tI (.slice tI))))) kk17=>jS b v13.1 v13.2.1 v13.2.2 (fun u14 u15 u16=>kk17 (u14,u15,u16)) (fun z12=>è ((ile (0:Int) z12.1)&&(ile z12.1 (ñ z12.2))) (è ((ile (0:Int) z12.1)&&(ile z12.1 (ñ (List.take (Int.toNat z12.1) z12.2++List.replicate (List.length z12.2-(Int.toNat z12.1)) (0:Int)++List.drop ((Int.toNat z12.1)+(List.length z12.2-(Int.toNat z12.1))) z12.2)))) (some (List.take (Int.toNat z12.1) (List.drop 0 (List.take (Int.toNat z12.1) z12.2++List.replicate (List.length z12.2-(Int.toNat z12.1)) (0:Int)++List.drop ((Int.toNat z12.1)+(List.length z12.2-(Int.toNat z12.1))) z12.2))))))) ((z:Int),((z:Int)+1),a)=some (ý a b):=by
  intro z hz hp hc
  refine Ę (fun x:Int×Int×List Int=>∃i j:Nat,x.1=i∧x.2.1=j∧i<j∧j≤a.length∧x.2.2.length=a.length∧x.2.2.take i=ý (a.take j) b∧x.2.2.drop j=a.drop j) (fun x=>a.length-x.2.1.toNat) ?_
   ⟨z,z+1,rfl,by simp,by omega,by omega,rfl,?_,rfl⟩
  ·rintro⟨x1,x2,s⟩ ⟨i,j,h1,h2,hij,hja,hl,ht,hd⟩;simp only at h1 h2 hl ht hd;subst h1 h2;rcases cX j a.length with hj|hj
   ·refine .inr ?_
    have hsj:s[j]?=some a[j]:=by
     have h3:(s.drop j)[0]?=(a.drop j)[0]?:=by rw[hd]
     rw[ee,ee] at h3;simpa[cA hj] using h3
    have hjs:j<s.length:=by omega
    have hta:ý (a.take (j+1)) b=ý (a.take j) b++if b.contains a[j] then[] else[a[j]]:=by
     rw[take_succ (cA hj),ý,ý,eN];congr 1
     cases h:b.contains a[j] with
     |true=>simp only[eo,h,dA,cS,if_false,fj,if_true]
     |false=>simp only[eo,h,eZ,cS,if_false,fj,if_true]
    cases h:b.contains a[j] with
    |true =>
     refine⟨(i,(j:Int)+1,s),⟨i,j+1,rfl,by simp,by omega,by omega,hl,?_,?_⟩,by simp; omega,fun kn=>?_⟩
     ·rw[hta,h]; simpa using ht
     ·have:=congrArg (List.drop 1) hd;simpa[fP,Nat.add_comm] using this
     ·try dsimp only
      unfold jS;rw[Ñ hjs,š hjs,Ė hsj,Œ hb,À,h];simp only[Bool.not_true,é];rw[Ë hjs (by omega)]
    |false =>
     have his:i<s.length:=by omega
     refine⟨((i:Int)+1,(j:Int)+1,s.set i a[j]),⟨i+1,j+1,by simp,by simp,by omega,by omega,by simpa using hl,?_,?_⟩,by simp; omega,fun kn=>?_⟩
     ·show List.take (i+1) (s.set i a[j])=_;rw[hta,h,List.take_succ,fI,List.take_set_of_le (cB i),ht];simp[his]
     ·show List.drop (j+1) (s.set i a[j])=_;rw[List.drop_set_of_lt (by omega)];have:=congrArg (List.drop 1) hd;simpa[fP,Nat.add_comm] using this
     ·try dsimp only
      unfold jS;rw[Ñ hjs,š hjs,Ė hsj,Œ hb,À,h];simp only[Bool.not_false,oo];rw[š his,Ė (List.getElem?_eq_getElem his),Ë his (by omega),Ë hjs (by omega),Int.toNat_natCast]
   ·refine .inl fun kn=>?_
    have hje:j=s.length:=by omega
    try dsimp only
    unfold jS;rw[hje,ß];dsimp only
    have g1:((ile (0:Int) (i:Int))&&(ile (i:Int) (ñ s)))=true:=by simp[ile,ñ]; omega
    rw[Đ g1]
    have g2:((ile (0:Int) (i:Int))&&(ile (i:Int) (ñ (List.take (Int.toNat (i:Int)) s++List.replicate (List.length s-(Int.toNat (i:Int))) (0:Int)++List.drop ((Int.toNat (i:Int))+(List.length s-(Int.toNat (i:Int)))) s))))=true:=by
     simp[ile,ñ]; omega
    rw[Đ g2,cQ,List.drop_zero,cN,fm (by simp; omega),List.take_take,Nat.min_self,ht];rw[dX (by omega)]
  ·show List.take z a=ý (a.take (z+1)) b;have hz':a[z]?=some a[z]:=cA hz;rw[take_succ hz',ý,eN];rw[hz'] at hc;simp only[gG] at hc
   have:List.filter (fun x=>!b.contains x) [a[z]]=[]:=by simp only[eo,hc,dA,cS,if_false,fj]
   rw[this,cY];exact hp.symm
 refine eh (jt a (fun x=>b.contains x) (fun z4=>ifb (ieq z4 (-1:Int)) (some a) (ck (z4+(1:Int)) fun n5=>Ê (fun(v13:(Val (.pair tI (.pair tI (.slice tI))))) kk17=>jS b v13.1 v13.2.1 v13.2.2 (fun u14 u15 u16=>kk17 (u14,u15,u16)) (fun z12=>è ((ile (0:Int) z12.1)&&(ile z12.1 (ñ z12.2))) (è ((ile (0:Int) z12.1)&&(ile z12.1 (ñ (List.take (Int.toNat z12.1) z12.2++List.replicate (List.length z12.2-(Int.toNat z12.1)) (0:Int)++List.drop ((Int.toNat z12.1)+(List.length z12.2-(Int.toNat z12.1))) z12.2)))) (some (List.take (Int.toNat z12.1) (List.drop 0 (List.take (Int.toNat z12.1) z12.2++List.replicate (List.length z12.2-(Int.toNat z12.1)) (0:Int)++List.drop ((Int.toNat z12.1)+(List.length z12.2-(Int.toNat z12.1))) z12.2))))))) (z4,n5,a))) (some a) (fun i x hi hx kn=>?_) (fun kn=>?_)) ?_
 ·try dsimp only
  unfold uP;rw[Ñ hi,š hi,Ė hx,Œ hb,À,Ë hi (by omega),Č]
 ·try dsimp only
  unfold uP;rw[ß]
 ·cases h:a.findIdx? (fun x=>b.contains x) with
  |none =>
   have:ý a b=a:=by
    rw[ý,gk];intro x hx;have:=dD.1 h x hx;simpa using this
   rw[this]
  |some z =>
   obtain⟨hz,hc,hlt⟩:=dK.1 h
   have h1:ieq (z:Int) (-1)=false:=by simp[ieq]
   try dsimp only
   rw[Ì h1,Ë hz (by omega)];refine second z hz ?_ ?_
   ·rw[ý,gk];intro x hx;obtain⟨j,hj,rfl⟩:=cO.1 hx;rw[cW] at hj;rw[eP];have:=hlt j (by omega);simpa using this
   ·rw[cA hz]; exact hc
def Hl (l:List Int) (i:Nat) (a:Int):Option Bool:=if !inP a 1 1099511627776 then some false else if tO (fun x=>x) l i a then some false else none
def vN (l:List Int):Bool:=match ķ (Hl l) 0 l with|some _=>false|none=>decide (l.length≤6)
def DX {l:List Int} (hn:l.length≤1000000):md l=some (vN l):=by
 unfold md FQ;refine Eq.trans (jZ l (Hl l) some (some (decide (l.length≤6))) (fun i a hi ha kn=>?_) (fun kn=>?_)) ?_
 ·try dsimp only
  unfold om;rw[Ñ hi,È ha,Φ,À];unfold Hl
  cases inP a 1 1099511627776 with
  |false=>rfl
  |true =>
   simp only[dA,é,cS,if_false];rcases fV i with h0|h0
   ·subst h0
    have:igt ((0:Nat):Int) 0=false:=by simp[igt]
    rw[Ì this,Ë hi (by omega)];simp[tO]
   ·obtain⟨q,hq⟩:=SY hi h0
    have h1:igt (i:Int) 0=true:=by simp[igt]; omega
    rw[Ù h1,adk h0 (by omega),UT h0 hq];simp only[tO,h0,decide_true,Bool.true_and,hq,Option.any_some];unfold ile
    cases h2:decide (a≤q) with
    |true=>rfl
    |false =>
     rw[é,Ë hi (by omega)];rfl
 ·try dsimp only
  unfold om;rw[ß,Ò];simp[ile];omega
 ·have hb:∀x,ķ (Hl l) 0 l=some x→x=false:=by
   have:∀(m:List Int) (j:Nat) (x:Bool),ķ (Hl l) j m=some x→x=false:=by
    intro m
    induction m with
    |nil=>intro j x h; cases h
    |cons a m ih =>
     intro j x h;unfold ķ at h
     cases hp:Hl l j a with
     |none=>rw[hp] at h; exact ih _ _ h
     |some y =>
      rw[hp] at h;cases h;unfold Hl at hp
      split at hp
      ·cases hp; rfl
      ·split at hp
       ·cases hp; rfl
       ·cases hp
   exact this l 0
  unfold vN
  cases h:ķ (Hl l) 0 l with
  |none=>rfl
  |some x=>rw[hb x h]
def Cd (l:List Int):vN l=true↔(∀x∈l,1≤x∧x≤1099511627776)∧l.Pairwise (·<·)∧l.length≤6:=by
 have h0:ķ (Hl l) 0 l=none↔(∀x∈l,1≤x∧x≤1099511627776)∧l.Pairwise (·<·):=by
  rw[iO,←IJ (fun x=>x) l];constructor
  ·intro h
   have h1:∀(j:Nat) (a:Int),l[j]?=some a→inP a 1 1099511627776=true∧tO (fun x=>x) l j a=false:=by
    intro j a ha;have:=h j a ha;rw[Nat.zero_add] at this;unfold Hl at this
    split at this
    ·cases this
    ·split at this
     ·cases this
     ·rename_i h1 h2;exact⟨by simpa using h1,by simpa using h2⟩
   refine⟨fun x hx=>?_,fun i a ha=>(h1 i a ha).2⟩;obtain⟨j,hj,rfl⟩:=cO.1 hx;have:=(h1 j l[j] (cA hj)).1;simpa[inP] using this
  ·rintro⟨h1,h2⟩ j a ha;rw[dm];have h3:=h1 a (cI ha)
   have:inP a 1 1099511627776=true:=by simpa[inP] using h3
   simp[Hl,this,h2 j a ha]
 unfold vN
 cases h:ķ (Hl l) 0 l with
 |none =>
  obtain⟨h1,h2⟩:=h0.1 h;simp only[decide_eq_true_eq];exact⟨fun h3=>⟨h1,h2,h3⟩,fun h3=>h3.2.2⟩
 |some x =>
  constructor
  ·intro h2; cases h2
  ·rintro⟨h1,h2,h3⟩;rw[h0.2 ⟨h1,h2⟩] at h; cases h
def Ml {a b:List Int} (ha:a.length≤1000000) (hb:b.length≤1000000):Ĥ [a,b]=some (a++b):=by
 have hk:∀n:Nat,n≤4000000→∀(f:Int→Option (List Int)),ck (n:Int) f=f n:=fun n h f=>Ó (by omega) (by omega) f
 have second:Ê (fun(v9:(Val (.pair tI (.slice tI)))) kk12=>Ĝ [a,b] (Ø [a,b]) v9.1 v9.2 (fun u10 u11=>kk12 (u10,u11)) (fun z8=>some z8)) ((0:Int),([]:List Int))=some (a++b):=by
  refine ģ [a,b] (fun i=>([a,b].take i).flatten) (some (a++b)) (f:=fun(v9:(Val (.pair tI (.slice tI)))) kk12=>Ĝ [a,b] (Ø [a,b]) v9.1 v9.2 (fun u10 u11=>kk12 (u10,u11)) (fun z8=>some z8)) rfl (fun i x hi hx kn=>?_) (fun kn=>?_)
  ·try dsimp only
   unfold Ĝ;rw[Ñ hi,È hx,Ë hi (by simp),take_succ hx,List.flatten_append]
   have:î ((List.take i [a,b]).flatten.length+x.length)=true:=by
    refine Û ?_
    have h1:x.length≤1000000:=by
     have:=cI hx;simp at this
     rcases this with rfl|rfl<;>assumption
    have h2:(List.take i [a,b]).flatten.length≤2000000:=by
     have:i=0∨i=1:=by simp at hi; omega
     rcases this with rfl|rfl<;>simp<;>omega
    omega
   rw[Đ this];simp
  ·try dsimp only
   unfold Ĝ;rw[ß];simp
 unfold Ĥ kE;refine Ę (fun x:Int×Int=>∃i:Nat,i≤2∧x=((([a,b].take i).flatten.length:Int),(i:Int))) (fun x=>2-x.2.toNat) ?_ ⟨0,by omega,rfl⟩;rintro x ⟨i,hi,rfl⟩;rcases Nat.lt_or_ge i 2 with h2|h2
 ·refine .inr ⟨((([a,b].take (i+1)).flatten.length:Int),(i:Int)+1),⟨i+1,h2,by simp⟩,by simp; omega,fun kn=>?_⟩;have hi':i<[a,b].length:=h2;obtain⟨x,hx⟩:∃x,[a,b][i]?=some x:=⟨_,cA hi'⟩
  have hxl:x.length≤1000000:=by
   have:=cI hx;simp at this
   rcases this with rfl|rfl<;>assumption
  have h3:(List.take i [a,b]).flatten.length≤2000000:=by
   have:i=0∨i=1:=by omega
   rcases this with rfl|rfl<;>simp<;>omega
  try dsimp only
  unfold ž;rw[Ñ hi',È hx,Ò]
  have e1:(((List.take i [a,b]).flatten.length:Int)+(x.length:Int))=((List.take i [a,b]).flatten.length+x.length:Nat):=by omega
  rw[e1,hk _ (by omega)]
  have:ilt ((((List.take i [a,b]).flatten.length+x.length:Nat)):Int) 0=false:=by simp[ilt]; omega
  rw[Ì this,Ë hi' (by simp),take_succ hx];simp
 ·refine .inl fun kn=>?_
  obtain rfl:i=2:=by omega
  try dsimp only
  unfold ž;rw[show((2:Nat):Int)=(([a,b].length:Nat):Int) from rfl,ß]
  have e1:((List.take 2 [a,b]).flatten.length:Int)=((a.length+b.length:Nat):Int):=by simp
  have e2:ilt (((a.length+b.length:Nat)):Int) 0=false:=by simp[ilt]; omega
  rw[e1];dsimp only;rw[Ì e2,Int.sub_zero,hk _ (by omega)];rcases Nat.eq_zero_or_pos (a.length+b.length) with h0|h0
  ·have:igt (((a.length+b.length:Nat)):Int) 0=false:=by simp[igt]; omega
   rw[Ì this];exact second
  ·have:igt (((a.length+b.length:Nat)):Int) 0=true:=by simp[igt]; omega
   rw[Ù this]
   have:((ilt (0:Int) (((a.length+b.length:Nat)):Int))&&(î (Int.toNat (((a.length+b.length:Nat)):Int))))=true:=by
    rw[cQ,Û (by omega)];simp[ilt]; omega
   rw[Đ this]
   have:ile 0 (ñ (List.replicate (Int.toNat (((a.length+b.length:Nat)):Int)) (0:Int)))=true:=by simp[ile]
   rw[Đ this];exact second
def lh (b:Ğ) (id day:Int):Option Mi:=b.2.2.2.1.find? fun l=>l.1==id&&inP day l.2.1.1 l.2.1.2
def RE {α:Type} (p:α→Bool):∀l:List α,l.find? p=(match l.findIdx? p with|some j=>l[j]?|none=>none)
 |[]=>rfl
 |a::l=>by
  rw[fi,List.findIdx?_cons]
  cases h:p a with
  |true=>simp
  |false =>
   simp only[cS,if_false];rw[RE p l]
   cases l.findIdx? p<;>simp
def adS {b:Ğ} (hn:b.2.2.2.1.length≤1000) (id day:Int):vm b id day=some (match lh b id day with|some l=>(l,true)|none=>((0,(0,0),0),false)):=by
 unfold vm Rf;refine Eq.trans (jt b.2.2.2.1 (fun l=>l.1==id&&inP day l.2.1.1 l.2.1.2) (fun z5=>ifb (ilt z5 (0:Int)) (some (((0:Int),((0:Int),(0:Int)),(0:Int)),false)) (Ċ b.2.2.2.1 z5 fun e6=>some (e6,true))) (some ((0,(0,0),0),false)) (fun i a hi ha kn=>?_) (fun kn=>?_)) ?_
 ·try dsimp only
  unfold uT;rw[Ñ hi,È ha,Φ,À,Ë hi (by omega)]
  cases h1:(a.1==id) with
  |false =>
   have:ieq a.1 id=false:=h1;simp[this]
  |true =>
   have:ieq a.1 id=true:=h1;rw[this]
   cases inP day a.2.1.1 a.2.1.2<;>simp
 ·try dsimp only
  unfold uT;rw[ß]
 ·unfold lh;rw[RE]
  cases h:b.2.2.2.1.findIdx? (fun l=>l.1==id&&inP day l.2.1.1 l.2.1.2) with
  |none=>rfl
  |some j =>
   obtain⟨hj,_,_⟩:=dK.1 h
   have:ilt (j:Int) 0=false:=by simp[ilt]
   try dsimp only
   rw[Ì this,È (cA hj),cA hj]
section
variable {ρ:Type}
def aa6 {α:Type} {all l:List α} (k:Option ρ) (h:l <+: all):yg all l k=k:=by unfold yg; rw[if_pos h]
def RB {α β:Type} {f:List α→β→(List α→Option ρ)→Option ρ} {g:β→List α} {al:List α}:∀{xs:List β} {v:List α} {K:List α→Option ρ},
 (∀v y kn,y∈xs→(v++g y) <+: al→f v y kn=kn (v++g y))→(v++xs.flatMap g) <+: al→xM f xs v K=K (v++xs.flatMap g)
 |[],v,K,_,_=>by simp[xM]
 |x::xs,v,K,h,hp=>by
  rw[dw,←cN] at hp ⊢;rw[xM,h v x _ (by simp) ((dH _ _).trans hp),RB (fun v y kn hy=>h v y kn (cZ _ hy)) hp]
end
def aa9 {rec:List Int→Option (List Int)} {l xs:List Int} (h:yx l=some xs):jk xs rec l some=some (xs,l):=by
 unfold yx at h
 have hk:î l.length=true:=by cases e:î l.length with|true=>rfl|false=>rw[e] at h; cases h
 rw[Đ hk] at h;cases h
 have hk2:l.length≤4294967296:=by simpa[î] using hk
 unfold jk
 refine ģ l (fun i=>l.take i) _ rfl (fun i a hi ha kn=>?_) (fun kn=>?_)<;>(try dsimp only)<;>unfold gX
 ·rw[Ñ hi,È ha,←take_succ ha,aa6 _ (List.take_prefix _ _),Ó (by omega) (by omega)]
 ·rw[ß,fA]
def XV:∀(n:Nat) {l y:List Int},l.length=n→y∈EZ n l→y.length=n
 |0,l,y,_,h=>by simp[EZ] at h; simp[h]
 |n+1,l,y,hl,h=>by
  have hne:¬l.length=0:=by omega
  simp only[EZ,if_neg hne,dl,fu,dc] at h;obtain⟨i,hi,z,hz,rfl⟩:=h;have:=XV n (l:=l.take i++l.drop (i+1)) (by simp; omega) hz;simp[this]
def Sj:∀{l:List (Int×List Int)} {y:List (List Int)},y∈iA l→y.length=l.length
 |[],y,h=>by simp[iA] at h; simp[h]
 |m::r,y,h=>by
  simp only[iA,dl,dc] at h;obtain⟨x,_,z,hz,rfl⟩:=h;simp[Sj hz]
def agJ {α:Type} {n i:Nat} (h:i<n) (g:Nat→List α):((List.range i).flatMap g++g i) <+: (List.range n).flatMap g:=by
 have:List.range n=List.range i++i::(List.range (n-i-1)).map (i+1+·):=by
  rw[show n=(i+1)+(n-i-1) by omega,List.range_add,fE,cN];simp[show i+1+(n-i-1)-i-1=n-i-1 by omega]
 rw[this,ft,dw,←cN];exact dH _ _
def VE (n:Nat) (l:List Int):Option (List (List Int)):=è (decide (l.length<n)&&decide (l.length≤9)) (some (EZ l.length l))
def abC {n:Nat} {l:List Int} (h:l.length<n) (h9:l.length≤9):VE n l=some (EZ l.length l):=by unfold VE; rw[Đ (by simp[h,h9])]
def Yl {n:Nat} {l:List Int} {xs:List (List Int)} (h:VE n l=some xs):l.length<n∧l.length≤9∧xs=EZ l.length l:=by
 unfold VE at h
 cases hb:(decide (l.length<n)&&decide (l.length≤9)) with
 |false=>rw[hb] at h; cases h
 |true =>
  rw[hb] at h; cases h;simp only[cD,decide_eq_true_eq] at hb;exact⟨hb.1,hb.2,rfl⟩
def abQ {n:Nat} {l:List Int} {xs:List (List Int)} (h:VE (n+1) l=some xs):wQ xs (VE n) l some=some (xs,l):=by
 obtain⟨h1,h2,rfl⟩:=Yl h;unfold wQ
 by_cases h0:l.length=0
 ·obtain rfl:l=[]:=List.eq_nil_of_length_eq_zero h0;rw[show ifb (ieq (Ø ([]:List Int)) (0:Int))=fun(x y:Option (List (List Int)×List Int))=>x from by funext x y; simp[Ò,ieq,Č]];exact aa6 _ (by simp[EZ])
 ·obtain⟨k,hk⟩:∃k,l.length=k+1:=⟨l.length-1,by omega⟩
  have hF:EZ l.length l=(List.range l.length).flatMap fun i=>(EZ k (l.take i++l.drop (i+1))).map (l.getD i 0::·):=by
   rw[hk];show(if l.length=0 then[[]] else _)=_;rw[if_neg h0,hk]
  have hne:ieq (Ø l) (0:Int)=false:=by rw[Ò]; exact decide_eq_false (by omega)
  rw[Ì hne];rw[hF]
  refine ģ l (fun i=>(List.range i).flatMap fun i=>(EZ k (l.take i++l.drop (i+1))).map (l.getD i 0::·)) _ rfl (fun i a hi ha kn=>?_) (fun kn=>?_)<;>(try dsimp only)<;>unfold o9
  ·have hr:(l.take i++l.drop (i+1)).length=k:=by simp; omega
   rw[Ñ hi,È ha,Đ (by simp[ile,ñ]; omega),Ó (by omega) (by omega),Đ (by simp[ile,ñ]; omega),cQ,show Int.toNat ((i:Int)+1)=i+1 by omega,
    Ml (by simp; omega) (by simp; omega),À,abC (by omega) (by omega),À,hr]
   have hga:l.getD i 0=a:=by rw[dV,ha]; rfl
   have hm:∀xs:List (List Int),xs.map (l.getD i 0::·)=xs.flatMap fun y=>[a::y]:=fun xs=>by
    rw[hga]; induction xs with|nil=>rfl|cons x xs ih=>simp[ih]
   have hp:=agJ hi fun i=>(EZ k (l.take i++l.drop (i+1))).map (l.getD i 0::·)
   have hs:(List.range (i+1)).flatMap (fun i=>(EZ k (l.take i++l.drop (i+1))).map (l.getD i 0::·))=(List.range i).flatMap (fun i=>(EZ k (l.take i++l.drop (i+1))).map (l.getD i 0::·))++(EZ k (l.take i++l.drop (i+1))).flatMap fun y=>[a::y]:=by
    rw[fE,ft,dw,List.flatMap_nil,cY,hm]
   rw[hs];rw[hm] at hp;refine(RB (g:=fun y=>[a::y]) (fun v y kn hy hv=>?_) hp).trans ?_
   ·unfold o8;have:=XV k hr hy;rw[Đ (Û (by simp; omega))];exact aa6 _ hv
   ·dsimp only;rw[Ó (by omega) (by omega)]
  ·rw[ß]
def VF (n:Nat) (l:List (Int×List Int)):Option (List (List (List Int))):=è (decide (l.length<n)&&(decide (l.length≤9)&&l.all fun m=>decide (m.2.length≤9))) (some (iA l))
def Ym {n:Nat} {l:List (Int×List Int)} {xs:List (List (List Int))} (h:VF n l=some xs):l.length<n∧l.length≤9∧(∀m∈l,m.2.length≤9)∧xs=iA l:=by
 unfold VF at h
 cases hb:(decide (l.length<n)&&(decide (l.length≤9)&&l.all fun m=>decide (m.2.length≤9))) with
 |false=>rw[hb] at h; cases h
 |true =>
  rw[hb] at h; cases h;simp only[cD,decide_eq_true_eq,dg] at hb;exact⟨hb.1,hb.2.1,hb.2.2,rfl⟩
def abD {n:Nat} {l:List (Int×List Int)} (h:l.length<n) (h9:l.length≤9) (ha:∀m∈l,m.2.length≤9):VF n l=some (iA l):=by
 unfold VF; rw[Đ (by simp only[Bool.and_eq_true,decide_eq_true_eq,List.all_eq_true]; exact⟨h,h9,ha⟩)]
def Xz {n:Nat} {l:List (Int×List Int)} {xs:List (List (List Int))} (h:VF (n+1) l=some xs):rK xs (VF n) l some=some (xs,l):=by
 obtain⟨h1,h2,h3,rfl⟩:=Ym h;unfold rK
 cases l with
 |nil =>
  rw[show ifb (ieq (Ø ([]:List (Int×List Int))) (0:Int))=fun(x y:Option (List (List (List Int))×List (Int×List Int)))=>x from by funext x y; simp[Ò,ieq,Č]];exact aa6 _ (by simp[iA])
 |cons e r =>
  have hne:ieq (Ø (e::r)) (0:Int)=false:=by rw[Ò]; exact decide_eq_false (by simp only[cP]; omega)
  rw[Ì hne];have he:=h3 e (by simp);rw[show Ċ (e::r) (0:Int)=fun f=>f e from by funext f; rfl];dsimp only;rw[show yy e.2=some (EZ e.2.length e.2) from by unfold yy; rw[Đ (by simp[he])],À];have hF:iA (e::r)=(EZ e.2.length e.2).flatMap fun x=>(iA r).map (x::·):=rfl
  have hm:∀(x:List Int),(iA r).map (x::·)=(iA r).flatMap fun y=>[x::y]:=fun x=>by
   generalize iA r=ys
   induction ys with|nil=>rfl|cons y ys ih=>simp[ih]
  refine(RB (g:=fun x=>(iA r).map (x::·)) (al:=iA (e::r)) (fun v x kn hx hv=>?_) (by rw[dN,←hF]; exact dE)).trans ?_
  ·unfold lR;simp only[List.length_cons] at h1 h2;rw[Đ (by simp[ile,ñ]; omega),show List.drop 1 (e::r)=r from rfl,abD (by omega) (by omega) (fun m hm=>h3 m (by simp[hm])),À];rw[hm] at hv ⊢;refine RB (g:=fun y=>[x::y]) (fun v y kn hy hv=>?_) hv;unfold lQ;have:=Sj hy;rw[Đ (Û (by simp; omega))];exact aa6 _ hv
  ·rw[dN,←hF]
def ZX {l:List Int} {xs:List (List Int)} (h:yy l=some xs):VE 10 l=some xs:=by
 unfold yy at h
 cases hb:decide (l.length≤9) with
 |false=>rw[hb] at h; cases h
 |true =>
  rw[hb] at h; cases h;have:=of_decide_eq_true hb;exact abC (by omega) this
def Vc {l:List (Int×List Int)} {xs:List (List (List Int))} (h:l5 l=some xs):VF 10 l=some xs:=by
 unfold l5 at h
 cases hb:(decide (l.length≤9)&&l.all fun m=>decide (m.2.length≤9)) with
 |false=>rw[hb] at h; cases h
 |true =>
  rw[hb] at h; cases h;simp only[cD,decide_eq_true_eq,dg] at hb;exact abD (by omega) hb.1 hb.2
end Go.Proofs.ZzM
end
