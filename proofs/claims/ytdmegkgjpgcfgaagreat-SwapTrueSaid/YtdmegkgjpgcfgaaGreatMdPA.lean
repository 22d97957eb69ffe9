/- lemmas -/
import Derived.Test.YtdmegkgjpgcfgaaGreatAmF
import Derived.Test.YtdmegkgjpgcfgaaGreatMdTA
set_option linter.all false
set_option linter.unusedSectionVars false
set_option linter.unusedVariables false
set_option linter.unusedSimpArgs false
noncomputable section
namespace Go.Am
section
variable {ρ:Type}
def Ŏ {α β:Type} (e:Nat→α→Option β):Nat→List α→Option β
 |_,[]=>none
 |i,a::t=>match e i a with
  |some b=>some b
  |none=>Ŏ e (i+1) t
def mS {α β:Type} (l:List α) (e:Nat→α→Option β) (k0:β→Option ρ) (k1:Option ρ) {f:Int→(Int→Option ρ)→Option ρ}
 (h:∀(i:Nat) (a:α),i<l.length→l[i]?=some a→∀kn,f i kn=match e i a with|some b=>k0 b|none=>kn ((i:Int)+1))
 (hn:∀kn,f l.length kn=k1):Ë f 0=match Ŏ e 0 l with|some b=>k0 b|none=>k1:=by
 refine aer l (fun i t=>match Ŏ e i t with|some b=>k0 b|none=>k1) hn fun i a t hd hi ha kn hk=>?_;rw[h i a hi ha kn,hk,Ŏ]
 cases e i a<;>rfl
def ĩ {α σ:Type} (l:List α) (g:Nat→σ) (r:Option ρ) {f:Int×σ→(Int×σ→Option ρ)→Option ρ} {s0:σ} (h0:g 0=s0)
 (h:∀(i:Nat) (a:α),i<l.length→l[i]?=some a→∀kn,f (i,g i) kn=kn ((i:Int)+1,g (i+1)))
 (hn:∀kn,f (l.length,g l.length) kn=r):Ë f (0,s0)=r:=by
 subst h0
 have hs:∀s,(s=g 0)→Ë f (0,s)=r:=fun s e=>JJ l (fun _ _ _=>r) (fun i s=>s=g i) (fun s hs kn=>by rw[hs]; exact hn kn) (fun i a t s hd hi ha hI kn hk=>by
  rw[hI,h i a hi ha kn]; exact hk _ rfl) e
 exact hs _ rfl
def MA {α σ:Type} (l:List α) (g:Nat→σ) (r:Option ρ) {f:Int×σ→(Int×σ→Option ρ)→Option ρ} {s0:σ} (P:Nat→Prop) (h0:g 0=s0) (hP:P 0)
 (h:∀(i:Nat) (a:α),i<l.length→l[i]?=some a→P i→∀kn,f (i,g i) kn=r∨(P (i+1)∧f (i,g i) kn=kn ((i:Int)+1,g (i+1))))
 (hn:P l.length→∀kn,f (l.length,g l.length) kn=r):Ë f (0,s0)=r:=by
 subst h0
 have hs:∀s,(s=g 0∧P 0)→Ë f (0,s)=r:=fun s e=>JJ l (fun _ _ _=>r) (fun i s=>s=g i∧P i) (fun s hs kn=>by rw[hs.1]; exact hn hs.2 kn) (fun i a t s hd hi ha hI kn hk=>by
  rcases h i a hi ha hI.2 kn with h1|⟨h1,h2⟩
  ·rw[hI.1,h1]
  ·rw[hI.1,h2]; exact hk _ ⟨rfl,h1⟩) e
 exact hs _ ⟨rfl,hP⟩
def Ì {i n:Nat} (h:i<n) (hn:n≤1000000000) (f:Int→Option ρ):ck ((i:Int)+1) f=f ((i:Int)+1):=Ô (by omega) (by omega) f
def ail {i n:Nat} (h:i<n) (x y:Option ρ):ifb (ilt (i:Int) (ab4 n)) x y=x:=by simp[Ď,Kw,h]
def Þ (n:Nat) (x y:Option ρ):ifb (ilt (n:Int) (ab4 n)) x y=y:=by simp[Ď,Kw]
def Ð {α:Type} {l:List α} {i:Nat} (h:i<l.length) (x y:Option ρ):ifb (ilt (i:Int) (Û l)) x y=x:=ail h x y
def MZ {α:Type} (p:α→Bool):∀(i:Nat) (l:List α),Ŏ (fun i a=>bif p a then some (i:Int) else none) i l=(l.findIdx? p).map fun j=>((i+j:Nat):Int)
 |_,[]=>rfl
 |i,a::t=>by
  simp only[Ŏ,List.findIdx?_cons]
  cases hp:p a with
  |true=>simp
  |false =>
   simp only[cond_false,cV,if_false];rw[MZ p (i+1) t]
   cases t.findIdx? p with
   |none=>rfl
   |some j=>simp only[dL]; congr 1; omega
def Ij {α β:Type} (e:α→Option β):∀(i:Nat) (l:List α),Ŏ (fun _ a=>e a) i l=l.findSome? e
 |_,[]=>rfl
 |i,a::t=>by
  simp only[Ŏ,gb]
  cases e a with
  |some b=>rfl
  |none=>exact Ij e (i+1) t
def ju {α β:Type} {e:Nat→α→Option β}:∀{i:Nat} {l:List α},Ŏ e i l=none↔∀j a,l[j]?=some a→e (i+j) a=none
 |_,[]=>by simp[Ŏ]
 |i,a::t=>by
  simp only[Ŏ];constructor
  ·intro h j b hb
   cases he:e i a with
   |some c=>rw[he] at h; cases h
   |none =>
    rw[he] at h
    cases j with
    |zero=>simp at hb; subst hb; simpa using he
    |succ j=>have:=(ju.1 h) j b (by simpa using hb); rw[←this]; congr 1; omega
  ·intro h;have h0:=h 0 a (by simp);simp only[fG] at h0;rw[h0]
   exact ju.2 fun j b hb=>by have:=h (j+1) b (by simpa using hb); rw[←this]; congr 1; omega
def take_succ {α:Type} {l:List α} {i:Nat} {a:α} (h:l[i]?=some a):l.take (i+1)=l.take i++[a]:=by rw[List.take_succ,h]; rfl
end
end Go.Am
end

noncomputable section
namespace Go.Proofs.ZzM
open Go Go.Am
section
variable {ρ:Type}
def ĝ {τ:Type} {f:τ→(τ→Option ρ)→Option ρ} {r:Option ρ} (I:τ→Prop) (μ:τ→Nat)
 (h:∀x,I x→(∀kn,f x kn=r)∨∃y,I y∧μ y<μ x∧∀kn,f x kn=kn y) {x:τ} (hx:I x):Ë f x=r :=
 uG (F:=fun _=>r) I μ (fun x hx kn hk=>by
  rcases h x hx with h1|⟨y,h1,h2,h3⟩
  ·exact h1 kn
  ·rw[h3,hk y h1 h2]) hx
def jr {α:Type} (l:List α) (p:α→Bool) (k0:Int→Option ρ) (k1:Option ρ) {f:Int→(Int→Option ρ)→Option ρ}
 (h:∀(i:Nat) (a:α),i<l.length→l[i]?=some a→∀kn,f i kn=if p a then k0 i else kn ((i:Int)+1))
 (hn:∀kn,f l.length kn=k1):Ë f 0=match l.findIdx? p with|some j=>k0 j|none=>k1:=by
 rw[mS l (fun i a=>bif p a then some (i:Int) else none) k0 k1 (fun i a hi ha kn=>by rw[h i a hi ha kn]; cases p a<;>rfl) hn,MZ]
 cases l.findIdx? p with
 |none=>rfl
 |some j=>simp
def Ĺ {α:Type} (l:List α) (p:α→Bool) (k0:Int→Option ρ) (K k1:Option ρ) {f:Int→(Int→Option ρ)→Option ρ} (hK:∀j:Nat,k0 j=K)
 (h:∀(i:Nat) (a:α),i<l.length→l[i]?=some a→∀kn,f i kn=if p a then k0 i else kn ((i:Int)+1))
 (hn:∀kn,f l.length kn=k1):Ë f 0=if l.any p then K else k1:=by
 rw[jr l p k0 k1 h hn]
 cases hf:l.findIdx? p with
 |none =>
  have:l.any p=false:=by
   rw[dM];intro x hx;have:=dF.1 hf x hx;simp[this]
  simp[this]
 |some j =>
  have:l.any p=true:=by
   have:=dI.1 hf;obtain⟨hj,hp,_⟩:=this;exact dj.2 ⟨_,fe hj,hp⟩
  simp[this,hK]
end
abbrev ò:Type:=Int×Int×Int×(Int×Int)×((Int×Int)×Int)
abbrev NH:Type:=Int×((Int×Int)×Int)
abbrev Cmp:Type:=Int×Int×List Int×List Int×Int×(Int×(Int×Int))
abbrev ë:Type:=(Int×Int)×List ò×List (Int×Int)×List NH×List Cmp×List (Int×Int)
abbrev Sys:Type:=Int×List (Int×Int×Int)
abbrev Maker:Type:=ë×List (Int×Int)×Sys×List (Int×Int)
section
variable {ρ:Type}
def Ø {b:Bool} (h:b=true) (x y:Option ρ):ifb b x y=x:=by rw[h]; rfl
def Í {b:Bool} (h:b=false) (x y:Option ρ):ifb b x y=y:=by rw[h]; rfl
end
def I64 (n:Int):Prop:=-9223372036854775808≤n∧n≤9223372036854775807
def inP (n lo hi:Int):Bool:=decide (lo≤n)&&decide (n≤hi)
def JT (n:Int):Bool:=inP n 0 20000
def mu (s:Int×Int) (lo hi:Int):Bool:=decide (lo≤s.1)&&(decide (s.1≤s.2)&&decide (s.2≤hi))
def Μ (n lo hi:Int):ę n lo hi=some (inP n lo hi):=by
 unfold ę GJ inP ile
 cases decide (lo≤n)<;>rfl
def JK (n:Int):lT n=some (JT n):=by
 unfold lT Mj;rw[Μ]; rfl
def ET (s:Int×Int) (lo hi:Int):Λ s lo hi=some (mu s lo hi):=by
 unfold Λ GU mu ile
 cases decide (lo≤s.1)<;>cases decide (s.1≤s.2)<;>rfl
def QS {n:Int} (h:I64 n):sG n=some (n.natAbs:Int):=by
 obtain⟨h1,h2⟩:=h;unfold sG Sj
 by_cases hn:n<0
 ·have:ilt n 0=true:=by simpa using hn
  rw[Ø this];congr 1;simp only[IntKind.wrap,IntKind.bits,IntKind.signed];simp;omega
 ·have:ilt n 0=false:=by simpa using hn
  rw[Í this];congr 1;simp only[IntKind.wrap,IntKind.bits,IntKind.signed];simp;omega
def aim (a b:Nat):M7 a b=some ((Nat.gcd a b:Nat):Int):=by
 unfold M7 YJ;refine ĝ (fun x:Int×Int=>∃c d:Nat,x=((c:Int),(d:Int))∧Nat.gcd c d=Nat.gcd a b) (fun x=>x.2.toNat) ?_ ⟨a,b,rfl,rfl⟩;rintro x ⟨c,d,rfl,hg⟩
 cases d with
 |zero =>
  refine .inl fun kn=>?_;rw[Nat.gcd_zero_right] at hg;unfold zE;simp[hg,ine]
 |succ d =>
  refine .inr ⟨(((d+1:Nat):Int),((c % (d+1):Nat):Int)),⟨d+1,c % (d+1),rfl,?_⟩,?_,fun kn=>?_⟩
  ·rw[←hg,Nat.gcd_comm c (d+1),Nat.gcd_rec (d+1) c,Nat.gcd_comm]
  ·have:=Nat.mod_lt c (g8 d);simp only[cT];omega
  ·unfold zE
   have h1:ine ((d+1:Nat):Int) 0=true:=by simp[ine]; omega
   have h2:xc ((d+1:Nat):Int) 0=false:=by simp[xc]; omega
   simp only[h1,Ø Í h2];congr 1
def NQ (r:Int×Int):Bool :=
 decide (1≤r.2)&&(decide (r.2≤2147483647)&&(decide ((r.1.natAbs:Int)≤2147483647)&&decide (Nat.gcd r.1.natAbs r.2.natAbs=1)))
def T3 {r:Int×Int} (h:I64 r.1):uR r=some (NQ r):=by
 unfold uR LX NQ
 by_cases h1:1≤r.2
 ·by_cases h2:r.2≤2147483647
  ·have h3:I64 r.2:=⟨by omega,by omega⟩
   have e1:ige r.2 1=true:=by simp[ige,h1]
   have e2:ile r.2 2147483647=true:=by simp[ile,h2]
   rw[Ø e1,Ø e2,QS h,À]
   by_cases h4:(r.1.natAbs:Int)≤2147483647
   ·have e4:ile (r.1.natAbs:Int) 2147483647=true:=by simp[ile,h4]
    rw[Ø e4,À,QS h3,À,aim,À];congr 1;rw[gI];simp only[ieq,beq_iff_eq,h1,h2,h4,decide_true,eF,decide_eq_true_eq];omega
   ·have e4:ile (r.1.natAbs:Int) 2147483647=false:=by simp[ile]; omega
    rw[Í e4];simp[h4]
  ·have e1:ige r.2 1=true:=by simp[ige,h1]
   have e2:ile r.2 2147483647=false:=by simp[ile]; omega
   rw[Ø e1,Í e2];simp[h2]
 ·have e1:ige r.2 1=false:=by simp[ige]; omega
  rw[Í e1];simp[h1]
def By (g:ò):Bool :=
 NQ g.2.2.2.2.1&&inP g.2.2.2.2.1.1 (-1000) 1000&&decide (g.2.2.2.2.1.2≤100)&&inP g.1 1 1099511627776&&JT g.2.1&&inP g.2.2.1 1 1125899906842624&&mu g.2.2.2.1 (-1073741824) 1073741824&&inP g.2.2.2.2.2 0 1048576
def acm {g:ò} (h:I64 g.2.2.2.2.1.1):wy g=some (By g):=by
 unfold wy Cw By;rw[T3 h,Μ,Μ,JK,Μ,ET,Μ];generalize NQ g.2.2.2.2.1=x1;generalize inP g.2.2.2.2.1.1 (-1000) 1000=x2;generalize inP g.1 1 1099511627776=x3;generalize JT g.2.1=x4;generalize inP g.2.2.1 1 1125899906842624=x5;generalize mu g.2.2.2.1 (-1073741824) 1073741824=x6;generalize inP g.2.2.2.2.2 0 1048576=x7;unfold ile;generalize decide (g.2.2.2.2.1.2≤100)=x8
 cases x1<;>cases x2<;>cases x3<;>cases x4<;>cases x5<;>cases x6<;>cases x8<;>rfl
section
variable {ρ:Type}
def WQ {α:Type} {l:List α} {i:Nat} {a:α} (h0:0<i) (h:l[i-1]?=some a) (f:α→Option ρ):ě l ((i:Int)-1) f=f a:=by
 have:((i:Int)-1)=((i-1:Nat):Int):=by omega
 rw[this,È h]
def afw {i:Nat} (h:0<i) (hn:i≤1000000000) (f:Int→Option ρ):ck ((i:Int)-1) f=f ((i:Int)-1):=Ô (by omega) (by omega) f
def Į {i n:Nat} (h:i<n) (x:Option ρ):ä ((ile 0 (i:Int))&&(ilt (i:Int) (n:Int))) x=x:=by
 have:((ile 0 (i:Int))&&(ilt (i:Int) (n:Int)))=true:=by simp[ile,ilt,h]
 rw[this,Am.iff_true]
def ô {α:Type} {l:List α} {i:Nat} {a:α} (h:l[i]?=some a) (f:α→Option ρ):ĸ l (Int.toNat (i:Int)) f=f a:=by
 rw[cT]; exact i9 h f
end
def uZ {α:Type} (key:α→Int) (l:List α) (i:Nat) (a:α):Bool :=
 decide (0<i)&&(l[i-1]?).any fun q=>decide (key a≤key q)
def UJ {α:Type} {l:List α} {i:Nat} (hi:i<l.length) (h0:0<i):∃q,l[i-1]?=some q :=
 ⟨l[i-1],cF (by omega)⟩
def JU {α:Type} (key:α→Int) (l:List α):(∀i a,l[i]?=some a→uZ key l i a=false)↔l.Pairwise (fun a b=>key a<key b):=by
 rw[dm];constructor
 ·intro h
  have step:∀i (h1:i+1<l.length),key l[i]<key l[i+1]:=by
   intro i h1;have:=h (i+1) l[i+1] (cF h1);simp only[uZ,Nat.add_sub_cancel,g8,decide_true,eF,cF (show i<l.length by omega),Option.any_some,decide_eq_false_iff_not] at this;omega
  intro i j hi hj hij
  induction j with
  |zero=>omega
  |succ j ih =>
   have:=step j hj;rcases dg i j with hlt|hge
   ·have:=ih (by omega) hlt; omega
   ·have:i=j:=by omega
    subst this; assumption
 ·intro h i a ha;obtain⟨hi,rfl⟩:=List.getElem?_eq_some_iff.1 ha;unfold uZ
  cases i with
  |zero=>rfl
  |succ i =>
   have:=h i (i+1) (by omega) hi (by omega);simp only[Nat.add_sub_cancel,g8,decide_true,eF,cF (show i<l.length by omega),Option.any_some,decide_eq_false_iff_not];omega
def yU (l:List ò) (i:Nat) (g:ò):Option Int :=
 if !By g then some 1 else if uZ (fun g=>g.1) l i g then some 6 else none
def mW (b:ë):Int:=(Ŏ (yU b.2.1) 0 b.2.1).getD 0
def Pl {b:ë} (hr:∀g∈b.2.1,I64 g.2.2.2.2.1.1) (hn:b.2.1.length≤1000):Α b=some (mW b):=by
 unfold Α qv;refine Eq.trans (mS b.2.1 (yU b.2.1) some (some 0) (fun i a hi ha kn=>?_) (fun kn=>?_)) ?_
 ·try dsimp only
  unfold jb;rw[Ð hi,È ha,acm (hr a (List.mem_of_getElem? ha)),À];unfold yU
  cases hg:By a with
  |false=>simp
  |true =>
   simp only[dB,é,cV,if_false];rcases gh i with h0|h0
   ·subst h0
    have:igt ((0:Nat):Int) 0=false:=by simp[igt]
    rw[Í this,Ì hi (by omega)];simp[uZ]
   ·obtain⟨q,hq⟩:=UJ hi h0
    have h1:igt (i:Int) 0=true:=by simp[igt]; omega
    rw[Ø h1,afw h0 (by omega),WQ h0 hq];simp only[uZ,h0,decide_true,Bool.true_and,hq,Option.any_some];unfold ile
    cases h2:decide (a.1≤q.1) with
    |true=>simp
    |false =>
     rw[é,Ì hi (by omega)];simp
 ·try dsimp only
  unfold jb;rw[Þ]
 ·unfold mW
  cases Ŏ (yU b.2.1) 0 b.2.1<;>rfl
def Uv (l:List ò):List (Int×ò):=l.foldl (fun m g=>Kx (k:=tI) (v:=Ö) g.1 g m) []
def ő (b:ë):List (Int×ò):=Uv b.2.1
def FV {b:ë} (hn:b.2.1.length≤1000):Ń b=some (ő b):=by
 unfold Ń Ct;refine ĩ b.2.1 (fun i=>Uv (b.2.1.take i)) _ rfl (fun i a hi ha kn=>?_) (fun kn=>?_)
 ·try dsimp only
  unfold nl;rw[Ð hi,È ha,Ì hi (by omega),take_succ ha];simp only[Uv,List.foldl_append,List.foldl_cons,List.foldl_nil]
 ·try dsimp only
  unfold nl;rw[Þ,List.take_length];rfl
def Ve (x y:Int) (g:ò):∀m:List (Int×ò),l5 (k:=tI) (v:=Ö) x (Kx (k:=tI) (v:=Ö) y g m)=if x=y then some g else l5 (k:=tI) (v:=Ö) x m
 |[]=>by
  unfold Kx l5 ž l5
  by_cases h:x=y<;>simp[h]
 |e::m=>by
  unfold Kx
  by_cases h:y=e.1
  ·have:ž tI y e.1=true:=by simp[ž,h]
   rw[this]
   try dsimp only
   unfold l5 ž
   by_cases h2:x=y
   ·simp[h2]
   ·have:¬x=e.1:=fun h3=>h2 (h3.trans h.symm);simp[h2,this]
  ·have:ž tI y e.1=false:=by simp[ž,h]
   rw[this]
   try dsimp only
   have ih:=Ve x y g m;unfold l5
   by_cases h2:x=e.1
   ·have:ž tI x e.1=true:=by simp[ž,h2]
    rw[this];have:¬x=y:=fun h3=>h (h3.symm.trans h2);simp[this]
   ·have:ž tI x e.1=false:=by simp[ž,h2]
    rw[this];exact ih
def ø (b:ë) (id:Int):Option ò:=b.2.1.find? fun g=>g.1==id
def Yg (x:Int) (l:List ò):l5 (k:=tI) (v:=Ö) x (Uv l)=l.reverse.find? fun g=>g.1==x:=by
 unfold Uv;rw[←List.foldr_reverse]
 induction l.reverse with
 |nil=>rfl
 |cons g t ih =>
  rw[List.foldr_cons,Ve,ih,fF]
  by_cases h:x=g.1
  ·simp[h]
  ·have:(g.1==x)=false:=by simp; exact fun h2=>h h2.symm
   simp[h,this]
def Ik {l:List ò} (h:l.Pairwise fun a b=>a.1<b.1) (x:Int):l.reverse.find? (fun g=>g.1==x)=l.find? fun g=>g.1==x:=by
 induction l with
 |nil=>rfl
 |cons g t ih =>
  rw[dt] at h;rw[List.reverse_cons,List.find?_append,ih h.2,fF]
  by_cases hx:g.1=x
  ·have:t.find? (fun g=>g.1==x)=none:=ej.2 fun y hy=>by have:g.1<y.1:=h.1 y hy; simp; omega
   rw[this]; simp[hx]
  ·have:(g.1==x)=false:=by simp[hx]
   simp[this]
def zx {b:ë} (h:b.2.1.Pairwise fun a b=>a.1<b.1) (x:Int):l5 (k:=tI) (v:=Ö) x (ő b)=ø b x:=by
 unfold ő ø;rw[Yg,Ik h]
def nH (s:List (Int×ò)) (id day:Int):Int :=
 match l5 (k:=tI) (v:=Ö) id s with
 |some g=>if day<g.2.1 then 4 else 0
 |none=>5
def Yh (s:List (Int×ò)) (id day:Int):iV s id day=some (nH s id day):=by
 unfold iV sZ nH
 cases h:l5 (k:=tI) (v:=Ö) id s with
 |none=>simp only[NK,h]
 |some g =>
  simp only[NK,h];rw[Ď]
  by_cases h2:day<g.2.1<;>simp[h2]
def HF (s:List (Int×ò)) (id day:Int):Int:=if !JT day then 1 else nH s id day
def UO (s:List (Int×ò)) (id day:Int):ń id day s=some (HF s id day):=by
 unfold ń Cv HF;rw[JK,À,Yh,À]
 cases JT day<;>rfl
def Tf (b:ë) (s:List (Int×ò)) (i:Nat) (l:NH):Int :=
 if !mu l.2.1 0 20000 then 1 else if !inP l.2.2 0 1048576 then 1 else if nH s l.1 l.2.1.1 != 0 then nH s l.1 l.2.1.1 else
 if (b.2.2.2.1.take i).any (fun x=>x.1==l.1&&(decide (x.2.1.1≤l.2.1.2)&&decide (l.2.1.1≤x.2.1.2))) then 9 else
 if b.2.2.1.any (fun u=>u.1==l.1&&inP u.2 l.2.1.1 l.2.1.2) then 9 else 0
def Xd {b:ë} (hn:b.2.2.2.1.length≤1000) (hu:b.2.2.1.length≤1000) (s:List (Int×ò)) {i:Nat} {l:NH} (hl:b.2.2.2.1[i]?=some l):Φ b s i=some (Tf b s i l):=by
 unfold Φ wg Tf;have hi:i<b.2.2.2.1.length:=(List.getElem?_eq_some_iff.1 hl).1;rw[È hl,ET,À,Μ,À,Yh,À]
 cases mu l.2.1 0 20000 with
 |false=>rfl
 |true =>
 cases inP l.2.2 0 1048576 with
 |false=>rfl
 |true =>
 cases hm:(nH s l.1 l.2.1.1 != 0) with
 |true =>
  have:ine (nH s l.1 l.2.1.1) 0=true:=hm;simp[this]
 |false =>
 have hm':ine (nH s l.1 l.2.1.1) 0=false:=hm
 have hg:((ile (0:Int) (i:Int))&&(ile (i:Int) (î b.2.2.2.1)))=true:=by simp[ile,î]; omega
 simp only[dB,é,hm',cV,if_false];rw[ċ hg,cT]
 have inner:∀(k:Int→Option Int),Ë (fun(v:Int) kk=>Κ b.2.2.1 (Û b.2.2.1) l.1 l.2.1.1 l.2.1.2 v (fun u=>kk u) (fun z=>ifb (ige z 0) (k 9) (k 0)) (fun _=>k 0)) (0:Int)=if b.2.2.1.any (fun u=>u.1==l.1&&inP u.2 l.2.1.1 l.2.1.2) then k 9 else k 0:=by
  intro k;refine Ĺ b.2.2.1 _ (fun z=>ifb (ige z 0) (k 9) (k 0)) (k 9) (k 0) (fun j=>?_) (fun j a hj ha kn=>?_) (fun kn=>?_)
  ·have:ige (j:Int) 0=true:=by simp[ige]
   rw[Ø this]
  ·try dsimp only
   unfold Κ;rw[Ð hj,È ha,Μ,À,Ì hj (by omega)]
   cases h1:(a.1==l.1) with
   |false =>
    have:ieq a.1 l.1=false:=h1;simp[this]
   |true =>
    have:ieq a.1 l.1=true:=h1;rw[this]
    cases inP a.2 l.2.1.1 l.2.1.2<;>simp
  ·try dsimp only
   unfold Κ;rw[Þ]
 rw[inner];refine eA (Ĺ (b.2.2.2.1.take i) (fun x=>x.1==l.1&&(decide (x.2.1.1≤l.2.1.2)&&decide (l.2.1.1≤x.2.1.2))) (fun z=>ifb (ige z 0) (some 9) (if b.2.2.1.any (fun u=>u.1==l.1&&inP u.2 l.2.1.1 l.2.1.2) then some 9 else some 0)) (some 9) (if b.2.2.1.any (fun u=>u.1==l.1&&inP u.2 l.2.1.1 l.2.1.2) then some 9 else some 0) (fun j=>?_) (fun j a hj ha kn=>?_) (fun kn=>?_)) ?_
 ·have:ige (j:Int) 0=true:=by simp[ige]
  rw[Ø this]
 ·try dsimp only
  unfold kB
  have hj':j≤1000:=by rw[cZ] at hj; omega
  rw[Ð hj,È ha,Ì hj (by rw[cZ]; omega)]
  cases h1:(a.1==l.1) with
  |false =>
   have:ieq a.1 l.1=false:=h1;simp[this]
  |true =>
   have:ieq a.1 l.1=true:=h1;rw[this]
   cases h2:decide (a.2.1.1≤l.2.1.2)<;>cases h3:decide (l.2.1.1≤a.2.1.2)<;>simp[ile,h2,h3,Ď]<;>simp_all
 ·try dsimp only
  unfold kB;rw[Þ]
 ·cases List.any (b.2.2.2.1.take i) _<;>cases b.2.2.1.any _<;>rfl
def Xz {l:List Int} (hn:l.length≤1000000) (x:Int):iu l x=some (match l.findIdx? (·==x) with|some j=>(j:Int)|none=>-1):=by
 unfold iu mL;refine Eq.trans (jr l (·==x) some (some (-1)) (fun i a hi ha kn=>?_) (fun kn=>?_)) ?_
 ·try dsimp only
  unfold ο;rw[Ð hi,È ha,Ì hi (by omega),Ď]
  by_cases h:x=a
  ·subst h; simp[ieq]
  ·have h2:¬a=x:=fun e=>h e.symm;simp[ieq,h,h2]
 ·try dsimp only
  unfold ο;rw[Þ]
 ·cases l.findIdx? (·==x)<;>rfl
def ī {l:List Int} (hn:l.length≤1000000) (x:Int):Ü l x=some (l.contains x):=by
 unfold Ü jV;rw[Xz hn,À];congr 1
 cases h:l.findIdx? (·==x) with
 |none =>
  have:l.contains x=false:=by
   rw[eh];intro hc;have:=dF.1 h x (by simpa using hc);simp at this
  rw[this]; rfl
 |some j =>
  obtain⟨hj,hp,_⟩:=dI.1 h
  have:l.contains x=true:=by
   have h2:l[j]=x:=by simpa using hp
   rw[←h2]; simp
  rw[this];simp[ige]
def û (a b:List Int):List Int:=a.filter fun x=>!b.contains x
def ta {a b:List Int} (ha:a.length≤1000000) (hb:b.length≤1000000):Ů a b=some (û a b):=by
 unfold Ů SK;rw[Õ (by omega),Am.iff_true]
 have second:∀z:Nat,z<a.length→û (a.take z) b=a.take z→b.contains (a[z]?.getD 0)=true →
  Ë (fun(v13:(Val (.pair tI (.pair tI (.slice tI))))) kk17=>kK b v13.1 v13.2.1 v13.2.2 (fun u14 u15 u16=>kk17 (u14,u15,u16)) (fun z12=>ä ((ile (0:Int) z12.1)&&(ile z12.1 (î z12.2))) (ä ((ile (0:Int) z12.1)&&(ile z12.1 (î (List.take (Int.toNat z12.1) z12.2++List.replicate (List.length z12.2-(Int.toNat z12.1)) (0:Int)++List.drop ((Int.toNat z12.1)+(List.length z12.2-(Int.toNat z12.1))) z12.2)))) (some (List.take (Int.toNat z12.1) (List.drop 0 (List.take (Int.toNat z12.1) z12.2++List.replicate (List.length z12.2-(Int.toNat z12.1)) (0:Int)++List.drop ((Int.toNat z12.1)+(List.length z12.2-(Int.toNat z12.1))) z12.2))))))) ((z:Int),((z:Int)+1),a)=some (û a b):=by
  intro z hz hp hc
  refine ĝ (fun x:Int×Int×List Int=>∃i j:Nat,x.1=i∧x.2.1=j∧i<j∧j≤a.length∧x.2.2.length=a.length∧x.2.2.take i=û (a.take j) b∧x.2.2.drop j=a.drop j) (fun x=>a.length-x.2.1.toNat) ?_
   ⟨z,z+1,rfl,by simp,by omega,by omega,rfl,?_,rfl⟩
  ·rintro⟨x1,x2,s⟩ ⟨i,j,h1,h2,hij,hja,hl,ht,hd⟩;simp only at h1 h2 hl ht hd;subst h1 h2;rcases dg j a.length with hj|hj
   ·refine .inr ?_
    have hsj:s[j]?=some a[j]:=by
     have h3:(s.drop j)[0]?=(a.drop j)[0]?:=by rw[hd]
     rw[dV,dV] at h3;simpa[cF hj] using h3
    have hjs:j<s.length:=by omega
    have hta:û (a.take (j+1)) b=û (a.take j) b++if b.contains a[j] then[] else[a[j]]:=by
     rw[take_succ (cF hj),û,û,eN];congr 1
     cases h:b.contains a[j] with
     |true=>simp only[dT,h,dB,cV,if_false,eG,if_true]
     |false=>simp only[dT,h,fg,cV,if_false,eG,if_true]
    cases h:b.contains a[j] with
    |true =>
     refine⟨(i,(j:Int)+1,s),⟨i,j+1,rfl,by simp,by omega,by omega,hl,?_,?_⟩,by simp; omega,fun kn=>?_⟩
     ·rw[hta,h]; simpa using ht
     ·have:=congrArg (List.drop 1) hd;simpa[fA,hZ] using this
     ·try dsimp only
      unfold kK;rw[Ð hjs,Į hjs,ô hsj,ī hb,À,h];simp only[Bool.not_true,é];rw[Ì hjs (by omega)]
    |false =>
     have his:i<s.length:=by omega
     refine⟨((i:Int)+1,(j:Int)+1,s.set i a[j]),⟨i+1,j+1,by simp,by simp,by omega,by omega,by simpa using hl,?_,?_⟩,by simp; omega,fun kn=>?_⟩
     ·show List.take (i+1) (s.set i a[j])=_;rw[hta,h,List.take_succ,fH,gG (cG i),ht];simp[his]
     ·show List.drop (j+1) (s.set i a[j])=_;rw[gE (by omega)];have:=congrArg (List.drop 1) hd;simpa[fA,hZ] using this
     ·try dsimp only
      unfold kK;rw[Ð hjs,Į hjs,ô hsj,ī hb,À,h];simp only[Bool.not_false,lQ];rw[Į his,ô (List.getElem?_eq_getElem his),Ì his (by omega),Ì hjs (by omega),Int.toNat_natCast]
   ·refine .inl fun kn=>?_
    have hje:j=s.length:=by omega
    try dsimp only
    unfold kK;rw[hje,Þ];dsimp only
    have g1:((ile (0:Int) (i:Int))&&(ile (i:Int) (î s)))=true:=by simp[ile,î]; omega
    rw[ċ g1]
    have g2:((ile (0:Int) (i:Int))&&(ile (i:Int) (î (List.take (Int.toNat (i:Int)) s++List.replicate (List.length s-(Int.toNat (i:Int))) (0:Int)++List.drop ((Int.toNat (i:Int))+(List.length s-(Int.toNat (i:Int)))) s))))=true:=by
     simp[ile,î]; omega
    rw[ċ g2,cT,gO,cQ,fc (by simp; omega),List.take_take,Nat.min_self,ht];rw[dU (by omega)]
  ·show List.take z a=û (a.take (z+1)) b;have hz':a[z]?=some a[z]:=cF hz;rw[take_succ hz',û,eN];rw[hz'] at hc;simp only[f6] at hc
   have:List.filter (fun x=>!b.contains x) [a[z]]=[]:=by simp only[dT,hc,dB,cV,if_false,eG]
   rw[this,dh];exact hp.symm
 refine eA (jr a (fun x=>b.contains x) (fun z4=>ifb (ieq z4 (-1:Int)) (some a) (ck (z4+(1:Int)) fun n5=>Ë (fun(v13:(Val (.pair tI (.pair tI (.slice tI))))) kk17=>kK b v13.1 v13.2.1 v13.2.2 (fun u14 u15 u16=>kk17 (u14,u15,u16)) (fun z12=>ä ((ile (0:Int) z12.1)&&(ile z12.1 (î z12.2))) (ä ((ile (0:Int) z12.1)&&(ile z12.1 (î (List.take (Int.toNat z12.1) z12.2++List.replicate (List.length z12.2-(Int.toNat z12.1)) (0:Int)++List.drop ((Int.toNat z12.1)+(List.length z12.2-(Int.toNat z12.1))) z12.2)))) (some (List.take (Int.toNat z12.1) (List.drop 0 (List.take (Int.toNat z12.1) z12.2++List.replicate (List.length z12.2-(Int.toNat z12.1)) (0:Int)++List.drop ((Int.toNat z12.1)+(List.length z12.2-(Int.toNat z12.1))) z12.2))))))) (z4,n5,a))) (some a) (fun i x hi hx kn=>?_) (fun kn=>?_)) ?_
 ·try dsimp only
  unfold vZ;rw[Ð hi,Į hi,ô hx,ī hb,À,Ì hi (by omega),Ď]
 ·try dsimp only
  unfold vZ;rw[Þ]
 ·cases h:a.findIdx? (fun x=>b.contains x) with
  |none =>
   have:û a b=a:=by
    rw[û,fM];intro x hx;have:=dF.1 h x hx;simpa using this
   rw[this]
  |some z =>
   obtain⟨hz,hc,hlt⟩:=dI.1 h
   have h1:ieq (z:Int) (-1)=false:=by simp[ieq]
   try dsimp only
   rw[Í h1,Ì hz (by omega)];refine second z hz ?_ ?_
   ·rw[û,fM];intro x hx;obtain⟨j,hj,rfl⟩:=cS.1 hx;rw[cZ] at hj;rw[eX];have:=hlt j (by omega);simpa using this
   ·rw[cF hz]; exact hc
def Iy (l:List Int) (i:Nat) (a:Int):Option Bool:=if !inP a 1 1099511627776 then some false else if uZ (fun x=>x) l i a then some false else none
def xE (l:List Int):Bool:=match Ŏ (Iy l) 0 l with|some _=>false|none=>decide (l.length≤6)
def ES {l:List Int} (hn:l.length≤1000000):mY l=some (xE l):=by
 unfold mY GS;refine Eq.trans (mS l (Iy l) some (some (decide (l.length≤6))) (fun i a hi ha kn=>?_) (fun kn=>?_)) ?_
 ·try dsimp only
  unfold pl;rw[Ð hi,È ha,Μ,À];unfold Iy
  cases inP a 1 1099511627776 with
  |false=>rfl
  |true =>
   simp only[dB,é,cV,if_false];rcases gh i with h0|h0
   ·subst h0
    have:igt ((0:Nat):Int) 0=false:=by simp[igt]
    rw[Í this,Ì hi (by omega)];simp[uZ]
   ·obtain⟨q,hq⟩:=UJ hi h0
    have h1:igt (i:Int) 0=true:=by simp[igt]; omega
    rw[Ø h1,afw h0 (by omega),WQ h0 hq];simp only[uZ,h0,decide_true,Bool.true_and,hq,Option.any_some];unfold ile
    cases h2:decide (a≤q) with
    |true=>rfl
    |false =>
     rw[é,Ì hi (by omega)];rfl
 ·try dsimp only
  unfold pl;rw[Þ,Ò];simp[ile];omega
 ·have hb:∀x,Ŏ (Iy l) 0 l=some x→x=false:=by
   have:∀(m:List Int) (j:Nat) (x:Bool),Ŏ (Iy l) j m=some x→x=false:=by
    intro m
    induction m with
    |nil=>intro j x h; cases h
    |cons a m ih =>
     intro j x h;unfold Ŏ at h
     cases hp:Iy l j a with
     |none=>rw[hp] at h; exact ih _ _ h
     |some y =>
      rw[hp] at h;cases h;unfold Iy at hp
      split at hp
      ·cases hp; rfl
      ·split at hp
       ·cases hp; rfl
       ·cases hp
   exact this l 0
  unfold xE
  cases h:Ŏ (Iy l) 0 l with
  |none=>rfl
  |some x=>rw[hb x h]
def Ki (l:List Int):xE l=true↔(∀x∈l,1≤x∧x≤1099511627776)∧l.Pairwise (·<·)∧l.length≤6:=by
 have h0:Ŏ (Iy l) 0 l=none↔(∀x∈l,1≤x∧x≤1099511627776)∧l.Pairwise (·<·):=by
  rw[ju,←JU (fun x=>x) l];constructor
  ·intro h
   have h1:∀(j:Nat) (a:Int),l[j]?=some a→inP a 1 1099511627776=true∧uZ (fun x=>x) l j a=false:=by
    intro j a ha;have:=h j a ha;rw[Nat.zero_add] at this;unfold Iy at this
    split at this
    ·cases this
    ·split at this
     ·cases this
     ·rename_i h1 h2;exact⟨by simpa using h1,by simpa using h2⟩
   refine⟨fun x hx=>?_,fun i a ha=>(h1 i a ha).2⟩;obtain⟨j,hj,rfl⟩:=cS.1 hx;have:=(h1 j l[j] (cF hj)).1;simpa[inP] using this
  ·rintro⟨h1,h2⟩ j a ha;rw[dw];have h3:=h1 a (cO ha)
   have:inP a 1 1099511627776=true:=by simpa[inP] using h3
   simp[Iy,this,h2 j a ha]
 unfold xE
 cases h:Ŏ (Iy l) 0 l with
 |none =>
  obtain⟨h1,h2⟩:=h0.1 h;simp only[decide_eq_true_eq];exact⟨fun h3=>⟨h1,h2,h3⟩,fun h3=>h3.2.2⟩
 |some x =>
  constructor
  ·intro h2; cases h2
  ·rintro⟨h1,h2,h3⟩;rw[h0.2 ⟨h1,h2⟩] at h; cases h
def NJ {a b:List Int} (ha:a.length≤1000000) (hb:b.length≤1000000):Ī [a,b]=some (a++b):=by
 have hk:∀n:Nat,n≤4000000→∀(f:Int→Option (List Int)),ck (n:Int) f=f n:=fun n h f=>Ô (by omega) (by omega) f
 have second:Ë (fun(v9:(Val (.pair tI (.slice tI)))) kk12=>Ģ [a,b] (Û [a,b]) v9.1 v9.2 (fun u10 u11=>kk12 (u10,u11)) (fun z8=>some z8)) ((0:Int),([]:List Int))=some (a++b):=by
  refine ĩ [a,b] (fun i=>([a,b].take i).flatten) (some (a++b)) (f:=fun(v9:(Val (.pair tI (.slice tI)))) kk12=>Ģ [a,b] (Û [a,b]) v9.1 v9.2 (fun u10 u11=>kk12 (u10,u11)) (fun z8=>some z8)) rfl (fun i x hi hx kn=>?_) (fun kn=>?_)
  ·try dsimp only
   unfold Ģ;rw[Ð hi,È hx,Ì hi (by simp),take_succ hx,List.flatten_append]
   have:ê ((List.take i [a,b]).flatten.length+x.length)=true:=by
    refine Õ ?_
    have h1:x.length≤1000000:=by
     have:=cO hx;simp at this
     rcases this with rfl|rfl<;>assumption
    have h2:(List.take i [a,b]).flatten.length≤2000000:=by
     have:i=0∨i=1:=by simp at hi; omega
     rcases this with rfl|rfl<;>simp<;>omega
    omega
   rw[ċ this];simp
  ·try dsimp only
   unfold Ģ;rw[Þ];simp
 unfold Ī lJ;refine ĝ (fun x:Int×Int=>∃i:Nat,i≤2∧x=((([a,b].take i).flatten.length:Int),(i:Int))) (fun x=>2-x.2.toNat) ?_ ⟨0,by omega,rfl⟩;rintro x ⟨i,hi,rfl⟩;rcases Nat.lt_or_ge i 2 with h2|h2
 ·refine .inr ⟨((([a,b].take (i+1)).flatten.length:Int),(i:Int)+1),⟨i+1,h2,by simp⟩,by simp; omega,fun kn=>?_⟩;have hi':i<[a,b].length:=h2;obtain⟨x,hx⟩:∃x,[a,b][i]?=some x:=⟨_,cF hi'⟩
  have hxl:x.length≤1000000:=by
   have:=cO hx;simp at this
   rcases this with rfl|rfl<;>assumption
  have h3:(List.take i [a,b]).flatten.length≤2000000:=by
   have:i=0∨i=1:=by omega
   rcases this with rfl|rfl<;>simp<;>omega
  try dsimp only
  unfold Ρ;rw[Ð hi',È hx,Ò]
  have e1:(((List.take i [a,b]).flatten.length:Int)+(x.length:Int))=((List.take i [a,b]).flatten.length+x.length:Nat):=by omega
  rw[e1,hk _ (by omega)]
  have:ilt ((((List.take i [a,b]).flatten.length+x.length:Nat)):Int) 0=false:=by simp[ilt]; omega
  rw[Í this,Ì hi' (by simp),take_succ hx];simp
 ·refine .inl fun kn=>?_
  obtain rfl:i=2:=by omega
  try dsimp only
  unfold Ρ;rw[show((2:Nat):Int)=(([a,b].length:Nat):Int) from rfl,Þ]
  have e1:((List.take 2 [a,b]).flatten.length:Int)=((a.length+b.length:Nat):Int):=by simp
  have e2:ilt (((a.length+b.length:Nat)):Int) 0=false:=by simp[ilt]; omega
  rw[e1];dsimp only;rw[Í e2,Int.sub_zero,hk _ (by omega)];rcases Nat.eq_zero_or_pos (a.length+b.length) with h0|h0
  ·have:igt (((a.length+b.length:Nat)):Int) 0=false:=by simp[igt]; omega
   rw[Í this];exact second
  ·have:igt (((a.length+b.length:Nat)):Int) 0=true:=by simp[igt]; omega
   rw[Ø this]
   have:((ilt (0:Int) (((a.length+b.length:Nat)):Int))&&(ê (Int.toNat (((a.length+b.length:Nat)):Int))))=true:=by
    rw[cT,Õ (by omega)];simp[ilt]; omega
   rw[ċ this]
   have:ile 0 (î (List.replicate (Int.toNat (((a.length+b.length:Nat)):Int)) (0:Int)))=true:=by simp[ile]
   rw[ċ this];exact second
def mb (b:ë) (id day:Int):Option NH:=b.2.2.2.1.find? fun l=>l.1==id&&inP day l.2.1.1 l.2.1.2
def Tx {α:Type} (p:α→Bool):∀l:List α,l.find? p=(match l.findIdx? p with|some j=>l[j]?|none=>none)
 |[]=>rfl
 |a::l=>by
  rw[fF,List.findIdx?_cons]
  cases h:p a with
  |true=>simp
  |false =>
   simp only[cV,if_false];rw[Tx p l]
   cases l.findIdx? p<;>simp
def af2 {b:ë} (hn:b.2.2.2.1.length≤1000) (id day:Int):wz b id day=some (match mb b id day with|some l=>(l,true)|none=>((0,(0,0),0),false)):=by
 unfold wz SW;refine Eq.trans (jr b.2.2.2.1 (fun l=>l.1==id&&inP day l.2.1.1 l.2.1.2) (fun z5=>ifb (ilt z5 (0:Int)) (some (((0:Int),((0:Int),(0:Int)),(0:Int)),false)) (ě b.2.2.2.1 z5 fun e6=>some (e6,true))) (some ((0,(0,0),0),false)) (fun i a hi ha kn=>?_) (fun kn=>?_)) ?_
 ·try dsimp only
  unfold wi;rw[Ð hi,È ha,Μ,À,Ì hi (by omega)]
  cases h1:(a.1==id) with
  |false =>
   have:ieq a.1 id=false:=h1;simp[this]
  |true =>
   have:ieq a.1 id=true:=h1;rw[this]
   cases inP day a.2.1.1 a.2.1.2<;>simp
 ·try dsimp only
  unfold wi;rw[Þ]
 ·unfold mb;rw[Tx]
  cases h:b.2.2.2.1.findIdx? (fun l=>l.1==id&&inP day l.2.1.1 l.2.1.2) with
  |none=>rfl
  |some j =>
   obtain⟨hj,_,_⟩:=dI.1 h
   have:ilt (j:Int) 0=false:=by simp[ilt]
   try dsimp only
   rw[Í this,È (cF hj),cF hj]
section
variable {ρ:Type}
def ac7 {α:Type} {all l:List α} (k:Option ρ) (h:l <+: all):yg all l k=k:=by unfold yg; rw[if_pos h]
def Tu {α β:Type} {f:List α→β→(List α→Option ρ)→Option ρ} {g:β→List α} {al:List α}:∀{xs:List β} {v:List α} {K:List α→Option ρ},
 (∀v y kn,y∈xs→(v++g y) <+: al→f v y kn=kn (v++g y))→(v++xs.flatMap g) <+: al→yV f xs v K=K (v++xs.flatMap g)
 |[],v,K,_,_=>by simp[yV]
 |x::xs,v,K,h,hp=>by
  rw[dz,←cQ] at hp ⊢;rw[yV,h v x _ (by simp) ((dN _ _).trans hp),Tu (fun v y kn hy=>h v y kn (du _ hy)) hp]
end
def adf {rec:List Int→Option (List Int)} {l xs:List Int} (h:zJ l=some xs):jU xs rec l some=some (xs,l):=by
 unfold zJ at h
 have hk:ê l.length=true:=by cases e:ê l.length with|true=>rfl|false=>rw[e] at h; cases h
 rw[ċ hk] at h;cases h
 have hk2:l.length≤4294967296:=by simpa[ê] using hk
 unfold jU
 refine ĩ l (fun i=>l.take i) _ rfl (fun i a hi ha kn=>?_) (fun kn=>?_)<;>(try dsimp only)<;>unfold iI
 ·rw[Ð hi,È ha,←take_succ ha,ac7 _ (List.take_prefix _ _),Ô (by omega) (by omega)]
 ·rw[Þ,fP]
def ZV:∀(n:Nat) {l y:List Int},l.length=n→y∈F8 n l→y.length=n
 |0,l,y,_,h=>by simp[F8] at h; simp[h]
 |n+1,l,y,hl,h=>by
  have hne:¬l.length=0:=by omega
  simp only[F8,if_neg hne,dk,fO,df] at h;obtain⟨i,hi,z,hz,rfl⟩:=h;have:=ZV n (l:=l.take i++l.drop (i+1)) (by simp; omega) hz;simp[this]
def T8:∀{l:List (Int×List Int)} {y:List (List Int)},y∈jc l→y.length=l.length
 |[],y,h=>by simp[jc] at h; simp[h]
 |m::r,y,h=>by
  simp only[jc,dk,df] at h;obtain⟨x,_,z,hz,rfl⟩:=h;simp[T8 hz]
def ai5 {α:Type} {n i:Nat} (h:i<n) (g:Nat→List α):((List.range i).flatMap g++g i) <+: (List.range n).flatMap g:=by
 have:List.range n=List.range i++i::(List.range (n-i-1)).map (i+1+·):=by
  rw[show n=(i+1)+(n-i-1) by omega,List.range_add,fT,cQ];simp[show i+1+(n-i-1)-i-1=n-i-1 by omega]
 rw[this,fN,dz,←cQ];exact dN _ _
def XF (n:Nat) (l:List Int):Option (List (List Int)):=ä (decide (l.length<n)&&decide (l.length≤9)) (some (F8 l.length l))
def adN {n:Nat} {l:List Int} (h:l.length<n) (h9:l.length≤9):XF n l=some (F8 l.length l):=by unfold XF; rw[ċ (by simp[h,h9])]
def aaj {n:Nat} {l:List Int} {xs:List (List Int)} (h:XF n l=some xs):l.length<n∧l.length≤9∧xs=F8 l.length l:=by
 unfold XF at h
 cases hb:(decide (l.length<n)&&decide (l.length≤9)) with
 |false=>rw[hb] at h; cases h
 |true =>
  rw[hb] at h; cases h;simp only[cH,decide_eq_true_eq] at hb;exact⟨hb.1,hb.2,rfl⟩
def ad1 {n:Nat} {l:List Int} {xs:List (List Int)} (h:XF (n+1) l=some xs):xY xs (XF n) l some=some (xs,l):=by
 obtain⟨h1,h2,rfl⟩:=aaj h;unfold xY
 by_cases h0:l.length=0
 ·obtain rfl:l=[]:=List.eq_nil_of_length_eq_zero h0;rw[show ifb (ieq (Û ([]:List Int)) (0:Int))=fun(x y:Option (List (List Int)×List Int))=>x from by funext x y; simp[Ò,ieq,Ď]];exact ac7 _ (by simp[F8])
 ·obtain⟨k,hk⟩:∃k,l.length=k+1:=⟨l.length-1,by omega⟩
  have hF:F8 l.length l=(List.range l.length).flatMap fun i=>(F8 k (l.take i++l.drop (i+1))).map (l.getD i 0::·):=by
   rw[hk];show(if l.length=0 then[[]] else _)=_;rw[if_neg h0,hk]
  have hne:ieq (Û l) (0:Int)=false:=by rw[Ò]; exact decide_eq_false (by omega)
  rw[Í hne];rw[hF]
  refine ĩ l (fun i=>(List.range i).flatMap fun i=>(F8 k (l.take i++l.drop (i+1))).map (l.getD i 0::·)) _ rfl (fun i a hi ha kn=>?_) (fun kn=>?_)<;>(try dsimp only)<;>unfold pY
  ·have hr:(l.take i++l.drop (i+1)).length=k:=by simp; omega
   rw[Ð hi,È ha,ċ (by simp[ile,î]; omega),Ô (by omega) (by omega),ċ (by simp[ile,î]; omega),cT,show Int.toNat ((i:Int)+1)=i+1 by omega,
    NJ (by simp; omega) (by simp; omega),À,adN (by omega) (by omega),À,hr]
   have hga:l.getD i 0=a:=by rw[d9,ha]; rfl
   have hm:∀xs:List (List Int),xs.map (l.getD i 0::·)=xs.flatMap fun y=>[a::y]:=fun xs=>by
    rw[hga]; induction xs with|nil=>rfl|cons x xs ih=>simp[ih]
   have hp:=ai5 hi fun i=>(F8 k (l.take i++l.drop (i+1))).map (l.getD i 0::·)
   have hs:(List.range (i+1)).flatMap (fun i=>(F8 k (l.take i++l.drop (i+1))).map (l.getD i 0::·))=(List.range i).flatMap (fun i=>(F8 k (l.take i++l.drop (i+1))).map (l.getD i 0::·))++(F8 k (l.take i++l.drop (i+1))).flatMap fun y=>[a::y]:=by
    rw[fT,fN,dz,List.flatMap_nil,dh,hm]
   rw[hs];rw[hm] at hp;refine(Tu (g:=fun y=>[a::y]) (fun v y kn hy hv=>?_) hp).trans ?_
   ·unfold pX;have:=ZV k hr hy;rw[ċ (Õ (by simp; omega))];exact ac7 _ hv
   ·dsimp only;rw[Ô (by omega) (by omega)]
  ·rw[Þ]
def XG (n:Nat) (l:List (Int×List Int)):Option (List (List (List Int))):=ä (decide (l.length<n)&&(decide (l.length≤9)&&l.all fun m=>decide (m.2.length≤9))) (some (jc l))
def aak {n:Nat} {l:List (Int×List Int)} {xs:List (List (List Int))} (h:XG n l=some xs):l.length<n∧l.length≤9∧(∀m∈l,m.2.length≤9)∧xs=jc l:=by
 unfold XG at h
 cases hb:(decide (l.length<n)&&(decide (l.length≤9)&&l.all fun m=>decide (m.2.length≤9))) with
 |false=>rw[hb] at h; cases h
 |true =>
  rw[hb] at h; cases h;simp only[cH,decide_eq_true_eq,di] at hb;exact⟨hb.1,hb.2.1,hb.2.2,rfl⟩
def adO {n:Nat} {l:List (Int×List Int)} (h:l.length<n) (h9:l.length≤9) (ha:∀m∈l,m.2.length≤9):XG n l=some (jc l):=by
 unfold XG; rw[ċ (by simp only[Bool.and_eq_true,decide_eq_true_eq,List.all_eq_true]; exact⟨h,h9,ha⟩)]
def Zw {n:Nat} {l:List (Int×List Int)} {xs:List (List (List Int))} (h:XG (n+1) l=some xs):sO xs (XG n) l some=some (xs,l):=by
 obtain⟨h1,h2,h3,rfl⟩:=aak h;unfold sO
 cases l with
 |nil =>
  rw[show ifb (ieq (Û ([]:List (Int×List Int))) (0:Int))=fun(x y:Option (List (List (List Int))×List (Int×List Int)))=>x from by funext x y; simp[Ò,ieq,Ď]];exact ac7 _ (by simp[jc])
 |cons e r =>
  have hne:ieq (Û (e::r)) (0:Int)=false:=by rw[Ò]; exact decide_eq_false (by simp only[cW]; omega)
  rw[Í hne];have he:=h3 e (by simp);rw[show ě (e::r) (0:Int)=fun f=>f e from by funext f; rfl];dsimp only;rw[show zK e.2=some (F8 e.2.length e.2) from by unfold zK; rw[ċ (by simp[he])],À];have hF:jc (e::r)=(F8 e.2.length e.2).flatMap fun x=>(jc r).map (x::·):=rfl
  have hm:∀(x:List Int),(jc r).map (x::·)=(jc r).flatMap fun y=>[x::y]:=fun x=>by
   generalize jc r=ys
   induction ys with|nil=>rfl|cons y ys ih=>simp[ih]
  refine(Tu (g:=fun x=>(jc r).map (x::·)) (al:=jc (e::r)) (fun v x kn hx hv=>?_) (by rw[dS,←hF]; exact dK)).trans ?_
  ·unfold mJ;simp only[List.length_cons] at h1 h2;rw[ċ (by simp[ile,î]; omega),show List.drop 1 (e::r)=r from rfl,adO (by omega) (by omega) (fun m hm=>h3 m (by simp[hm])),À];rw[hm] at hv ⊢;refine Tu (g:=fun y=>[x::y]) (fun v y kn hy hv=>?_) hv;unfold mI;have:=T8 hy;rw[ċ (Õ (by simp; omega))];exact ac7 _ hv
  ·rw[dS,←hF]
def abY {l:List Int} {xs:List (List Int)} (h:zK l=some xs):XF 10 l=some xs:=by
 unfold zK at h
 cases hb:decide (l.length≤9) with
 |false=>rw[hb] at h; cases h
 |true =>
  rw[hb] at h; cases h;have:=of_decide_eq_true hb;exact adN (by omega) this
def Xa {l:List (Int×List Int)} {xs:List (List (List Int))} (h:mU l=some xs):XG 10 l=some xs:=by
 unfold mU at h
 cases hb:(decide (l.length≤9)&&l.all fun m=>decide (m.2.length≤9)) with
 |false=>rw[hb] at h; cases h
 |true =>
  rw[hb] at h; cases h;simp only[cH,decide_eq_true_eq,di] at hb;exact adO (by omega) hb.1 hb.2
end Go.Proofs.ZzM
end
