/- lemmas -/
import Derived.Test.YtiochmbenflhhaaGreatAmG
import Derived.Test.YtiochmbenflhhaaGreatMdTA
set_option linter.all false
set_option linter.unusedSectionVars false
set_option linter.unusedVariables false
set_option linter.unusedSimpArgs false
noncomputable section
namespace Go.Am
section
variable {ρ:Type}
def Ħ {α β:Type} (e:Nat→α→Option β):Nat→List α→Option β
 |_,[]=>none
 |i,a::t=>match e i a with
  |some b=>some b
  |none=>Ħ e (i+1) t
def j9 {α β:Type} (l:List α) (e:Nat→α→Option β) (k0:β→Option ρ) (k1:Option ρ) {f:Int→(Int→Option ρ)→Option ρ}
 (h:∀(i:Nat) (a:α),i<l.length→l[i]?=some a→∀kn,f i kn=match e i a with|some b=>k0 b|none=>kn ((i:Int)+1))
 (hn:∀kn,f l.length kn=k1):É f 0=match Ħ e 0 l with|some b=>k0 b|none=>k1:=by
 refine amM l (fun i t=>match Ħ e i t with|some b=>k0 b|none=>k1) hn fun i a t hd hi ha kn hk=>?_;rw[h i a hi ha kn,hk,Ħ]
 cases e i a<;>rfl
def ë {α σ:Type} (l:List α) (g:Nat→σ) (r:Option ρ) {f:Int×σ→(Int×σ→Option ρ)→Option ρ} {s0:σ} (h0:g 0=s0)
 (h:∀(i:Nat) (a:α),i<l.length→l[i]?=some a→∀kn,f (i,g i) kn=kn ((i:Int)+1,g (i+1)))
 (hn:∀kn,f (l.length,g l.length) kn=r):É f (0,s0)=r:=by
 subst h0
 have hs:∀s,(s=g 0)→É f (0,s)=r:=fun s e=>IU l (fun _ _ _=>r) (fun i s=>s=g i) (fun s hs kn=>by rw[hs]; exact hn kn) (fun i a t s hd hi ha hI kn hk=>by
  rw[hI,h i a hi ha kn]; exact hk _ rfl) e
 exact hs _ rfl
def amL {α σ:Type} (l:List α) (g:Nat→σ) (r:Option ρ) {f:Int×σ→(Int×σ→Option ρ)→Option ρ} {s0:σ} (P:Nat→Prop) (h0:g 0=s0) (hP:P 0)
 (h:∀(i:Nat) (a:α),i<l.length→l[i]?=some a→P i→∀kn,f (i,g i) kn=r∨(P (i+1)∧f (i,g i) kn=kn ((i:Int)+1,g (i+1))))
 (hn:P l.length→∀kn,f (l.length,g l.length) kn=r):É f (0,s0)=r:=by
 subst h0
 have hs:∀s,(s=g 0∧P 0)→É f (0,s)=r:=fun s e=>IU l (fun _ _ _=>r) (fun i s=>s=g i∧P i) (fun s hs kn=>by rw[hs.1]; exact hn hs.2 kn) (fun i a t s hd hi ha hI kn hk=>by
  rcases h i a hi ha hI.2 kn with h1|⟨h1,h2⟩
  ·rw[hI.1,h1]
  ·rw[hI.1,h2]; exact hk _ ⟨rfl,h1⟩) e
 exact hs _ ⟨rfl,hP⟩
def Ê {i n:Nat} (h:i<n) (hn:n≤1000000000) (f:Int→Option ρ):ck ((i:Int)+1) f=f ((i:Int)+1):=Ò (by omega) (by omega) f
def ifb_lt {i n:Nat} (h:i<n) (x y:Option ρ):ifb (ilt (i:Int) (alr n)) x y=x:=by simp[ĥ,PM,h]
def Ü (n:Nat) (x y:Option ρ):ifb (ilt (n:Int) (alr n)) x y=y:=by simp[ĥ,PM]
def Ñ {α:Type} {l:List α} {i:Nat} (h:i<l.length) (x y:Option ρ):ifb (ilt (i:Int) (Ó l)) x y=x:=ifb_lt h x y
def SK {α:Type} (p:α→Bool):∀(i:Nat) (l:List α),Ħ (fun i a=>bif p a then some (i:Int) else none) i l=(l.findIdx? p).map fun j=>((i+j:Nat):Int)
 |_,[]=>rfl
 |i,a::t=>by
  simp only[Ħ,List.findIdx?_cons]
  cases hp:p a with
  |true=>simp
  |false =>
   simp only[cond_false,dw,if_false];rw[SK p (i+1) t]
   cases t.findIdx? p with
   |none=>rfl
   |some j=>simp only[d9]; congr 1; omega
def jf {α β:Type} {e:Nat→α→Option β}:∀{i:Nat} {l:List α},Ħ e i l=none↔∀j a,l[j]?=some a→e (i+j) a=none
 |_,[]=>by simp[Ħ]
 |i,a::t=>by
  simp only[Ħ];constructor
  ·intro h j b hb
   cases he:e i a with
   |some c=>rw[he] at h; cases h
   |none =>
    rw[he] at h
    cases j with
    |zero=>simp at hb; subst hb; simpa using he
    |succ j=>have:=(jf.1 h) j b (by simpa using hb); rw[←this]; congr 1; omega
  ·intro h;have h0:=h 0 a (by simp);simp only[fT] at h0;rw[h0]
   exact jf.2 fun j b hb=>by have:=h (j+1) b (by simpa using hb); rw[←this]; congr 1; omega
def take_succ {α:Type} {l:List α} {i:Nat} {a:α} (h:l[i]?=some a):l.take (i+1)=l.take i++[a]:=by rw[List.take_succ,h]; rfl
end
end Go.Am
end

noncomputable section
namespace Go.Proofs.ZzM
open Go Go.Am
section
variable {ρ:Type}
def Ĭ {τ:Type} {f:τ→(τ→Option ρ)→Option ρ} {r:Option ρ} (I:τ→Prop) (μ:τ→Nat)
 (h:∀x,I x→(∀kn,f x kn=r)∨∃y,I y∧μ y<μ x∧∀kn,f x kn=kn y) {x:τ} (hx:I x):É f x=r :=
 vx (F:=fun _=>r) I μ (fun x hx kn hk=>by
  rcases h x hx with h1|⟨y,h1,h2,h3⟩
  ·exact h1 kn
  ·rw[h3,hk y h1 h2]) hx
def iK {α:Type} (l:List α) (p:α→Bool) (k0:Int→Option ρ) (k1:Option ρ) {f:Int→(Int→Option ρ)→Option ρ}
 (h:∀(i:Nat) (a:α),i<l.length→l[i]?=some a→∀kn,f i kn=if p a then k0 i else kn ((i:Int)+1))
 (hn:∀kn,f l.length kn=k1):É f 0=match l.findIdx? p with|some j=>k0 j|none=>k1:=by
 rw[j9 l (fun i a=>bif p a then some (i:Int) else none) k0 k1 (fun i a hi ha kn=>by rw[h i a hi ha kn]; cases p a<;>rfl) hn,SK]
 cases l.findIdx? p with
 |none=>rfl
 |some j=>simp
def Ĺ {α:Type} (l:List α) (p:α→Bool) (k0:Int→Option ρ) (K k1:Option ρ) {f:Int→(Int→Option ρ)→Option ρ} (hK:∀j:Nat,k0 j=K)
 (h:∀(i:Nat) (a:α),i<l.length→l[i]?=some a→∀kn,f i kn=if p a then k0 i else kn ((i:Int)+1))
 (hn:∀kn,f l.length kn=k1):É f 0=if l.any p then K else k1:=by
 rw[iK l p k0 k1 h hn]
 cases hf:l.findIdx? p with
 |none =>
  have:l.any p=false:=by
   rw[fo];intro x hx;have:=eZ.1 hf x hx;simp[this]
  simp[this]
 |some j =>
  have:l.any p=true:=by
   have:=dV.1 hf;obtain⟨hj,hp,_⟩:=this;exact fD.2 ⟨_,eh hj,hp⟩
  simp[this,hK]
end
abbrev ì:Type:=Int×Int×Int×(Int×Int)×((Int×Int)×Int)
abbrev M9:Type:=Int×((Int×Int)×Int)
abbrev Cmp:Type:=Int×Int×List Int×List Int×Int×(Int×(Int×Int))
abbrev ß:Type:=(Int×Int)×List ì×List (Int×Int)×List M9×List Cmp×List (Int×Int)
abbrev Sys:Type:=Int×List (Int×Int×Int)
abbrev Maker:Type:=ß×List (Int×Int)×Sys×List (Int×Int)
section
variable {ρ:Type}
def Õ {b:Bool} (h:b=true) (x y:Option ρ):ifb b x y=x:=by rw[h]; rfl
def Ð {b:Bool} (h:b=false) (x y:Option ρ):ifb b x y=y:=by rw[h]; rfl
end
def I64 (n:Int):Prop:=-9223372036854775808≤n∧n≤9223372036854775807
def inP (n lo hi:Int):Bool:=decide (lo≤n)&&decide (n≤hi)
def uh (n:Int):Bool:=inP n 0 20000
def ku (s:Int×Int) (lo hi:Int):Bool:=decide (lo≤s.1)&&(decide (s.1≤s.2)&&decide (s.2≤hi))
def iG (n lo hi:Int):Ġ n lo hi=some (inP n lo hi):=by
 unfold Ġ Lc inP ile
 cases decide (lo≤n)<;>rfl
def aaV (n:Int):oE n=some (uh n):=by
 unfold oE Sd;rw[iG]; rfl
def IX (s:Int×Int) (lo hi:Int):ε s lo hi=some (ku s lo hi):=by
 unfold ε Ll ku ile
 cases decide (lo≤s.1)<;>cases decide (s.1≤s.2)<;>rfl
def XS {n:Int} (h:I64 n):tj n=some (n.natAbs:Int):=by
 obtain⟨h1,h2⟩:=h;unfold tj aab
 by_cases hn:n<0
 ·have:ilt n 0=true:=by simpa using hn
  rw[Õ this];congr 1;simp only[IntKind.wrap,IntKind.bits,IntKind.signed];simp;omega
 ·have:ilt n 0=false:=by simpa using hn
  rw[Ð this];congr 1;simp only[IntKind.wrap,IntKind.bits,IntKind.signed];simp;omega
def aq4 (a b:Nat):SP a b=some ((Nat.gcd a b:Nat):Int):=by
 unfold SP ag7;refine Ĭ (fun x:Int×Int=>∃c d:Nat,x=((c:Int),(d:Int))∧Nat.gcd c d=Nat.gcd a b) (fun x=>x.2.toNat) ?_ ⟨a,b,rfl,rfl⟩;rintro x ⟨c,d,rfl,hg⟩
 cases d with
 |zero =>
  refine .inl fun kn=>?_;rw[Nat.gcd_zero_right] at hg;unfold BO;simp[hg,ine]
 |succ d =>
  refine .inr ⟨(((d+1:Nat):Int),((c % (d+1):Nat):Int)),⟨d+1,c % (d+1),rfl,?_⟩,?_,fun kn=>?_⟩
  ·rw[←hg,il c (d+1),Nat.gcd_rec (d+1) c,il]
  ·have:=gU c (gS d);simp only[dE];omega
  ·unfold BO
   have h1:ine ((d+1:Nat):Int) 0=true:=by simp[ine]; omega
   have h2:Ě ((d+1:Nat):Int) 0=false:=by simp[Ě]; omega
   simp only[h1,Õ Ð h2];congr 1
def Mh (r:Int×Int):Bool :=
 decide (1≤r.2)&&(decide (r.2≤2147483647)&&(decide ((r.1.natAbs:Int)≤2147483647)&&decide (Nat.gcd r.1.natAbs r.2.natAbs=1)))
def abB {r:Int×Int} (h:I64 r.1):vP r=some (Mh r):=by
 unfold vP RH Mh
 by_cases h1:1≤r.2
 ·by_cases h2:r.2≤2147483647
  ·have h3:I64 r.2:=⟨by omega,by omega⟩
   have e1:ige r.2 1=true:=by simp[ige,h1]
   have e2:ile r.2 2147483647=true:=by simp[ile,h2]
   rw[Õ e1,Õ e2,XS h,À]
   by_cases h4:(r.1.natAbs:Int)≤2147483647
   ·have e4:ile (r.1.natAbs:Int) 2147483647=true:=by simp[ile,h4]
    rw[Õ e4,À,XS h3,À,aq4,À];congr 1;rw[dX];simp only[ieq,beq_iff_eq,h1,h2,h4,decide_true,dW,decide_eq_true_eq];omega
   ·have e4:ile (r.1.natAbs:Int) 2147483647=false:=by simp[ile]; omega
    rw[Ð e4];simp[h4]
  ·have e1:ige r.2 1=true:=by simp[ige,h1]
   have e2:ile r.2 2147483647=false:=by simp[ile]; omega
   rw[Õ e1,Ð e2];simp[h2]
 ·have e1:ige r.2 1=false:=by simp[ige]; omega
  rw[Ð e1];simp[h1]
def rl (g:ì):Bool :=
 Mh g.2.2.2.2.1&&inP g.2.2.2.2.1.1 (-1000) 1000&&decide (g.2.2.2.2.1.2≤100)&&inP g.1 1 1099511627776&&uh g.2.1&&inP g.2.2.1 1 1125899906842624&&ku g.2.2.2.1 (-1073741824) 1073741824&&inP g.2.2.2.2.2 0 1048576
def akx {g:ì} (h:I64 g.2.2.2.2.1.1):xD g=some (rl g):=by
 unfold xD FJ rl;rw[abB h,iG,iG,aaV,iG,IX,iG];generalize Mh g.2.2.2.2.1=x1;generalize inP g.2.2.2.2.1.1 (-1000) 1000=x2;generalize inP g.1 1 1099511627776=x3;generalize uh g.2.1=x4;generalize inP g.2.2.1 1 1125899906842624=x5;generalize ku g.2.2.2.1 (-1073741824) 1073741824=x6;generalize inP g.2.2.2.2.2 0 1048576=x7;unfold ile;generalize decide (g.2.2.2.2.1.2≤100)=x8
 cases x1<;>cases x2<;>cases x3<;>cases x4<;>cases x5<;>cases x6<;>cases x8<;>rfl
section
variable {ρ:Type}
def A6 {α:Type} {l:List α} {i:Nat} {a:α} (h0:0<i) (h:l[i-1]?=some a) (f:α→Option ρ):ê l ((i:Int)-1) f=f a:=by
 have:((i:Int)-1)=((i-1:Nat):Int):=by omega
 rw[this,Ç h]
def LU {i:Nat} (h:0<i) (hn:i≤1000000000) (f:Int→Option ρ):ck ((i:Int)-1) f=f ((i:Int)-1):=Ò (by omega) (by omega) f
def iN {i n:Nat} (h:i<n) (x:Option ρ):Þ ((ile 0 (i:Int))&&(ilt (i:Int) (n:Int))) x=x:=by
 have:((ile 0 (i:Int))&&(ilt (i:Int) (n:Int)))=true:=by simp[ile,ilt,h]
 rw[this,Am.iff_true]
def ĭ {α:Type} {l:List α} {i:Nat} {a:α} (h:l[i]?=some a) (f:α→Option ρ):Ď l (Int.toNat (i:Int)) f=f a:=by
 rw[dE]; exact pq h f
end
def Br {α:Type} (key:α→Int) (l:List α) (i:Nat) (a:α):Bool :=
 decide (0<i)&&(l[i-1]?).any fun q=>decide (key a≤key q)
def yU {α:Type} {l:List α} {i:Nat} (hi:i<l.length) (h0:0<i):∃q,l[i-1]?=some q :=
 ⟨l[i-1],df (by omega)⟩
def abu {α:Type} (key:α→Int) (l:List α):(∀i a,l[i]?=some a→Br key l i a=false)↔l.Pairwise (fun a b=>key a<key b):=by
 rw[dS];constructor
 ·intro h
  have step:∀i (h1:i+1<l.length),key l[i]<key l[i+1]:=by
   intro i h1;have:=h (i+1) l[i+1] (df h1);simp only[Br,Nat.add_sub_cancel,gS,decide_true,dW,df (show i<l.length by omega),Option.any_some,decide_eq_false_iff_not] at this;omega
  intro i j hi hj hij
  induction j with
  |zero=>omega
  |succ j ih =>
   have:=step j hj;rcases dG i j with hlt|hge
   ·have:=ih (by omega) hlt; omega
   ·have:i=j:=by omega
    subst this; assumption
 ·intro h i a ha;obtain⟨hi,rfl⟩:=List.getElem?_eq_some_iff.1 ha;unfold Br
  cases i with
  |zero=>rfl
  |succ i =>
   have:=h i (i+1) (by omega) hi (by omega);simp only[Nat.add_sub_cancel,gS,decide_true,dW,df (show i<l.length by omega),Option.any_some,decide_eq_false_iff_not];omega
def pk (l:List ì) (i:Nat) (g:ì):Option Int :=
 if !rl g then some 1 else if Br (fun g=>g.1) l i g then some 6 else none
def jR (b:ß):Int:=(Ħ (pk b.2.1) 0 b.2.1).getD 0
def VM {b:ß} (hr:∀g∈b.2.1,I64 g.2.2.2.2.1.1) (hn:b.2.1.length≤1000):Ζ b=some (jR b):=by
 unfold Ζ rh;refine Eq.trans (j9 b.2.1 (pk b.2.1) some (some 0) (fun i a hi ha kn=>?_) (fun kn=>?_)) ?_
 ·try dsimp only
  unfold jH;rw[Ñ hi,Ç ha,akx (hr a (List.mem_of_getElem? ha)),À];unfold pk
  cases hg:rl a with
  |false=>simp
  |true =>
   simp only[dT,Ý,dw,if_false];rcases fE i with h0|h0
   ·subst h0
    have:igt ((0:Nat):Int) 0=false:=by simp[igt]
    rw[Ð this,Ê hi (by omega)];simp[Br]
   ·obtain⟨q,hq⟩:=yU hi h0
    have h1:igt (i:Int) 0=true:=by simp[igt]; omega
    rw[Õ h1,LU h0 (by omega),A6 h0 hq];simp only[Br,h0,decide_true,Bool.true_and,hq,Option.any_some];unfold ile
    cases h2:decide (a.1≤q.1) with
    |true=>simp
    |false =>
     rw[Ý,Ê hi (by omega)];simp
 ·try dsimp only
  unfold jH;rw[Ü]
 ·unfold jR
  cases Ħ (pk b.2.1) 0 b.2.1<;>rfl
def ab5 (l:List ì):List (Int×ì):=l.foldl (fun m g=>OO (k:=tI) (v:=Ï) g.1 g m) []
def iX (b:ß):List (Int×ì):=ab5 b.2.1
def V3 {b:ß} (hn:b.2.1.length≤1000):iu b=some (iX b):=by
 unfold iu FG;refine ë b.2.1 (fun i=>ab5 (b.2.1.take i)) _ rfl (fun i a hi ha kn=>?_) (fun kn=>?_)
 ·try dsimp only
  unfold nP;rw[Ñ hi,Ç ha,Ê hi (by omega),take_succ ha];simp only[ab5,List.foldl_append,List.foldl_cons,List.foldl_nil]
 ·try dsimp only
  unfold nP;rw[Ü,List.take_length];rfl
def acR (x y:Int) (g:ì):∀m:List (Int×ì),uF (k:=tI) (v:=Ï) x (OO (k:=tI) (v:=Ï) y g m)=if x=y then some g else uF (k:=tI) (v:=Ï) x m
 |[]=>by
  unfold OO uF lm uF
  by_cases h:x=y<;>simp[h]
 |e::m=>by
  unfold OO
  by_cases h:y=e.1
  ·have:lm tI y e.1=true:=by simp[lm,h]
   rw[this]
   try dsimp only
   unfold uF lm
   by_cases h2:x=y
   ·simp[h2]
   ·have:¬x=e.1:=fun h3=>h2 (h3.trans h.symm);simp[h2,this]
  ·have:lm tI y e.1=false:=by simp[lm,h]
   rw[this]
   try dsimp only
   have ih:=acR x y g m;unfold uF
   by_cases h2:x=e.1
   ·have:lm tI x e.1=true:=by simp[lm,h2]
    rw[this];have:¬x=y:=fun h3=>h (h3.symm.trans h2);simp[this]
   ·have:lm tI x e.1=false:=by simp[lm,h2]
    rw[this];exact ih
def ŷ (b:ß) (id:Int):Option ì:=b.2.1.find? fun g=>g.1==id
def agv (x:Int) (l:List ì):uF (k:=tI) (v:=Ï) x (ab5 l)=l.reverse.find? fun g=>g.1==x:=by
 unfold ab5;rw[←List.foldr_reverse]
 induction l.reverse with
 |nil=>rfl
 |cons g t ih =>
  rw[List.foldr_cons,acR,ih,gP]
  by_cases h:x=g.1
  ·simp[h]
  ·have:(g.1==x)=false:=by simp; exact fun h2=>h h2.symm
   simp[h,this]
def afd {l:List ì} (h:l.Pairwise fun a b=>a.1<b.1) (x:Int):l.reverse.find? (fun g=>g.1==x)=l.find? fun g=>g.1==x:=by
 induction l with
 |nil=>rfl
 |cons g t ih =>
  rw[dQ] at h;rw[List.reverse_cons,List.find?_append,ih h.2,gP]
  by_cases hx:g.1=x
  ·have:t.find? (fun g=>g.1==x)=none:=eT.2 fun y hy=>by have:g.1<y.1:=h.1 y hy; simp; omega
   rw[this]; simp[hx]
  ·have:(g.1==x)=false:=by simp[hx]
   simp[this]
def BI {b:ß} (h:b.2.1.Pairwise fun a b=>a.1<b.1) (x:Int):uF (k:=tI) (v:=Ï) x (iX b)=ŷ b x:=by
 unfold iX ŷ;rw[agv,afd h]
def nW (s:List (Int×ì)) (id day:Int):Int :=
 match uF (k:=tI) (v:=Ï) id s with
 |some g=>if day<g.2.1 then 4 else 0
 |none=>5
def agy (s:List (Int×ì)) (id day:Int):jx s id day=some (nW s id day):=by
 unfold jx tT nW
 cases h:uF (k:=tI) (v:=Ï) id s with
 |none=>simp only[abL,h]
 |some g =>
  simp only[abL,h];rw[ĥ]
  by_cases h2:day<g.2.1<;>simp[h2]
def alq (s:List (Int×ì)) (id day:Int):Int:=if !uh day then 1 else nW s id day
def acm (s:List (Int×ì)) (id day:Int):Ņ id day s=some (alq s id day):=by
 unfold Ņ FI alq;rw[aaV,À,agy,À]
 cases uh day<;>rfl
def VK (b:ß) (s:List (Int×ì)) (i:Nat) (l:M9):Int :=
 if !ku l.2.1 0 20000 then 1 else if !inP l.2.2 0 1048576 then 1 else if nW s l.1 l.2.1.1 != 0 then nW s l.1 l.2.1.1 else
 if (b.2.2.2.1.take i).any (fun x=>x.1==l.1&&(decide (x.2.1.1≤l.2.1.2)&&decide (l.2.1.1≤x.2.1.2))) then 9 else
 if b.2.2.1.any (fun u=>u.1==l.1&&inP u.2 l.2.1.1 l.2.1.2) then 9 else 0
def afq {b:ß} (hn:b.2.2.2.1.length≤1000) (hu:b.2.2.1.length≤1000) (s:List (Int×ì)) {i:Nat} {l:M9} (hl:b.2.2.2.1[i]?=some l):ο b s i=some (VK b s i l):=by
 unfold ο xe VK;have hi:i<b.2.2.2.1.length:=(List.getElem?_eq_some_iff.1 hl).1;rw[Ç hl,IX,À,iG,À,agy,À]
 cases ku l.2.1 0 20000 with
 |false=>rfl
 |true =>
 cases inP l.2.2 0 1048576 with
 |false=>rfl
 |true =>
 cases hm:(nW s l.1 l.2.1.1 != 0) with
 |true =>
  have:ine (nW s l.1 l.2.1.1) 0=true:=hm;simp[this]
 |false =>
 have hm':ine (nW s l.1 l.2.1.1) 0=false:=hm
 have hg:((ile (0:Int) (i:Int))&&(ile (i:Int) (ô b.2.2.2.1)))=true:=by simp[ile,ô]; omega
 simp only[dT,Ý,hm',dw,if_false];rw[Ĥ hg,dE]
 have inner:∀(k:Int→Option Int),É (fun(v:Int) kk=>δ b.2.2.1 (Ó b.2.2.1) l.1 l.2.1.1 l.2.1.2 v (fun u=>kk u) (fun z=>ifb (ige z 0) (k 9) (k 0)) (fun _=>k 0)) (0:Int)=if b.2.2.1.any (fun u=>u.1==l.1&&inP u.2 l.2.1.1 l.2.1.2) then k 9 else k 0:=by
  intro k;refine Ĺ b.2.2.1 _ (fun z=>ifb (ige z 0) (k 9) (k 0)) (k 9) (k 0) (fun j=>?_) (fun j a hj ha kn=>?_) (fun kn=>?_)
  ·have:ige (j:Int) 0=true:=by simp[ige]
   rw[Õ this]
  ·try dsimp only
   unfold δ;rw[Ñ hj,Ç ha,iG,À,Ê hj (by omega)]
   cases h1:(a.1==l.1) with
   |false =>
    have:ieq a.1 l.1=false:=h1;simp[this]
   |true =>
    have:ieq a.1 l.1=true:=h1;rw[this]
    cases inP a.2 l.2.1.1 l.2.1.2<;>simp
  ·try dsimp only
   unfold δ;rw[Ü]
 rw[inner];refine fq (Ĺ (b.2.2.2.1.take i) (fun x=>x.1==l.1&&(decide (x.2.1.1≤l.2.1.2)&&decide (l.2.1.1≤x.2.1.2))) (fun z=>ifb (ige z 0) (some 9) (if b.2.2.1.any (fun u=>u.1==l.1&&inP u.2 l.2.1.1 l.2.1.2) then some 9 else some 0)) (some 9) (if b.2.2.1.any (fun u=>u.1==l.1&&inP u.2 l.2.1.1 l.2.1.2) then some 9 else some 0) (fun j=>?_) (fun j a hj ha kn=>?_) (fun kn=>?_)) ?_
 ·have:ige (j:Int) 0=true:=by simp[ige]
  rw[Õ this]
 ·try dsimp only
  unfold kQ
  have hj':j≤1000:=by rw[dv] at hj; omega
  rw[Ñ hj,Ç ha,Ê hj (by rw[dv]; omega)]
  cases h1:(a.1==l.1) with
  |false =>
   have:ieq a.1 l.1=false:=h1;simp[this]
  |true =>
   have:ieq a.1 l.1=true:=h1;rw[this]
   cases h2:decide (a.2.1.1≤l.2.1.2)<;>cases h3:decide (l.2.1.1≤a.2.1.2)<;>simp[ile,h2,h3,ĥ]<;>simp_all
 ·try dsimp only
  unfold kQ;rw[Ü]
 ·cases List.any (b.2.2.2.1.take i) _<;>cases b.2.2.1.any _<;>rfl
def aoK {l:List Int} (hn:l.length≤1000000) (x:Int):kf l x=some (match l.findIdx? (·==x) with|some j=>(j:Int)|none=>-1):=by
 unfold kf m9;refine Eq.trans (iK l (·==x) some (some (-1)) (fun i a hi ha kn=>?_) (fun kn=>?_)) ?_
 ·try dsimp only
  unfold iD;rw[Ñ hi,Ç ha,Ê hi (by omega),ĥ]
  by_cases h:x=a
  ·subst h; simp[ieq]
  ·have h2:¬a=x:=fun e=>h e.symm;simp[ieq,h,h2]
 ·try dsimp only
  unfold iD;rw[Ü]
 ·cases l.findIdx? (·==x)<;>rfl
def lH {l:List Int} (hn:l.length≤1000000) (x:Int):ė l x=some (l.contains x):=by
 unfold ė kp;rw[aoK hn,À];congr 1
 cases h:l.findIdx? (·==x) with
 |none =>
  have:l.contains x=false:=by
   rw[fg];intro hc;have:=eZ.1 h x (by simpa using hc);simp at this
  rw[this]; rfl
 |some j =>
  obtain⟨hj,hp,_⟩:=dV.1 h
  have:l.contains x=true:=by
   have h2:l[j]=x:=by simpa using hp
   rw[←h2]; simp
  rw[this];simp[ige]
def é (a b:List Int):List Int:=a.filter fun x=>!b.contains x
def tV {a b:List Int} (ha:a.length≤1000000) (hb:b.length≤1000000):Ÿ a b=some (é a b):=by
 unfold Ÿ aax;rw[Ô (by omega),Am.iff_true]
 have second:∀z:Nat,z<a.length→é (a.take z) b=a.take z→b.contains (a[z]?.getD 0)=true →
  É (fun(v13:(Val (.pair tI (.pair tI (.slice tI))))) kk17=>lg b v13.1 v13.2.1 v13.2.2 (fun u14 u15 u16=>kk17 (u14,u15,u16)) (fun z12=>Þ ((ile (0:Int) z12.1)&&(ile z12.1 (ô z12.2))) (Þ ((ile (0:Int) z12.1)&&(ile z12.1 (ô (List.take (Int.toNat z12.1) z12.2++List.replicate (List.length z12.2-(Int.toNat z12.1)) (0:Int)++List.drop ((Int.toNat z12.1)+(List.length z12.2-(Int.toNat z12.1))) z12.2)))) (some (List.take (Int.toNat z12.1) (List.drop 0 (List.take (Int.toNat z12.1) z12.2++List.replicate (List.length z12.2-(Int.toNat z12.1)) (0:Int)++List.drop ((Int.toNat z12.1)+(List.length z12.2-(Int.toNat z12.1))) z12.2))))))) ((z:Int),((z:Int)+1),a)=some (é a b):=by
  intro z hz hp hc
  refine Ĭ (fun x:Int×Int×List Int=>∃i j:Nat,x.1=i∧x.2.1=j∧i<j∧j≤a.length∧x.2.2.length=a.length∧x.2.2.take i=é (a.take j) b∧x.2.2.drop j=a.drop j) (fun x=>a.length-x.2.1.toNat) ?_
   ⟨z,z+1,rfl,by simp,by omega,by omega,rfl,?_,rfl⟩
  ·rintro⟨x1,x2,s⟩ ⟨i,j,h1,h2,hij,hja,hl,ht,hd⟩;simp only at h1 h2 hl ht hd;subst h1 h2;rcases dG j a.length with hj|hj
   ·refine .inr ?_
    have hsj:s[j]?=some a[j]:=by
     have h3:(s.drop j)[0]?=(a.drop j)[0]?:=by rw[hd]
     rw[fC,fC] at h3;simpa[df hj] using h3
    have hjs:j<s.length:=by omega
    have hta:é (a.take (j+1)) b=é (a.take j) b++if b.contains a[j] then[] else[a[j]]:=by
     rw[take_succ (df hj),é,é,gQ];congr 1
     cases h:b.contains a[j] with
     |true=>simp only[eo,h,dT,dw,if_false,eE,if_true]
     |false=>simp only[eo,h,gG,dw,if_false,eE,if_true]
    cases h:b.contains a[j] with
    |true =>
     refine⟨(i,(j:Int)+1,s),⟨i,j+1,rfl,by simp,by omega,by omega,hl,?_,?_⟩,by simp; omega,fun kn=>?_⟩
     ·rw[hta,h]; simpa using ht
     ·have:=congrArg (List.drop 1) hd;simpa[gF,Nat.add_comm] using this
     ·try dsimp only
      unfold lg;rw[Ñ hjs,iN hjs,ĭ hsj,lH hb,À,h];simp only[Bool.not_true,Ý];rw[Ê hjs (by omega)]
    |false =>
     have his:i<s.length:=by omega
     refine⟨((i:Int)+1,(j:Int)+1,s.set i a[j]),⟨i+1,j+1,by simp,by simp,by omega,by omega,by simpa using hl,?_,?_⟩,by simp; omega,fun kn=>?_⟩
     ·show List.take (i+1) (s.set i a[j])=_;rw[hta,h,List.take_succ,gg,List.take_set_of_le (dg i),ht];simp[his]
     ·show List.drop (j+1) (s.set i a[j])=_;rw[List.drop_set_of_lt (by omega)];have:=congrArg (List.drop 1) hd;simpa[gF,Nat.add_comm] using this
     ·try dsimp only
      unfold lg;rw[Ñ hjs,iN hjs,ĭ hsj,lH hb,À,h];simp only[Bool.not_false,Ĕ];rw[iN his,ĭ (List.getElem?_eq_getElem his),Ê his (by omega),Ê hjs (by omega),Int.toNat_natCast]
   ·refine .inl fun kn=>?_
    have hje:j=s.length:=by omega
    try dsimp only
    unfold lg;rw[hje,Ü];dsimp only
    have g1:((ile (0:Int) (i:Int))&&(ile (i:Int) (ô s)))=true:=by simp[ile,ô]; omega
    rw[Ĥ g1]
    have g2:((ile (0:Int) (i:Int))&&(ile (i:Int) (ô (List.take (Int.toNat (i:Int)) s++List.replicate (List.length s-(Int.toNat (i:Int))) (0:Int)++List.drop ((Int.toNat (i:Int))+(List.length s-(Int.toNat (i:Int)))) s))))=true:=by
     simp[ile,ô]; omega
    rw[Ĥ g2,dE,List.drop_zero,dF,List.take_append_of_le_length (by simp; omega),List.take_take,Nat.min_self,ht];rw[eA (by omega)]
  ·show List.take z a=é (a.take (z+1)) b;have hz':a[z]?=some a[z]:=df hz;rw[take_succ hz',é,gQ];rw[hz'] at hc;simp only[fP] at hc
   have:List.filter (fun x=>!b.contains x) [a[z]]=[]:=by simp only[eo,hc,dT,dw,if_false,eE]
   rw[this,dU];exact hp.symm
 refine fq (iK a (fun x=>b.contains x) (fun z4=>ifb (ieq z4 (-1:Int)) (some a) (ck (z4+(1:Int)) fun n5=>É (fun(v13:(Val (.pair tI (.pair tI (.slice tI))))) kk17=>lg b v13.1 v13.2.1 v13.2.2 (fun u14 u15 u16=>kk17 (u14,u15,u16)) (fun z12=>Þ ((ile (0:Int) z12.1)&&(ile z12.1 (ô z12.2))) (Þ ((ile (0:Int) z12.1)&&(ile z12.1 (ô (List.take (Int.toNat z12.1) z12.2++List.replicate (List.length z12.2-(Int.toNat z12.1)) (0:Int)++List.drop ((Int.toNat z12.1)+(List.length z12.2-(Int.toNat z12.1))) z12.2)))) (some (List.take (Int.toNat z12.1) (List.drop 0 (List.take (Int.toNat z12.1) z12.2++List.replicate (List.length z12.2-(Int.toNat z12.1)) (0:Int)++List.drop ((Int.toNat z12.1)+(List.length z12.2-(Int.toNat z12.1))) z12.2))))))) (z4,n5,a))) (some a) (fun i x hi hx kn=>?_) (fun kn=>?_)) ?_
 ·try dsimp only
  unfold xb;rw[Ñ hi,iN hi,ĭ hx,lH hb,À,Ê hi (by omega),ĥ]
 ·try dsimp only
  unfold xb;rw[Ü]
 ·cases h:a.findIdx? (fun x=>b.contains x) with
  |none =>
   have:é a b=a:=by
    rw[é,List.filter_eq_self];intro x hx;have:=eZ.1 h x hx;simpa using this
   rw[this]
  |some z =>
   obtain⟨hz,hc,hlt⟩:=dV.1 h
   have h1:ieq (z:Int) (-1)=false:=by simp[ieq]
   try dsimp only
   rw[Ð h1,Ê hz (by omega)];refine second z hz ?_ ?_
   ·rw[é,List.filter_eq_self];intro x hx;obtain⟨j,hj,rfl⟩:=dz.1 hx;rw[dv] at hj;rw[List.getElem_take];have:=hlt j (by omega);simpa using this
   ·rw[df hz]; exact hc
def oK (l:List Int) (i:Nat) (a:Int):Option Bool:=if !inP a 1 1099511627776 then some false else if Br (fun x=>x) l i a then some false else none
def Ů (l:List Int):Bool:=match Ħ (oK l) 0 l with|some _=>false|none=>decide (l.length≤6)
def IW {l:List Int} (hn:l.length≤1000000):nA l=some (Ů l):=by
 unfold nA Lj;refine Eq.trans (j9 l (oK l) some (some (decide (l.length≤6))) (fun i a hi ha kn=>?_) (fun kn=>?_)) ?_
 ·try dsimp only
  unfold pI;rw[Ñ hi,Ç ha,iG,À];unfold oK
  cases inP a 1 1099511627776 with
  |false=>rfl
  |true =>
   simp only[dT,Ý,dw,if_false];rcases fE i with h0|h0
   ·subst h0
    have:igt ((0:Nat):Int) 0=false:=by simp[igt]
    rw[Ð this,Ê hi (by omega)];simp[Br]
   ·obtain⟨q,hq⟩:=yU hi h0
    have h1:igt (i:Int) 0=true:=by simp[igt]; omega
    rw[Õ h1,LU h0 (by omega),A6 h0 hq];simp only[Br,h0,decide_true,Bool.true_and,hq,Option.any_some];unfold ile
    cases h2:decide (a≤q) with
    |true=>rfl
    |false =>
     rw[Ý,Ê hi (by omega)];rfl
 ·try dsimp only
  unfold pI;rw[Ü,Û];simp[ile];omega
 ·have hb:∀x,Ħ (oK l) 0 l=some x→x=false:=by
   have:∀(m:List Int) (j:Nat) (x:Bool),Ħ (oK l) j m=some x→x=false:=by
    intro m
    induction m with
    |nil=>intro j x h; cases h
    |cons a m ih =>
     intro j x h;unfold Ħ at h
     cases hp:oK l j a with
     |none=>rw[hp] at h; exact ih _ _ h
     |some y =>
      rw[hp] at h;cases h;unfold oK at hp
      split at hp
      ·cases hp; rfl
      ·split at hp
       ·cases hp; rfl
       ·cases hp
   exact this l 0
  unfold Ů
  cases h:Ħ (oK l) 0 l with
  |none=>rfl
  |some x=>rw[hb x h]
def yV (l:List Int):Ů l=true↔(∀x∈l,1≤x∧x≤1099511627776)∧l.Pairwise (·<·)∧l.length≤6:=by
 have h0:Ħ (oK l) 0 l=none↔(∀x∈l,1≤x∧x≤1099511627776)∧l.Pairwise (·<·):=by
  rw[jf,←abu (fun x=>x) l];constructor
  ·intro h
   have h1:∀(j:Nat) (a:Int),l[j]?=some a→inP a 1 1099511627776=true∧Br (fun x=>x) l j a=false:=by
    intro j a ha;have:=h j a ha;rw[Nat.zero_add] at this;unfold oK at this
    split at this
    ·cases this
    ·split at this
     ·cases this
     ·rename_i h1 h2;exact⟨by simpa using h1,by simpa using h2⟩
   refine⟨fun x hx=>?_,fun i a ha=>(h1 i a ha).2⟩;obtain⟨j,hj,rfl⟩:=dz.1 hx;have:=(h1 j l[j] (df hj)).1;simpa[inP] using this
  ·rintro⟨h1,h2⟩ j a ha;rw[dC];have h3:=h1 a (dl ha)
   have:inP a 1 1099511627776=true:=by simpa[inP] using h3
   simp[oK,this,h2 j a ha]
 unfold Ů
 cases h:Ħ (oK l) 0 l with
 |none =>
  obtain⟨h1,h2⟩:=h0.1 h;simp only[decide_eq_true_eq];exact⟨fun h3=>⟨h1,h2,h3⟩,fun h3=>h3.2.2⟩
 |some x =>
  constructor
  ·intro h2; cases h2
  ·rintro⟨h1,h2,h3⟩;rw[h0.2 ⟨h1,h2⟩] at h; cases h
def aoM {a b:List Int} (ha:a.length≤1000000) (hb:b.length≤1000000):ï [a,b]=some (a++b):=by
 have hk:∀n:Nat,n≤4000000→∀(f:Int→Option (List Int)),ck (n:Int) f=f n:=fun n h f=>Ò (by omega) (by omega) f
 have second:É (fun(v9:(Val (.pair tI (.slice tI)))) kk12=>ñ [a,b] (Ó [a,b]) v9.1 v9.2 (fun u10 u11=>kk12 (u10,u11)) (fun z8=>some z8)) ((0:Int),([]:List Int))=some (a++b):=by
  refine ë [a,b] (fun i=>([a,b].take i).flatten) (some (a++b)) (f:=fun(v9:(Val (.pair tI (.slice tI)))) kk12=>ñ [a,b] (Ó [a,b]) v9.1 v9.2 (fun u10 u11=>kk12 (u10,u11)) (fun z8=>some z8)) rfl (fun i x hi hx kn=>?_) (fun kn=>?_)
  ·try dsimp only
   unfold ñ;rw[Ñ hi,Ç hx,Ê hi (by simp),take_succ hx,List.flatten_append]
   have:â ((List.take i [a,b]).flatten.length+x.length)=true:=by
    refine Ô ?_
    have h1:x.length≤1000000:=by
     have:=dl hx;simp at this
     rcases this with rfl|rfl<;>assumption
    have h2:(List.take i [a,b]).flatten.length≤2000000:=by
     have:i=0∨i=1:=by simp at hi; omega
     rcases this with rfl|rfl<;>simp<;>omega
    omega
   rw[Ĥ this];simp
  ·try dsimp only
   unfold ñ;rw[Ü];simp
 unfold ï jE;refine Ĭ (fun x:Int×Int=>∃i:Nat,i≤2∧x=((([a,b].take i).flatten.length:Int),(i:Int))) (fun x=>2-x.2.toNat) ?_ ⟨0,by omega,rfl⟩;rintro x ⟨i,hi,rfl⟩;rcases Nat.lt_or_ge i 2 with h2|h2
 ·refine .inr ⟨((([a,b].take (i+1)).flatten.length:Int),(i:Int)+1),⟨i+1,h2,by simp⟩,by simp; omega,fun kn=>?_⟩;have hi':i<[a,b].length:=h2;obtain⟨x,hx⟩:∃x,[a,b][i]?=some x:=⟨_,df hi'⟩
  have hxl:x.length≤1000000:=by
   have:=dl hx;simp at this
   rcases this with rfl|rfl<;>assumption
  have h3:(List.take i [a,b]).flatten.length≤2000000:=by
   have:i=0∨i=1:=by omega
   rcases this with rfl|rfl<;>simp<;>omega
  try dsimp only
  unfold ļ;rw[Ñ hi',Ç hx,Û]
  have e1:(((List.take i [a,b]).flatten.length:Int)+(x.length:Int))=((List.take i [a,b]).flatten.length+x.length:Nat):=by omega
  rw[e1,hk _ (by omega)]
  have:ilt ((((List.take i [a,b]).flatten.length+x.length:Nat)):Int) 0=false:=by simp[ilt]; omega
  rw[Ð this,Ê hi' (by simp),take_succ hx];simp
 ·refine .inl fun kn=>?_
  obtain rfl:i=2:=by omega
  try dsimp only
  unfold ļ;rw[show((2:Nat):Int)=(([a,b].length:Nat):Int) from rfl,Ü]
  have e1:((List.take 2 [a,b]).flatten.length:Int)=((a.length+b.length:Nat):Int):=by simp
  have e2:ilt (((a.length+b.length:Nat)):Int) 0=false:=by simp[ilt]; omega
  rw[e1];dsimp only;rw[Ð e2,Int.sub_zero,hk _ (by omega)];rcases Nat.eq_zero_or_pos (a.length+b.length) with h0|h0
  ·have:igt (((a.length+b.length:Nat)):Int) 0=false:=by simp[igt]; omega
   rw[Ð this];exact second
  ·have:igt (((a.length+b.length:Nat)):Int) 0=true:=by simp[igt]; omega
   rw[Õ this]
   have:((ilt (0:Int) (((a.length+b.length:Nat)):Int))&&(â (Int.toNat (((a.length+b.length:Nat)):Int))))=true:=by
    rw[dE,Ô (by omega)];simp[ilt]; omega
   rw[Ĥ this]
   have:ile 0 (ô (List.replicate (Int.toNat (((a.length+b.length:Nat)):Int)) (0:Int)))=true:=by simp[ile]
   rw[Ĥ this];exact second
def mz (b:ß) (id day:Int):Option M9:=b.2.2.2.1.find? fun l=>l.1==id&&inP day l.2.1.1 l.2.1.2
def aa4 {α:Type} (p:α→Bool):∀l:List α,l.find? p=(match l.findIdx? p with|some j=>l[j]?|none=>none)
 |[]=>rfl
 |a::l=>by
  rw[gP,List.findIdx?_cons]
  cases h:p a with
  |true=>simp
  |false =>
   simp only[dw,if_false];rw[aa4 p l]
   cases l.findIdx? p<;>simp
def asn {b:ß} (hn:b.2.2.2.1.length≤1000) (id day:Int):Cf b id day=some (match mz b id day with|some l=>(l,true)|none=>((0,(0,0),0),false)):=by
 unfold Cf aaH;refine Eq.trans (iK b.2.2.2.1 (fun l=>l.1==id&&inP day l.2.1.1 l.2.1.2) (fun z5=>ifb (ilt z5 (0:Int)) (some (((0:Int),((0:Int),(0:Int)),(0:Int)),false)) (ê b.2.2.2.1 z5 fun e6=>some (e6,true))) (some ((0,(0,0),0),false)) (fun i a hi ha kn=>?_) (fun kn=>?_)) ?_
 ·try dsimp only
  unfold xf;rw[Ñ hi,Ç ha,iG,À,Ê hi (by omega)]
  cases h1:(a.1==id) with
  |false =>
   have:ieq a.1 id=false:=h1;simp[this]
  |true =>
   have:ieq a.1 id=true:=h1;rw[this]
   cases inP day a.2.1.1 a.2.1.2<;>simp
 ·try dsimp only
  unfold xf;rw[Ü]
 ·unfold mz;rw[aa4]
  cases h:b.2.2.2.1.findIdx? (fun l=>l.1==id&&inP day l.2.1.1 l.2.1.2) with
  |none=>rfl
  |some j =>
   obtain⟨hj,_,_⟩:=dV.1 h
   have:ilt (j:Int) 0=false:=by simp[ilt]
   try dsimp only
   rw[Ð this,Ç (df hj),df hj]
def arQ (a:Int):List Int→List Int
 |[]=>[a]
 |b::t=>if a≤b then a::b::t else b::arQ a t
def Xd:List Int→List Int
 |[]=>[]
 |a::t=>arQ a (Xd t)
def yO (p:Option Int):List Int→List Int
 |[]=>[]
 |a::t=>if p=some a then yO (some a) t else a::yO (some a) t
def ab6 (l:List Int):List Int:=yO none (Xd l)
def Sy (a:Int):∀l,(arQ a l).Perm (a::l)
 |[]=>fQ _
 |b::t=>by
  unfold arQ
  split
  ·exact fQ _
  ·exact((Sy a t).cons b).trans (List.Perm.swap a b t)
def xj:∀l,(Xd l).Perm l
 |[]=>fQ _
 |a::t=>(Sy a _).trans ((xj t).cons a)
def Sx (a:Int):∀{l:List Int},l.Pairwise (·≤·)→(arQ a l).Pairwise (·≤·)
 |[],_=>by simp[arQ]
 |b::t,h=>by
  rw[List.pairwise_cons] at h;unfold arQ
  split
  ·rename_i hab;refine dQ.2 ⟨fun x hx=>?_,dQ.2 h⟩;rcases dm.1 hx with rfl|hx
   ·exact hab
   ·have:=h.1 x hx; omega
  ·rename_i hab;refine dQ.2 ⟨fun x hx=>?_,Sx a h.2⟩;rcases dm.1 ((Sy a t).mem_iff.1 hx) with rfl|hx
   ·omega
   ·exact h.1 x hx
def xi:∀l:List Int,(Xd l).Pairwise (·≤·)
 |[]=>List.Pairwise.nil
 |a::t=>Sx a (xi t)
def ao9 (l:List Int):F5 l=Xd l:=by
 have h1:(F5 l).Pairwise (·≤·):=by
  have:=List.pairwise_mergeSort (le:=fun a b:Int=>decide (a≤b)) (fun a b c h1 h2=>by simp at *; omega) (fun a b=>by simp; omega) l
  exact this.imp fun h=>by simpa using h
 exact List.Perm.eq_of_pairwise (le:=(·≤·)) (fun a b _ _ h1 h2=>by omega) h1 (xi l) ((List.mergeSort_perm l _).trans (xj l).symm)
def VY (a:Int):∀(l:List Int) (p:Option Int),yO p (l++[a])=yO p l++(if (match l.getLast? with|some b=>some b|none=>p)=some a then[] else[a])
 |[],p=>by simp only[f7,yO,List.getLast?_nil]; rfl
 |b::t,p=>by
  have ih:=VY a t (some b)
  have e:(match (b::t).getLast? with|some c=>some c|none=>p)=(match t.getLast? with|some c=>some c|none=>some b):=by
   cases t with
   |nil=>rfl
   |cons c t =>
    rw[List.getLast?_cons_cons]
    cases h:(c::t).getLast? with
    |none=>simp at h
    |some x=>rfl
  rw[e];simp only[fk,yO,ih]
  split<;>simp
def D1 (l:List Int):∀m,m≤l.length→Lib.compactUpTo l.toArray m=yO none (l.take m)
 |0,_=>by simp[Lib.compactUpTo,yO]
 |m+1,h=>by
  have hm:m<l.length:=h;rw[Lib.compactUpTo_succ,D1 l m (by omega),take_succ (df hm),VY];congr 1
  have e1:l.toArray[m]! = l[m]:=by simp[getElem!_pos,hm]
  rw[e1];unfold Lib.keeps;rw[e1]
  cases m with
  |zero=>simp
  |succ m =>
   have hm':m<l.length:=by omega
   have e2:l.toArray[m+1-1]! = l[m]:=by simp[getElem!_pos,hm']
   rw[e2]
   have e3:(l.take (m+1)).getLast?=some l[m]:=by rw[take_succ (df hm'),List.getLast?_append]; rfl
   rw[e3]
   by_cases hne:l[m+1]=l[m]
   ·simp[hne]
   ·have:¬l[m]=l[m+1]:=fun h=>hne h.symm;simp[hne,this]
def ahN (l:List Int):Cj l=yO none l:=by
 unfold Cj Lib.compact;rw[D1 l l.length (Nat.le_refl _),List.take_length]
def alR (l:List Int):Cj (F5 l)=ab6 l:=by rw[ao9,ahN]; rfl
def abU:∀{l:List Int} {p:Option Int} {x:Int},p≠some x→(x∈yO p l↔x∈l)
 |[],_,_,_=>Iff.rfl
 |a::t,p,x,hp=>by
  unfold yO
  by_cases hx:x=a
  ·subst hx;rw[if_neg hp]; simp
  ·have ih:=abU (l:=t) (p:=some a) (x:=x) (fun e=>hx (by cases e; rfl))
   split<;>simp[ih,hx]
def ain:∀{l:List Int} {p:Option Int},l.Pairwise (·≤·)→(∀q,p=some q→∀x∈l,q≤x)→(yO p l).Pairwise (·<·)∧∀q,p=some q→∀x∈yO p l,q<x
 |[],p,_,_=>⟨List.Pairwise.nil,fun _ _ _ h=>by cases h⟩
 |a::t,p,h,hp=>by
  rw[List.pairwise_cons] at h;obtain⟨i1,i2⟩:=ain (l:=t) (p:=some a) h.2 (fun q hq x hx=>by cases hq; exact h.1 x hx);unfold yO
  split
  ·rename_i e;exact⟨i1,fun q hq x hx=>by rw[e] at hq; cases hq; exact i2 _ rfl x hx⟩
  ·rename_i e;refine⟨dQ.2 ⟨fun x hx=>i2 _ rfl x hx,i1⟩,fun q hq x hx=>?_⟩;have:=hp q hq a (by simp);have hne:q≠a:=fun h=>e (by rw[hq,h]);rcases dm.1 hx with rfl|hx
   ·omega
   ·have:=i2 _ rfl x hx; omega
def BB {l:List Int} {x:Int}:x∈ab6 l↔x∈l:=by
 unfold ab6;rw[abU (by simp),(xj l).mem_iff]
def Eb (l:List Int):(ab6 l).Pairwise (·<·):=(ain (xi l) (fun q hq=>by cases hq)).1
def abV:∀(l:List Int) (p:Option Int),(yO p l).length≤l.length
 |[],_=>dg _
 |a::t,p=>by
  have:=abV t (some a);unfold yO
  split<;>simp<;>omega
def F8 (l:List Int):(ab6 l).length≤l.length:=by
 unfold ab6;have:=abV (Xd l) none
 rwa [(xj l).length_eq] at this
def ah6 {l m:List Int} (hl:l.Pairwise (·<·)) (hm:m.Pairwise (·<·)) (h:∀x,x∈l↔x∈m):l=m:=by
 induction l generalizing m with
 |nil =>
  cases m with
  |nil=>rfl
  |cons a t=>have:=(h a).2 (by simp); cases this
 |cons a t ih =>
  rw[dQ] at hl
  cases m with
  |nil=>have:=(h a).1 (by simp); cases this
  |cons b u =>
   rw[dQ] at hm
   have hab:a=b:=by
    rcases dm.1 ((h a).1 (by simp)) with h1|h1
    ·exact h1
    ·rcases dm.1 ((h b).2 (by simp)) with h2|h2
     ·exact h2.symm
     ·have:=hm.1 a h1; have:=hl.1 b h2; omega
   subst hab;rw[ih hl.2 hm.2 fun x=>?_];constructor
   ·intro hx;rcases dm.1 ((h x).1 (by simp[hx])) with h1|h1
    ·have:=hl.1 x hx; omega
    ·exact h1
   ·intro hx;rcases dm.1 ((h x).2 (by simp[hx])) with h1|h1
    ·have:=hm.1 x hx; omega
    ·exact h1
def C5 (b:ß) (s:List (Int×ì)) (c:Cmp):Int :=
 if (c.2.2.1++c.2.2.2.1).any (fun id=>nW s id c.2.1==5) then 5 else
 if (c.2.2.1++c.2.2.2.1).any (fun id=>nW s id c.2.1==4) then 4 else
 if (c.2.2.1++c.2.2.2.1).any (fun id=>(mz b id c.2.1).isSome) then 9 else
 if 1<(é c.2.2.1 c.2.2.2.1).length then 1 else if 1<(é c.2.2.2.1 c.2.2.1).length then 1 else
 if (é c.2.2.1 c.2.2.2.1).length+(é c.2.2.2.1 c.2.2.1).length=0 then 1 else 0
def Nn (c:Cmp):Bool :=
 inP c.1 1 1099511627776&&(uh c.2.1&&(inP c.2.2.2.2.1 (-1125899906842624) 1125899906842624&&(inP c.2.2.2.2.2.1 0 1073741824&&(ku c.2.2.2.2.2.2 (-10000) 10000&&(Ů c.2.2.1&&Ů c.2.2.2.1)))))
def pR (b:ß) (s:List (Int×ì)) (i:Nat) (c:Cmp):Int :=
 if !Nn c then 1 else if (b.2.2.2.2.1.take i).any (fun x=>x.1==c.1) then 6 else C5 b s c
def A4 (a b:List Int):(é a b).length≤a.length:=dP _ _
set_option maxHeartbeats 1000000 in
def Ta {b:ß} (hn:b.2.2.2.2.1.length≤1000) (hl:b.2.2.2.1.length≤1000) (s:List (Int×ì)) {i:Nat} {c:Cmp} (hA:c.2.2.1.length≤1000) (hB:c.2.2.2.1.length≤1000)
 (hc:b.2.2.2.2.1[i]?=some c):ŋ b s i=some (pR b s i c):=by
 have hi:i<b.2.2.2.2.1.length:=(List.getElem?_eq_some_iff.1 hc).1;unfold ŋ oT pR Nn;rw[Ç hc,iG,À]
 cases inP c.1 1 1099511627776 with
 |false=>rfl
 |true =>
 rw[aaV,À]
 cases uh c.2.1 with
 |false=>rfl
 |true =>
 rw[iG,À]
 cases inP c.2.2.2.2.1 (-1125899906842624) 1125899906842624 with
 |false=>rfl
 |true =>
 rw[iG,À]
 cases inP c.2.2.2.2.2.1 0 1073741824 with
 |false=>rfl
 |true =>
 rw[IX,À]
 cases ku c.2.2.2.2.2.2 (-10000) 10000 with
 |false=>rfl
 |true =>
 rw[IW (by omega),À]
 cases Ů c.2.2.1 with
 |false=>rfl
 |true =>
 rw[IW (by omega),À]
 cases Ů c.2.2.2.1 with
 |false=>rfl
 |true =>
 have hg:((ile (0:Int) (i:Int))&&(ile (i:Int) (ô b.2.2.2.2.1)))=true:=by simp[ile,ô]; omega
 simp only[dT,Ý,Bool.and_self,dw,if_false];rw[Ĥ hg,dE]
 -- what comes behind the IDs
 have rest:(Ã (ï ([c.2.2.1,c.2.2.2.1])) fun r12=>É (fun(v36:Int) kk38=>œ s r12 (Ó ([(5:Int),(4:Int)])) c.2.1 ([(5:Int),(4:Int)]) v36 (fun u37=>kk38 u37) (fun z23=>some z23) (fun _=>É (fun(v33:Int) kk35=>Œ r12 (Ó r12) b.1.1 b.1.2 b.2.1 b.2.2.1 b.2.2.2.1 b.2.2.2.2.1 b.2.2.2.2.2 c.2.1 v33 (fun u34=>kk35 u34) (fun z28=>some z28) (fun _=>Ã (Ÿ c.2.2.1 c.2.2.2.1) fun r30=>Ã (Ÿ c.2.2.2.1 c.2.2.1) fun r31=>ifb (igt (Ó r30) (1:Int)) (some (1:Int)) (ifb (igt (Ó r31) (1:Int)) (some (1:Int)) (ck ((Ó r30)+(Ó r31)) fun n32=>ifb (ieq n32 (0:Int)) (some (1:Int)) (some (0:Int)))))) (0:Int))) (0:Int))=some (C5 b s c):=by
  rw[aoM (by omega) (by omega),À]
  have hall:(c.2.2.1++c.2.2.2.1).length≤2000:=by simp; omega
  have last:(Ã (Ÿ c.2.2.1 c.2.2.2.1) fun r30=>Ã (Ÿ c.2.2.2.1 c.2.2.1) fun r31=>ifb (igt (Ó r30) (1:Int)) (some (1:Int)) (ifb (igt (Ó r31) (1:Int)) (some (1:Int)) (ck ((Ó r30)+(Ó r31)) fun n32=>ifb (ieq n32 (0:Int)) (some (1:Int)) (some (0:Int))))) =
   some (if 1<(é c.2.2.1 c.2.2.2.1).length then 1 else if 1<(é c.2.2.2.1 c.2.2.1).length then 1 else if (é c.2.2.1 c.2.2.2.1).length+(é c.2.2.2.1 c.2.2.1).length=0 then 1 else 0):=by
   rw[tV (by omega) (by omega),À,tV (by omega) (by omega),À];have l1:=A4 c.2.2.1 c.2.2.2.1;have l2:=A4 c.2.2.2.1 c.2.2.1;rw[Û,Û,Ò (by omega) (by omega)]
   by_cases c1:1<(é c.2.2.1 c.2.2.2.1).length
   ·rw[Õ (by simp[igt]; omega),if_pos c1]
   rw[Ð (by simp[igt]; omega),if_neg c1]
   by_cases c2:1<(é c.2.2.2.1 c.2.2.1).length
   ·rw[Õ (by simp[igt]; omega),if_pos c2]
   rw[Ð (by simp[igt]; omega),if_neg c2]
   by_cases c3:(é c.2.2.1 c.2.2.2.1).length+(é c.2.2.2.1 c.2.2.1).length=0
   ·rw[Õ (by simp[ieq]; omega),if_pos c3]
   rw[Ð (by simp[ieq]; omega),if_neg c3]
  refine fq (j9 [(5:Int),4] (fun _ want=>if (c.2.2.1++c.2.2.2.1).any (fun id=>nW s id c.2.1==want) then some want else none) some (some (if (c.2.2.1++c.2.2.2.1).any (fun id=>(mz b id c.2.1).isSome) then 9 else if 1<(é c.2.2.1 c.2.2.2.1).length then 1 else if 1<(é c.2.2.2.1 c.2.2.1).length then 1 else if (é c.2.2.1 c.2.2.2.1).length+(é c.2.2.2.1 c.2.2.1).length=0 then 1 else 0)) (fun j want hj hw kn=>?_) (fun kn=>?_)) ?_
  ·try dsimp only
   unfold œ;rw[Ñ hj,iN hj,ĭ hw];refine Eq.trans (Ĺ (c.2.2.1++c.2.2.2.1) (fun id=>nW s id c.2.1==want) (fun _=>some want) (some want) (kn ((j:Int)+1)) (fun _=>rfl) (fun k a hk ha kn'=>?_) (fun kn'=>?_)) ?_
   ·try dsimp only
    unfold jb;rw[Ñ hk,Ç ha,agy,À,Ê hk (by omega),ĥ]
   ·try dsimp only
    unfold jb;rw[Ü,Ê hj (by simp)]
   ·cases List.any (c.2.2.1++c.2.2.2.1) (fun id=>nW s id c.2.1==want)<;>rfl
  ·try dsimp only
   unfold œ;rw[Ü];refine Eq.trans (Ĺ (c.2.2.1++c.2.2.2.1) (fun id=>(mz b id c.2.1).isSome) (fun _=>some 9) (some 9) (some (if 1<(é c.2.2.1 c.2.2.2.1).length then 1 else if 1<(é c.2.2.2.1 c.2.2.1).length then 1 else if (é c.2.2.1 c.2.2.2.1).length+(é c.2.2.2.1 c.2.2.1).length=0 then 1 else 0)) (fun _=>rfl) (fun k a hk ha kn'=>?_) (fun kn'=>?_)) ?_
   ·try dsimp only
    unfold Œ;have haw:=asn hl a c.2.1;rw[Ñ hk,Ç ha,Ê hk (by omega)];rw[show Cf ((b.1.1,b.1.2),b.2.1,b.2.2.1,b.2.2.2.1,b.2.2.2.2.1,b.2.2.2.2.2) a c.2.1=Cf b a c.2.1 from rfl,haw,À]
    cases mz b a c.2.1<;>rfl
   ·try dsimp only
    unfold Œ;rw[Ü,last]
   ·cases List.any (c.2.2.1++c.2.2.2.1) (fun id=>(mz b id c.2.1).isSome)<;>rfl
  ·unfold C5 Ħ Ħ Ħ
   try dsimp only
   cases List.any (c.2.2.1++c.2.2.2.1) (fun id=>nW s id c.2.1==5) with
   |true=>rfl
   |false =>
   cases List.any (c.2.2.1++c.2.2.2.1) (fun id=>nW s id c.2.1==4)<;>rfl
 refine fq (Ĺ (b.2.2.2.2.1.take i) (fun x=>x.1==c.1) (fun z11=>ifb (ige z11 (0:Int)) (some 6) (some (C5 b s c))) (some 6) (some (C5 b s c)) (fun j=>?_) (fun j a hj ha kn=>?_) (fun kn=>?_)) ?_
 ·have:ige (j:Int) 0=true:=by simp[ige]
  rw[Õ this]
 ·try dsimp only
  unfold jc;rw[rest,Ñ hj,Ç ha,Ê hj (by rw[List.length_take]; omega),ĥ]
 ·try dsimp only
  unfold jc;rw[Ü,rest]
 ·cases List.any (b.2.2.2.2.1.take i) (fun x=>x.1==c.1)<;>rfl
def ahI (b:ß) (g:ì):List Int :=
 [g.2.1]++(b.2.2.2.2.1.filter fun c=>!(c.2.2.1.contains g.1==c.2.2.2.1.contains g.1)).map (fun c=>c.2.1)++(b.2.2.2.2.2.filter fun n=>n.1==g.1).map (fun n=>n.2)
def ã (b:ß) (g:ì):List Int:=ab6 (ahI b g)
structure Η (b:ß):Prop where
 gauges:b.2.1.length≤1000
 uses:b.2.2.1.length≤1000
 loans:b.2.2.2.1.length≤1000
 compares:b.2.2.2.2.1.length≤1000
 looks:b.2.2.2.2.2.length≤1000
 piles:∀c∈b.2.2.2.2.1,c.2.2.1.length≤1000∧c.2.2.2.1.length≤1000
def ab2 (l:List Int):(F5 l).length=l.length:=List.length_mergeSort l
def afk {b:ß} (hs:Η b) (g:ì):(ahI b g).length≤2001:=by
 have h1:=hs.compares;have h2:=hs.looks;have h3:=dP (fun c:Cmp=>!(c.2.2.1.contains g.1==c.2.2.2.1.contains g.1)) b.2.2.2.2.1;have h4:=dP (fun n:Int×Int=>n.1==g.1) b.2.2.2.2.2;simp only[ahI,di,eF,dN];omega
def anx {b:ß} (hs:Η b) (g:ì):pP b g=some (ã b g):=by
 unfold pP aaG;have hr:=afk hs g
 have hd:(ã b g).length≤2001:=by
  unfold ã;have:=F8 (ahI b g);omega
 have hcl:=hs.compares;have hll:=hs.looks;refine ë b.2.2.2.2.1 (fun i=>[g.2.1]++((b.2.2.2.2.1.take i).filter fun c=>!(c.2.2.1.contains g.1==c.2.2.2.1.contains g.1)).map (fun c=>c.2.1)) _ rfl (fun i c hi hc kn=>?_) (fun kn=>?_)
 ·try dsimp only
  unfold xd;obtain⟨p1,p2⟩:=hs.piles c (List.mem_of_getElem? hc);rw[Ñ hi,Ç hc,lH (by omega),À,lH (by omega),À,Ê hi (by omega),Ê hi (by omega),take_succ hc,List.filter_append,List.map_append]
  have hlen:([g.2.1]++((b.2.2.2.2.1.take i).filter fun c=>!(c.2.2.1.contains g.1==c.2.2.2.1.contains g.1)).map (fun c=>c.2.1)).length≤1001:=by
   have h3:=dP (fun c:Cmp=>!(c.2.2.1.contains g.1==c.2.2.2.1.contains g.1)) (b.2.2.2.2.1.take i);rw[dv] at h3;simp only[di,eF,dN];omega
  rw[Ô (by simp only[dN]; omega),Am.iff_true]
  cases h:(c.2.2.1.contains g.1==c.2.2.2.1.contains g.1) with
  |true=>simp only[dT,Ý,eo,h,dw,if_false,eE,fO,dU]
  |false=>simp only[gG,Ĕ,eo,h,if_true,eE,fh,fO,dF]
 ·try dsimp only
  unfold xd;rw[Ü,List.take_length];refine ë b.2.2.2.2.2 (fun i=>[g.2.1]++(b.2.2.2.2.1.filter fun c=>!(c.2.2.1.contains g.1==c.2.2.2.1.contains g.1)).map (fun c=>c.2.1)++((b.2.2.2.2.2.take i).filter fun n=>n.1==g.1).map (fun n=>n.2)) _ (by simp) (fun i n hi hn kn=>?_) (fun kn=>?_)
  ·try dsimp only
   unfold xc;rw[Ñ hi,Ç hn,Ê hi (by omega),Ê hi (by omega),take_succ hn,List.filter_append,List.map_append]
   have hlen:([g.2.1]++(b.2.2.2.2.1.filter fun c=>!(c.2.2.1.contains g.1==c.2.2.2.1.contains g.1)).map (fun c=>c.2.1)++((b.2.2.2.2.2.take i).filter fun n=>n.1==g.1).map (fun n=>n.2)).length≤2001:=by
    have h3:=dP (fun c:Cmp=>!(c.2.2.1.contains g.1==c.2.2.2.1.contains g.1)) b.2.2.2.2.1;have h4:=dP (fun n:Int×Int=>n.1==g.1) (b.2.2.2.2.2.take i);rw[dv] at h4;simp only[di,eF,dN];omega
   rw[Ô (by simp only[dN]; omega),Am.iff_true]
   cases h:(n.1==g.1) with
   |true =>
    have:ieq n.1 g.1=true:=h;simp[h,this]
   |false =>
    have:ieq n.1 g.1=false:=h;simp[h,this]
  ·try dsimp only
   unfold xc;rw[Ü,List.take_length];rw[show([g.2.1]++(b.2.2.2.2.1.filter fun c=>!(c.2.2.1.contains g.1==c.2.2.2.1.contains g.1)).map (fun c=>c.2.1)++(b.2.2.2.2.2.filter fun n=>n.1==g.1).map (fun n=>n.2))=ahI b g from rfl];dsimp only;rw[Ô (by omega),Am.iff_true,Ô (by rw[ab2]; omega),Am.iff_true,alR];rfl
def Í (b:ß):List (Int×Int):=b.2.1.flatMap fun g=>(ã b g).map fun d=>((g.1,d):Int×Int)
def Js {b:ß} (hs:Η b) (g:ì):(ã b g).length≤2001:=by
 unfold ã;have:=F8 (ahI b g);have:=afk hs g;omega
def xt {α β:Type} (f:α→List β) (n:Nat) (h:∀a,(f a).length≤n):∀l:List α,(l.flatMap f).length≤l.length*n
 |[]=>by simp
 |a::l=>by
  have:=xt f n h l;have:=h a;simp only[ez,di,dn,dJ,fN];omega
def Ym {b:ß} (hs:Η b):rG b=some (Í b):=by
 unfold rG RW;have hg:=hs.gauges
 have hlen:∀l:List ì,(l.flatMap fun g=>(ã b g).map fun d=>((g.1,d):Int×Int)).length≤l.length*2001:=fun l =>
  xt _ 2001 (fun g=>by rw[eF]; exact Js hs g) l
 refine ë b.2.1 (fun i=>(b.2.1.take i).flatMap fun g=>(ã b g).map fun d=>((g.1,d):Int×Int)) _ rfl (fun i g hi hg' kn=>?_) (fun kn=>?_)
 ·try dsimp only
  unfold sX;rw[Ñ hi,Ç hg'];rw[show pP ((b.1.1,b.1.2),b.2.1,b.2.2.1,b.2.2.2.1,b.2.2.2.2.1,b.2.2.2.2.2) g=pP b g from rfl,anx hs,À];have hd:=Js hs g;have hi2:=hlen (b.2.1.take i)
  have htl:(b.2.1.take i).length≤1000:=by rw[dv]; omega
  refine ë (ã b g) (fun j=>((b.2.1.take i).flatMap fun g=>(ã b g).map fun d=>((g.1,d):Int×Int))++((ã b g).take j).map fun d=>((g.1,d):Int×Int)) _ (by simp) (fun j d hj hd' kn'=>?_) (fun kn'=>?_)
  ·try dsimp only
   unfold sW;rw[Ñ hj,Ç hd',Ê hj (by omega),take_succ hd',List.map_append];rw[Ô (by simp only[List.length_append,List.length_map,List.length_take,List.length_singleton]; omega),Am.iff_true];simp
  ·try dsimp only
   unfold sW;rw[Ü,List.take_length];dsimp only;rw[Ê hi (by omega),take_succ hg',List.flatMap_append];simp
 ·try dsimp only
  unfold sX;rw[Ü,List.take_length];rfl
def yX (b:ß) (s:List (Int×ì)):List Int :=
 b.2.2.1.map (fun u=>alq s u.1 u.2)++(b.2.2.2.1.mapIdx (fun i l=>VK b s i l)++(b.2.2.2.2.1.mapIdx (fun i c=>pR b s i c)++b.2.2.2.2.2.map (fun u=>alq s u.1 u.2)))
def ac0 {α:Type} {f:Int→Option Int} {g:Nat→α→Int} (l:List α) (h:∀(i:Nat) (a:α),l[i]?=some a→f i=some (g i a)):PS f (yN l.length)=some (l.mapIdx g):=by
 have h1:∀i,i<l.length→f (i:Int)=some ((l.mapIdx g)[i]?.getD 0):=by
  intro i hi;rw[h i l[i] (df hi)];simp[hi]
 have h2:∀x∈yN l.length,f x=some ((l.mapIdx g)[x.toNat]?.getD 0):=by
  intro x hx;unfold yN at hx;obtain⟨i,hi,rfl⟩:=List.mem_map.1 hx;rw[h1 i (by simpa using hi)];rfl
 rw[GC h2];congr 1;refine List.ext_getElem (by simp[yN]) fun i h3 h4=>?_
 have h5:i<l.length:=by simpa using h4
 simp[yN,h5]
def apq {b:ß} (hs:Η b) (s:List (Int×ì)):oz b s=some (yX b s):=by
 unfold oz yX
 rw[GC (fun u _=>acm s u.1 u.2),À,ac0 b.2.2.2.1 (fun i l hl=>afq hs.loans hs.uses s hl),À,
  ac0 b.2.2.2.2.1 (fun i c hc=>Ta hs.compares hs.loans s (hs.piles c (dl hc)).1 (hs.piles c (dl hc)).2 hc),À,GC (fun u _=>acm s u.1 u.2),À]
def ä (b:ß):Int :=
 if !ku b.1 0 1000000 then 1 else
 if 12<b.2.1.length then 2 else if 40<b.2.2.1.length then 2 else if 12<b.2.2.2.1.length then 2 else if 40<b.2.2.2.2.1.length then 2 else if 10<b.2.2.2.2.2.length then 2 else
 if jR b != 0 then jR b else
 match (yX b (iX b)).find? (fun e=>e != 0) with
 |some e=>e
 |none=>if 59<(Í b).length then 2 else if 300<2*b.2.1.length+2*((Í b).length-b.2.1.length:Int)+2*b.2.2.2.2.1.length then 2 else 0
def J5 {b:ß} (hs:Η b):(Í b).length≤2001000:=by
 have:=xt (fun g:ì=>(ã b g).map fun d=>((g.1,d):Int×Int)) 2001 (fun g=>by rw[List.length_map]; exact Js hs g) b.2.1;have h2:=hs.gauges;unfold Í;omega
def iF {b:ß} (hs:Η b) (hr:∀g∈b.2.1,I64 g.2.2.2.2.1.1):ù b=some (ä b):=by
 unfold ù Sk ä;rw[IX,À]
 cases ku b.1 0 1000000 with
 |false=>rfl
 |true =>
 have h1:=hs.gauges;have h2:=hs.compares;have h3:=J5 hs;rw[Ð (show(!true)=false from rfl),if_neg (by simp)];simp only[Û]
 by_cases c0:12<b.2.1.length
 ·rw[Õ (by simp[igt]; omega),if_pos c0]
 rw[Ð (by simp[igt]; omega),if_neg c0]
 by_cases c1:40<b.2.2.1.length
 ·rw[Õ (by simp[igt]; omega),if_pos c1]
 rw[Ð (by simp[igt]; omega),if_neg c1]
 by_cases c2:12<b.2.2.2.1.length
 ·rw[Õ (by simp[igt]; omega),if_pos c2]
 rw[Ð (by simp[igt]; omega),if_neg c2]
 by_cases c3:40<b.2.2.2.2.1.length
 ·rw[Õ (by simp[igt]; omega),if_pos c3]
 rw[Ð (by simp[igt]; omega),if_neg c3]
 by_cases c4:10<b.2.2.2.2.2.length
 ·rw[Õ (by simp[igt]; omega),if_pos c4]
 rw[Ð (by simp[igt]; omega),if_neg c4];rw[VM hr h1,À]
 cases hm:(jR b != 0) with
 |true =>
  have:ine (jR b) 0=true:=hm;rw[Õ this,if_pos rfl]
 |false =>
 have:ine (jR b) 0=false:=hm;rw[Ð this,if_neg (by simp)];rw[V3 h1,À];unfold ace;rw[apq hs,À]
 cases(yX b (iX b)).find? (fun e=>e != 0) with
 |some e=>rfl
 |none =>
 dsimp only;rw[Ym hs,À]
 by_cases c5:59<(Í b).length
 ·rw[Õ (by simp[igt]; omega),if_pos c5]
 rw[Ð (by simp[igt]; omega),if_neg c5];rw[Ò (by omega) (by omega),Ò (by omega) (by omega),Ò (by omega) (by omega),Ò (by omega) (by omega),Ò (by omega) (by omega),Ò (by omega) (by omega)]
 by_cases c6:300<2*b.2.1.length+2*((Í b).length-b.2.1.length:Int)+2*b.2.2.2.2.1.length
 ·rw[Õ (by simp[igt]; omega),if_pos c6]
 rw[Ð (by simp[igt]; omega),if_neg c6]
def wrapU {n:Nat} (h:n<18446744073709551616):IntKind.wrap .u64 (n:Int)=n:=by
 simp only[IntKind.wrap,IntKind.bits,IntKind.signed];simp;omega
def wrapI {n:Nat} (h:n<9223372036854775808):IntKind.wrap .i64 (n:Int)=n:=by
 simp only[IntKind.wrap,IntKind.bits,IntKind.signed];simp;omega
def jz (l:List (Int×Int)) (x d:Int):Option Nat:=l.findIdx? fun n=>decide (x=n.1)&&decide (d=n.2)
def afQ {l:List (Int×Int)} (hn:l.length≤100000000) (x d:Int):ý l (x,d)=some (match jz l x d with|some j=>(j:Int)|none=>-1):=by
 unfold ý Β;refine Eq.trans (iK l (fun n=>decide (x=n.1)&&decide (d=n.2)) some (some (-1)) (fun i a hi ha kn=>?_) (fun kn=>?_)) ?_
 ·try dsimp only
  unfold ī;rw[Ñ hi,Ç ha,Ê hi (by omega),ĥ,Bool.and_true]
 ·try dsimp only
  unfold ī;rw[Ü]
 ·unfold jz
  cases List.findIdx? (fun n=>decide (x=n.1)&&decide (d=n.2)) l<;>rfl
def atP (l:List (Int×Int)) (p:List Int) (d:Int):Int :=
 match p with
 |[]=>0
 |x::_=>match jz l x d with|some j=>(j:Int)+1|none=>0
def m7 {l:List (Int×Int)} {x d:Int} {j:Nat} (h:jz l x d=some j):j<l.length∧l[j]?=some (x,d):=by
 unfold jz at h;obtain⟨hj,hp,_⟩:=List.findIdx?_eq_some_iff_getElem.1 h;refine⟨hj,?_⟩;rw[List.getElem?_eq_getElem hj];simp only[Bool.and_eq_true,decide_eq_true_eq] at hp;congr 1;exact Prod.ext hp.1.symm hp.2.symm
def aoh (m:Maker) (p:List Int) (d:Int) (hn:m.2.1.length≤100000000):iW m p d=some (atP m.2.1 p d):=by
 unfold iW AW atP
 cases p with
 |nil=>simp[Û,ieq]
 |cons x p =>
  have h:ieq (Ó (x::p)) 0=false:=by
   rw[Û];simp only[ieq,dn,beq_eq_false_iff_ne,ne_eq];omega
  rw[h,Ý,show(0:Int)=((0:Nat):Int) from rfl,Ç (a:=x) rfl,afQ hn,À]
  cases hx:jz m.2.1 x d with
  |none=>dsimp only; rw[Ò (by omega) (by omega)]; simp only[hx]; rfl
  |some j =>
   have:=(m7 hx).1;dsimp only;rw[Ò (by omega) (by omega)];simp only[hx]
def Gc (s:List (Int×ì)) (p:List Int):Int×Int :=
 match p with
 |[]=>(0,1)
 |x::_=>match uF (k:=tI) (v:=Ï) x s with
  |some g=>g.2.2.2.2.1
  |none=>(0,0)
def acd (s:List (Int×ì)) (p:List Int):jr s p=some (Gc s p):=by
 unfold jr oS Gc
 cases p with
 |nil=>simp[Û,ieq]
 |cons x p =>
  have h:ieq (Ó (x::p)) 0=false:=by
   rw[Û];simp only[ieq,dn,beq_eq_false_iff_ne,ne_eq];omega
  rw[h,Ý,show(0:Int)=((0:Nat):Int) from rfl,Ç (a:=x) rfl]
  cases hx:uF (k:=tI) (v:=Ï) x s with
  |none=>simp only[abL,hx]
  |some g=>simp only[abL,hx]
def aij {l:List (Int×Int)} (hr:∀r∈l,I64 r.1) (hn:l.length≤1000):kI l=some (if l.any (fun r=>!Mh r) then 1 else 0):=by
 unfold kI RB;refine Eq.trans (Ĺ l (fun r=>!Mh r) (fun _=>some 1) (some 1) (some 0) (fun _=>rfl) (fun i a hi ha kn=>?_) (fun kn=>?_)) ?_
 ·try dsimp only
  unfold sU;rw[Ñ hi,Ç ha,abB (hr a (List.mem_of_getElem? ha)),À,Ê hi (by omega),ĥ]
 ·try dsimp only
  unfold sU;rw[Ü]
 ·cases l.any (fun r=>!Mh r)<;>rfl
def oJ (n d:Int):Int×Int:=(n / (Nat.gcd n.natAbs d.natAbs:Nat),d / (Nat.gcd n.natAbs d.natAbs:Nat))
def kL (r:Int×Int):Mh r=true↔1≤r.2∧r.2≤2147483647∧(r.1.natAbs:Int)≤2147483647∧Nat.gcd r.1.natAbs r.2.natAbs=1:=by
 simp[Mh]
def BC {n d:Int} (hd:0<d):∃g:Nat,0<g∧g=Nat.gcd n.natAbs d.natAbs∧n=(oJ n d).1*g∧d=(oJ n d).2*g:=by
 have hg:0<Nat.gcd n.natAbs d.natAbs:=Nat.gcd_pos_of_pos_right _ (by omega);refine⟨_,hg,rfl,?_,?_⟩
 ·exact(Int.ediv_mul_cancel (Int.ofNat_dvd_left.2 (Nat.gcd_dvd_left _ _))).symm
 ·exact(Int.ediv_mul_cancel (Int.ofNat_dvd_left.2 (Nat.gcd_dvd_right _ _))).symm
def XY {n d:Int} (hd:0<d) (hn:n.natAbs≤2147483647) (hd2:d≤2147483647):Mh (oJ n d)=true:=by
 obtain⟨g,h0,hg,h1,h2⟩:=BC (n:=n) hd;rw[kL]
 have a1:n.natAbs=(oJ n d).1.natAbs*g:=by conv=>lhs; rw[h1]; rw[fW,fY]
 have a2:d.natAbs=(oJ n d).2.natAbs*g:=by conv=>lhs; rw[h2]; rw[fW,fY]
 have p2:0<(oJ n d).2:=by
  rcases Int.lt_trichotomy (oJ n d).2 0 with h|h|h
  ·have:=Int.mul_neg_of_neg_of_pos h (show(0:Int)<g by omega); omega
  ·rw[h] at h2; simp at h2; omega
  ·exact h
 have b1:(oJ n d).1.natAbs≤n.natAbs:=by rw[a1]; exact gu _ h0
 have b2:(oJ n d).2.natAbs≤d.natAbs:=by rw[a2]; exact gu _ h0
 refine⟨by omega,by omega,by omega,?_⟩;have:=Nat.gcd_mul_right (oJ n d).1.natAbs g (oJ n d).2.natAbs;rw[←a1,←a2,←hg] at this
 have h3:(Nat.gcd (oJ n d).1.natAbs (oJ n d).2.natAbs)*g=1*g:=by omega
 exact Nat.eq_of_mul_eq_mul_right h0 h3
def V8 {n d:Int} (hd:0<d) (hn:n.natAbs≤2147483647) (hd2:d≤2147483647):rE n d=some (oJ n d,0):=by
 obtain⟨g,h0,hg,h1,h2⟩:=BC (n:=n) hd;have hr:=(kL _).1 (XY hd hn hd2);unfold rE FE;rw[XS ⟨by omega,by omega⟩,À,XS ⟨by omega,by omega⟩,À,aq4,À,←hg]
 have a1:n.natAbs=(oJ n d).1.natAbs*g:=by conv=>lhs; rw[h1]; rw[fW,fY]
 have a2:d.natAbs=(oJ n d).2.natAbs*g:=by conv=>lhs; rw[h2]; rw[fW,fY]
 have q1:Int.tdiv (n.natAbs:Int) (g:Int)=((oJ n d).1.natAbs:Int):=by
  rw[a1,ij]; exact gL _ (by omega)
 have q2:Int.tdiv (d.natAbs:Int) (g:Int)=((oJ n d).2.natAbs:Int):=by
  rw[a2,ij]; exact gL _ (by omega)
 have z:Ě (g:Int) 0=false:=by simp[Ě]; omega
 have g1:igt ((oJ n d).1.natAbs:Int) 2147483647=false:=by simp[igt]; omega
 have g2:igt ((oJ n d).2.natAbs:Int) 2147483647=false:=by simp[igt]; omega
 rw[Ð z,Ð z,q1,q2,wrapU (by omega),wrapU (by omega),wrapI (by omega),wrapI (by omega),Ð g1,Ð g2]
 have hd0:ilt d 0=false:=by simp[ilt]; omega
 rw[hd0]
 have e2:((oJ n d).2.natAbs:Int)=(oJ n d).2:=by omega
 rw[e2]
 by_cases hneg:n<0
 ·have hn0:ilt n 0=true:=by simp[ilt,hneg]
  have:(oJ n d).1≤0:=by
   rcases gT 0 (oJ n d).1 with h|h
   ·have:=Int.mul_pos h (show(0:Int)<g by omega); omega
   ·exact h
  rw[hn0];rw[show(!true==false)=true from rfl,Ĕ,Ò (by omega) (by omega)]
  have:0-((oJ n d).1.natAbs:Int)=(oJ n d).1:=by omega
  rw[this]
 ·have hn0:ilt n 0=false:=by simp[ilt]; omega
  have:0≤(oJ n d).1:=by
   rcases gT (oJ n d).1 0 with h|h
   ·have:=Int.mul_neg_of_neg_of_pos h (show(0:Int)<g by omega); omega
   ·exact h
  rw[hn0];rw[show(!false==false)=false from rfl,Ý]
  have:((oJ n d).1.natAbs:Int)=(oJ n d).1:=by omega
  rw[this]
structure rO (r:Int×Int) (n d:Int):Prop where
 rat:Mh r=true
 num : -n≤r.1∧r.1≤n
 den:r.2≤d
def rO.pos {r:Int×Int} {n d:Int} (h:rO r n d):1≤r.2:=((kL r).1 h.rat).1
def rO.i64 {r:Int×Int} {n d:Int} (h:rO r n d):I64 r.1:=by
 have:=((kL r).1 h.rat).2.2.1;exact⟨by omega,by omega⟩
def alB {x y:Int×Int} (hx:Mh x=true) (hy:Mh y=true):kI [x,y]=some 0:=by
 rw[aij]
 ·simp[hx,hy]
 ·intro r hr
  have:Mh r=true:=by simp at hr; rcases hr with rfl|rfl<;>assumption
  have:=((kL r).1 this).2.2.1;exact⟨by omega,by omega⟩
 ·simp
def nI {a b m n:Int} (h1 : -m≤a∧a≤m) (h2 : -n≤b∧b≤n) : -(m*n)≤a*b∧a*b≤m*n:=by
 have hm:0≤m:=by omega
 have hn:0≤n:=by omega
 have h3:(a*b).natAbs≤(m*n).natAbs:=by
  rw[fW,fW];exact gE (by omega) (by omega)
 have h4:0≤m*n:=fG hm hn;omega
def subP (x y:Int×Int):Int×Int:=oJ (x.1*y.2-y.1*x.2) (x.2*y.2)
def JR {x y:Int×Int} (hx:rO x 1000 100) (hy:rO y 1000 100):(x.1*y.2-y.1*x.2).natAbs≤200000∧0<x.2*y.2∧x.2*y.2≤10000:=by
 have h1:=nI hx.num (show -100≤y.2∧y.2≤100 from⟨by have:=hy.pos; omega,hy.den⟩);have h2:=nI hy.num (show -100≤x.2∧x.2≤100 from⟨by have:=hx.pos; omega,hx.den⟩);have h3:=nI (show -100≤x.2∧x.2≤100 from⟨by have:=hx.pos; omega,hx.den⟩) (show -100≤y.2∧y.2≤100 from⟨by have:=hy.pos; omega,hy.den⟩);have h4:=Int.mul_pos (show 0<x.2 by have:=hx.pos; omega) (show 0<y.2 by have:=hy.pos; omega);refine⟨by omega,h4,by omega⟩
def Sub_ok {x y:Int×Int} (hx:rO x 1000 100) (hy:rO y 1000 100):aa8 x y=some (subP x y,0):=by
 obtain⟨b1,b2,b3⟩:=JR hx hy;have h1:=nI hx.num (show -100≤y.2∧y.2≤100 from⟨by have:=hy.pos; omega,hy.den⟩);have h2:=nI hy.num (show -100≤x.2∧x.2≤100 from⟨by have:=hx.pos; omega,hx.den⟩);unfold aa8 ahd;rw[alB hx.rat hy.rat,À];rw[show ine (0:Int) 0=false from rfl,Ý,Ò (by omega) (by omega),Ò (by omega) (by omega),Ò (by omega) (by omega),Ò (by omega) (by omega),V8 b2 (by omega) (by omega),À];rfl
def al5 {n d:Int} (hd:0<d):(oJ n d).1.natAbs≤n.natAbs∧(oJ n d).2≤d:=by
 obtain⟨g,h0,hg,h1,h2⟩:=BC (n:=n) hd
 have a1:n.natAbs=(oJ n d).1.natAbs*g:=by conv=>lhs; rw[h1]; rw[fW,fY]
 have a2:d.natAbs=(oJ n d).2.natAbs*g:=by conv=>lhs; rw[h2]; rw[fW,fY]
 have b1:(oJ n d).1.natAbs≤n.natAbs:=by rw[a1]; exact gu _ h0
 have b2:(oJ n d).2.natAbs≤d.natAbs:=by rw[a2]; exact gu _ h0
 exact⟨b1,by omega⟩
def Pd {x y:Int×Int} (hx:rO x 1000 100) (hy:rO y 1000 100):rO (subP x y) 200000 10000:=by
 obtain⟨b1,b2,b3⟩:=JR hx hy;obtain⟨c1,c2⟩:=al5 (n:=x.1*y.2-y.1*x.2) b2;exact⟨XY b2 (by omega) (by omega),by unfold subP; omega,by unfold subP; omega⟩
def Gz (k:Int×Int) (n:Int):Int×Int:=oJ (k.1*n) k.2
def J6 {k:Int×Int} (hk:rO k 200000 10000) {n:Int} (hn : -10000≤n∧n≤10000):(k.1*n).natAbs≤2000000000:=by
 have:=nI hk.num hn;omega
def aht {n:Int} (hn : -10000≤n∧n≤10000):Mh (n,1)=true:=by
 rw[kL];exact⟨by simp,by simp,by simp; omega,by simp⟩
def ark {k:Int×Int} (hk:rO k 200000 10000) {n:Int} (hn : -10000≤n∧n≤10000):SU k (n,1)=some (Gz k n,0):=by
 have b:=J6 hk hn;have p:=hk.pos;have q:=hk.den;unfold SU ahg;rw[alB hk.rat (aht hn),À];rw[show ine (0:Int) 0=false from rfl,Ý,Ò (by simp only; omega) (by simp only; omega),Int.mul_one,Ò (by omega) (by omega),V8 (by omega) (by simp only; omega) (by omega),À];rfl
def Yp {k:Int×Int} (hk:rO k 200000 10000) {n:Int} (hn : -10000≤n∧n≤10000):rO (Gz k n) 2000000000 10000:=by
 have b:=J6 hk hn;have p:=hk.pos;have q:=hk.den;obtain⟨c1,c2⟩:=al5 (n:=k.1*n) (show 0<k.2 by omega);exact⟨XY (by omega) (by omega) (by omega),by unfold Gz; omega,by unfold Gz; omega⟩
def arb (x y:Int×Int):Int:=if x=y then 0 else if x.1*y.2<y.1*x.2 then -1 else if y.1*x.2<x.1*y.2 then 1 else 0
def ara {x y:Int×Int} {m d:Int} (hx:rO x m d) (hy:rO y m d) (hm:m≤2000000000) (hd:d≤10000):SQ x y=some (arb x y):=by
 have h1:=nI hx.num (show -d≤y.2∧y.2≤d from⟨by have:=hy.pos; have:=hy.den; omega,hy.den⟩);have h2:=nI hy.num (show -d≤x.2∧x.2≤d from⟨by have:=hx.pos; have:=hx.den; omega,hx.den⟩);have h0:0≤m∧0≤d:=⟨by have:=hx.num; omega,by have:=hx.pos; have:=hx.den; omega⟩;have h3:m*d≤2000000000*10000:=Int.mul_le_mul hm hd h0.2 (by omega);unfold SQ aha arb;rw[Ò (by omega) (by omega),Ò (by omega) (by omega)];simp only[ĥ,Bool.and_true,Bool.and_eq_true,decide_eq_true_eq,Ě,ilt,igt,gt_iff_lt];have:(x.1=y.1∧x.2=y.2)↔x=y:=⟨fun h=>Prod.ext h.1 h.2,fun h=>by rw[h]; exact⟨rfl,rfl⟩⟩;simp only[this]
 (repeat' split)<;>rfl
def Yh (k:Int×Int) (heat:Int×Int):(Int×Int)×(Int×Int) :=
 if 0<arb (Gz k heat.1) (Gz k heat.2) then(Gz k heat.2,Gz k heat.1) else(Gz k heat.1,Gz k heat.2)
def arE {k heat:Int×Int} (hk:rO k 200000 10000) (hh:ku heat (-10000) 10000=true):pO k heat=some (Yh k heat):=by
 simp only[ku,Bool.and_eq_true,decide_eq_true_eq] at hh;obtain⟨h1,h2,h3⟩:=hh;have n1 : -10000≤heat.1∧heat.1≤10000:=⟨by omega,by omega⟩;have n2 : -10000≤heat.2∧heat.2≤10000:=⟨by omega,by omega⟩;have r1:rO (heat.1,1) 10000 10000:=⟨aht n1,n1,by simp⟩;have r2:rO (heat.2,1) 10000 10000:=⟨aht n2,n2,by simp⟩;unfold pO wW SS RI t7 tS;rw[alB r1.rat r2.rat,À];have:ieq 0 0=true:=rfl;rw[Õ this,ara r1 r2 (by omega) (by omega),À]
 have hc:ile (arb (heat.1,1) (heat.2,1)) 0=true:=by
  unfold arb;simp only[ile,decide_eq_true_eq,Int.mul_one]
  split
  ·omega
  ·split
   ·omega
   ·rw[if_neg (by omega)]; omega
 rw[hc,À];simp only[Bool.not_true,Ý];rw[abB hk.i64,hk.rat,À];simp only[Bool.not_true,Ý];rw[ark hk n1,À,ark hk n2,À];simp only[show ine (0:Int) 0=false from rfl,Ý];rw[ara (Yp hk n1) (Yp hk n2) (by omega) (by omega),À];unfold Yh;rw[ĥ]
 by_cases h:0<arb (Gz k heat.1) (Gz k heat.2)
 ·rw[if_pos h,if_pos (by simpa[igt] using h)]; rfl
 ·rw[if_neg h,if_neg (by simpa[igt] using h)]; rfl
def rateK (s:List (Int×ì)) (c:Cmp):Int×Int:=subP (Gc s (é c.2.2.1 c.2.2.2.1)) (Gc s (é c.2.2.2.1 c.2.2.1))
def ń (b:ß) (c:Cmp):(Int×Int)×(Int×Int):=Yh (rateK (iX b) c) c.2.2.2.2.2.2
def ae3 {b:ß} (hs:Η b) {c:Cmp} (hA:c.2.2.1.length≤1000) (hB:c.2.2.2.1.length≤1000)
 (h1:rO (Gc (iX b) (é c.2.2.1 c.2.2.2.1)) 1000 100) (h2:rO (Gc (iX b) (é c.2.2.2.1 c.2.2.1)) 1000 100) (hh:ku c.2.2.2.2.2.2 (-10000) 10000=true):ql b c=some (ń b c):=by
 unfold ql Lm;rw[V3 hs.gauges,À,tV (by omega) (by omega),À,acd,À,tV (by omega) (by omega),À,acd,À];unfold xC wX;rw[Sub_ok h1 h2,À,À]
 try dsimp only
 rw[arE (Pd h1 h2) hh,À];rfl
def km (b:ß) (c:Cmp):Int×Int :=
 (((c.2.2.1.length-1:Nat):Int)*b.1.1-((c.2.2.2.1.length-1:Nat):Int)*b.1.2,((c.2.2.1.length-1:Nat):Int)*b.1.2-((c.2.2.2.1.length-1:Nat):Int)*b.1.1)
def ajd {b:ß} {c:Cmp} (hA:c.2.2.1.length≤1000) (hB:c.2.2.2.1.length≤1000) (h1:0≤b.1.1) (h2:b.1.1≤1000000) (h3:0≤b.1.2) (h4:b.1.2≤1000000):vR b c=some (km b c):=by
 unfold vR Sf km
 have e:∀n:Nat,BV 0 ((n:Int)-1)=((n-1:Nat):Int):=by
  intro n;unfold BV
  split<;>omega
 have bd:∀(n:Nat) (x:Int),n≤1000→0≤x→x≤1000000→0≤((n-1:Nat):Int)*x∧((n-1:Nat):Int)*x≤1000000000:=by
  intro n x hn h0 hx;refine⟨fG (by omega) h0,?_⟩;have:=fj (show((n-1:Nat):Int)≤1000 by omega) hx h0 (by omega);omega
 have b1:=bd _ _ hA h1 h2;have b2:=bd _ _ hA h3 h4;have b3:=bd _ _ hB h1 h2;have b4:=bd _ _ hB h3 h4;simp only[Û];rw[Ò (by omega) (by omega),Ò (by omega) (by omega)];simp only[e];rw[Ò (by omega) (by omega),Ò (by omega) (by omega),Ò (by omega) (by omega),Ò (by omega) (by omega),Ò (by omega) (by omega),Ò (by omega) (by omega)]
def aa3 {n d:Int} (hd:1≤d) (hn : -4000000000≤n∧n≤4000000000):vO n d=some (n / d):=by
 unfold vO Ih
 have z:Ě d 0=false:=by simp[Ě]; omega
 rw[Ð z];have t:=Int.mul_tdiv_add_tmod n d
 have b1 : -4000000000≤Int.tdiv n d∧Int.tdiv n d≤4000000000:=by
  have:=Int.natAbs_tdiv_le_natAbs n d;omega
 rw[Ò (by omega) (by omega),Ð z,ĥ]
 by_cases h:Int.tmod n d<0
 ·rw[if_pos (by simpa[ilt] using h),Ò (by omega) (by omega)];congr 1
  have h5 : -d<Int.tmod n d:=by
   have h6:=ik n d;have h7:=gU n.natAbs (show 0<d.natAbs by omega);omega
  refine(gB (by omega)).2 ⟨?_,?_⟩ |>.symm
  ·rw[Int.sub_mul,fZ]; omega
  ·rw[Int.sub_mul,fZ (Int.tdiv n d)]; omega
 ·rw[if_neg (by simpa[ilt] using h)];congr 1
  have h5:Int.tmod n d<d:=by
   have h6:=ik n d;have h7:=gU n.natAbs (show 0<d.natAbs by omega);omega
  refine(gB (by omega)).2 ⟨?_,?_⟩ |>.symm
  ·rw[fZ]; omega
  ·rw[fZ (Int.tdiv n d)]; omega
def aqS {x:Int×Int} (hx:Mh x=true):kI [x]=some 0:=by
 rw[aij]
 ·simp[hx]
 ·intro r hr
  have:Mh r=true:=by simp at hr; subst hr; assumption
  have:=((kL r).1 this).2.2.1;exact⟨by omega,by omega⟩
 ·simp
def LW (r:Int×Int):Int:=-(-r.1 / r.2)
def ajQ {r:Int×Int} (h:Mh r=true):Bi r=some (r.1 / r.2,0):=by
 unfold Bi RK;have:=(kL r).1 h;rw[aqS h,À];rw[show ine (0:Int) 0=false from rfl,Ý,aa3 (by omega) (by omega),À]
def LO {n d:Int} (hd:1≤d):(n / d).natAbs≤n.natAbs:=by
 exact Int.natAbs_ediv_le_natAbs n d
def aoN {r:Int×Int} (h:Mh r=true):Jl r=some (LW r,0):=by
 unfold Jl aak LW;have:=(kL r).1 h;rw[aqS h,À];rw[show ine (0:Int) 0=false from rfl,Ý,Ò (by omega) (by omega),aa3 (by omega) (by omega),À];have hb:=LO (n:=0-r.1) (show 1≤r.2 by omega);rw[Ò (by omega) (by omega),Int.zero_sub,Int.zero_sub]
def ζ (b:ß) (c:Cmp):Int×Int :=
 (c.2.2.2.2.1-c.2.2.2.2.2.1-(km b c).2-(ń b c).2.1 / (ń b c).2.2,c.2.2.2.2.1+c.2.2.2.2.2.1-(km b c).1-LW (ń b c).1)
structure Ğ (b:ß):Prop where
 film:0≤b.1.1∧b.1.1≤b.1.2∧b.1.2≤1000000
 nG:b.2.1.length≤12
 nU:b.2.2.1.length≤40
 nL:b.2.2.2.1.length≤12
 nC:b.2.2.2.2.1.length≤40
 nK:b.2.2.2.2.2.length≤10
 gauge:∀g∈b.2.1,rl g=true
 ids:b.2.1.Pairwise fun a b=>a.1<b.1
 uses:∀u∈b.2.2.1,alq (iX b) u.1 u.2=0
 loans:∀i l,b.2.2.2.1[i]?=some l→VK b (iX b) i l=0
 compares:∀i c,b.2.2.2.2.1[i]?=some c→pR b (iX b) i c=0
 looks:∀u∈b.2.2.2.2.2,alq (iX b) u.1 u.2=0
 nodes:(Í b).length≤59
 links:2*(Í b).length+2*b.2.2.2.2.1.length≤300
def xn (b:ß):jR b=0↔(∀g∈b.2.1,rl g=true)∧b.2.1.Pairwise fun a b=>a.1<b.1:=by
 have h0:Ħ (pk b.2.1) 0 b.2.1=none↔(∀g∈b.2.1,rl g=true)∧b.2.1.Pairwise fun a b=>a.1<b.1:=by
  rw[jf,←abu (fun g:ì=>g.1) b.2.1];constructor
  ·intro h
   have h1:∀(j:Nat) (a:ì),b.2.1[j]?=some a→rl a=true∧Br (fun g:ì=>g.1) b.2.1 j a=false:=by
    intro j a ha;have:=h j a ha;rw[Nat.zero_add] at this;unfold pk at this
    split at this
    ·cases this
    ·split at this
     ·cases this
     ·rename_i h1 h2;exact⟨by simpa using h1,by simpa using h2⟩
   refine⟨fun x hx=>?_,fun i a ha=>(h1 i a ha).2⟩;obtain⟨j,hj,rfl⟩:=dz.1 hx;exact(h1 j _ (df hj)).1
  ·rintro⟨h1,h2⟩ j a ha;rw[dC];simp[pk,h1 a (dl ha),h2 j a ha]
 rw[←h0];unfold jR
 cases h:Ħ (pk b.2.1) 0 b.2.1 with
 |none=>simp
 |some e =>
  have:∀(m:List ì) (j:Nat) (x:Int),Ħ (pk b.2.1) j m=some x→x≠0:=by
   intro m
   induction m with
   |nil=>intro j x h; cases h
   |cons a m ih =>
    intro j x h;unfold Ħ at h
    cases hp:pk b.2.1 j a with
    |none=>rw[hp] at h; exact ih _ _ h
    |some y =>
     rw[hp] at h;cases h;unfold pk at hp
     split at hp
     ·cases hp; omega
     ·split at hp
      ·cases hp; omega
      ·cases hp
  simp[this _ _ _ h]
def ð (b:ß):ä b=0↔Ğ b:=by
 unfold ä;constructor
 ·intro h
  split at h
  ·omega
  rename_i h1
  (repeat' split at h)<;>try omega
  ·rename_i hg
   have hg':jR b≠0:=by simpa using hg
   exact(hg' h).elim
  ·rename_i hf;have:=gw hf;rename_i e;simp at this;exact(this h).elim
  ·rename_i hn1 hn2 hn3 hn4 hn5 hg e hf hn6 hn7
   have hg0:jR b=0:=by simpa using hg
   obtain⟨g1,g2⟩:=(xn b).1 hg0
   have hall:∀x∈yX b (iX b),x=0:=fun x hx=>by
    have:=eT.1 hf x hx;simpa using this
   simp only[yX,dk] at hall
   have hs:ku b.1 0 1000000=true:=by simpa using h1
   simp only[ku,dh,decide_eq_true_eq] at hs;refine⟨⟨hs.1,hs.2.1,hs.2.2⟩,by omega,by omega,by omega,by omega,by omega,g1,g2,fun u hu=>hall _ (.inl (dZ.2 ⟨u,hu,rfl⟩)),fun i l hl=>?_,fun i c hc=>?_,fun u hu=>hall _ (.inr (.inr (.inr (dZ.2 ⟨u,hu,rfl⟩)))),by omega,by omega⟩
   ·obtain⟨hi,rfl⟩:=dj.1 hl;exact hall _ (.inr (.inl (ii.2 ⟨i,hi,rfl⟩)))
   ·obtain⟨hi,rfl⟩:=dj.1 hc;exact hall _ (.inr (.inr (.inl (ii.2 ⟨i,hi,rfl⟩))))
 ·intro h
  have hs:ku b.1 0 1000000=true:=by simp[ku,h.film.1,h.film.2.1,h.film.2.2]
  have hg:jR b=0:=(xn b).2 ⟨h.gauge,h.ids⟩
  have hall:(yX b (iX b)).find? (fun e=>e != 0)=none:=by
   rw[eT];intro x hx;simp only[yX,dk,dZ,ii] at hx
   have:x=0:=by
    rcases hx with⟨u,hu,rfl⟩|⟨i,hi,rfl⟩|⟨i,hi,rfl⟩|⟨u,hu,rfl⟩
    ·exact h.uses u hu
    ·exact h.loans i _ (df hi)
    ·exact h.compares i _ (df hi)
    ·exact h.looks u hu
   simp[this]
  have:=h.nG; have:=h.nU; have:=h.nL; have:=h.nC; have:=h.nK; have:=h.nodes; have:=h.links;rw[hs,hg,hall];simp only[dT,dw,if_false,bne_self_eq_false];rw[if_neg (by omega),if_neg (by omega),if_neg (by omega),if_neg (by omega),if_neg (by omega),if_neg (by omega),if_neg (by omega)]
section
variable {b:ß}
def Ļ {l:List Int} (h:Ů l=true):l.length≤6:=((yV l).1 h).2.2
def Ğ.nums (h:Ğ b) {c:Cmp} (hc:c∈b.2.2.2.2.1):Nn c=true:=by
 obtain⟨i,hi,rfl⟩:=List.mem_iff_getElem.1 hc;have:=h.compares i _ (List.getElem?_eq_getElem hi);unfold pR at this
 split at this
 ·omega
 ·rename_i h; simpa using h
def Ğ.pilesOf (h:Ğ b) {c:Cmp} (hc:c∈b.2.2.2.2.1):C5 b (iX b) c=0:=by
 obtain⟨i,hi,rfl⟩:=List.mem_iff_getElem.1 hc;have:=h.compares i _ (List.getElem?_eq_getElem hi);unfold pR at this
 split at this
 ·omega
 ·split at this
  ·omega
  ·exact this
def η (c:Cmp):Nn c=true↔(1≤c.1∧c.1≤1099511627776)∧(0≤c.2.1∧c.2.1≤20000)∧(-1125899906842624≤c.2.2.2.2.1∧c.2.2.2.2.1≤1125899906842624)∧(0≤c.2.2.2.2.2.1∧c.2.2.2.2.2.1≤1073741824)∧ku c.2.2.2.2.2.2 (-10000) 10000=true∧Ů c.2.2.1=true∧Ů c.2.2.2.1=true:=by
 simp[Nn,inP,uh,and_assoc]
def Ğ.size (h:Ğ b):Η b:=by
 have h1:=h.nG; have h2:=h.nU; have h3:=h.nL; have h4:=h.nC; have h5:=h.nK;refine⟨by omega,by omega,by omega,by omega,by omega,fun c hc=>?_⟩;have:=(η c).1 (h.nums hc);have a:=Ļ this.2.2.2.2.2.1;have b:=Ļ this.2.2.2.2.2.2;omega
def vD (g:ì):rl g=true↔Mh g.2.2.2.2.1=true∧(-1000≤g.2.2.2.2.1.1∧g.2.2.2.2.1.1≤1000)∧g.2.2.2.2.1.2≤100∧(1≤g.1∧g.1≤1099511627776)∧(0≤g.2.1∧g.2.1≤20000)∧(1≤g.2.2.1∧g.2.2.1≤1125899906842624)∧(-1073741824≤g.2.2.2.1.1∧g.2.2.2.1.1≤g.2.2.2.1.2∧g.2.2.2.1.2≤1073741824)∧(0≤g.2.2.2.2.2∧g.2.2.2.2.2≤1048576):=by
 simp[rl,inP,uh,ku,and_assoc]
def td {id:Int} {g:ì} (h:ŷ b id=some g):g∈b.2.1∧g.1=id:=by
 unfold ŷ at h;exact⟨List.mem_of_find?_eq_some h,by simpa using List.find?_some h⟩
def xo (hi:b.2.1.Pairwise fun a b=>a.1<b.1) {g:ì} (hg:g∈b.2.1):ŷ b g.1=some g:=by
 unfold ŷ
 induction hl:b.2.1 generalizing b with
 |nil=>rw[hl] at hg; cases hg
 |cons a t ih =>
  rw[hl] at hg hi;rw[dQ] at hi;rw[gP];rcases dm.1 hg with rfl|hg
  ·simp
  ·have h1:=hi.1 g hg
   have:(a.1==g.1)=false:=by simp; omega
   rw[this];have:=ih (b:=(b.1,t,b.2.2)) hi.2 hg rfl;exact this
def WD (h:Ğ b) {id day:Int} (hm:nW (iX b) id day=0):∃g,ŷ b id=some g∧g.2.1≤day:=by
 unfold nW at hm;rw[BI h.ids] at hm
 split at hm
 ·rename_i g hg
  split at hm
  ·omega
  ·exact⟨g,hg,by omega⟩
 ·omega
def PT (s:List (Int×ì)) (id day:Int):nW s id day=0∨nW s id day=4∨nW s id day=5:=by
 unfold nW
 split
 ·split<;>simp
 ·simp
def Ğ.pile (h:Ğ b) {c:Cmp} (hc:c∈b.2.2.2.2.1) {x:Int} (hx:x∈c.2.2.1++c.2.2.2.1):(∃g,ŷ b x=some g∧g.2.1≤c.2.1)∧mz b x c.2.1=none:=by
 have hp:=h.pilesOf hc;unfold C5 at hp
 split at hp
 ·omega
 rename_i h5
 split at hp
 ·omega
 rename_i h4
 split at hp
 ·omega
 rename_i h9;have a5:=(fo.1 (fg.2 h5)) x hx;have a4:=(fo.1 (fg.2 h4)) x hx;have a9:=(fo.1 (fg.2 h9)) x hx;simp at a5 a4 a9;refine⟨WD h ?_,a9⟩;rcases PT (iX b) x c.2.1 with h0|h0|h0
 ·exact h0
 ·exact(a4 h0).elim
 ·exact(a5 h0).elim
def Ğ.lefts (h:Ğ b) {c:Cmp} (hc:c∈b.2.2.2.2.1):(é c.2.2.1 c.2.2.2.1).length≤1∧(é c.2.2.2.1 c.2.2.1).length≤1∧(é c.2.2.1 c.2.2.2.1).length+(é c.2.2.2.1 c.2.2.1).length≠0:=by
 have hp:=h.pilesOf hc;unfold C5 at hp
 (repeat' split at hp)<;>first|omega|exact⟨by omega,by omega,by omega⟩
def kD {a c:List Int} {x:Int}:x∈é a c↔x∈a∧x∉c:=by
 simp[é]
def Ğ.rate (h:Ğ b) {p:List Int} (hp:∀x∈p,∃g,ŷ b x=some g):rO (Gc (iX b) p) 1000 100:=by
 unfold Gc
 cases p with
 |nil =>
  have:rO (0,1) 1000 100:=⟨by decide,by decide,by decide⟩;exact this
 |cons x t =>
  obtain⟨g,hg⟩:=hp x (by simp)
  try dsimp only
  rw[BI h.ids,hg];have:=(vD g).1 (h.gauge g (td hg).1);exact⟨this.1,this.2.1,this.2.2.1⟩
def Ğ.rates (h:Ğ b) {c:Cmp} (hc:c∈b.2.2.2.2.1):rO (Gc (iX b) (é c.2.2.1 c.2.2.2.1)) 1000 100∧rO (Gc (iX b) (é c.2.2.2.1 c.2.2.1)) 1000 100:=by
 constructor
 ·exact h.rate fun x hx=>by
   obtain⟨⟨g,hg,_⟩,_⟩:=h.pile hc (eM _ (kD.1 hx).1);exact⟨g,hg⟩
 ·exact h.rate fun x hx=>by
   obtain⟨⟨g,hg,_⟩,_⟩:=h.pile hc (ee _ (kD.1 hx).1);exact⟨g,hg⟩
def Ğ.growth (h:Ğ b) {c:Cmp} (hc:c∈b.2.2.2.2.1):ql b c=some (ń b c):=by
 obtain⟨r1,r2⟩:=h.rates hc;have hn:=(η c).1 (h.nums hc);have a:=Ļ hn.2.2.2.2.2.1;have b:=Ļ hn.2.2.2.2.2.2;exact ae3 h.size (by omega) (by omega) r1 r2 hn.2.2.2.2.1
def Ğ.films (h:Ğ b) {c:Cmp} (hA:c.2.2.1.length≤1000) (hB:c.2.2.2.1.length≤1000):vR b c=some (km b c):=by
 have:=h.film;exact ajd hA hB (by omega) (by omega) (by omega) (by omega)
def Yg {k heat:Int×Int} (hk:rO k 200000 10000) (hh:ku heat (-10000) 10000=true):rO (Yh k heat).1 2000000000 10000∧rO (Yh k heat).2 2000000000 10000:=by
 simp only[ku,Bool.and_eq_true,decide_eq_true_eq] at hh;have r1:=Yp hk (n:=heat.1) ⟨by omega,by omega⟩;have r2:=Yp hk (n:=heat.2) ⟨by omega,by omega⟩;unfold Yh
 split
 ·exact⟨r2,r1⟩
 ·exact⟨r1,r2⟩
def xu {c:Cmp} (hA:c.2.2.1.length≤1000) (hB:c.2.2.2.1.length≤1000) (h1:0≤b.1.1) (h2:b.1.1≤1000000) (h3:0≤b.1.2) (h4:b.1.2≤1000000) :
 (-1000000000≤(km b c).1∧(km b c).1≤1000000000)∧(-1000000000≤(km b c).2∧(km b c).2≤1000000000):=by
 have bd:∀(n:Nat) (x:Int),n≤1000→0≤x→x≤1000000→0≤((n-1:Nat):Int)*x∧((n-1:Nat):Int)*x≤1000000000:=by
  intro n x hn h0 hx;refine⟨fG (by omega) h0,?_⟩;have:=fj (show((n-1:Nat):Int)≤1000 by omega) hx h0 (by omega);omega
 have b1:=bd _ _ hA h1 h2;have b2:=bd _ _ hA h3 h4;have b3:=bd _ _ hB h1 h2;have b4:=bd _ _ hB h3 h4;unfold km
 try dsimp only
 omega
def xq {r:Int×Int} (h:rO r 2000000000 10000) : -2000000000≤r.1 / r.2∧r.1 / r.2≤2000000000:=by
 have:=LO (n:=r.1) h.pos;have:=h.num;omega
def Cm {r:Int×Int} (h:rO r 2000000000 10000) : -2000000000≤LW r∧LW r≤2000000000:=by
 have:=LO (n:=-r.1) h.pos;have:=h.num;unfold LW;omega
def Ğ.says (h:Ğ b) {c:Cmp} (hc:c∈b.2.2.2.2.1):xB b c=some (ζ b c):=by
 obtain⟨r1,r2⟩:=h.rates hc;have hn:=(η c).1 (h.nums hc);have ha:=Ļ hn.2.2.2.2.2.1;have hb:=Ļ hn.2.2.2.2.2.2;have hf:=h.film;obtain⟨g1,g2⟩:=Yg (Pd r1 r2) hn.2.2.2.2.1;have fb:=xu (b:=b) (c:=c) (by omega) (by omega) (by omega) (by omega) (by omega) (by omega);have q1:rO (ń b c).1 2000000000 10000:=g1;have q2:rO (ń b c).2 2000000000 10000:=g2;have c1:=Cm q1;have c2:=xq q2;unfold xB aaq ζ;rw[h.growth hc,À,h.films (by omega) (by omega),À,ajQ q2.rat,À,aoN q1.rat,À]
 try dsimp only
 have n3:=hn.2.2.1;have n4:=hn.2.2.2.1;rw[Ò (by omega) (by omega),Ò (by omega) (by omega),Ò (by omega) (by omega),Ò (by omega) (by omega),Ò (by omega) (by omega),Ò (by omega) (by omega)]
end
def Ĝ (l:M9) (f t:Int):Int:=min l.2.1.2 (t-1)-max l.2.1.1 f+1
def Ľ (id f t:Int):List M9→Int
 |[]=>0
 |l::r=>(if l.1=id∧0<Ĝ l f t then Ĝ l f t*l.2.2 else 0)+Ľ id f t r
def A1 (id f t:Int):∀(x y:List M9),Ľ id f t (x++y)=Ľ id f t x+Ľ id f t y
 |[],y=>by simp[Ľ]
 |l::r,y=>by
  simp only[fk,Ľ,A1 id f t r y];omega
def jy (b:ß) (id f t:Int):List Int:=(b.2.2.1.filter fun u=>u.1==id&&inP u.2 f (t-1)).map fun u=>u.2
def jq (b:ß) (g:ì) (f t:Int):Int:=Ľ g.1 f t b.2.2.2.1+(ab6 (jy b g.1 f t)).length*g.2.2.2.2.2
def tX (a c:Int):yK a c=min a c:=by unfold yK; split<;>omega
def SA (a c:Int):BV a c=max a c:=by unfold BV; split<;>omega
def Lv {b:ß} (h:Ğ b) {l:M9} (hl:l∈b.2.2.2.1):(0≤l.2.1.1∧l.2.1.1≤l.2.1.2∧l.2.1.2≤20000)∧(0≤l.2.2∧l.2.2≤1048576):=by
 obtain⟨i,hi,rfl⟩:=List.mem_iff_getElem.1 hl;have:=h.loans i _ (List.getElem?_eq_getElem hi);unfold VK at this
 split at this
 ·omega
 rename_i h1
 split at this
 ·omega
 rename_i h2;simp only[ff,Bool.not_eq_false,ku,inP,dh,decide_eq_true_eq] at h1 h2;exact⟨h1,h2⟩
def W4 {l:M9} (h:(0≤l.2.1.1∧l.2.1.1≤l.2.1.2∧l.2.1.2≤20000)∧(0≤l.2.2∧l.2.2≤1048576)) {f t:Int} (hf:0≤f) (hd:0<Ĝ l f t):0≤Ĝ l f t*l.2.2∧Ĝ l f t*l.2.2≤20001*1048576:=by
 refine⟨Int.mul_nonneg (by omega) h.2.1,Int.mul_le_mul ?_ h.2.2 h.2.1 (by omega)⟩;unfold Ĝ;omega
def tU {id f t:Int} (hf:0≤f):∀{x:List M9},(∀l∈x,(0≤l.2.1.1∧l.2.1.1≤l.2.1.2∧l.2.1.2≤20000)∧(0≤l.2.2∧l.2.2≤1048576))→0≤Ľ id f t x∧Ľ id f t x≤x.length*(20001*1048576)
 |[],_=>by simp[Ľ]
 |l::r,h=>by
  have ih:=tU (id:=id) (t:=t) hf (x:=r) fun l hl=>h l (by simp[hl]);simp only[Ľ,dn,gI,fX,gA]
  split
  ·rename_i hc;have:=W4 (h l (by simp)) hf hc.2;omega
  ·omega
def arO {b:ß} (h:Ğ b) {g:ì} (hg:0≤g.2.2.2.2.2∧g.2.2.2.2.2≤1048576) {f t:Int} (hf:0≤f∧f≤100000) (ht:0≤t∧t≤100000):Ce b g f t=some (jq b g f t):=by
 have hL:=h.nL;have hU:=h.nU
 have hlb:∀i,0≤Ľ g.1 f t (b.2.2.2.1.take i)∧Ľ g.1 f t (b.2.2.2.1.take i)≤12*(20001*1048576):=by
  intro i;have h1:=tU (id:=g.1) (t:=t) hf.1 (x:=b.2.2.2.1.take i) fun l hl=>Lv h (gh hl);have h2:((b.2.2.2.1.take i).length:Int)*(20001*1048576)≤12*(20001*1048576):=fu (by rw[dv]; omega) (by omega);omega
 unfold Ce aau;refine Ĭ (fun x:Int×Int=>∃i:Nat,i≤b.2.2.2.1.length∧x=(Ľ g.1 f t (b.2.2.2.1.take i),(i:Int))) (fun x=>b.2.2.2.1.length-x.2.toNat) ?_ ⟨0,by omega,rfl⟩;rintro x ⟨i,hi,rfl⟩;rcases Nat.lt_or_ge i b.2.2.2.1.length with hlt|hge
 ·have hl:b.2.2.2.1[i]?=some b.2.2.2.1[i]:=df hlt;have hz:=Lv h (dl hl);refine .inr ⟨(Ľ g.1 f t (b.2.2.2.1.take (i+1)),(i:Int)+1),⟨i+1,hlt,by simp⟩,by simp; omega,fun kn=>?_⟩
  try dsimp only
  unfold xa;have b1:=hlb i;have b2:=hlb (i+1)
  have e1:Ľ g.1 f t (b.2.2.2.1.take (i+1))=Ľ g.1 f t (b.2.2.2.1.take i)+(if b.2.2.2.1[i].1=g.1∧0<Ĝ b.2.2.2.1[i] f t then Ĝ b.2.2.2.1[i] f t*b.2.2.2.1[i].2.2 else 0):=by
   rw[take_succ hl,A1]; simp[Ľ]
  rw[Ñ hlt,Ç hl,Ò (by omega) (by omega),tX,SA,Ò (by omega) (by omega),Ò (by omega) (by omega)];rw[show min b.2.2.2.1[i].2.1.2 (t-1)-max b.2.2.2.1[i].2.1.1 f+1=Ĝ b.2.2.2.1[i] f t from rfl,ĥ]
  by_cases hid:b.2.2.2.1[i].1=g.1
  ·rw[if_pos (by simpa[ieq] using hid),ĥ]
   by_cases hd:0<Ĝ b.2.2.2.1[i] f t
   ·have lb:=W4 hz hf.1 hd;rw[if_pos ⟨hid,hd⟩] at e1;rw[if_pos (by simpa[igt] using hd),Ò (by omega) (by omega),Ò (by omega) (by omega),Ê hlt (by omega),e1]
   ·rw[if_neg (fun hc=>hd hc.2)] at e1;rw[if_neg (by simpa[igt] using hd),Ê hlt (by omega),e1,gn]
  ·rw[if_neg (fun hc=>hid hc.1)] at e1;rw[if_neg (by simpa[ieq] using hid),Ê hlt (by omega),e1,gn]
 ·refine .inl fun kn=>?_
  have:i=b.2.2.2.1.length:=by omega
  subst this
  try dsimp only
  unfold xa;rw[Ü,List.take_length]
  have hud:∀x:List (Int×Int),x.length≤40→((x.filter fun u=>u.1==g.1&&inP u.2 f (t-1)).map fun u=>u.2).length≤40:=by
   intro x hx;rw[eF];exact dL (dP _ _) hx
  refine ë b.2.2.1 (fun i=>((b.2.2.1.take i).filter fun u=>u.1==g.1&&inP u.2 f (t-1)).map fun u=>u.2) _ rfl (fun i u hi hu kn'=>?_) (fun kn'=>?_)
  ·try dsimp only
   unfold w9;have hx:=hud (b.2.2.1.take i) (by rw[List.length_take]; omega);rw[Ñ hi,Ç hu,Ò (by omega) (by omega),iG,À,Ô (by simp only[List.length_singleton]; omega),Am.iff_true,Ê hi (by omega),Ê hi (by omega),take_succ hu,List.filter_append,List.map_append]
   cases h1:(u.1==g.1) with
   |false =>
    have:ieq u.1 g.1=false:=h1;simp only[this,Ý,eo,h1,Bool.false_and,dw,if_false,eE,fO,dU]
   |true =>
    have:ieq u.1 g.1=true:=h1;rw[this]
    cases h2:inP u.2 f (t-1) with
    |false=>simp only[Ĕ,Ý,eo,h1,h2,dW,dw,if_false,eE,fO,dU]
    |true=>simp only[Ĕ,eo,h1,h2,dW,if_true,eE,fO,fh]
  ·try dsimp only
   unfold w9;rw[Ü,List.take_length];rw[show((b.2.2.1.filter fun u=>u.1==g.1&&inP u.2 f (t-1)).map fun u=>u.2)=jy b g.1 f t from rfl];have h40:(jy b g.1 f t).length≤40:=hud _ hU
   have hc40:(ab6 (jy b g.1 f t)).length≤40:=by
    have:=F8 (jy b g.1 f t);omega
   have hm:0≤((ab6 (jy b g.1 f t)).length:Int)*g.2.2.2.2.2∧((ab6 (jy b g.1 f t)).length:Int)*g.2.2.2.2.2≤40*1048576 :=
    ⟨fG (by omega) hg.1,fj (by omega) hg.2 hg.1 (by omega)⟩
   have b1:=hlb b.2.2.2.1.length;rw[List.take_length] at b1;dsimp only;rw[Ô (by omega),Am.iff_true,Ô (by rw[ab2]; omega),Am.iff_true,alR,Û,Ò (by omega) (by omega),Ò (by omega) (by omega)];rfl
abbrev Lk:Type:=Int×Int×Int
inductive Wl (L:List Lk) (S:Int→Prop):List Int→Int→Int→Prop
 |nil {v:Int}:S v→Wl L S [] v 0
 |step {vs:List Int} {u v m d:Int}:Wl L S vs u d→(u,v,m)∈L→Wl L S (u::vs) v (d+m)
def Pot (L:List Lk) (p:Int→Int):Prop:=∀u v m,(u,v,m)∈L→p v≤p u+m
def InR (L:List Lk) (N:Nat):Prop:=∀l∈L,(0≤l.1∧l.1<N)∧(0≤l.2.1∧l.2.1<N)
section
variable {L:List Lk} {S:Int→Prop} {N:Nat} {p:Int→Int}
def Wl.cut (hp:Pot L p) {vs:List Int} {v d:Int} (h:Wl L S vs v d):∀x∈vs,∃vs1 d1,Wl L S vs1 x d1∧(x::vs1) <:+ vs∧d1+(p v-p x)≤d:=by
 induction h with
 |nil h=>intro x hx; cases hx
 | @step vs u v m d hw hl ih =>
  intro x hx;have h1:=hp u v m hl;rcases dm.1 hx with rfl|hx
  ·exact⟨vs,d,hw,List.suffix_refl _,by omega⟩
  ·obtain⟨vs1,d1,g1,g2,g3⟩:=ih x hx;exact⟨vs1,d1,g1,g2.trans (List.suffix_cons _ _),by omega⟩
def Wl.simple (hp:Pot L p) {vs:List Int} {v d:Int} (h:Wl L S vs v d):∃vs' d',Wl L S vs' v d'∧d'≤d∧(v::vs').Nodup:=by
 induction h with
 |nil h=>exact⟨[],0,.nil h,dR _,by simp⟩
 | @step vs u v m d hw hl ih =>
  obtain⟨vs1,d1,g1,g2,g3⟩:=ih;have hw1:=Wl.step g1 hl
  by_cases hv:v∈u::vs1
  ·obtain⟨vs2,d2,k1,k2,k3⟩:=hw1.cut hp v hv;exact⟨vs2,d2,k1,by omega,g3.sublist k2.sublist⟩
  ·exact⟨u::vs1,d1+m,hw1,by omega,f8.2 ⟨hv,g3⟩⟩
def Wl.range (hL:InR L N) (hS:∀v,S v→0≤v∧v<N) {vs:List Int} {v d:Int} (h:Wl L S vs v d):(0≤v∧v<N)∧∀u∈vs,0≤u∧u<N:=by
 induction h with
 |nil h=>exact⟨hS _ h,fun u hu=>by cases hu⟩
 | @step vs u v m d hw hl ih =>
  refine⟨(hL _ hl).2,fun w hw'=>?_⟩;rcases dm.1 hw' with rfl|h
  ·exact ih.1
  ·exact ih.2 w h
def aiE:∀(N:Nat) (l:List Int),l.Nodup→(∀x∈l,0≤x∧x<N)→l.length≤N
 |0,l,_,h=>by
  cases l with
  |nil=>simp
  |cons a l=>have:=h a (by simp); omega
 |N+1,l,hn,h=>by
  have h1:(l.erase (N:Int)).length≤N:=aiE N _ (hn.erase _) fun x hx=>by
   have h2:=(hn.mem_erase_iff).1 hx;have:=h x h2.2;have:=h2.1;omega
  have:=List.length_erase (a:=(N:Int)) (l:=l)
  split at this<;>omega
def Wl.short (hL:InR L N) (hS:∀v,S v→0≤v∧v<N) {vs:List Int} {v d:Int} (h:Wl L S vs v d) (hn:(v::vs).Nodup):vs.length+1≤N:=by
 have:=h.range hL hS
 exact aiE N (v::vs) hn fun x hx=>by
  rcases dm.1 hx with rfl|hx
  ·exact this.1
  ·exact this.2 x hx
def No (f:Lk→Bool):List Lk→Int
 |[]=>0
 |l::t=>(if f l then min l.2.2 0 else 0)+No f t
def amv (f:Lk→Bool):∀L:List Lk,No (fun _=>true) L≤No f L
 |[]=>dR _
 |l::t=>by
  have:=amv f t;simp only[No,if_true]
  split<;>omega
def wg (f:Lk→Bool):∀L:List Lk,No f L≤0
 |[]=>dR _
 |l::t=>by
  have:=wg f t;simp only[No]
  split<;>omega
def aiT {f:Lk→Bool} {l:Lk} (hf:f l=true):∀{L:List Lk},l∈L→No f L≤l.2.2
 |a::t,h=>by
  simp only[No];rcases dm.1 h with rfl|h
  ·have:=wg f t;rw[if_pos hf]; omega
  ·have:=aiT hf h
   split<;>omega
def amu {f g:Lk→Bool} (h:∀l,f l=true→g l=false):∀L:List Lk,No (fun l=>f l||g l) L=No f L+No g L
 |[]=>rfl
 |l::t=>by
  have ih:=amu h t;simp only[No,ih]
  by_cases hf:f l=true
  ·simp[hf,h l hf]; omega
  ·have hf':f l=false:=by simpa using hf
   by_cases hg:g l=true
   ·simp[hf',hg]; omega
   ·simp[hf',hg]
def Wl.low {vs:List Int} {v d:Int} (h:Wl L S vs v d):vs.Nodup→No (fun l=>vs.contains l.1) L≤d:=by
 induction h with
 |nil h=>intro _; exact wg _ _
 | @step vs u v m d hw hl ih =>
  intro hn;rw[f8] at hn;have h1:=ih hn.2;have h2:No (fun l=>l.1==u) L≤m:=aiT (f:=fun l=>l.1==u) (l:=(u,v,m)) (by simp) hl
  have h3:=amu (f:=fun l:Lk=>l.1==u) (g:=fun l=>vs.contains l.1) (fun l hf=>by
   simp only[beq_iff_eq] at hf;rw[hf]
   simpa using hn.1) L
  have h4:(fun l:Lk=>(u::vs).contains l.1)=fun l=>(l.1==u)||vs.contains l.1:=by funext l; rw[List.contains_cons]
  rw[h4,h3];omega
def OL (L:List Lk):Int:=No (fun _=>true) L
def Wl.low' (hp:Pot L p) {vs:List Int} {v d:Int} (h:Wl L S vs v d):OL L≤d:=by
 obtain⟨vs',d',h1,h2,h3⟩:=h.simple hp;have:=h1.low (List.nodup_cons.1 h3).2;have:=amv (fun l=>vs'.contains l.1) L;unfold OL;omega
def Wl.high {M:Int} (hM:∀l∈L,l.2.2≤M) {vs:List Int} {v d:Int} (h:Wl L S vs v d):d≤vs.length*M:=by
 induction h with
 |nil h=>simp
 | @step vs u v m d hw hl ih =>
  have:=hM _ hl;simp only[dn,gI,fX,gA];simp only at this;omega
def Wl.lowM {M:Int} (hM:∀l∈L,-M≤l.2.2) {vs:List Int} {v d:Int} (h:Wl L S vs v d) : -(vs.length*M)≤d:=by
 induction h with
 |nil h=>simp
 | @step vs u v m d hw hl ih =>
  have:=hM _ hl;simp only[dn,gI,fX,gA];simp only at this;omega
def Wl.mono {S':Int→Prop} (hS:∀v,S v→S' v) {vs:List Int} {v d:Int} (h:Wl L S vs v d):Wl L S' vs v d:=by
 induction h with
 |nil h=>exact .nil (hS _ h)
 |step hw hl ih=>exact .step ih hl
def Wl.pot (hp:Pot L p) {vs:List Int} {v d:Int} (h:Wl L S vs v d):∃s,S s∧p v-p s≤d:=by
 induction h with
 | @nil v h=>exact⟨v,h,by omega⟩
 | @step vs u v m d hw hl ih =>
  obtain⟨s,h1,h2⟩:=ih;have:=hp u v m hl;exact⟨s,h1,by omega⟩
end
abbrev Ł:Int:=1152921504606846976
structure alw (L:List Lk) (S:Int→Prop) (N:Nat) (x:Int→Int):Prop where
 att:∀v:Int,0≤v→v<N→x v≠Ł→∃vs,Wl L S vs v (x v)
 low:∀v vs d,Wl L S vs v d→x v≤d
 bd:∀v:Int,0≤v→v<N→x v≤Ł
def alw.uniq {L:List Lk} {S:Int→Prop} {N:Nat} {x y:Int→Int} (hx:alw L S N x) (hy:alw L S N y) {v:Int} (h0:0≤v) (h1:v<N):x v=y v:=by
 have key:∀{x y:Int→Int},alw L S N x→alw L S N y→x v≤y v:=by
  intro x y hx hy
  by_cases h:y v=Ł
  ·rw[h]; exact hx.bd v h0 h1
  ·obtain⟨vs,hw⟩:=hy.att v h0 h1 h;exact hx.low v vs _ hw
 exact Int.le_antisymm (key hx hy) (key hy hx)
def gv (x:List Int) (v:Int):Int:=x[v.toNat]?.getD 0
def Xh {x:List Int} {v:Int} (h:v.toNat<x.length):x[v.toNat]?=some (gv x v):=by
 unfold gv; rw[List.getElem?_eq_getElem h]; rfl
def A8 {x:List Int} {u v:Int} (hu:0≤u) (hv:0≤v) (h:u.toNat<x.length) (y:Int):gv (x.set u.toNat y) v=if v=u then y else gv x v:=by
 unfold gv;rw[List.getElem?_set]
 by_cases hvu:v=u
 ·subst hvu; simp[h]
 ·have:¬u.toNat=v.toNat:=by omega
  simp[hvu,this]
def ai7 {x y:List Int} (hl:x.length=y.length) (h:∀v:Int,0≤v→v<x.length→gv x v=gv y v):x=y:=by
 refine List.ext_getElem hl fun i h1 h2=>?_;have:=h i (by omega) (by omega);unfold gv at this;simpa[h1,h2] using this
def mL (x:List Int) (l:Lk):List Int:=if gv x l.1<Ł∧gv x l.1+l.2.2<gv x l.2.1 then x.set l.2.1.toNat (gv x l.1+l.2.2) else x
def Nj (L:List Lk) (x:List Int):List Int:=L.foldl mL x
def lL (L:List Lk):Nat→List Int→List Int
 |0,x=>x
 |n+1,x=>lL L n (Nj L x)
def pn (x:List Int) (l:Lk):(mL x l).length=x.length:=by unfold mL; split<;>simp
def yW (L:List Lk):∀x:List Int,(Nj L x).length=x.length:=by
 induction L with
 |nil=>intro x; rfl
 |cons l t ih=>intro x; show(Nj t (mL x l)).length=_; rw[ih,pn]
def ķ (L:List Lk):∀(n:Nat) (x:List Int),(lL L n x).length=x.length
 |0,x=>rfl
 |n+1,x=>by rw[lL,ķ L n,yW]
def Eh (L:List Lk):∀(n:Nat) (x:List Int),lL L (n+1) x=Nj L (lL L n x)
 |0,x=>rfl
 |n+1,x=>by rw[lL,Eh L n]; rfl
section
variable {L0:List Lk} {S:Int→Prop} {N:Nat}
def acb {x:List Int} {l:Lk} (hl:(0≤l.1∧l.1<N)∧(0≤l.2.1∧l.2.1<N)) (hx:x.length=N) (v:Int) (hv:0≤v):gv (mL x l) v≤gv x v:=by
 unfold mL
 split
 ·rename_i h;rw[A8 hl.2.1 hv (by omega)]
  split
  ·rename_i h2; subst h2; omega
  ·exact dR _
 ·exact dR _
def Gg:∀{L:List Lk},InR L N→∀{x:List Int},x.length=N→∀v,0≤v→gv (Nj L x) v≤gv x v
 |[],_,x,_,v,_=>dR _
 |l::t,hL,x,hx,v,hv=>by
  have h1:=acb (hL l (by simp)) hx v hv;have h2:=Gg (L:=t) (fun l hl=>hL l (by simp[hl])) (x:=mL x l) (by rw[pn,hx]) v hv;show gv (Nj t (mL x l)) v≤_;omega
def JY:∀{L:List Lk},InR L N→∀{x:List Int},x.length=N→∀u v m,(u,v,m)∈L→gv x u<Ł→gv (Nj L x) v≤gv x u+m
 |l::t,hL,x,hx,u,v,m,hm,hf=>by
  have ht:InR t N:=fun l hl=>hL l (by simp[hl])
  have hx':(mL x l).length=N:=by rw[pn,hx]
  show gv (Nj t (mL x l)) v≤_;rcases dm.1 hm with rfl|hm
  ·have hl:=hL (u,v,m) (by simp);have h2:=Gg ht hx' v hl.2.1
   have h3:gv (mL x (u,v,m)) v≤gv x u+m:=by
    unfold mL
    split
    ·rw[A8 hl.2.1 hl.2.1 (by simp only at hl; simp only; omega),if_pos rfl]; exact dR _
    ·rename_i h; simp only[not_and,Int.not_lt] at h; exact h hf
   omega
  ·have hl:=hL (u,v,m) (by simp[hm]);have h1:=acb (hL l (by simp)) hx u hl.1.1;have:=JY ht hx' u v m hm (by omega);omega
def Att (L0:List Lk) (S:Int→Prop) (N:Nat) (x:List Int):Prop:=∀v:Int,0≤v→v<N→gv x v<Ł→∃vs,Wl L0 S vs v (gv x v)
def aj6 {x:List Int} {l:Lk} (hl:(0≤l.1∧l.1<N)∧(0≤l.2.1∧l.2.1<N)) (hm:l∈L0) (hx:x.length=N) (h:Att L0 S N x):Att L0 S N (mL x l):=by
 unfold mL
 split
 ·rename_i hc;intro v h0 h1 hf;rw[A8 hl.2.1 h0 (by omega)] at hf ⊢
  split
  ·rename_i h2;obtain⟨vs,hw⟩:=h l.1 hl.1.1 hl.1.2 hc.1;exact⟨_,h2▸Wl.step hw hm⟩
  ·rename_i h2;rw[if_neg h2] at hf;exact h v h0 h1 hf
 ·exact h
def acl:∀{L:List Lk},InR L N→(∀l∈L,l∈L0)→∀{x:List Int},x.length=N→Att L0 S N x→Att L0 S N (Nj L x)
 |[],_,_,_,_,h=>h
 |l::t,hL,hsub,x,hx,h=>acl (L:=t) (fun l hl=>hL l (by simp[hl])) (fun l hl=>hsub l (by simp[hl])) (x:=mL x l) (by rw[pn,hx]) (aj6 (hL l (by simp)) (hsub l (by simp)) hx h)
def Wd (hL:InR L0 N):∀(n:Nat) {x:List Int},x.length=N→Att L0 S N x→Att L0 S N (lL L0 n x)
 |0,_,_,h=>h
 |n+1,x,hx,h=>Wd hL n (by rw[yW,hx]) (acl hL (fun _ h=>h) hx h)
def Gf (hL:InR L0 N):∀(n:Nat) {x:List Int},x.length=N→∀v,0≤v→gv (lL L0 n x) v≤gv x v
 |0,_,_,_,_=>dR _
 |n+1,x,hx,v,hv=>Int.le_trans (Gf hL n (by rw[yW,hx]) v hv) (Gg hL hx v hv)
def vX (S:Int→Bool) (N:Nat):List Int:=(List.range N).map fun(i:Nat)=>if S i then 0 else Ł
def jB (S:Int→Bool) {N:Nat} {v:Int} (h0:0≤v) (h1:v<N):gv (vX S N) v=if S v then 0 else Ł:=by
 unfold gv vX
 have:v.toNat<N:=by omega
 rw[gd,fe this];simp only[d9,fP];rw[Int.toNat_of_nonneg h0]
def þ (S:Int→Bool) (N:Nat):(vX S N).length=N:=by simp[vX]
end
def JX {L:List Lk} {S:Int→Bool} {N:Nat} {M:Int} (hL:InR L N) (hS:∀v,S v=true→0≤v∧v<N) (hM:∀l∈L,l.2.2≤M):∀(n:Nat),n*M<Ł→0≤M→∀vs v d,Wl L (fun v=>S v=true) vs v d→vs.length≤n→gv (lL L n (vX S N)) v≤d
 |0,_,_,vs,v,d,hw,hl=>by
  cases hw with
  |nil h =>
   have:=hS v h;rw[lL,jB S this.1 this.2,if_pos h]; exact dR _
  |step=>simp at hl
 |n+1,hn,hM0,vs,v,d,hw,hl=>by
  have hn':n*M<Ł:=by rw[gI,fX,gA] at hn; omega
  have hlen:(lL L n (vX S N)).length=N:=by rw[ķ,þ]
  rw[Eh]
  cases hw with
  |nil h =>
   have h1:=Gg hL hlen v (hS v h).1;have h2:=JX hL hS hM n hn' hM0 [] v 0 (.nil h) (by simp);omega
  | @step vs u _ m d hw hlk =>
   have h2:=JX hL hS hM n hn' hM0 vs u d hw (by simpa using hl);have h3:=hw.high hM;have h4:(vs.length:Int)*M≤n*M:=fu (by simp at hl; omega) hM0;have:=JY hL hlen u v m hlk (by omega);omega
def Pr {L:List Lk} {S:Int→Bool} {N:Nat} {M:Int} {p:Int→Int} (hp:Pot L p) (hL:InR L N) (hS:∀v,S v=true→0≤v∧v<N) (hM:∀l∈L,l.2.2≤M) (hM0:0≤M) (hN:N*M<Ł) (n:Nat) (hn:N≤n+1):alw L (fun v=>S v=true) N (gv (lL L n (vX S N))):=by
 have hatt:Att L (fun v=>S v=true) N (vX S N):=fun v h0 h1 hf=>by
  rw[jB S h0 h1] at hf ⊢
  split
  ·rename_i h; exact⟨[],.nil h⟩
  ·rename_i h; rw[if_neg h] at hf; omega
 have hbd:∀v:Int,0≤v→v<N→gv (lL L n (vX S N)) v≤Ł:=fun v h0 h1=>by
  have:=Gf hL n (þ S N) v h0;rw[jB S h0 h1] at this
  have hF:(0:Int)≤Ł:=by decide
  split at this<;>omega
 have hlow:∀(n:Nat),N≤n+1→∀v vs d,Wl L (fun v=>S v=true) vs v d→gv (lL L n (vX S N)) v≤d:=by
  intro n hn v vs d hw;obtain⟨vs',d',h1,h2,h3⟩:=hw.simple hp;have h4:=h1.short hL hS h3
  have hpos:0<N:=by omega
  obtain⟨k,rfl⟩:∃k,N=k+1:=⟨N-1,by omega⟩
  have hk:(k:Int)*M<Ł:=by rw[gI,fX,gA] at hN; omega
  have h5:=JX hL hS hM k hk hM0 vs' v d' h1 (by omega);obtain⟨j,rfl⟩:∃j,n=k+j:=⟨n-k,by omega⟩
  have h6:∀(j:Nat),gv (lL L (k+j) (vX S (k+1))) v≤gv (lL L k (vX S (k+1))) v:=by
   intro j
   induction j with
   |zero=>exact dR _
   |succ j ih =>
    rw[←fF,Eh];have:=Gg hL (x:=lL L (k+j) (vX S (k+1))) (by rw[ķ,þ]) v (h1.range hL hS).1.1;omega
  have:=h6 j;omega
 exact⟨fun v h0 h1 hne=>Wd hL n (þ S N) hatt v h0 h1 (by have:=hbd v h0 h1; omega),hlow n hn,hbd⟩
def alw.pot {L:List Lk} {S:Int→Prop} {N:Nat} {x:Int→Int} (h:alw L S N x) (hL:InR L N) {u v m:Int} (hl:(u,v,m)∈L) (hf:x u≠Ł):x v≤x u+m:=by
 obtain⟨vs,hw⟩:=h.att u (hL _ hl).1.1 (hL _ hl).1.2 hf;exact h.low v _ _ (.step hw hl)
def ú (b:ß) (g:ì):List Lk :=
 [(0,atP (Í b) [g.1] g.2.1,g.2.2.1+g.2.2.2.1.2),(atP (Í b) [g.1] g.2.1,0,-(g.2.2.1+g.2.2.2.1.1))] ++
 (List.range ((ã b g).length-1)).flatMap fun(k:Nat)=>[(atP (Í b) [g.1] g.2.1+k,atP (Í b) [g.1] g.2.1+k+1,0),(atP (Í b) [g.1] g.2.1+k+1,atP (Í b) [g.1] g.2.1+k,jq b g ((ã b g)[k]?.getD 0) ((ã b g)[k+1]?.getD 0))]
def cx (b:ß) (c:Cmp):Int:=atP (Í b) (é c.2.2.1 c.2.2.2.1) c.2.1
def cy (b:ß) (c:Cmp):Int:=atP (Í b) (é c.2.2.2.1 c.2.2.1) c.2.1
def ĉ (b:ß) (c:Cmp):List Lk:=[(cy b c,cx b c,(ζ b c).2),(cx b c,cy b c,-(ζ b c).1)]
def æ (b:ß):List Lk:=b.2.1.flatMap (ú b)++b.2.2.2.2.1.flatMap (ĉ b)
def ö (b:ß) (i:Nat) (g:ì):List (Int×Int):=[(1,(i:Int)),(1,(i:Int))]++(List.range ((ã b g).length-1)).flatMap fun _=>[(2,(i:Int)),(2,(i:Int))]
def Ť (b:ß):List (Int×Int):=(b.2.1.mapIdx (ö b)).flatten++(b.2.2.2.2.1.mapIdx fun i _=>[(3,(i:Int)),(3,(i:Int))]).flatten
section
variable {b:ß}
def abP (h:Ğ b) {id day:Int} (hu:alq (iX b) id day=0):(0≤day∧day≤20000)∧∃g,ŷ b id=some g∧g.2.1≤day:=by
 unfold alq at hu
 split at hu
 ·omega
 ·rename_i hd;simp only[ff,Bool.not_eq_false,uh,inP,dh,decide_eq_true_eq] at hd;exact⟨hd,WD h hu⟩
def kJ {g:ì} {d:Int}:d∈ã b g↔d=g.2.1∨(∃c∈b.2.2.2.2.1,(c.2.2.1.contains g.1)≠(c.2.2.2.1.contains g.1)∧c.2.1=d)∨(∃n∈b.2.2.2.2.2,n.1=g.1∧n.2=d):=by
 unfold ã;rw[BB,ahI];simp only[List.mem_append,List.mem_singleton,List.mem_map,List.mem_filter];constructor
 ·rintro((h|⟨c,⟨h1,h2⟩,h3⟩)|⟨n,⟨h1,h2⟩,h3⟩)
  ·exact .inl h
  ·exact .inr (.inl ⟨c,h1,by simpa using h2,h3⟩)
  ·exact .inr (.inr ⟨n,h1,by simpa using h2,h3⟩)
 ·rintro(h|⟨c,h1,h2,h3⟩|⟨n,h1,h2,h3⟩)
  ·exact .inl (.inl h)
  ·exact .inl (.inr ⟨c,⟨h1,by simpa using h2⟩,h3⟩)
  ·exact .inr ⟨n,⟨h1,by simpa using h2⟩,h3⟩
def Ğ.gaugeR (h:Ğ b) {g:ì} (hg:g∈b.2.1):Mh g.2.2.2.2.1=true∧(-1000≤g.2.2.2.2.1.1∧g.2.2.2.2.1.1≤1000)∧g.2.2.2.2.1.2≤100∧(1≤g.1∧g.1≤1099511627776)∧(0≤g.2.1∧g.2.1≤20000)∧(1≤g.2.2.1∧g.2.2.1≤1125899906842624)∧(-1073741824≤g.2.2.2.1.1∧g.2.2.2.1.1≤g.2.2.2.1.2∧g.2.2.2.1.2≤1073741824)∧(0≤g.2.2.2.2.2∧g.2.2.2.2.2≤1048576):=(vD g).1 (h.gauge g hg)
def Ğ.day (h:Ğ b) {g:ì} (hg:g∈b.2.1) {d:Int} (hd:d∈ã b g):g.2.1≤d∧0≤d∧d≤20000:=by
 have hr:=h.gaugeR hg;have hgo:=xo h.ids hg;rcases kJ.1 hd with rfl|⟨c,hc,h1,rfl⟩|⟨n,hn,h1,rfl⟩
 ·have:=hr.2.2.2.2.1; omega
 ·have hn:=(η c).1 (h.nums hc)
  have hx:g.1∈c.2.2.1++c.2.2.2.1:=by
   rw[dk]
   by_cases h2:g.1∈c.2.2.1
   ·exact .inl h2
   ·refine .inr ?_
    have e1:c.2.2.1.contains g.1=false:=by simpa using h2
    rw[e1] at h1
    have:c.2.2.2.1.contains g.1=true:=by cases hh:c.2.2.2.1.contains g.1<;>simp_all
    simpa using this
  obtain⟨⟨g',h3,h4⟩,_⟩:=h.pile hc hx;rw[hgo] at h3; cases h3;have:=hn.2.1;omega
 ·obtain⟨h2,g',h3,h4⟩:=abP h (h.looks n hn);rw[h1,hgo] at h3; cases h3;omega
def kS (g:ì):g.2.1∈ã b g:=kJ.2 (.inl rfl)
def Jr (h:Ğ b) {g:ì} (hg:g∈b.2.1):(ã b g).length≤59:=by
 have h1:∀l:List ì,g∈l→(ã b g).length≤(l.flatMap fun g=>(ã b g).map fun d=>((g.1,d):Int×Int)).length:=by
  intro l
  induction l with
  |nil=>intro hg; cases hg
  |cons a t ih =>
   intro hg;rw[ez,di,eF];rcases dm.1 hg with rfl|hg
   ·omega
   ·have:=ih hg; omega
 have:=h1 b.2.1 hg;have:=h.nodes;unfold Í at this;omega
def aoj {p:List Int} {d:Int}:0≤atP (Í b) p d∧atP (Í b) p d≤(Í b).length:=by
 unfold atP
 cases p with
 |nil=>simp
 |cons x t =>
  try dsimp only
  cases h:jz (Í b) x d with
  |none=>simp
  |some j=>have:=(m7 h).1; dsimp only; omega
def Ec (h:Ğ b) {c:Cmp} (hc:c∈b.2.2.2.2.1):(-1125904000000000≤(ζ b c).1∧(ζ b c).1≤1125904000000000)∧(-1125904000000000≤(ζ b c).2∧(ζ b c).2≤1125904000000000):=by
 obtain⟨r1,r2⟩:=h.rates hc;have hn:=(η c).1 (h.nums hc);have ha:=Ļ hn.2.2.2.2.2.1;have hb:=Ļ hn.2.2.2.2.2.2;have hf:=h.film;obtain⟨g1,g2⟩:=Yg (Pd r1 r2) hn.2.2.2.2.1;have fb:=xu (b:=b) (c:=c) (by omega) (by omega) (by omega) (by omega) (by omega) (by omega);have q1:rO (ń b c).1 2000000000 10000:=g1;have q2:rO (ń b c).2 2000000000 10000:=g2;have c1:=Cm q1;have c2:=xq q2;have n3:=hn.2.2.1;have n4:=hn.2.2.2.1;unfold ζ
 try dsimp only
 omega
def lh (h:Ğ b) {g:ì} (hg:g∈b.2.1) {f t:Int} (hf:0≤f):0≤jq b g f t∧jq b g f t≤12*(20001*1048576)+40*1048576:=by
 have hr:=(h.gaugeR hg).2.2.2.2.2.2.2;have h1:=tU (id:=g.1) (t:=t) hf (x:=b.2.2.2.1) fun l hl=>Lv h hl;have h2:(b.2.2.2.1.length:Int)*(20001*1048576)≤12*(20001*1048576):=fu (by have:=h.nL; omega) (by omega)
 have h3:(jy b g.1 f t).length≤40:=by
  unfold jy;rw[List.length_map];exact Nat.le_trans (List.length_filter_le _ _) h.nU
 have h4:=F8 (jy b g.1 f t)
 have hm:0≤((ab6 (jy b g.1 f t)).length:Int)*g.2.2.2.2.2∧((ab6 (jy b g.1 f t)).length:Int)*g.2.2.2.2.2≤40*1048576 :=
  ⟨fG (by omega) hr.1,fj (by omega) hr.2 hr.1 (by omega)⟩
 unfold jq;omega
end
def i6 {α β:Type} (f:Nat→α→β) {l:List α} {i:Nat} {a:α} (h:l[i]?=some a):(l.take (i+1)).mapIdx f=(l.take i).mapIdx f++[f i a]:=by
 have hi:i<l.length:=(dj.1 h).1
 have:(l.take i).length=i:=by rw[dv]; omega
 rw[take_succ h,List.mapIdx_append];simp[this]
def ur {α:Type} (f:Nat→List α) (j:Nat):(List.range (j+1)).flatMap f=(List.range j).flatMap f++f j:=by
 rw[List.range_succ,ft]; simp
def Ž {α:Type} (f:Nat→List α) (n:Nat) (h:∀k,(f k).length=2):((List.range n).flatMap f).length=2*n:=by
 induction n with
 |zero=>rfl
 |succ n ih=>rw[ur,di,ih,h]; omega
set_option maxHeartbeats 2000000 in
def aiY {b:ß} (h:Ğ b):Jn b=some (b,Í b,(((Í b).length:Int)+1,æ b),Ť b):=by
 unfold Jn aat;have hN:=h.nodes;have hG:=h.nG;have hC:=h.nC;rw[Ym h.size,À,Û,Ò (by omega) (by omega)]
 -- lengths of what comes
 have gl:∀g∈b.2.1,(ú b g).length≤120∧∀i,(ö b i g).length≤120:=by
  intro g hg;have:=Jr h hg;constructor
  ·unfold ú;rw[List.length_append,Ž _ _ (fun _=>rfl)];simp only[List.length_cons,List.length_nil]; omega
  ·intro i;unfold ö;rw[List.length_append,Ž _ _ (fun _=>rfl)];simp only[List.length_cons,List.length_nil]; omega
 have gls:∀i,((b.2.1.take i).flatMap (ú b)).length≤1440∧(((b.2.1.take i).mapIdx (ö b)).flatten).length≤1440:=by
  intro i
  induction i with
  |zero=>simp
  |succ i ih =>
   have key:∀i,i≤b.2.1.length→((b.2.1.take i).flatMap (ú b)).length≤i*120∧(((b.2.1.take i).mapIdx (ö b)).flatten).length≤i*120:=by
    intro i
    induction i with
    |zero=>intro _; simp
    |succ i ih =>
     intro hi;have ih:=ih (by omega);have hg:b.2.1[i]?=some b.2.1[i]:=df hi;have h2:=gl _ (dl hg);have h3:=h2.2 i;rw[i6 _ hg,take_succ hg,ft,fU,di,di];simp only[ez,gZ,dU,gC,gH];omega
   rcases dG b.2.1.length (i+1) with h1|h1
   ·rw[eA (by omega)];have:=key b.2.1.length (dg _);rw[List.take_length] at this;omega
   ·have:=key (i+1) h1;omega
 refine ë b.2.1 (fun i=>((b.2.1.take i).flatMap (ú b),((b.2.1.take i).mapIdx (ö b)).flatten)) _ rfl (fun i g hi hg kn=>?_) (fun kn=>?_)
 ·try dsimp only
  unfold w8;have hgm:=List.mem_of_getElem? hg;have hr:=h.gaugeR hgm;have hd:=Jr h hgm;have hls:=gls i;have hat:=aoj (b:=b) (p:=[g.1]) (d:=g.2.1);rw[Ñ hi,Ç hg];rw[show pP ((b.1.1,b.1.2),b.2.1,b.2.2.1,b.2.2.2.1,b.2.2.2.2.1,b.2.2.2.2.2) g=pP b g from rfl,anx h.size,À];rw[aoh _ _ _ (by dsimp only; omega),À]
  try dsimp only
  have r1:=hr.2.2.2.2.2.1;have r2:=hr.2.2.2.2.2.2.1;rw[Ò (by omega) (by omega),Ò (by omega) (by omega),Ò (by omega) (by omega),Ô (by simp only[dn,dH]; omega),Am.iff_true,Ô (by simp only[dn,dH]; omega),Am.iff_true]
  refine Ĭ (fun x:Int×List Lk×List (Int×Int)=>∃j:Nat,j+1≤(ã b g).length∧x.1=(j:Int)+1 ∧
   x.2.1=(b.2.1.take i).flatMap (ú b)++([(0,atP (Í b) [g.1] g.2.1,g.2.2.1+g.2.2.2.1.2),(atP (Í b) [g.1] g.2.1,0,-(g.2.2.1+g.2.2.2.1.1))] ++
    (List.range j).flatMap fun(k:Nat)=>[(atP (Í b) [g.1] g.2.1+k,atP (Í b) [g.1] g.2.1+k+1,0),(atP (Í b) [g.1] g.2.1+k+1,atP (Í b) [g.1] g.2.1+k,jq b g ((ã b g)[k]?.getD 0) ((ã b g)[k+1]?.getD 0))]) ∧
   x.2.2=((b.2.1.take i).mapIdx (ö b)).flatten++([(1,(i:Int)),(1,(i:Int))]++(List.range j).flatMap fun _=>[(2,(i:Int)),(2,(i:Int))])) (fun x=>(ã b g).length-x.1.toNat) ?_
   ⟨0,gy (kS g),rfl,by simp,by simp⟩
  rintro⟨x1,ls,ss⟩ ⟨j,hj,e1,e2,e3⟩;dsimp only at e1 e2 e3 ⊢;subst e1
  have hlls:ls.length≤1562:=by
   rw[e2,di,di,Ž _ _ (fun _=>rfl)];simp only[dn,dH]; omega
  have hlss:ss.length≤1562:=by
   rw[e3,di,di,Ž _ _ (fun _=>rfl)];simp only[dn,dH]; omega
  rcases dG (j+1) (ã b g).length with hlt|hge
  ·refine .inr ⟨((j:Int)+1+1,_,_),⟨j+1,hlt,by push_cast; rfl,rfl,rfl⟩,by dsimp only; omega,fun kn'=>?_⟩
   try dsimp only
   unfold w7
   have g1:(ã b g)[j]?=some ((ã b g)[j]?.getD 0):=by rw[df (by omega)]; rfl
   have g2:(ã b g)[j+1]?=some ((ã b g)[j+1]?.getD 0):=by rw[df hlt]; rfl
   have d1:=h.day hgm (dl g1);have d2:=h.day hgm (dl g2);have lb:=lh h hgm (t:=(ã b g)[j+1]?.getD 0) d1.2.1
   have ec:((j:Int)+1)=((j+1:Nat):Int):=by push_cast; rfl
   rw[ec,Ñ hlt,Ò (by omega) (by omega),Ò (by omega) (by omega),Ò (by omega) (by omega),Ò (by omega) (by omega)];rw[show(((j+1:Nat):Int)-1)=((j:Nat):Int) by omega,Ç g1,Ç g2];rw[show Ce ((b.1.1,b.1.2),b.2.1,b.2.2.1,b.2.2.2.1,b.2.2.2.2.1,b.2.2.2.2.2) (g.1,g.2.1,g.2.2.1,(g.2.2.2.1.1,g.2.2.2.1.2),(g.2.2.2.2.1.1,g.2.2.2.2.1.2),g.2.2.2.2.2) ((ã b g)[j]?.getD 0) ((ã b g)[j+1]?.getD 0)=Ce b g ((ã b g)[j]?.getD 0) ((ã b g)[j+1]?.getD 0) from rfl];rw[arO h hr.2.2.2.2.2.2.2 ⟨by omega,by omega⟩ ⟨by omega,by omega⟩,À,Ò (by omega) (by omega),Ò (by omega) (by omega),Ô (by simp only[dn,dH]; omega),Am.iff_true,Ô (by simp only[dn,dH]; omega),Am.iff_true,Ê hlt (by omega)];rw[ur,ur,e2,e3]
   have a1:atP (Í b) [g.1] g.2.1+((j+1:Nat):Int)-1=atP (Í b) [g.1] g.2.1+(j:Int):=by push_cast; omega
   have a2:atP (Í b) [g.1] g.2.1+((j+1:Nat):Int)=atP (Í b) [g.1] g.2.1+(j:Int)+1:=by push_cast; omega
   have a3:0-(0-jq b g ((ã b g)[j]?.getD 0) ((ã b g)[j+1]?.getD 0))=jq b g ((ã b g)[j]?.getD 0) ((ã b g)[j+1]?.getD 0):=by omega
   rw[a1,a2,a3];simp only[dF]
  ·refine .inl fun kn'=>?_
   have hje:j+1=(ã b g).length:=by omega
   unfold w7;rw[show((j:Int)+1)=(((ã b g).length:Nat):Int) by rw[←hje]; push_cast; rfl,Ü];dsimp only;rw[Ê hi (by omega)];rw[i6 _ hg,take_succ hg,List.flatMap_append,List.flatten_append,e2,e3,show j=(ã b g).length-1 by omega];simp only[List.flatMap_cons,List.flatMap_nil,List.append_nil,List.flatten_cons,List.flatten_nil];rfl
 ·try dsimp only
  unfold w8;rw[Ü,List.take_length];have hls:=gls b.2.1.length;rw[List.take_length] at hls
  have cl:∀i,i≤b.2.2.2.2.1.length→((b.2.2.2.2.1.take i).flatMap (ĉ b)).length=2*i∧(((b.2.2.2.2.1.take i).mapIdx fun i _=>[((3:Int),(i:Int)),((3:Int),(i:Int))]).flatten).length=2*i:=by
   intro i
   induction i with
   |zero=>intro _; simp
   |succ i ih =>
    intro hi;have ih:=ih (by omega);have hg:b.2.2.2.2.1[i]?=some b.2.2.2.2.1[i]:=df hi;rw[i6 _ hg,take_succ hg,ft,fU,di,di];simp only[ez,gZ,dU,gC,gH,ĉ,dn,dH];omega
  refine ë b.2.2.2.2.1 (fun i=>(b.2.1.flatMap (ú b)++(b.2.2.2.2.1.take i).flatMap (ĉ b),(b.2.1.mapIdx (ö b)).flatten++((b.2.2.2.2.1.take i).mapIdx fun i _=>[((3:Int),(i:Int)),((3:Int),(i:Int))]).flatten)) _ (by simp) (fun i c hi hc kn'=>?_) (fun kn'=>?_)
  ·try dsimp only
   unfold wZ;have hcm:=List.mem_of_getElem? hc;have hn:=(η c).1 (h.nums hcm);have ha:=Ļ hn.2.2.2.2.2.1;have hb:=Ļ hn.2.2.2.2.2.2;have sb:=Ec h hcm;have c1:=cl i (by omega);rw[Ñ hi,Ç hc,tV (by omega) (by omega),À,aoh _ _ _ (by dsimp only; omega),À,tV (by omega) (by omega),À,aoh _ _ _ (by dsimp only; omega),À];rw[show xB ((b.1.1,b.1.2),b.2.1,b.2.2.1,b.2.2.2.1,b.2.2.2.2.1,b.2.2.2.2.2) c=xB b c from rfl,h.says hcm,À];rw[Ò (by omega) (by omega),Ô (by simp only[List.length_append,List.length_cons,List.length_nil]; omega),Am.iff_true,Ô (by simp only[List.length_append,List.length_cons,List.length_nil]; omega),Am.iff_true,Ê hi (by omega),i6 _ hc,take_succ hc,List.flatMap_append,List.flatten_append];simp only[List.flatMap_cons,List.flatMap_nil,List.append_nil,List.flatten_cons,List.flatten_nil,List.append_assoc,Int.zero_sub];rfl
  ·try dsimp only
   unfold wZ;rw[Ü,List.take_length];rfl
section
variable {ρ:Type}
def wv (w:List Bool) (v:Int):Bool:=w[v.toNat]?.getD false
def aie {w:List Bool} {u v:Int} (hu:0≤u) (hv:0≤v) (h:u.toNat<w.length) (y:Bool):wv (w.set u.toNat y) v=if v=u then y else wv w v:=by
 unfold wv;rw[List.getElem?_set]
 by_cases hvu:v=u
 ·subst hvu; simp[h]
 ·have:¬u.toNat=v.toNat:=by omega
  simp[hvu,this]
def kV {x:List Int} {v:Int} (h:v.toNat<x.length) (f:Int→Option ρ):Ď x v.toNat f=f (gv x v):=pq (Xh h) f
def Yn {w:List Bool} {v:Int} (h:v.toNat<w.length) (f:Bool→Option ρ):Ď w v.toNat f=f (wv w v):=by
 refine pq ?_ f;unfold wv; rw[List.getElem?_eq_getElem h]; rfl
def Ĵ {v:Int} {n:Nat} (h0:0≤v) (h1:v<n) (x:Option ρ):Þ ((ile 0 v)&&(ilt v (n:Int))) x=x:=by
 have:((ile 0 v)&&(ilt v (n:Int)))=true:=by simp[ile,ilt,h0,h1]
 rw[this,Am.iff_true]
end
def ri (n least:Int):List Lk→List Int→List Bool→List Int→Bool×List Int×List Bool×List Int
 |[],x,w,q=>(true,x,w,q)
 |l::t,x,w,q =>
  if l.1≠n then ri n least t x w q else
  if gv x l.2.1≤gv x n+l.2.2 then ri n least t x w q else
  if gv x n+l.2.2<least then(false,x.set l.2.1.toNat (gv x n+l.2.2),w,q) else
  if wv w l.2.1 then ri n least t (x.set l.2.1.toNat (gv x n+l.2.2)) w q else ri n least t (x.set l.2.1.toNat (gv x n+l.2.2)) (w.set l.2.1.toNat true) (q++[l.2.1])
structure jj (L:List Lk) (N:Nat) (M:Int):Prop where
 inr:InR L N
 noloop:∀l∈L,l.1≠l.2.1
 most:∀l∈L,-M≤l.2.2∧l.2.2≤M
 len:L.length≤400
 nodes:N≤1000
 m0:0≤M
 m1:M≤4503599627370496
set_option maxHeartbeats 1000000 in
def apQ {ρ:Type} {L:List Lk} {N:Nat} {M:Int} (hL:jj L N M) {n least:Int} (hn:0≤n∧n<N) {x:List Int} {w:List Bool} {q:List Int} (hx:x.length=N) (hw:w.length=N) (hq:q.length≤1000000)
 (hb : -2305843009213693952≤gv x n∧gv x n≤2305843009213693952) (K0:(Val (.pair .bool (.pair (.slice tI) (.pair (.slice .bool) (.slice tI)))))→Option ρ) (K1:(Val (.pair (.slice tI) (.pair (.slice .bool) (.slice tI))))→Option ρ) :
 É (fun(v47:(Val (.pair tI (.pair (.slice tI) (.pair (.slice .bool) (.slice tI)))))) kk52=>jO [] least n L (Ó L) v47.1 v47.2.1 v47.2.2.1 v47.2.2.2 (fun u48 u49 u50 u51=>kk52 (u48,u49,u50,u51)) K0 K1) ((0:Int),x,w,q) =
  match ri n least L x w q with
  |(true,r)=>K1 r
  |(false,r)=>K0 (false,r):=by
 have hlen:=hL.len
 refine IU L (fun i (s:List Int×List Bool×List Int) t=>match ri n least t s.1 s.2.1 s.2.2 with|(true,r)=>K1 r|(false,r)=>K0 (false,r))
  (fun i s=>s.1.length=N∧s.2.1.length=N∧gv s.1 n=gv x n∧s.2.2.length≤1000000+i) (fun s hs kn=>?_) (fun i l t s hd hi hl hI kn hk=>?_) (s:=(x,w,q)) ⟨hx,hw,rfl,by simpa using hq⟩
 ·try dsimp only
  unfold jO;rw[Ü];rfl
 ·obtain⟨y,u,p⟩:=s;obtain⟨h1,h2,h3,h4⟩:=hI;dsimp only at h1 h2 h3 h4 hk ⊢;have hmem:l∈L:=List.mem_of_getElem? hl;have hr:=hL.inr l hmem;have hm:=hL.most l hmem;have hm1:=hL.m1;have hnl:=hL.noloop l hmem;unfold jO;rw[Ñ hi,Ç hl];unfold ri
  by_cases hln:l.1=n
  ·have e0:ine l.1 n=false:=by simp[ine,hln]
   rw[Ð e0];have e1:∀(f:Bool→Option ρ) (g:Option ρ),abL (k:=tI) (v:=.bool) (i:Int) [] f g=g:=fun f g=>rfl;rw[e1,if_neg (by simp[hln])]
   have tn:n.toNat<y.length:=by omega
   have tt:l.2.1.toNat<y.length:=by omega
   have tu:l.2.1.toNat<u.length:=by omega
   rw[Ĵ hn.1 (by omega),kV tn,Ò (by omega) (by omega),Ĵ hr.2.1 (by omega),kV tt,ĥ]
   by_cases hge:gv y l.2.1≤gv y n+l.2.2
   ·rw[if_pos (by simpa[ige] using hge),if_pos hge,Ê hi (by omega)];exact hk (y,u,p) ⟨h1,h2,h3,by dsimp only; omega⟩
   ·rw[if_neg (by simpa[ige] using hge),if_neg hge]
    have hset:gv (y.set l.2.1.toNat (gv y n+l.2.2)) n=gv x n:=by
     rw[A8 hr.2.1 hn.1 tt,if_neg (fun h=>hnl (hln.trans h)),h3]
    have hself:gv (y.set l.2.1.toNat (gv y n+l.2.2)) l.2.1=gv y n+l.2.2:=by
     rw[A8 hr.2.1 hr.2.1 tt,if_pos rfl]
    rw[Ĵ hn.1 (by omega),kV tn,Ò (by omega) (by omega),Ĵ hr.2.1 (by omega),kV tt];rw[show(ô (List.set y l.2.1.toNat (gv y n+l.2.2)))=((y.length:Nat):Int) by simp[ô]];rw[Ĵ hr.2.1 (by omega),kV (by simpa using tt),hself,ĥ]
    by_cases hlt:gv y n+l.2.2<least
    ·rw[if_pos (by simpa[ilt] using hlt),if_pos hlt]
    ·rw[if_neg (by simpa[ilt] using hlt),if_neg hlt,Ĵ hr.2.1 (by omega),Yn tu,ĥ]
     cases hwv:wv u l.2.1 with
     |true =>
      rw[if_neg (by simp),if_pos rfl,Ê hi (by omega)];exact hk (y.set l.2.1.toNat (gv y n+l.2.2),u,p) ⟨by simpa using h1,h2,hset,by dsimp only; omega⟩
     |false =>
      rw[if_pos (by simp),if_neg (by simp),Ô (by simp only[dN]; omega),Am.iff_true,Ĵ hr.2.1 (by omega),Yn tu,Ê hi (by omega)];exact hk (y.set l.2.1.toNat (gv y n+l.2.2),u.set l.2.1.toNat true,p++[l.2.1]) ⟨by simpa using h1,by simpa using h2,hset,by simp only[di,dN]; omega⟩
  ·have e0:ine l.1 n=true:=by simp[ine,hln]
   rw[Õ e0,if_pos hln,Ê hi (by omega)];exact hk (y,u,p) ⟨h1,h2,h3,by dsimp only; omega⟩
structure aqQ (N:Nat) (n least:Int) (L:List Lk) (x:List Int) (q:List Int) (x':List Int) (w':List Bool) (q':List Int):Prop where
 lx:x'.length=N
 lw:w'.length=N
 same:gv x' n=gv x n
 le:∀v:Int,0≤v→v<N→gv x' v≤gv x v
 link:∀v m,(n,v,m)∈L→gv x' v≤gv x n+m
 chg:∀v:Int,0≤v→v<N→gv x' v=gv x v∨(v∈q'∧gv x' v<gv x v∧∃m,(n,v,m)∈L∧gv x' v=gv x n+m∧least≤gv x' v)
 new:∃l,q'=q++l∧∀v∈l,(0≤v∧v<N)∧gv x' v<gv x v
 nodup:q'.Nodup
 waits:∀v:Int,0≤v→v<N→(wv w' v=true↔v∈q')
def lC {N:Nat} {n least:Int} (hn:0≤n∧n<N):∀{L:List Lk},InR L N→(∀l∈L,l.1≠l.2.1)→∀{x:List Int} {w:List Bool} {q:List Int},x.length=N→w.length=N→q.Nodup→(∀v:Int,0≤v→v<N→(wv w v=true↔v∈q)) →
 ∀{x':List Int} {w':List Bool} {q':List Int},ri n least L x w q=(true,x',w',q')→aqQ N n least L x q x' w' q'
 |[],_,_,x,w,q,hx,hw,hq,hwq,x',w',q',h=>by
  cases h;exact⟨hx,hw,rfl,fun _ _ _=>dR _,fun _ _ h=>(by cases h),fun _ _ _=>.inl rfl,⟨[],by simp,fun _ h=>by cases h⟩,hq,hwq⟩
 |l::t,hL,hnl,x,w,q,hx,hw,hq,hwq,x',w',q',h=>by
  have hLt:InR t N:=fun l hl=>hL l (by simp[hl]);have hnt:∀l∈t,l.1≠l.2.1:=fun l hl=>hnl l (by simp[hl]);have hr:=hL l (by simp);have hl0:=hnl l (by simp);unfold ri at h
  split at h
  ·rename_i hne;have a:=lC hn hLt hnt hx hw hq hwq h
   exact⟨a.lx,a.lw,a.same,a.le,fun v m hm=>by
    rcases dm.1 hm with rfl|hm
    ·exact(hne rfl).elim
    ·exact a.link v m hm,fun v h0 h1=>(a.chg v h0 h1).imp id fun⟨g1,g2,m,g3,g4⟩=>⟨g1,g2,m,by simp[g3],g4⟩,a.new,a.nodup,a.waits⟩
  ·rename_i hne
   have hln:l.1=n:=by simpa using hne
   split at h
   ·rename_i hle;have a:=lC hn hLt hnt hx hw hq hwq h
    exact⟨a.lx,a.lw,a.same,a.le,fun v m hm=>by
     rcases dm.1 hm with rfl|hm
     ·have:=a.le v hr.2.1 hr.2.2; simp only at hle; omega
     ·exact a.link v m hm,fun v h0 h1=>(a.chg v h0 h1).imp id fun⟨g1,g2,m,g3,g4⟩=>⟨g1,g2,m,by simp[g3],g4⟩,a.new,a.nodup,a.waits⟩
   ·rename_i hgt
    split at h
    ·cases h
    ·rename_i hls
     have tt:l.2.1.toNat<x.length:=by omega
     have tw:l.2.1.toNat<w.length:=by omega
     have hy:(x.set l.2.1.toNat (gv x n+l.2.2)).length=N:=by simpa using hx
     have hyn:gv (x.set l.2.1.toNat (gv x n+l.2.2)) n=gv x n:=by
      rw[A8 hr.2.1 hn.1 tt,if_neg (fun h=>hl0 (hln.trans h))]
     have hyv:∀v,0≤v→gv (x.set l.2.1.toNat (gv x n+l.2.2)) v=if v=l.2.1 then gv x n+l.2.2 else gv x v:=fun v h0=>A8 hr.2.1 h0 tt _
     have hlm:(n,l.2.1,l.2.2)∈l::t:=by rw[←hln]; simp
     -- what both ways have in common
     have fin:∀{w1:List Bool} {q1:List Int},aqQ N n least t (x.set l.2.1.toNat (gv x n+l.2.2)) q1 x' w' q'→l.2.1∈q1→(∃l',q1=q++l'∧∀v∈l',v=l.2.1)→aqQ N n least (l::t) x q x' w' q':=by
      intro w1 q1 a hmem hq1;obtain⟨new,hnew,hnv⟩:=a.new;obtain⟨l',hl',hlv⟩:=hq1
      have hto:gv x' l.2.1≤gv x n+l.2.2:=by
       have:=a.le l.2.1 hr.2.1 hr.2.2;rw[hyv _ hr.2.1,if_pos rfl] at this;exact this
      refine⟨a.lx,a.lw,a.same.trans hyn,fun v h0 h1=>?_,fun v m hm=>?_,fun v h0 h1=>?_,⟨l'++new,by rw[hnew,hl',dF],fun v hv=>?_⟩,a.nodup,a.waits⟩
      ·have:=a.le v h0 h1;rw[hyv v h0] at this
       split at this
       ·rename_i e; subst e; omega
       ·exact this
      ·rcases dm.1 hm with rfl|hm
       ·exact hto
       ·have:=a.link v m hm
        rwa [hyn] at this
      ·rcases a.chg v h0 h1 with g|⟨g1,g2,m,g3,g4,g5⟩
       ·rw[hyv v h0] at g
        split at g
        ·rename_i e;subst e;exact .inr ⟨by rw[hnew]; exact eM _ hmem,by omega,l.2.2,hlm,g,by omega⟩
        ·exact .inl g
       ·rw[hyv v h0] at g2;rw[hyn] at g4;refine .inr ⟨g1,?_,m,by simp[g3],g4,g5⟩
        split at g2
        ·rename_i e; subst e; omega
        ·exact g2
      ·rcases dk.1 hv with hv|hv
       ·rw[hlv v hv]; exact⟨hr.2,by omega⟩
       ·obtain⟨g1,g2⟩:=hnv v hv;rw[hyv v g1.1] at g2;refine⟨g1,?_⟩
        split at g2
        ·rename_i e; subst e; omega
        ·exact g2
     split at h
     ·rename_i hwt;exact fin (w1:=w) (lC hn hLt hnt hy hw hq hwq h) ((hwq _ hr.2.1 hr.2.2).1 hwt) ⟨[],by simp,fun _ h=>by cases h⟩
     ·rename_i hwt;have hnq:l.2.1∉q:=fun hc=>hwt ((hwq _ hr.2.1 hr.2.2).2 hc);refine fin (w1:=w.set l.2.1.toNat true) (lC hn hLt hnt hy (by simpa using hw) ?_ ?_ h) (by simp) ⟨[l.2.1],rfl,fun v hv=>by simpa using hv⟩
      ·rw[List.nodup_append];exact⟨hq,by simp,fun a ha b hb=>by simp at hb; subst hb; exact fun e=>hnq (e▸ha)⟩
      ·intro v h0 h1;rw[aie hr.2.1 h0 tw]
       by_cases hv:v=l.2.1
       ·simp[hv]
       ·simp only[hv,if_false,dk,dt,or_false];exact hwq v h0 h1
def oy {n least:Int}:∀{L:List Lk},(∀l∈L,l.1≠l.2.1)→(∀l∈L,0≤l.2.1)→0≤n→∀{x:List Int} {w:List Bool} {q:List Int} {r},ri n least L x w q=(false,r)→∃v m,(n,v,m)∈L∧gv x n+m<least
 |[],_,_,_,x,w,q,r,h=>by cases h
 |l::t,hnl,h0,hn,x,w,q,r,h=>by
  have hnt:∀l∈t,l.1≠l.2.1:=fun l hl=>hnl l (by simp[hl]);have h0t:∀l∈t,0≤l.2.1:=fun l hl=>h0 l (by simp[hl]);have up:(∃v m,(n,v,m)∈t∧gv x n+m<least)→∃v m,(n,v,m)∈l::t∧gv x n+m<least:=fun⟨v,m,g1,g2⟩=>⟨v,m,by simp[g1],g2⟩;unfold ri at h
  split at h
  ·exact up (oy hnt h0t hn h)
  ·rename_i hne
   have hln:l.1=n:=by simpa using hne
   split at h
   ·exact up (oy hnt h0t hn h)
   ·split at h
    ·rename_i hlt;exact⟨l.2.1,l.2.2,by rw[←hln]; simp,hlt⟩
    ·have hyn:gv (x.set l.2.1.toNat (gv x n+l.2.2)) n=gv x n:=by
      unfold gv;rw[List.getElem?_set];have h1:=hnl l (by simp);have h2:=h0 l (by simp)
      have:¬l.2.1.toNat=n.toNat:=by omega
      simp[this]
     split at h
     ·have:=oy hnt h0t hn h;rw[hyn] at this;exact up this
     ·have:=oy hnt h0t hn h;rw[hyn] at this;exact up this
def aiR {ρ:Type} {L:List Lk} {N:Nat} {M:Int} (hL:jj L N M) {n least:Int} (hn:0≤n∧n<N) {x:List Int} {w:List Bool} {t rest:List Int} (hx:x.length=N) (hw:w.length=N) (ht:t.length=N) (hq:rest.length≤1000000)
 (hb : -2305843009213693952≤gv x n∧gv x n≤2305843009213693952) (htn:0≤gv t n∧gv t n≤1000000) (kn:List Int→List Bool→List Int→List Int→Option ρ) (k0:(Val (.pair .bool (.pair (.slice tI) (.pair (.slice .bool) (.pair (.slice tI) (.slice tI))))))→Option ρ) :
 į [] least (N:Int) L x w t (n::rest) kn k0 =
  if (N:Int)+1<gv t n+1 then k0 (false,x,w.set n.toNat false,t.set n.toNat (gv t n+1),rest) else
  match ri n least L x (w.set n.toNat false) rest with
  |(true,x',w',q')=>kn x' w' (t.set n.toNat (gv t n+1)) q'
  |(false,x',w',q')=>k0 (false,x',w',t.set n.toNat (gv t n+1),q'):=by
 have hN:=hL.nodes
 have tn:n.toNat<x.length:=by omega
 have tw:n.toNat<w.length:=by omega
 have tt:n.toNat<t.length:=by omega
 unfold į
 have e0:ieq (Ó (n::rest)) 0=false:=by
  rw[Û];simp only[ieq,dn,beq_eq_false_iff_ne,ne_eq];omega
 have e1:ilt (0:Int) (ô (n::rest))=true:=by simp[ilt,ô]
 have e2:ile (1:Int) (ô (n::rest))=true:=by simp[ile,ô]; omega
 have e3:decide (1+(List.length (n::rest)-1)=List.length (n::rest))=true:=by simp; omega
 rw[Ð e0,Ĥ e1];rw[show Ď (n::rest) 0=fun(f:Int→Option ρ)=>f n from rfl]
 try dsimp only
 rw[Ĥ e2,Ĥ e3,Ĵ hn.1 (by omega),Yn tw,Ĵ hn.1 (by omega),kV tt,Ò (by omega) (by omega),Ĵ hn.1 (by omega),kV tt];rw[show(ô (List.set t n.toNat (gv t n+1)))=((t.length:Nat):Int) by simp[ô]];rw[Ĵ hn.1 (by omega),kV (by simpa using tt),A8 hn.1 hn.1 tt,if_pos rfl,Ò (by omega) (by omega),ĥ];rw[show List.drop 1 (n::rest)=rest from rfl]
 by_cases hlt:(N:Int)+1<gv t n+1
 ·rw[if_pos (by simpa[igt] using hlt),if_pos hlt]
 ·rw[if_neg (by simpa[igt] using hlt),if_neg hlt];rw[apQ hL hn hx (w:=w.set n.toNat false) (by simpa using hw) hq hb];generalize ri n least L x (w.set n.toNat false) rest=r;obtain⟨b,x',w',q'⟩:=r
  cases b<;>rfl
def amb {ρ:Type} {L:List Lk} {N:Int} {least:Int} {x:List Int} {w:List Bool} {t:List Int} (kn:List Int→List Bool→List Int→List Int→Option ρ) (k0:(Val (.pair .bool (.pair (.slice tI) (.pair (.slice .bool) (.pair (.slice tI) (.slice tI))))))→Option ρ) :
 į [] least N L x w t [] kn k0=k0 (true,x,w,t,[]):=by
 unfold į
 have e0:ieq (Ó ([]:List Int)) 0=true:=by rw[Û]; rfl
 rw[Õ e0]
def aaS (N:Nat) (t:List Int):Nat:=(t.map fun a=>((N:Int)+2-a).toNat).sum
def ai2 (N:Nat):∀(t:List Int) (i:Nat) (a b:Int),t[i]?=some a→a<b→a<(N:Int)+2→aaS N (t.set i b)<aaS N t
 |a0::t,0,a,b,h,h1,h2=>by
  simp at h; subst h;simp only[aaS,List.set_cons_zero,fh,List.sum_cons];omega
 |a0::t,i+1,a,b,h,h1,h2=>by
  have:=ai2 N t i a b (by simpa using h) h1 h2;simp only[aaS] at this;simp only[aaS,List.set_cons_succ,fh,List.sum_cons];omega
def aeR {N:Nat} {t:List Int} {n:Int} (hn:n.toNat<t.length) (h:gv t n≤(N:Int)+1):aaS N (t.set n.toNat (gv t n+1))<aaS N t :=
 ai2 N t n.toNat (gv t n) _ (Xh hn) (by omega) (by omega)
structure alv (L:List Lk) (S:Int→Prop) (N:Nat) (M:Int) (k:Nat) (A B:List Int) (x:List Int) (w:List Bool) (t q:List Int):Prop where
 q_eq:q=A++B
 lx:x.length=N
 lw:w.length=N
 lt:t.length=N
 nodup:q.Nodup
 rng:∀v∈q,0≤v∧v<N
 waits:∀v:Int,0≤v→v<N→(wv w v=true↔v∈q)
 t0:∀v:Int,0≤v→v<N→0≤gv t v∧gv t v≤(k:Int)+1
 tA:∀v∈A,gv t v≤k
 low:∀vs v d,Wl L S vs v d→vs.length≤k→gv x v≤d
 nxt:∀vs u d,Wl L S vs u d→vs.length≤k→u∉A→∀v m,(u,v,m)∈L→gv x v≤d+m
 rel:∀u:Int,0≤u→u<N→u∉q→gv x u≠Ł→∀v m,(u,v,m)∈L→gv x v≤gv x u+m
 att:∀v:Int,0≤v→v<N→gv x v≠Ł→∃vs,Wl L S vs v (gv x v)
 bd:∀v:Int,0≤v→v<N→gv x v=Ł∨gv x v≤((k:Int)+1)*M
 bA:∀v∈A,gv x v≤(k:Int)*M
 fin:∀v∈q,gv x v<Ł
 kN:k+1≤N
 last:k+1=N→B=[]
section
variable {L:List Lk} {S:Int→Prop} {N:Nat} {M:Int} {p:Int→Int} {k:Nat} {A B x:List Int} {w:List Bool} {t q:List Int}
def OM {a b:Nat} {M:Int} (h:a≤b) (hM:0≤M):(a:Int)*M≤(b:Int)*M:=fu (by omega) hM
def Wl.lt_free (hL:jj L N M) (hNM:N*M<Ł) {vs:List Int} {v d:Int} (hw:Wl L S vs v d) (h:vs.length≤N):d<Ł:=by
 have h1:=hw.high fun l hl=>(hL.most l hl).2;have h2:=OM h hL.m0;omega
def alv.next (hL:jj L N M) (hNM:N*M<Ł) (hS:∀v,S v→0≤v∧v<N) (h:alv L S N M k [] B x w t q) (hB:B≠[]):alv L S N M (k+1) B [] x w t q:=by
 have hM:=hL.m0
 have hq:q=B:=by simpa using h.q_eq
 have hk:k+1≠N:=fun e=>hB (h.last e);have hkN:=h.kN
 have low':∀vs v d,Wl L S vs v d→vs.length≤k+1→gv x v≤d:=by
  intro vs v d hw hl
  cases hw with
  |nil hs=>exact h.low [] v 0 (.nil hs) (by simp)
  | @step vs u _ m d hw hlk=>exact h.nxt vs u d hw (by simpa using hl) (by simp) v m hlk
 refine⟨by simp[hq],h.lx,h.lw,h.lt,h.nodup,h.rng,h.waits,fun v h0 h1=>⟨(h.t0 v h0 h1).1,by have:=(h.t0 v h0 h1).2; push_cast; omega⟩,fun v hv=>?_,low',fun vs u d hw hl hu v m hlk=>?_,h.rel,h.att,fun v h0 h1=>?_,fun v hv=>?_,h.fin,by omega,fun _=>rfl⟩
 ·have:=h.rng v (by rw[hq]; exact hv);have:=(h.t0 v this.1 this.2).2;push_cast; omega
 ·have h1:=low' vs u d hw hl;have h2:=hw.lt_free hL hNM (by omega);have h3:=(hw.range hL.inr hS).1;have:=h.rel u h3.1 h3.2 (by rw[hq]; exact hu) (by omega) v m hlk;omega
 ·rcases h.bd v h0 h1 with h2|h2
  ·exact .inl h2
  ·refine .inr ?_;have:=OM (show k+1≤k+1+1 by omega) hM;push_cast at this ⊢;omega
 ·have h1:=h.rng v (by rw[hq]; exact hv);have h2:=h.fin v (by rw[hq]; exact hv);rcases h.bd v h1.1 h1.2 with h3|h3
  ·omega
  ·push_cast; exact h3
def alv.step {n:Int} {A':List Int} {least:Int} {x':List Int} {w':List Bool} {q':List Int} (hL:jj L N M) (hNM:N*M<Ł) (hp:Pot L p) (hS:∀v,S v→0≤v∧v<N) (h:alv L S N M k (n::A') B x w t q)
 (ha:aqQ N n least L x (A'++B) x' w' q'):∃B',alv L S N M k A' B' x' w' (t.set n.toNat (gv t n+1)) q':=by
 have hM:=hL.m0
 have hq:q=n::(A'++B):=by simpa using h.q_eq
 have hkN:=h.kN;have hnr:=h.rng n (by rw[hq]; simp);have hnf:=h.fin n (by rw[hq]; simp)
 have hnd:n∉A'++B:=by have:=h.nodup; rw[hq,f8] at this; exact this.1
 have htn:n.toNat<t.length:=by have:=h.lt; omega
 have tset:∀v,0≤v→gv (t.set n.toNat (gv t n+1)) v=if v=n then gv t n+1 else gv t v:=fun v h0=>A8 hnr.1 h0 htn _
 have hkM:((k:Int)+1)*M<Ł:=by
  have:=OM hkN hM;push_cast at this;omega
 have xle:∀v:Int,0≤v→v<N→gv x v≤Ł:=fun v h0 h1=>by rcases h.bd v h0 h1 with h2|h2<;>omega
 obtain⟨l,hl,hlv⟩:=ha.new
 have att':∀v:Int,0≤v→v<N→gv x' v≠Ł→∃vs,Wl L S vs v (gv x' v):=by
  intro v h0 h1 hne;rcases ha.chg v h0 h1 with g|⟨_,_,m,g3,g4,_⟩
  ·rw[g] at hne ⊢; exact h.att v h0 h1 hne
  ·obtain⟨vs,hw⟩:=h.att n hnr.1 hnr.2 (by omega);rw[g4]; exact⟨_,hw.step g3⟩
 refine⟨B++l,by rw[hl,dF],ha.lx,ha.lw,by rw[fK]; exact h.lt,ha.nodup,fun v hv=>?_,ha.waits,fun v h0 h1=>?_,fun v hv=>?_,fun vs v d hw hlen=>?_,fun vs u d hw hlen hu v m hlk=>?_,
  fun u h0 h1 hu hf v m hlk=>?_,att',fun v h0 h1=>?_,fun v hv=>?_,fun v hv=>?_,hkN,fun hk=>?_⟩
 ·rw[hl] at hv;rcases dk.1 hv with hv|hv
  ·exact h.rng v (by rw[hq]; simp only[dm]; exact .inr hv)
  ·exact(hlv v hv).1
 ·rw[tset v h0];have h2:=h.t0 v h0 h1
  split
  ·have h3:=h.tA n (by simp);have h4:=h.t0 n hnr.1 hnr.2;omega
  ·exact h2
 ·have h1:=h.rng v (by rw[hq]; simp[hv]);rw[tset v h1.1,if_neg (fun e=>hnd (by rw[←e]; simp[hv]))];exact h.tA v (by simp[hv])
 ·have h1:=h.low vs v d hw hlen;have h2:=(hw.range hL.inr hS).1;have:=ha.le v h2.1 h2.2;omega
 ·have hvr:=(hL.inr _ hlk).2
  by_cases hun:u=n
  ·subst hun;have h1:=ha.link v m hlk;have h2:=h.low vs u d hw hlen;omega
  ·have h1:=h.nxt vs u d hw hlen (by simp[hun,hu]) v m hlk;have:=ha.le v hvr.1 hvr.2;omega
 ·have hvr:=(hL.inr _ hlk).2
  have heq:gv x' u=gv x u:=by
   rcases ha.chg u h0 h1 with g|⟨g,_⟩
   ·exact g
   ·exact(hu g).elim
  by_cases hun:u=n
  ·subst hun;have h1:=ha.link v m hlk;omega
  ·have hur:u∉q:=by
    rw[hq];intro hc;rcases dm.1 hc with e|hc
    ·exact hun e
    ·exact hu (by rw[hl]; exact eM _ hc)
   have h2:=h.rel u h0 h1 hur (by rw[←heq]; exact hf) v m hlk;have:=ha.le v hvr.1 hvr.2;omega
 ·rcases ha.chg v h0 h1 with g|⟨_,_,m,g3,g4,_⟩
  ·rw[g]; exact h.bd v h0 h1
  ·have h2:=h.bA n (by simp);have h3:=(hL.most _ g3).2;simp only at h3;refine .inr ?_;rw[g4,fX,gA];omega
 ·have h1:=h.rng v (by rw[hq]; simp[hv]);have h2:=h.bA v (by simp[hv]);have:=ha.le v h1.1 h1.2;omega
 ·rw[hl] at hv;rcases dk.1 hv with hv|hv
  ·have h1:=h.rng v (by rw[hq]; simp only[dm]; exact .inr hv);have h2:=h.fin v (by rw[hq]; simp only[dm]; exact .inr hv);have:=ha.le v h1.1 h1.2;omega
  ·obtain⟨g1,g2⟩:=hlv v hv;have:=xle v g1.1 g1.2;omega
 ·rw[h.last hk]
  cases l with
  |nil=>rfl
  |cons v l =>
   exfalso;obtain⟨g1,g2⟩:=hlv v (by simp);have:=xle v g1.1 g1.2;obtain⟨vs,hw⟩:=att' v g1.1 g1.2 (by omega);obtain⟨vs',d',k1,k2,k3⟩:=hw.simple hp;have k4:=k1.short hL.inr hS k3;have:=h.low vs' v d' k1 (by omega);omega
def alv.done (hL:jj L N M) (hNM:N*M<Ł) (hp:Pot L p) (hS:∀v,S v→0≤v∧v<N) (h:alv L S N M k A B x w t []):alw L S N (gv x):=by
 have hkN:=h.kN;have hM:=hL.m0
 have hkM:((k:Int)+1)*M<Ł:=by
  have:=OM hkN hM;push_cast at this;omega
 have key:∀vs v d,Wl L S vs v d→vs.length+1≤N→gv x v≤d:=by
  intro vs v d hw
  induction hw with
  |nil hs=>intro _; exact h.low [] _ 0 (.nil hs) (by simp)
  | @step vs u v m d hw hlk ih =>
   intro hlen;simp only[dn] at hlen;have h1:=ih (by omega);have h2:=hw.lt_free hL hNM (by omega);have h3:=(hw.range hL.inr hS).1;have:=h.rel u h3.1 h3.2 (by simp) (by omega) v m hlk;omega
 refine⟨h.att,fun v vs d hw=>?_,fun v h0 h1=>?_⟩
 ·obtain⟨vs',d',k1,k2,k3⟩:=hw.simple hp;have:=key vs' v d' k1 (k1.short hL.inr hS k3);omega
 ·rcases h.bd v h0 h1 with h2|h2<;>omega
def ab1 {ρ:Type} {r:Option ρ} (hL:jj L N M) (hNM:N*M<Ł) (hp:Pot L p) (hS:∀v,S v→0≤v∧v<N) (k0:(Val (.pair .bool (.pair (.slice tI) (.pair (.slice .bool) (.pair (.slice tI) (.slice tI))))))→Option ρ)
 (hK:∀x w t q,x.length=N→alw L S N (gv x)→k0 (true,x,w,t,q)=r) (h:alv L S N M k A B x w t q) :
 É (fun(v64:(Val (.pair (.slice tI) (.pair (.slice .bool) (.pair (.slice tI) (.slice tI)))))) kk69=>į [] (OL L) (N:Int) L v64.1 v64.2.1 v64.2.2.1 v64.2.2.2 (fun u65 u66 u67 u68=>kk69 (u65,u66,u67,u68)) k0) (x,w,t,q)=r:=by
 refine Ĭ (fun s:List Int×List Bool×List Int×List Int=>∃k A B,alv L S N M k A B s.1 s.2.1 s.2.2.1 s.2.2.2) (fun s=>aaS N s.2.2.1) ?_ ⟨k,A,B,h⟩;rintro⟨x,w,t,q⟩ ⟨k,A,B,h⟩;dsimp only at h ⊢;have hN:=hL.nodes
 cases q with
 |nil=>exact .inl fun kn=>by rw[amb]; exact hK x w t [] h.lx (h.done hL hNM hp hS)
 |cons n rest =>
  -- the phase in which the first one is
  have hph:∃k A' B,alv L S N M k (n::A') B x w t (n::rest):=by
   cases A with
   |nil =>
    have hB:B=n::rest:=by simpa using h.q_eq.symm
    subst hB;exact⟨k+1,rest,[],h.next hL hNM hS (by simp)⟩
   |cons a A' =>
    have:=h.q_eq;simp only[fk,List.cons.injEq] at this;obtain⟨rfl,_⟩:=this;exact⟨k,A',B,h⟩
  clear h k A B;obtain⟨k,A',B,h⟩:=hph
  have hrest:rest=A'++B:=by have:=h.q_eq; simpa using this
  have hnr:=h.rng n (by simp);have hnf:=h.fin n (by simp);have hkN:=h.kN;have h1:=h.tA n (by simp);have h2:=h.t0 n hnr.1 hnr.2;obtain⟨vs,hw⟩:=h.att n hnr.1 hnr.2 (by omega);have hlow:=hw.low' hp
  have hneg : -(400*4503599627370496)≤OL L:=by
   have:∀L':List Lk,(∀l∈L',-M≤l.2.2)→-((L'.length:Int)*M)≤OL L':=by
    intro L'
    induction L' with
    |nil=>intro _; simp[OL,No]
    |cons l t ih =>
     intro hh;have i1:=ih fun l hl=>hh l (by simp[hl]);have i2:=hh l (by simp);have i3:=hL.m0;unfold OL at i1 ⊢;simp only[No,if_true,List.length_cons,Int.natCast_succ,Int.add_mul,Int.one_mul];omega
   have h3:=this L fun l hl=>(hL.most l hl).1;have h4:(L.length:Int)*M≤400*4503599627370496:=fj (by have:=hL.len; omega) hL.m1 hL.m0 (by omega);omega
  have hrl:rest.length≤1000000:=by
   have:=aiE N (n::rest) h.nodup h.rng;simp only[dn] at this;omega
  refine .inr ?_
  have hw':(w.set n.toNat false).length=N:=by rw[fK]; exact h.lw
  cases hr:ri n (OL L) L x (w.set n.toNat false) rest with
  |mk b r' =>
  obtain⟨x',w',q'⟩:=r'
  cases b with
  |false =>
   exfalso;obtain⟨v,m,g1,g2⟩:=oy hL.noloop (fun l hl=>(hL.inr l hl).2.1) hnr.1 hr;have:=(hw.step g1).low' hp;omega
  |true =>
   have hnd:=h.nodup;rw[f8] at hnd
   have ha:=lC hnr hL.inr hL.noloop h.lx hw' hnd.2 (fun v h0 h1=>by
    rw[aie hnr.1 h0 (by have:=h.lw; omega)]
    by_cases hv:v=n
    ·subst hv; simp[hnd.1]
    ·rw[if_neg hv,h.waits v h0 h1]
     simp[hv]) hr
   rw[hrest] at ha;obtain⟨B',hB'⟩:=h.step hL hNM hp hS ha;refine⟨(x',w',t.set n.toNat (gv t n+1),q'),⟨k,A',B',hB'⟩,aeR (by have:=h.lt; omega) (by omega),fun kn=>?_⟩;have hF:Ł=1152921504606846976:=rfl
   rw[aiR hL hnr h.lx h.lw h.lt hrl (by constructor<;>omega) (by constructor<;>omega),if_neg (by omega),hr]
end
def PL (f:Lk→Bool):∀(L L':List Lk),No f (L++L')=No f L+No f L'
 |[],L'=>by simp[No]
 |l::t,L'=>by
  simp only[fk,No,PL f t L'];omega
def acO {L:List Lk} {i:Nat} {l:Lk} (h:L[i]?=some l):OL (L.take (i+1))=OL (L.take i)+min l.2.2 0:=by
 rw[take_succ h,OL,OL,PL];simp[No]
def imin0 (e:Int):yK e 0=min e 0:=by
 unfold yK
 split<;>omega
def Yo {L:List Lk} {M:Int} (h:∀l∈L,-M≤l.2.2) (hM:0≤M) : -((L.length:Int)*M)≤OL L:=by
 induction L with
 |nil=>simp[OL,No]
 |cons l t ih =>
  have i1:=ih fun l hl=>h l (by simp[hl]);have i2:=h l (by simp);unfold OL at i1 ⊢;simp only[No,if_true,List.length_cons,Int.natCast_succ,Int.add_mul,Int.one_mul];omega
def arJ (L:List Lk):OL L≤0:=wg _ L
section
variable {ρ:Type} {L:List Lk} {N:Nat} {M:Int}
def ai3 (hL:jj L N M) (k0:Int→Option ρ):É (fun(v75:Val Â) kk78=>iJ L (Ó L) v75.1 v75.2 (fun u76 u77=>kk78 (u76,u77)) k0) ((0:Int),(0:Int))=k0 (OL L):=by
 refine Ĭ (fun x:Int×Int=>∃i:Nat,i≤L.length∧x=(OL (L.take i),(i:Int))) (fun x=>L.length-x.2.toNat) ?_ ⟨0,by omega,rfl⟩;rintro x ⟨i,hi,rfl⟩;have hlen:=hL.len;rcases dG i L.length with h|h
 ·have hl:L[i]?=some L[i]:=df h;refine .inr ⟨(OL (L.take (i+1)),(i:Int)+1),⟨i+1,h,by simp⟩,by simp; omega,fun kn=>?_⟩
  try dsimp only
  unfold iJ
  have hb:∀j,j≤L.length→-(400*4503599627370496)≤OL (L.take j):=by
   intro j hj;have h1:=Yo (L:=L.take j) (fun l hl=>(hL.most l (gh hl)).1) hL.m0;have h2:((L.take j).length:Int)*M≤400*4503599627370496:=fj (by rw[dv]; omega) hL.m1 hL.m0 (by omega);omega
  have h1:=hb i hi;have h2:=hb (i+1) h;have h3:=arJ (L.take i);rw[acO hl] at h2;rw[Ñ h,Ç hl,imin0,Ò (by omega) (by omega),Ê h (by omega),acO hl]
 ·refine .inl fun kn=>?_
  have:i=L.length:=by omega
  subst this
  try dsimp only
  unfold iJ;rw[Ü,List.take_length]
def alM {x:List Int} (hx:x.length=N) (hN:N≤1000) {r:Option ρ} (k0:(Val (.pair (.slice .bool) (.slice tI)))→Option ρ)
 (hK:∀(w:List Bool) (q:List Int),w.length=N→q.Nodup→(∀v∈q,0≤v∧v<N)→(∀v:Int,0≤v→v<N→(wv w v=true↔v∈q))→(∀v:Int,0≤v→v<N→(v∈q↔gv x v≠Ł))→k0 (w,q)=r) :
 É (fun(v70:(Val (.pair tI (.pair (.slice .bool) (.slice tI))))) kk74=>Ş (N:Int) x v70.1 v70.2.1 v70.2.2 (fun u71 u72 u73=>kk74 (u71,u72,u73)) k0) ((0:Int),(List.replicate N false),([]:List Int))=r:=by
 refine Ĭ (fun s:Int×List Bool×List Int=>∃i:Nat,i≤N∧s.1=i∧s.2.1.length=N∧s.2.2.Nodup∧s.2.2.length≤i∧(∀v∈s.2.2,0≤v∧v<i)∧(∀v:Int,0≤v→v<N→(wv s.2.1 v=true↔v∈s.2.2))∧(∀v:Int,0≤v→v<i→(v∈s.2.2↔gv x v≠Ł))) (fun s=>N-s.1.toNat) ?_
  ⟨0,by omega,rfl,by simp,by simp,by simp,by simp,fun v h0 h1=>?_,fun v h0 h1=>by omega⟩
 ·rintro⟨s,w,q⟩ ⟨i,hi,h1,h2,h3,h4,h5,h6,h7⟩;simp only at h1 h2 h3 h4 h5 h6 h7;subst h1;rcases dG i N with h|h
  ·refine .inr ?_
   have hix:i<x.length:=by omega
   have hiw:i<w.length:=by omega
   have hnq:((i:Int))∉q:=fun hc=>by have:=(h5 _ hc).2; omega
   by_cases hf:gv x i=Ł
   ·refine⟨((i:Int)+1,w,q),⟨i+1,h,by simp,h2,h3,by simp only; omega,fun v hv=>⟨(h5 v hv).1,by have:=(h5 v hv).2; push_cast; omega⟩,h6,fun v h0 h1=>?_⟩,by simp; omega,fun kn=>?_⟩
    ·by_cases hv:v=i
     ·subst hv; simp[hf,hnq]
     ·exact h7 v h0 (by push_cast at h1; omega)
    ·try dsimp only
     unfold Ş
     have e:ilt (i:Int) (N:Int)=true:=by simp[ilt,h]
     rw[Õ e,iN hix,kV (by simpa using hix)]
     have e2:ine (gv x i) 1152921504606846976=false:=by simp[ine,hf]
     rw[Ð e2,Ê h (by omega)]
   ·refine⟨((i:Int)+1,w.set i true,q++[(i:Int)]),⟨i+1,h,by simp,by simpa using h2,?_,by simp; omega,fun v hv=>?_,fun v h0 h1=>?_,fun v h0 h1=>?_⟩,by simp; omega,fun kn=>?_⟩
    ·rw[List.nodup_append];exact⟨h3,by simp,fun a ha b hb=>by simp at hb; subst hb; exact fun e=>hnq (e▸ha)⟩
    ·rcases dk.1 hv with hv|hv
     ·exact⟨(h5 v hv).1,by have:=(h5 v hv).2; push_cast; omega⟩
     ·simp at hv; subst hv; push_cast; omega
    ·have:=aie (w:=w) (u:=(i:Int)) (by omega) h0 (by simpa using hiw) true;rw[dE] at this;show wv (w.set i true) v=true↔v∈q++[(i:Int)];rw[this]
     by_cases hv:v=i
     ·simp[hv]
     ·simp only[hv,if_false,dk,dt,or_false];exact h6 v h0 h1
    ·show v∈q++[(i:Int)]↔_
     by_cases hv:v=i
     ·subst hv; simp[hf]
     ·simp only[dk,dt,hv,or_false];exact h7 v h0 (by push_cast at h1; omega)
    ·try dsimp only
     unfold Ş
     have e:ilt (i:Int) (N:Int)=true:=by simp[ilt,h]
     rw[Õ e,iN hix,kV (by simpa using hix)]
     have e2:ine (gv x i) 1152921504606846976=true:=by simp[ine,hf]
     rw[Õ e2,Ô (by simp only[dN]; omega),Am.iff_true,iN hiw,Yn (by simpa using hiw),Ê h (by omega),dE]
  ·refine .inl fun kn=>?_
   have:i=N:=by omega
   subst this
   try dsimp only
   unfold Ş
   have e:ilt (i:Int) (i:Int)=false:=by simp[ilt]
   rw[Ð e];exact hK w q h2 h3 h5 h6 h7
 ·have:wv (List.replicate N false) v=false:=by
   unfold wv;rw[List.getElem?_replicate]
   split<;>rfl
  simp[this]
def V1 (hL:jj L N M) (hN:1≤N) {S:Int→Bool} (hS:∀v,S v=true→0≤v∧v<N) {w:List Bool} {q:List Int} (hw:w.length=N) (hq:q.Nodup) (hr:∀v∈q,0≤v∧v<N) (hwq:∀v:Int,0≤v→v<N→(wv w v=true↔v∈q)) (hqs:∀v:Int,0≤v→v<N→(v∈q↔gv (vX S N) v≠Ł)) :
 alv L (fun v=>S v=true) N M 0 q [] (vX S N) w (List.replicate N 0) q:=by
 have ht:∀v:Int,0≤v→v<N→gv (List.replicate N (0:Int)) v=0:=by
  intro v h0 h1;unfold gv;rw[List.getElem?_replicate]
  split<;>rfl
 have hg:∀v:Int,0≤v→v<N→(v∈q↔S v=true):=by
  intro v h0 h1;rw[hqs v h0 h1,jB S h0 h1]
  cases S v<;>simp[Ł]
 have hM:=hL.m0;refine⟨by simp,þ S N,hw,by simp,hq,hr,hwq,fun v h0 h1=>?_,fun v hv=>?_,fun vs v d hw hl=>?_,fun vs u d hw hl hu v m hlk=>?_,fun u h0 h1 hu hf v m hlk=>?_,fun v h0 h1 hf=>?_,fun v h0 h1=>?_,fun v hv=>?_,fun v hv=>?_,by omega,fun _=>rfl⟩
 ·rw[ht v h0 h1]; omega
 ·have:=hr v hv;rw[ht v this.1 this.2]; omega
 ·cases hw with
  |nil hs =>
   have:=hS v hs;rw[jB S this.1 this.2,if_pos hs]; omega
  |step=>simp at hl
 ·cases hw with
  |nil hs =>
   have:=hS u hs;exact(hu ((hg u this.1 this.2).2 hs)).elim
  |step=>simp at hl
 ·rw[jB S h0 h1] at hf;have:=mt (hg u h0 h1).2 hu;rw[if_neg this] at hf;exact(hf rfl).elim
 ·rw[jB S h0 h1] at hf ⊢
  split at hf
  ·rename_i hs;rw[if_pos hs]; exact⟨[],.nil hs⟩
  ·exact(hf rfl).elim
 ·rw[jB S h0 h1]
  split
  ·exact .inr (by simp[hM])
  ·exact .inl rfl
 ·have h1:=hr v hv;rw[jB S h1.1 h1.2,if_pos ((hg v h1.1 h1.2).1 hv)]; simp
 ·have h1:=hr v hv;rw[jB S h1.1 h1.2,if_pos ((hg v h1.1 h1.2).1 hv)]; simp[Ł]
structure Bad (L:List Lk) (N:Nat) (x:List Int) (w:List Bool) (t q:List Int):Prop where
 lx:x.length=N
 lw:w.length=N
 lt:t.length=N
 nodup:q.Nodup
 rng:∀v∈q,0≤v∧v<N
 waits:∀v:Int,0≤v→v<N→(wv w v=true↔v∈q)
 t0:∀v:Int,0≤v→v<N→0≤gv t v∧gv t v≤(N:Int)+1
 bd:∀v:Int,0≤v→v<N→-2305843009213693952≤gv x v∧gv x v≤0
 rel:∀u:Int,0≤u→u<N→u∉q→∀v m,(u,v,m)∈L→gv x v≤gv x u+m
def ao8 {r:Option ρ} {x:List Int} {w:List Bool} {t q:List Int} (hL:jj L N M) (hp:¬∃p,Pot L p) (k0:(Val (.pair .bool (.pair (.slice tI) (.pair (.slice .bool) (.pair (.slice tI) (.slice tI))))))→Option ρ)
 (hK:∀x w t q,k0 (false,x,w,t,q)=r) (h:Bad L N x w t q) :
 É (fun(v64:(Val (.pair (.slice tI) (.pair (.slice .bool) (.pair (.slice tI) (.slice tI)))))) kk69=>į [] (OL L) (N:Int) L v64.1 v64.2.1 v64.2.2.1 v64.2.2.2 (fun u65 u66 u67 u68=>kk69 (u65,u66,u67,u68)) k0) (x,w,t,q)=r:=by
 refine Ĭ (fun s:List Int×List Bool×List Int×List Int=>Bad L N s.1 s.2.1 s.2.2.1 s.2.2.2) (fun s=>aaS N s.2.2.1) ?_ h;rintro⟨x,w,t,q⟩ h;dsimp only at h ⊢;have hN:=hL.nodes
 cases q with
 |nil =>
  exfalso;exact hp ⟨gv x,fun u v m hl=>h.rel u (hL.inr _ hl).1.1 (hL.inr _ hl).1.2 (by simp) v m hl⟩
 |cons n rest =>
  have hnr:=h.rng n (by simp);have hb:=h.bd n hnr.1 hnr.2;have ht:=h.t0 n hnr.1 hnr.2
  have hrl:rest.length≤1000000:=by
   have:=aiE N (n::rest) h.nodup h.rng;simp only[dn] at this;omega
  have hout:=fun(kn:List Int→List Bool→List Int→List Int→Option ρ)=>aiR (ρ:=ρ) hL (least:=OL L) hnr h.lx h.lw h.lt hrl ⟨hb.1,by omega⟩ ⟨ht.1,by omega⟩ kn k0
  by_cases hlt:(N:Int)+1<gv t n+1
  ·exact .inl fun kn=>by rw[hout,if_pos hlt]; exact hK _ _ _ _
  ·have hw':(w.set n.toNat false).length=N:=by rw[fK]; exact h.lw
   cases hr:ri n (OL L) L x (w.set n.toNat false) rest with
   |mk b r' =>
   obtain⟨x',w',q'⟩:=r'
   cases b with
   |false=>exact .inl fun kn=>by rw[hout,if_neg hlt,hr]; exact hK _ _ _ _
   |true =>
    have hnd:=h.nodup;rw[f8] at hnd
    have htl:n.toNat<t.length:=by have:=h.lt; omega
    have ha:=lC hnr hL.inr hL.noloop h.lx hw' hnd.2 (fun v h0 h1=>by
     rw[aie hnr.1 h0 (by have:=h.lw; omega)]
     by_cases hv:v=n
     ·subst hv; simp[hnd.1]
     ·rw[if_neg hv,h.waits v h0 h1]
      simp[hv]) hr
    obtain⟨l,hl,hlv⟩:=ha.new;refine .inr ⟨(x',w',t.set n.toNat (gv t n+1),q'),⟨ha.lx,ha.lw,by rw[fK]; exact h.lt,ha.nodup,fun v hv=>?_,ha.waits,fun v h0 h1=>?_,fun v h0 h1=>?_,fun u h0 h1 hu v m hlk=>?_⟩,aeR htl (by omega),fun kn=>by rw[hout,if_neg hlt,hr]⟩
    ·dsimp only at hv;rw[hl] at hv;rcases List.mem_append.1 hv with hv|hv
     ·exact h.rng v (by simp[hv])
     ·exact(hlv v hv).1
    ·try dsimp only
     rw[A8 hnr.1 h0 htl];have:=h.t0 v h0 h1
     split<;>omega
    ·try dsimp only
     have h2:=h.bd v h0 h1;rcases ha.chg v h0 h1 with g|⟨_,g2,m,g3,g4,g5⟩
     ·rw[g]; exact h2
     ·have h3:=Yo (L:=L) (fun l hl=>(hL.most l hl).1) hL.m0;have h4:(L.length:Int)*M≤400*4503599627370496:=fj (by have:=hL.len; omega) hL.m1 hL.m0 (by omega);omega
    ·dsimp only at hu ⊢;have hvr:=(hL.inr _ hlk).2
     have heq:gv x' u=gv x u:=by
      rcases ha.chg u h0 h1 with g|⟨g,_⟩
      ·exact g
      ·exact(hu g).elim
     by_cases hun:u=n
     ·subst hun;have h1:=ha.link v m hlk;omega
     ·have hur:u∉n::rest:=by
       intro hc;rcases dm.1 hc with e|hc
       ·exact hun e
       ·exact hu (by rw[hl]; exact eM _ hc)
      have h2:=h.rel u h0 h1 hur v m hlk;have:=ha.le v hvr.1 hvr.2;omega
end
def alu (N:Nat) (v:Int):Bool:=decide (0≤v)&&decide (v<(N:Int))
def amk (s:Int) (v:Int):Bool:=v==s
def ab0 (N:Nat):vX (alu N) N=List.replicate N 0:=by
 refine ai7 (by simp[þ]) fun v h0 h1=>?_;rw[þ] at h1;rw[jB _ h0 h1]
 have:alu N v=true:=by simp[alu,h0,h1]
 rw[if_pos this];unfold gv;rw[List.getElem?_replicate]
 split<;>rfl
def Į (L:List Lk) (N:Nat):List Int:=lL L N (vX (alu N) N)
def ĸ (L:List Lk) (N:Nat):Bool:=decide (Nj L (Į L N)=Į L N)
def ug (L:List Lk) (N:Nat) (s:Int):List Int:=lL L N (vX (amk s) N)
section
variable {L:List Lk} {N:Nat} {M:Int}
def apz (hL:jj L N M) (hN:N≤200):N*M<Ł:=by
 have:(N:Int)*M≤200*4503599627370496:=Int.mul_le_mul (by omega) hL.m1 hL.m0 (by omega);unfold Ł;omega
def Bz {p:Int→Int} (hL:jj L N M) (hN:N≤200) (hp:Pot L p):alw L (fun v=>alu N v=true) N (gv (Į L N)) :=
 Pr hp hL.inr (fun v h=>by simpa[alu] using h) (fun l hl=>(hL.most l hl).2) hL.m0 (apz hL hN) N (by omega)
def jW {p:Int→Int} (hL:jj L N M) (hN:N≤200) (hp:Pot L p) {s:Int} (hs:0≤s∧s<N):alw L (fun v=>amk s v=true) N (gv (ug L N s)) :=
 Pr hp hL.inr (fun v h=>by simp[amk] at h; subst h; exact hs) (fun l hl=>(hL.most l hl).2) hL.m0 (apz hL hN) N (by omega)
def ack:∀{L:List Lk} {x:List Int},(∀u v m,(u,v,m)∈L→gv x u<Ł→gv x v≤gv x u+m)→Nj L x=x
 |[],x,_=>rfl
 |l::t,x,h=>by
  have h1:mL x l=x:=by
   unfold mL
   split
   ·rename_i hc;have:=h l.1 l.2.1 l.2.2 (by simp) hc.1;omega
   ·rfl
  show Nj t (mL x l)=x;rw[h1];exact ack fun u v m hm=>h u v m (by simp[hm])
def Ŝ (hL:jj L N M) (hN:N≤200):ĸ L N=true↔∃p,Pot L p:=by
 unfold ĸ;rw[decide_eq_true_eq]
 have hle:∀v:Int,0≤v→v<N→gv (Į L N) v≤0:=by
  intro v h0 h1;have:=Gf hL.inr N (þ (alu N) N) v h0;rw[jB _ h0 h1,if_pos (by simp[alu,h0,h1])] at this;exact this
 constructor
 ·intro h;refine⟨gv (Į L N),fun u v m hl=>?_⟩;have hr:=(hL.inr _ hl).1;have:=JY hL.inr (x:=Į L N) (by unfold Į; rw[ķ,þ]) u v m hl (by have:=hle u hr.1 hr.2; unfold Ł; omega)
  rwa [h] at this
 ·rintro⟨p,hp⟩;have hd:=Bz hL hN hp;exact ack fun u v m hl hf=>hd.pot hL.inr hl (by omega)
end
section
variable {ρ:Type} {L:List Lk} {N:Nat} {M:Int}
def IZ (hN:N≤1000) (x:Option ρ):Þ ((ile (0:Int) (N:Int))&&(â (Int.toNat (N:Int)))) x=x:=by
 rw[dE,Ô (by omega)]
 have:((ile (0:Int) (N:Int))&&true)=true:=by simp[ile]
 rw[this,Am.iff_true]
def agj (hL:jj L N M) (h1:1≤N) (hN:N≤200) (k0:(Val (.pair .bool (.pair (.slice tI) (.pair (.slice .bool) (.pair (.slice tI) (.slice tI))))))→Option ρ) {rT rF:Option ρ}
 (hT:ĸ L N=true→∀w t q,k0 (true,Į L N,w,t,q)=rT) (hF:∀x w t q,k0 (false,x,w,t,q)=rF) :
 (É (fun(v70:(Val (.pair tI (.pair (.slice .bool) (.slice tI))))) kk74=>Ş (N:Int) (List.replicate N (0:Int)) v70.1 v70.2.1 v70.2.2 (fun u71 u72 u73=>kk74 (u71,u72,u73)) (fun z9=>É (fun(v64:(Val (.pair (.slice tI) (.pair (.slice .bool) (.pair (.slice tI) (.slice tI)))))) kk69=>į [] (OL L) (N:Int) L v64.1 v64.2.1 v64.2.2.1 v64.2.2.2 (fun u65 u66 u67 u68=>kk69 (u65,u66,u67,u68)) k0) ((List.replicate N (0:Int)),z9.1,(List.replicate N (0:Int)),z9.2))) ((0:Int),(List.replicate N false),([]:List Int)))=if ĸ L N then rT else rF:=by
 refine alM (by simp) (by omega) _ fun w q hw hq hr hwq hqs=>?_
 try dsimp only
 have hS:∀v,alu N v=true→0≤v∧v<N:=fun v h=>by simpa[alu] using h
 by_cases ho:ĸ L N=true
 ·rw[if_pos ho];obtain⟨p,hp⟩:=(Ŝ hL hN).1 ho;have hs:=V1 hL h1 hS hw hq hr hwq (fun v a b=>by rw[ab0]; exact hqs v a b);rw[ab0] at hs;refine ab1 hL (apz hL hN) hp hS k0 (fun x w t q hx hd=>?_) hs
  have:x=Į L N:=by
   refine ai7 (by rw[hx]; unfold Į; rw[ķ,þ]) fun v a b=>?_;exact hd.uniq (Bz hL hN hp) a (by omega)
  rw[this]; exact hT ho w t q
 ·rw[if_neg ho];refine ao8 hL (fun hp=>ho ((Ŝ hL hN).2 hp)) k0 hF ?_
  have hg:∀v,gv (List.replicate N (0:Int)) v=0:=by
   intro v;unfold gv;rw[List.getElem?_replicate]
   split<;>rfl
  refine⟨by simp,hw,by simp,hq,hr,hwq,fun v a b=>?_,fun v a b=>?_,fun u a b hu v m hl=>?_⟩
  ·rw[hg]; omega
  ·rw[hg]; omega
  ·exact(hu ((hqs u a b).2 (by rw[hg]; unfold Ł; omega))).elim
end
def shift_ok {ρ:Type} {x:List Int} (f:Int) (hx:x.length≤1000) (hf : -2305843009213693952≤f∧f≤2305843009213693952) (hb:∀a∈x,-2305843009213693952≤a∧a≤2305843009213693952) (k0:List Int→Option ρ) :
 É (fun(v60:(Val (.pair tI (.slice tI)))) kk63=>jN f (Ó x) v60.1 v60.2 (fun u61 u62=>kk63 (u61,u62)) k0) ((0:Int),x)=k0 (x.map fun a=>a-f):=by
 refine ë x (fun i=>(x.take i).map (fun a=>a-f)++x.drop i) _ (by simp) (fun i a hi ha kn=>?_) (fun kn=>?_)
 ·try dsimp only
  unfold jN
  have hlen:((x.take i).map (fun a=>a-f)++x.drop i).length=x.length:=by simp; omega
  have hget:((x.take i).map (fun a=>a-f)++x.drop i)[i]?=some a:=by
   rw[gJ (by simp; omega)];simp only[eF,dv,fC];rw[←ha]; congr 1; omega
  have hi':i<((x.take i).map (fun a=>a-f)++x.drop i).length:=by omega
  have ha':=hb a (dl ha);rw[Ñ hi,iN hi',ĭ hget,Ò (by omega) (by omega),iN hi',ĭ hget,Ê hi (by omega),dE,take_succ ha];congr 2;rw[eY hi,ic,dF,List.set_append_right _ _ (by simp; omega)]
  have:i-(List.map (fun a=>a-f) (List.take i x)).length=0:=by simp; omega
  rw[this]
  have h1:x[i]=a:=by rw[df hi] at ha; simpa using ha
  simp[h1]
 ·try dsimp only
  unfold jN;rw[Ü];simp
section
variable {L:List Lk} {N:Nat} {M:Int}
def XR (hL:jj L N M) (hN:N≤200) (ho:ĸ L N=true):∀a∈Į L N,-2305843009213693952≤a∧a≤0:=by
 obtain⟨p,hp⟩:=(Ŝ hL hN).1 ho;have hd:=Bz hL hN hp;intro a ha;obtain⟨i,hi,rfl⟩:=dz.1 ha
 have hlen:(Į L N).length=N:=by unfold Į; rw[ķ,þ]
 have h0:gv (Į L N) i=(Į L N)[i]:=by unfold gv; simp[hi]
 have hle:=Gf hL.inr N (þ (alu N) N) (i:Int) (by omega);rw[jB _ (by omega) (by omega),if_pos (by simp[alu]; omega)] at hle;have hle':gv (Į L N) i≤0:=hle;obtain⟨vs,hw⟩:=hd.att i (by omega) (by omega) (by unfold Ł; omega);have h1:=hw.low' hp;have h3:=Yo (L:=L) (fun l hl=>(hL.most l hl).1) hL.m0;have h4:(L.length:Int)*M≤400*4503599627370496:=Int.mul_le_mul (by have:=hL.len; omega) hL.m1 hL.m0 (by omega);omega
def solP (L:List Lk) (N:Nat):List Int:=(Į L N).map fun a=>a-gv (Į L N) 0
def D8 (hL:jj L N M) (h1:1≤N) (hN:N≤200):lF ((N:Int),L) []=some (if ĸ L N then(solP L N,true) else([],false)):=by
 unfold lF AE
 try dsimp only
 rw[IZ (by omega),IZ (by omega),IZ (by omega),dE];refine fq (ai3 hL _) ?_;refine fq (agj hL h1 hN _ (rT:=some (solP L N,true)) (rF:=some ([],false)) (fun ho w t q=>?_) (fun x w t q=>?_)) ?_
 ·try dsimp only
  have hlen:(Į L N).length=N:=by unfold Į; rw[ķ,þ]
  have hb:=XR hL hN ho;have h0:ilt (0:Int) (ô (Į L N))=true:=decide_eq_true (show(0:Int)<((Į L N).length:Int) by omega);have hg:(Į L N)[0]?=some (gv (Į L N) 0):=Xh (v:=0) (show 0<_ by omega);have hm:=hb _ (dl hg);rw[show(!true)=false from rfl,Ý,Ĥ h0,pq hg];exact shift_ok _ (by omega) ⟨hm.1,by omega⟩ (fun a ha=>⟨(hb a ha).1,by have:=(hb a ha).2; omega⟩) _
 ·rfl
 ·cases ĸ L N<;>rfl
structure Ŋ (L:List Lk) (N:Nat):Prop where
 n1:1≤N
 n60:N≤60
 len:L.length≤300
 inr:InR L N
 noloop:∀l∈L,l.1≠l.2.1
 most:∀l∈L,-4503599627370496≤l.2.2∧l.2.2≤4503599627370496
def Ŋ.links (h:Ŋ L N):jj L N 4503599627370496 :=
 ⟨h.inr,h.noloop,h.most,by have:=h.len; omega,by have:=h.n60; omega,by omega,by omega⟩
def Ŋ.sub {L':List Lk} (h:Ŋ L N) (hs:∀l∈L',l∈L) (hl:L'.length≤L.length):Ŋ L' N :=
 ⟨h.n1,h.n60,by have:=h.len; omega,fun l hm=>h.inr l (hs l hm),fun l hm=>h.noloop l (hs l hm),fun l hm=>h.most l (hs l hm)⟩
def PK (n:Int) (L:List Lk) (v:Int):tg (n,L) v=some (decide (0≤v)&&decide (v<n)):=by
 unfold tg ZW ige
 by_cases h:0≤v
 ·have:decide (v≥0)=true:=by simpa using h
  rw[Õ this]; simp[h]
 ·have:decide (v≥0)=false:=by simpa using h
  rw[Ð this]; simp[h]
def mC (h:Ŋ L N):oD ((N:Int),L)=some (0,-1):=by
 have h1:=h.n1;have h2:=h.n60;have h3:=h.len;unfold oD Rt
 try dsimp only
 rw[Ð (by simp[ilt]; omega),Ð (by simp[igt]; omega),Ð (by rw[Û]; simp[igt]; omega)];refine fq (iK L (fun _=>false) (fun i=>some (1,i)) (some (0,-1)) (fun i l hi hl kn=>?_) (fun kn=>?_)) ?_
 ·try dsimp only
  unfold sR;have hm:=List.mem_of_getElem? hl;have a:=h.inr l hm;have b:=h.noloop l hm;have c:=h.most l hm
  have e1:(decide (0≤l.1)&&decide (l.1<(N:Int)))=true:=by simp[a.1.1,a.1.2]
  have e2:(decide (0≤l.2.1)&&decide (l.2.1<(N:Int)))=true:=by simp[a.2.1,a.2.2]
  rw[Ñ hi,Ç hl,PK,À,e1,PK,À,e2];simp only[dT,Ý,dw,if_false];rw[Ð (by simp[ieq,b]),Ð (by simp[ilt]; omega),Ð (by simp[igt]; omega),Ê hi (by omega)]
 ·try dsimp only
  unfold sR;rw[Ü]
 ·rw[eZ.2 (by simp)]
def A7 {ρ:Type} {x:List Int} {v:Int} (h0:0≤v) (h:v.toNat<x.length) (f:Int→Option ρ):ê x v f=f (gv x v):=by
 obtain⟨i,rfl⟩:=gV h0;exact Ç (Xh h) f
end
section
variable {b:ß}
def xG (b:ß) (g:ì):(ã b g).Pairwise (·<·):=Eb _
def S0 (h:Ğ b) {g:ì} (hg:g∈b.2.1):∃t,ã b g=g.2.1::t:=by
 have h1:=xG b g;have h2:=kS (b:=b) g;have h3:∀d∈ã b g,g.2.1≤d:=fun d hd=>(h.day hg hd).1
 cases hd:ã b g with
 |nil=>rw[hd] at h2; cases h2
 |cons a t =>
  rw[hd] at h1 h2 h3;rw[dQ] at h1;rcases dm.1 h2 with e|e
  ·exact⟨t,by rw[e]⟩
  ·have:=h1.1 _ e;have:=h3 a (by simp);omega
def off (b:ß) (i:Nat):Nat:=((b.2.1.take i).flatMap fun g=>(ã b g).map fun d=>((g.1,d):Int×Int)).length
def Eo {i:Nat} {g:ì} (hg:b.2.1[i]?=some g):Í b=((b.2.1.take i).flatMap fun g=>(ã b g).map fun d=>((g.1,d):Int×Int))++(((ã b g).map fun d=>((g.1,d):Int×Int))++((b.2.1.drop (i+1)).flatMap fun g=>(ã b g).map fun d=>((g.1,d):Int×Int))):=by
 obtain⟨hi,rfl⟩:=dj.1 hg
 have h1:b.2.1=b.2.1.take i++(b.2.1[i]::b.2.1.drop (i+1)):=by
  rw[←eY hi,hZ]
 unfold Í
 conv=>lhs; rw[h1]
 rw[ft,ez]
def agt (h:Ğ b) {i:Nat} {g:ì} (hg:b.2.1[i]?=some g) {k:Nat} {d:Int} (hk:(ã b g)[k]?=some d):jz (Í b) g.1 d=some (off b i+k):=by
 obtain⟨hi,hgi⟩:=List.getElem?_eq_some_iff.1 hg;obtain⟨hkl,hkd⟩:=List.getElem?_eq_some_iff.1 hk;unfold jz;rw[Eo hg,List.findIdx?_append,List.findIdx?_append]
 have h1:List.findIdx? (fun n:Int×Int=>decide (g.1=n.1)&&decide (d=n.2)) ((b.2.1.take i).flatMap fun g=>(ã b g).map fun d=>((g.1,d):Int×Int))=none:=by
  rw[eZ];intro x hx;obtain⟨g',hg',hx⟩:=dK.1 hx;obtain⟨d',_,rfl⟩:=dZ.1 hx;obtain⟨j,hj,rfl⟩:=dz.1 hg';rw[dv] at hj;rw[List.getElem_take];have:=(dS.1 h.ids) j i (by omega) hi (by omega);rw[hgi] at this;simp only[Bool.and_eq_false_iff,decide_eq_false_iff_not];exact .inl (by omega)
 have h2:List.findIdx? (fun n:Int×Int=>decide (g.1=n.1)&&decide (d=n.2)) ((ã b g).map fun d=>((g.1,d):Int×Int))=some k:=by
  rw[dV];refine⟨by simpa using hkl,by simp[hkd],fun j hj=>?_⟩;have:=(dS.1 (xG b g)) j k (by omega) hkl hj;rw[hkd] at this;simp only[List.getElem_map,dh,decide_eq_true_eq,not_and];intro _;omega
 rw[h1,h2];simp only[Option.map_some,Option.some_or,Option.none_or];unfold off;congr 1;omega
def OK {i:Nat} {g:ì} (hg:b.2.1[i]?=some g) {k:Nat} {d:Int} (hk:(ã b g)[k]?=some d):(Í b)[off b i+k]?=some (g.1,d):=by
 obtain⟨hkl,hkd⟩:=List.getElem?_eq_some_iff.1 hk;rw[Eo hg,List.getElem?_append_right (by unfold off; omega),List.getElem?_append_left (by unfold off; simp; omega)];unfold off;simp[hk]
def ajD (h:Ğ b) {i:Nat} {g:ì} (hg:b.2.1[i]?=some g):atP (Í b) [g.1] g.2.1=(off b i:Int)+1:=by
 obtain⟨t,ht⟩:=S0 h (List.mem_of_getElem? hg);have:=agt h hg (k:=0) (d:=g.2.1) (by rw[ht]; rfl);unfold atP;simp only[this];rfl
def amm (h:Ğ b) {i:Nat} {g:ì} (hg:b.2.1[i]?=some g):off b i+(ã b g).length≤(Í b).length:=by
 rw[Eo hg];unfold off;simp only[List.length_append,List.length_map];omega
def apw {i:Nat} {g:ì} (hg:b.2.1[i]?=some g):off b (i+1)=off b i+(ã b g).length:=by
 unfold off;rw[take_succ hg,List.flatMap_append];simp
def acN (h:Ğ b) {c:Cmp} (hc:c∈b.2.2.2.2.1) {x:Int} (hx:(x∈c.2.2.1∧x∉c.2.2.2.1)∨(x∈c.2.2.2.1∧x∉c.2.2.1)):∃j,jz (Í b) x c.2.1=some j:=by
 have hm:x∈c.2.2.1++c.2.2.2.1:=by rw[dk]; exact hx.imp (·.1) (·.1)
 obtain⟨⟨g,hg,_⟩,_⟩:=h.pile hc hm;obtain⟨hgm,hgx⟩:=td hg;obtain⟨i,hi,hgi⟩:=dz.1 hgm
 have hd:c.2.1∈ã b g:=kJ.2 (.inr (.inl ⟨c,hc,by
  rw[hgx];rcases hx with⟨h1,h2⟩|⟨h1,h2⟩
  ·have e1:c.2.2.1.contains x=true:=by simpa using h1
   have e2:c.2.2.2.1.contains x=false:=by simpa using h2
   rw[e1,e2]; simp
  ·have e1:c.2.2.2.1.contains x=true:=by simpa using h1
   have e2:c.2.2.1.contains x=false:=by simpa using h2
   rw[e1,e2]; simp,rfl⟩))
 obtain⟨k,hk,hkd⟩:=dz.1 hd;have:=agt h (g:=g) (i:=i) (by rw[df hi,hgi]) (k:=k) (d:=c.2.1) (by rw[df hk,hkd]);rw[hgx] at this;exact⟨_,this⟩
inductive alk (b:ß) (p:List Int) (d:Int) (n:Int):Prop
 |none:p=[]→n=0→alk b p d n
 |one (x:Int) (j:Nat):p=[x]→jz (Í b) x d=some j→n=(j:Int)+1→alk b p d n
def abd (h:Ğ b) {c:Cmp} (hc:c∈b.2.2.2.2.1):alk b (é c.2.2.1 c.2.2.2.1) c.2.1 (cx b c):=by
 have hl:=(h.lefts hc).1
 cases hp:é c.2.2.1 c.2.2.2.1 with
 |nil=>exact .none rfl (by unfold cx atP; rw[hp])
 |cons x t =>
  rw[hp] at hl
  have:t=[]:=by cases t with|nil=>rfl|cons=>simp at hl
  subst this;obtain⟨j,hj⟩:=acN h hc (x:=x) (.inl (kD.1 (by rw[hp]; simp)));exact .one x j rfl hj (by unfold cx atP; rw[hp]; simp only[hj])
def S6 (h:Ğ b) {c:Cmp} (hc:c∈b.2.2.2.2.1):alk b (é c.2.2.2.1 c.2.2.1) c.2.1 (cy b c):=by
 have hl:=(h.lefts hc).2.1
 cases hp:é c.2.2.2.1 c.2.2.1 with
 |nil=>exact .none rfl (by unfold cy atP; rw[hp])
 |cons x t =>
  rw[hp] at hl
  have:t=[]:=by cases t with|nil=>rfl|cons=>simp at hl
  subst this;obtain⟨j,hj⟩:=acN h hc (x:=x) (.inr (kD.1 (by rw[hp]; simp)));exact .one x j rfl hj (by unfold cy atP; rw[hp]; simp only[hj])
def alk.rng {p:List Int} {d n:Int} (h:alk b p d n):0≤n∧n<((Í b).length+1:Nat):=by
 rcases h with⟨_,h⟩|⟨x,j,_,h1,h2⟩
 ·omega
 ·have:=(m7 h1).1;omega
def ap9 (h:Ğ b) {c:Cmp} (hc:c∈b.2.2.2.2.1):cx b c≠cy b c:=by
 have hl:=(h.lefts hc).2.2;rcases abd h hc with⟨h1,h2⟩|⟨x,j,h1,h2,h3⟩
 ·rcases S6 h hc with⟨g1,g2⟩|⟨y,k,g1,g2,g3⟩
  ·rw[h1,g1] at hl; simp at hl
  ·omega
 ·rcases S6 h hc with⟨g1,g2⟩|⟨y,k,g1,g2,g3⟩
  ·omega
  ·intro e
   have:j=k:=by omega
   subst this;have e1:=(m7 h2).2;have e2:=(m7 g2).2;rw[e1] at e2;simp only[Option.some.injEq,Prod.mk.injEq] at e2
   have m1:x∈é c.2.2.1 c.2.2.2.1:=by rw[h1]; simp
   have m2:y∈é c.2.2.2.1 c.2.2.1:=by rw[g1]; simp
   rw[e2.1] at m1;exact(kD.1 m1).2 (kD.1 m2).1
def Sq (h:Ğ b):(æ b).length=2*(Í b).length+2*b.2.2.2.2.1.length:=by
 have h1:∀l:List ì,(∀g∈l,g∈b.2.1)→(l.flatMap (ú b)).length=2*(l.flatMap fun g=>(ã b g).map fun d=>((g.1,d):Int×Int)).length:=by
  intro l
  induction l with
  |nil=>intro _; rfl
  |cons g t ih =>
   intro hm;have:=ih fun g hg=>hm g (by simp[hg]);have hp:=List.length_pos_of_mem (kS (b:=b) g);simp only[List.flatMap_cons,List.length_append,List.length_map,this];unfold ú;rw[List.length_append,Ž _ _ (fun _=>rfl)];simp only[List.length_cons,List.length_nil];omega
 have h2:∀l:List Cmp,(l.flatMap (ĉ b)).length=2*l.length:=by
  intro l
  induction l with
  |nil=>rfl
  |cons c t ih =>
   simp only[ez,di,ih,ĉ,dn,dH];omega
 unfold æ;rw[List.length_append,h1 _ fun _ h=>h,h2];rfl
def ł (h:Ğ b) {i:Nat} {g:ì} (hg:b.2.1[i]?=some g) {l:Lk}:l∈ú b g ↔
 l=(0,(off b i:Int)+1,g.2.2.1+g.2.2.2.1.2)∨l=((off b i:Int)+1,0,-(g.2.2.1+g.2.2.2.1.1)) ∨
 ∃(k:Nat) (d e:Int),(ã b g)[k]?=some d∧(ã b g)[k+1]?=some e∧(l=((off b i:Int)+k+1,(off b i:Int)+k+2,0)∨l=((off b i:Int)+k+2,(off b i:Int)+k+1,jq b g d e)):=by
 unfold ú;rw[ajD h hg];simp only[List.mem_append,List.mem_cons,List.not_mem_nil,or_false,List.mem_flatMap,List.mem_range];constructor
 ·rintro((h1|h1)|⟨k,hk,h1⟩)
  ·exact .inl h1
  ·exact .inr (.inl h1)
  ·refine .inr (.inr ⟨k,(ã b g)[k],(ã b g)[k+1],df (by omega),df (by omega),?_⟩);rw[df (show k<(ã b g).length by omega),df (show k+1<(ã b g).length by omega)] at h1;simp only[fP] at h1
   have e1:(off b i:Int)+1+k=(off b i:Int)+k+1:=by omega
   have e2:(off b i:Int)+k+1+1=(off b i:Int)+k+2:=by omega
   rw[e1,e2] at h1;exact h1
 ·rintro(h1|h1|⟨k,d,e,hd,he,h1⟩)
  ·exact .inl (.inl h1)
  ·exact .inl (.inr h1)
  ·obtain⟨h2,rfl⟩:=dj.1 hd;obtain⟨h3,rfl⟩:=dj.1 he;refine .inr ⟨k,by omega,?_⟩;rw[hd,he];simp only[fP]
   have e1:(off b i:Int)+1+k=(off b i:Int)+k+1:=by omega
   have e2:(off b i:Int)+k+1+1=(off b i:Int)+k+2:=by omega
   rw[e1,e2];exact h1
def qi {l:Lk}:l∈æ b↔(∃(i:Nat) (g:ì),b.2.1[i]?=some g∧l∈ú b g)∨∃c∈b.2.2.2.2.1,l=(cy b c,cx b c,(ζ b c).2)∨l=(cx b c,cy b c,-(ζ b c).1):=by
 unfold æ;simp only[List.mem_append,List.mem_flatMap,ĉ,List.mem_cons,List.not_mem_nil,or_false];constructor
 ·rintro(⟨g,hg,h⟩|h)
  ·obtain⟨i,hi,rfl⟩:=dz.1 hg;exact .inl ⟨i,_,df hi,h⟩
  ·exact .inr h
 ·rintro(⟨i,g,hg,h⟩|h)
  ·exact .inl ⟨g,dl hg,h⟩
  ·exact .inr h
def Ğ.sys (h:Ğ b):Ŋ (æ b) ((Í b).length+1):=by
 have hN:=h.nodes;have hL:=h.links
 have key:∀l∈æ b,((0≤l.1∧l.1<((Í b).length+1:Nat))∧(0≤l.2.1∧l.2.1<((Í b).length+1:Nat)))∧l.1≠l.2.1∧(-4503599627370496≤l.2.2∧l.2.2≤4503599627370496):=by
  intro l hl;rcases qi.1 hl with⟨i,g,hg,hl⟩|⟨c,hc,hl⟩
  ·have hgm:=dl hg;have hr:=h.gaugeR hgm;have ho:=amm h hg;have hp:=gy (kS (b:=b) g);have r1:=hr.2.2.2.2.2.1;have r2:=hr.2.2.2.2.2.2.1;rcases(ł h hg).1 hl with rfl|rfl|⟨k,d,e,hd,he,h1⟩
   ·dsimp only; omega
   ·dsimp only; omega
   ·obtain⟨h2,_⟩:=dj.1 he;have d1:=h.day hgm (dl hd);have lb:=lh h hgm (t:=e) d1.2.1;rcases h1 with rfl|rfl
    ·dsimp only; omega
    ·dsimp only; omega
  ·have a:=(abd h hc).rng;have b':=(S6 h hc).rng;have ne:=ap9 h hc;have sb:=Ec h hc;rcases hl with rfl|rfl
   ·dsimp only; omega
   ·dsimp only; omega
 exact⟨by omega,by omega,by rw[Sq h]; omega,fun l hl=>(key l hl).1,fun l hl=>(key l hl).2.1,fun l hl=>(key l hl).2.2⟩
end
def aoc {ρ:Type}:@wT ρ=@iJ ρ:=rfl
def aob {ρ:Type}:@wS ρ=@Ş ρ:=rfl
def aoa {ρ:Type}:@wR ρ=@į ρ:=rfl
def ae0 {ρ:Type} {N:Nat} (hN:N≤1000) (x:Option ρ):Þ ((ile (0:Int) (N:Int))&&(â N)) x=x:=by
 have:=IZ hN x
 rwa [dE] at this
section
variable {L:List Lk} {N:Nat} {M:Int}
def alL {s:Int} (hs:0≤s∧s<N):(List.replicate N Ł).set s.toNat 0=vX (amk s) N:=by
 refine ai7 (by simp[þ]) fun v h0 h1=>?_
 have hv:v<N:=by simpa using h1
 rw[jB _ h0 hv,A8 hs.1 h0 (by simp; omega)];unfold amk
 by_cases h:v=s
 ·simp[h]
 ·simp only[h,if_false,beq_iff_eq];unfold gv;rw[List.getElem?_replicate]
  have:v.toNat<N:=by omega
  simp[this]
def an9 (hL:jj L N M) (h1:1≤N) (hN:N≤200) (ho:ĸ L N=true) {s:Int} (hs:0≤s∧s<N):Cd ((N:Int),L) [] s=some (ug L N s):=by
 obtain⟨p,hp⟩:=(Ŝ hL hN).1 ho;unfold Cd K7;rw[aoc,aob,aoa];dsimp only;rw[IZ (by omega),Int.toNat_natCast];refine ë (List.replicate N (0:Int)) (fun i=>List.replicate i Ł++List.replicate (N-i) 0) _ (by simp) (fun i a hi ha kn=>?_) (fun kn=>?_)
 ·dsimp only;unfold pH
  have hiN:i<N:=by simpa using hi
  have hl:i<(List.replicate i Ł++List.replicate (N-i) (0:Int)).length:=by simp; omega
  rw[Ñ hi,iN hl,ĭ (df hl),Ê hiN (by omega),dE];congr 2;rw[List.set_append_right _ _ (by simp)]
  have:N-i=(N-(i+1))+1:=by omega
  rw[this,f9,Nat.sub_self,gM,List.set_cons_zero,List.replicate_succ'];simp
 ·try dsimp only
  unfold pH;rw[Ü];dsimp only
  have e0:List.replicate (List.replicate N (0:Int)).length Ł++List.replicate (N-(List.replicate N (0:Int)).length) 0=List.replicate N Ł:=by simp
  rw[e0]
  have hlen:s.toNat<(List.replicate N Ł).length:=by simp; omega
  rw[show ô (List.replicate N Ł)=((N:Nat):Int) by simp[ô],Ĵ hs.1 hs.2,kV hlen,ae0 (by omega),ae0 (by omega),alL hs];refine fq (ai3 hL _) ?_
  have hS:∀v,amk s v=true→0≤v∧v<N:=fun v h=>by simp[amk] at h; subst h; exact hs
  refine alM (þ _ _) (by omega) _ fun w q hw hq hr hwq hqs=>?_;have hs0:=V1 hL h1 hS hw hq hr hwq hqs;refine ab1 hL (apz hL hN) hp hS _ (fun x w t q hx hd=>?_) hs0
  have:x=ug L N s:=by
   refine ai7 (by rw[hx]; unfold ug; rw[ķ,þ]) fun v a b=>?_;exact hd.uniq (jW hL hN hp hs) a (by omega)
  dsimp only;rw[this]
def iP (L:List Lk) (N:Nat) (s t:Int):Int×Int :=
 if !ĸ L N then(0,9) else if gv (ug L N s) t=Ł then(0,5) else(gv (ug L N s) t,0)
def aqz (h:Ŋ L N) {ns:List Int} (hn:∀n∈ns,0≤n∧n<N) (hl:ns.length≤1000):Jk ((N:Int),L) ns=some (if ĸ L N then 0 else 9):=by
 have h2:=h.n60;unfold Jk Rk;rw[mC h,À];dsimp only;rw[Ð (by rfl)];refine Eq.trans (iK ns (fun _=>false) (fun _=>some 1) (some (if ĸ L N then 0 else 9)) (fun i n hi hm kn=>?_) (fun kn=>?_)) ?_
 ·try dsimp only
  unfold sQ;have a:=hn n (List.mem_of_getElem? hm)
  have e:(decide (0≤n)&&decide (n<(N:Int)))=true:=by simp[a.1,a.2]
  rw[Ñ hi,Ç hm,PK,À,e,Ê hi (by omega)];simp
 ·try dsimp only
  unfold sQ;rw[Ü,D8 h.links h.n1 (by omega),À]
  cases ĸ L N<;>rfl
 ·rw[eZ.2 (by simp)]
def O9 (h:Ŋ L N) {s t:Int} (hs:0≤s∧s<N) (ht:0≤t∧t<N):rD ((N:Int),L) s t=some (iP L N s t):=by
 have h2:=h.n60;unfold rD Rz iP
 rw[aqz h (fun n hn=>by simp at hn; rcases hn with rfl|rfl<;>assumption) (by simp),À]
 by_cases ho:ĸ L N=true
 ·rw[if_pos ho,Ð (by rfl),an9 h.links h.n1 (by omega) ho hs,À,A7 ht.1 (by unfold ug; rw[ķ,þ]; omega),ĥ,if_neg (show ¬(!ĸ L N)=true by simp[ho])]
  by_cases hf:gv (ug L N s) t=Ł
  ·rw[if_pos (by simpa[ieq] using hf),if_pos hf]
  ·rw[if_neg (by simpa[ieq] using hf),if_neg hf]
 ·rw[if_neg ho,Õ (by rfl),if_pos (show(!ĸ L N)=true by simpa using ho)]
end
def î (b:ß) (c:Cmp):ß:=(b.1,b.2.1,b.2.2.1,b.2.2.2.1,b.2.2.2.2.1++[c],b.2.2.2.2.2)
def mK:ß:=((0,0),[],[],[],[],[])
def Bv (b:ß) (c:Cmp):ß×Int:=if ä b≠0 then(mK,ä b) else if ä (î b c)≠0 then(mK,ä (î b c)) else(î b c,0)
def amz {b:ß} (h:Ğ b) {c:Cmp} (hA:c.2.2.1.length≤1000) (hB:c.2.2.2.1.length≤1000):Η (î b c):=by
 have hs:=h.size;have:=h.nC;refine⟨hs.gauges,hs.uses,hs.loans,by simp[î]; omega,hs.looks,fun d hd=>?_⟩;rcases dk.1 (show d∈b.2.2.2.2.1++[c] from hd) with hd|hd
 ·exact hs.piles d hd
 ·simp at hd; subst hd; exact⟨hA,hB⟩
def aop {b:ß} (hs:Η b) (hr:∀g∈b.2.1,I64 g.2.2.2.2.1.1) {c:Cmp} (hA:c.2.2.1.length≤1000) (hB:c.2.2.2.1.length≤1000):pQ b c=some (Bv b c):=by
 unfold pQ aaI Bv;have h1:=hs.gauges; have h2:=hs.uses; have h3:=hs.loans; have h4:=hs.compares; have h5:=hs.looks;rw[Ô (by omega),Am.iff_true,Ô (by omega),Am.iff_true,iF hs hr,À]
 by_cases hc:ä b=0
 ·have h:=(ð b).1 hc;rw[Ð (by simp[ine,hc]),Ô (by omega),Am.iff_true,Ô (by omega),Am.iff_true,Ô (by omega),Am.iff_true,Ô (by omega),Am.iff_true,Ô (by omega),Am.iff_true,if_neg (show ¬(ä b≠0) from fun h=>h hc)];refine ë b.2.2.2.2.1 (fun _=>b.2.2.2.2.1) _ rfl (fun i d hi hd kn=>?_) (fun kn=>?_)
  ·dsimp only;unfold xg;obtain⟨p1,p2⟩:=hs.piles d (List.mem_of_getElem? hd)
   have e1:b.2.2.2.2.1.set i d=b.2.2.2.2.1:=by
    obtain⟨h,rfl⟩:=dj.1 hd;exact hO h
   rw[Ñ hi,iN hi,ĭ hd,Ô (by omega),Am.iff_true,Ô (by omega),Am.iff_true,iN hi,ĭ hd,dE];rw[show(d.1,d.2.1,d.2.2.1,d.2.2.2)=d from rfl,e1,iN hi,pq hd,Ê hi (by omega)];rw[show(d.1,d.2.1,d.2.2.1,d.2.2.2.1,d.2.2.2.2)=d from rfl,e1]
  ·try dsimp only
   unfold xg;rw[Ü];dsimp only;rw[Ô (by simp only[List.length_singleton]; omega),Am.iff_true];rw[show ù (b.1,b.2.1,b.2.2.1,b.2.2.2.1,b.2.2.2.2.1++[c],b.2.2.2.2.2)=ù (î b c) from rfl,iF (amz h hA hB) hr,À]
   by_cases hc2:ä (î b c)=0
   ·rw[Ð (by simp[ine,hc2]),if_neg (show ¬(ä (î b c)≠0) from fun h=>h hc2)];rfl
   ·rw[Õ (by simp[ine,hc2]),if_pos hc2];rfl
 ·rw[Õ (by simp[ine,hc]),if_pos hc];rfl
def È (c:Cmp):Cmp:=(c.1,c.2.1,c.2.2.1,c.2.2.2.1,0,c.2.2.2.2.2)
def ahr (b:ß) (c:Cmp):Int:=LW (ń b c).1+(km b c).1-c.2.2.2.2.2.1
def FU (b:ß) (c:Cmp):Int:=(ń b c).2.1 / (ń b c).2.2+(km b c).2+c.2.2.2.2.2.1
def Pl (b:ß) (c:Cmp) (s:Int×Int):(Int×Int)×Int:=if FU b c<ahr b c then((0,0),5) else((s.1+ahr b c,s.2+FU b c),0)
structure aic (b:ß) (c:Cmp):Prop where
 nums:Nn c=true
 r1:rO (Gc (iX b) (é c.2.2.1 c.2.2.2.1)) 1000 100
 r2:rO (Gc (iX b) (é c.2.2.2.1 c.2.2.1)) 1000 100
def Ğ.cmp {b:ß} (h:Ğ b) {c:Cmp} (hc:c∈b.2.2.2.2.1):aic b c:=⟨h.nums hc,(h.rates hc).1,(h.rates hc).2⟩
def yQ {b:ß} (hf:0≤b.1.1∧b.1.1≤b.1.2∧b.1.2≤1000000) {c:Cmp} (h:aic b c):rO (ń b c).1 2000000000 10000∧rO (ń b c).2 2000000000 10000∧(-3000000000≤LW (ń b c).1+(km b c).1∧LW (ń b c).1+(km b c).1≤3000000000) ∧
 (-3000000000≤(ń b c).2.1 / (ń b c).2.2+(km b c).2∧(ń b c).2.1 / (ń b c).2.2+(km b c).2≤3000000000)∧(0≤c.2.2.2.2.2.1∧c.2.2.2.2.2.1≤1073741824):=by
 have hn:=(η c).1 h.nums;have ha:=Ļ hn.2.2.2.2.2.1;have hb:=Ļ hn.2.2.2.2.2.2;obtain⟨g1,g2⟩:=Yg (Pd h.r1 h.r2) hn.2.2.2.2.1;have fb:=xu (b:=b) (c:=c) (by omega) (by omega) (by omega) (by omega) (by omega) (by omega);have q1:rO (ń b c).1 2000000000 10000:=g1;have q2:rO (ń b c).2 2000000000 10000:=g2;have c1:=Cm q1;have c2:=xq q2;exact⟨q1,q2,by omega,by omega,hn.2.2.2.1⟩
def apc {b:ß} (hs:Η b) (hf:0≤b.1.1∧b.1.1≤b.1.2∧b.1.2≤1000000) {c:Cmp} (h:aic b c) {s:Int×Int} (h1 : -2305843009213693952≤s.1∧s.1≤2305843009213693952) (h2 : -2305843009213693952≤s.2∧s.2≤2305843009213693952):vQ b c s=some (Pl b c s):=by
 have hn:=(η c).1 h.nums;have ha:=Ļ hn.2.2.2.2.2.1;have hb:=Ļ hn.2.2.2.2.2.2;obtain⟨q1,q2,b1,b2,b3⟩:=yQ hf h;unfold vQ RO Pl ahr FU;rw[ae3 hs (by omega) (by omega) h.r1 h.r2 hn.2.2.2.2.1,À,ajd (by omega) (by omega) (by omega) (by omega) (by omega) (by omega),À,aoN q1.rat,À,ajQ q2.rat,À];dsimp only;rw[Ò (by omega) (by omega),Ò (by omega) (by omega),Ò (by omega) (by omega),Ò (by omega) (by omega),ĥ]
 by_cases hlt:(ń b c).2.1 / (ń b c).2.2+(km b c).2+c.2.2.2.2.2.1<LW (ń b c).1+(km b c).1-c.2.2.2.2.2.1
 ·rw[if_pos (by simpa[igt] using hlt),if_pos hlt]
 ·rw[if_neg (by simpa[igt] using hlt),if_neg hlt,Ò (by omega) (by omega),Ò (by omega) (by omega)]
def û (b:ß):List Lk:=(æ b).take ((æ b).length-2)
def ľ (b:ß) (c:Cmp):(Int×Int)×Int :=
 if (Bv b (È c)).2≠0 then((0,0),(Bv b (È c)).2) else
 if (iP (û (î b (È c))) ((Í (î b (È c))).length+1) (cy (î b (È c)) (È c)) (cx (î b (È c)) (È c))).2≠0 then
  ((0,0),(iP (û (î b (È c))) ((Í (î b (È c))).length+1) (cy (î b (È c)) (È c)) (cx (î b (È c)) (È c))).2) else
 if (iP (û (î b (È c))) ((Í (î b (È c))).length+1) (cx (î b (È c)) (È c)) (cy (î b (È c)) (È c))).2≠0 then
  ((0,0),(iP (û (î b (È c))) ((Í (î b (È c))).length+1) (cx (î b (È c)) (È c)) (cy (î b (È c)) (È c))).2) else
 Pl b (È c) (-(iP (û (î b (È c))) ((Í (î b (È c))).length+1) (cx (î b (È c)) (È c)) (cy (î b (È c)) (È c))).1,
  (iP (û (î b (È c))) ((Í (î b (È c))).length+1) (cy (î b (È c)) (È c)) (cx (î b (È c)) (È c))).1)
def afV {L:List Lk} {N:Nat} (h:Ŋ L N) {s t:Int} (hs:0≤s∧s<N) (ht:0≤t∧t<N) : -2305843009213693952≤(iP L N s t).1∧(iP L N s t).1≤2305843009213693952:=by
 unfold iP;have h2:=h.n60
 split
 ·simp
 ·rename_i ho
  have ho':ĸ L N=true:=by simpa using ho
  obtain⟨p,hp⟩:=(Ŝ h.links (by omega)).1 ho';have hd:=jW h.links (by omega) hp hs
  split
  ·simp
  ·rename_i hne;dsimp only;have hb:=hd.bd t ht.1 ht.2;obtain⟨vs,hw⟩:=hd.att t ht.1 ht.2 hne;have h3:=hw.low' hp;have h4:=Yo (L:=L) (fun l hl=>(h.most l hl).1) (M:=4503599627370496) (by omega);have h5:=h.len;unfold Ł at hb
   constructor<;>omega
def ali {b:ß} (hs:Η b) (hr:∀g∈b.2.1,I64 g.2.2.2.2.1.1) {c:Cmp} (hA:c.2.2.1.length≤1000) (hB:c.2.2.2.1.length≤1000):xE b c=some (ľ b c):=by
 unfold xE FP ľ;rw[show pQ b (c.1,c.2.1,c.2.2.1,c.2.2.2.1,0,c.2.2.2.2.2)=pQ b (È c) from rfl,aop hs hr (c:=È c) hA hB,À]
 by_cases hw:(Bv b (È c)).2=0
 ·rw[Ð (by simp[ine,hw]),if_neg (show ¬((Bv b (È c)).2≠0) from fun h=>h hw)]
  -- the book is valid, and so is the greater one
  have hb:ä b=0:=by
   unfold Bv at hw
   split at hw
   ·rename_i h; exact(h hw).elim
   ·rename_i h; simpa using h
  have hm:ä (î b (È c))=0:=by
   unfold Bv at hw;rw[if_neg (by simp[hb])] at hw
   split at hw
   ·rename_i h; exact(h hw).elim
   ·rename_i h; simpa using h
  have he:Bv b (È c)=(î b (È c),0):=by
   unfold Bv;rw[if_neg (by simp[hb]),if_neg (by simp[hm])]
  have g:=(ð b).1 hb;have gm:=(ð _).1 hm
  have hmem:È c∈(î b (È c)).2.2.2.2.1:=by simp[î]
  have hN:=gm.nodes;have hll:=Sq gm
  have hcl:(î b (È c)).2.2.2.2.1.length=b.2.2.2.2.1.length+1:=by simp[î]
  have hlk:=gm.links;have hsys:Ŋ (û (î b (È c))) ((Í (î b (È c))).length+1):=gm.sys.sub (fun l hl=>List.mem_of_mem_take hl) (by unfold û; rw[List.length_take]; omega);have hx:=(abd gm hmem).rng;have hy:=(S6 gm hmem).rng;have lA:c.2.2.1.length≤1000:=hA;rw[he];dsimp only;rw[aiY gm,À];dsimp only;rw[Û,Ò (by omega) (by omega)]
  have e1:((ile (0:Int) (((æ (î b (È c))).length:Int)-2))&&(ile (((æ (î b (È c))).length:Int)-2) (ô (æ (î b (È c))))))=true:=by
   simp[ile,ô]; omega
  have e2:(((æ (î b (È c))).length:Int)-2).toNat=(æ (î b (È c))).length-2:=by omega
  rw[Ĥ e1,tV (by omega) (by omega),À,aoh _ _ _ (by dsimp only; omega),À,tV (by omega) (by omega),À,aoh _ _ _ (by dsimp only; omega),À,e2]
  have e3:(((Í (î b (È c))).length:Int)+1)=(((Í (î b (È c))).length+1:Nat):Int):=by push_cast; rfl
  rw[e3];rw[show List.take ((æ (î b (È c))).length-2) (æ (î b (È c)))=û (î b (È c)) from rfl];dsimp only;rw[show atP (Í (î b (È c))) (é c.2.2.1 c.2.2.2.1) c.2.1=cx (î b (È c)) (È c) from rfl,show atP (Í (î b (È c))) (é c.2.2.2.1 c.2.2.1) c.2.1=cy (î b (È c)) (È c) from rfl];rw[O9 hsys hy hx,À,O9 hsys hx hy];have b1:=afV hsys hy hx;have b2:=afV hsys hx hy;generalize hB1:iP (û (î b (È c))) ((Í (î b (È c))).length+1) (cy (î b (È c)) (È c)) (cx (î b (È c)) (È c))=B1 at b1 ⊢;generalize hB2:iP (û (î b (È c))) ((Í (î b (È c))).length+1) (cx (î b (È c)) (È c)) (cy (î b (È c)) (È c))=B2 at b2 ⊢
  by_cases h1:B1.2=0
  ·rw[Ð (by simp[ine,h1]),if_neg (show ¬(B1.2≠0) from fun h=>h h1),À]
   by_cases h2:B2.2=0
   ·rw[Ð (by simp[ine,h2]),if_neg (show ¬(B2.2≠0) from fun h=>h h2),Ò (by omega) (by omega)];have hck:aic b (È c):=⟨(gm.cmp hmem).nums,(gm.cmp hmem).r1,(gm.cmp hmem).r2⟩;rw[show vQ b (c.1,c.2.1,c.2.2.1,c.2.2.2.1,0,c.2.2.2.2.2) (0-B2.1,B1.1)=vQ b (È c) (0-B2.1,B1.1) from rfl,apc g.size g.film hck (by dsimp only; omega) (by dsimp only; omega),À,Int.zero_sub]
   ·rw[Õ (by simp[ine,h2]),if_pos h2]
  ·rw[Õ (by simp[ine,h1]),if_pos h1]
 ·rw[Õ (by simp[ine,hw]),if_pos hw]
structure In (b:ß):Prop where
 size:Η b
 num:∀g∈b.2.1,I64 g.2.2.2.2.1.1
def abC (b:ß):Sys×List (Int×Int)×Int:=if ä b≠0 then((0,[]),[],ä b) else((((Í b).length:Int)+1,æ b),Ť b,0)
def rK {b:ß} (h:In b):Ė b=some (abC b):=by
 unfold Ė Ls abC;rw[iF h.size h.num,À]
 by_cases hc:ä b=0
 ·rw[Ð (by simp[ine,hc]),aiY ((ð b).1 hc),À,if_neg (show ¬(ä b≠0) from fun h=>h hc)]
 ·rw[Õ (by simp[ine,hc]),if_pos hc]
def cmp0:Cmp:=(0,0,[],[],0,0,0,0)
def uj (b:ß) (i:Int):Cmp×Int:=if ä b≠0 then(cmp0,ä b) else if i<0∨(b.2.2.2.2.1.length:Int)≤i then(cmp0,1) else(b.2.2.2.2.1[i.toNat]?.getD cmp0,0)
def aoW {b:ß} (h:In b) (i:Int):Jm b i=some (uj b i):=by
 unfold Jm RM uj;rw[iF h.size h.num,À]
 by_cases hc:ä b=0
 ·rw[Ð (by simp[ine,hc]),if_neg (show ¬(ä b≠0) from fun h=>h hc),Û]
  by_cases h1:i<0
  ·rw[Õ (by simp[ilt,h1]),if_pos (.inl h1)]; rfl
  ·rw[Ð (by simp[ilt]; omega)]
   by_cases h2:(b.2.2.2.2.1.length:Int)≤i
   ·rw[Õ (by simp[ige,h2]),if_pos (.inr h2)]; rfl
   ·rw[Ð (by simp[ige]; omega),if_neg (by omega)];obtain⟨j,rfl⟩:=gV (show 0≤i by omega)
    have hj:j<b.2.2.2.2.1.length:=by omega
    rw[Ç (df hj),dE,df hj];rfl
 ·rw[Õ (by simp[ine,hc]),if_pos hc]; rfl
def af1 {b:ß} {i:Int} (h:(uj b i).2=0):Ğ b∧(uj b i).1∈b.2.2.2.2.1∧b.2.2.2.2.1[i.toNat]?=some (uj b i).1∧0≤i:=by
 unfold uj at h ⊢
 split at h
 ·rename_i hc; exact(hc h).elim
 ·rename_i hc
  have hc0:ä b=0:=by simpa using hc
  split at h
  ·simp at h
  ·rename_i hi
   have hj:i.toNat<b.2.2.2.2.1.length:=by omega
   rw[if_neg hc,if_neg hi,df hj];exact⟨(ð b).1 hc0,eh hj,rfl,by omega⟩
def aqE (b:ß) (i:Int):(Int×Int)×Int:=if (uj b i).2≠0 then((0,0),(uj b i).2) else(ζ b (uj b i).1,0)
def asp {b:ß} (h:In b) (i:Int):O4 b i=some (aqE b i):=by
 unfold O4 aaK aqE;rw[aoW h,À]
 by_cases hw:(uj b i).2=0
 ·obtain⟨g,hm,_,_⟩:=af1 hw;rw[Ð (by simp[ine,hw]),g.says hm,À,if_neg (show ¬((uj b i).2≠0) from fun h=>h hw)]
 ·rw[Õ (by simp[ine,hw]),if_pos hw]
def exB:ß:=((0,2),[(1,0,1000,(-5,5),(1,10),1),(2,0,1000,(-50,50),(1,4),0)],[(1,10)],[(1,(20,29),3)],[(7,10,[1],[2],-20,1,100,200)],[])
def Bj:In exB:=⟨⟨by decide,by decide,by decide,by decide,by decide,by decide⟩,by
 intro g hg;simp[exB] at hg
 rcases hg with rfl|rfl<;>exact⟨by decide,by decide⟩⟩
def exC:Cmp:=(8,10,[1],[2],0,0,0,0)
def yr (b:ß) (x d:Int):Int:=match jz (Í b) x d with|some j=>(j:Int)+1|none=>0
def ajP (b:ß) (n:Int×Int):Int×Int:=if ä b≠0 then(0,ä b) else if yr b n.1 n.2=0 then(0,5) else(yr b n.1 n.2,0)
def TE {b:ß} (h:In b) (n:Int×Int):š b n=some (ajP b n):=by
 have hl:=J5 h.size;unfold š Sj ajP;rw[iF h.size h.num,À]
 by_cases hc:ä b=0
 ·rw[Ð (by simp[ine,hc]),if_neg (show ¬(ä b≠0) from fun h=>h hc),Ym h.size,À,show ý (Í b) n=ý (Í b) (n.1,n.2) from rfl,afQ (by omega),À];unfold yr
  cases hx:jz (Í b) n.1 n.2 with
  |none=>rfl
  |some j =>
   have:=(m7 hx).1;simp only;rw[Ð (by simp[ilt]),Ò (by omega) (by omega),if_neg (by omega)]
 ·rw[Õ (by simp[ine,hc]),if_pos hc]
def ox (b:ß) (n:Int×Int):ß:=(b.1,b.2.1,b.2.2.1,b.2.2.2.1,b.2.2.2.2.1,b.2.2.2.2.2++[n])
def aeP {b:ß} (h:Ğ b) (n:Int×Int):Η (ox b n):=by
 have hs:=h.size;have:=h.nK;exact⟨hs.gauges,hs.uses,hs.loans,hs.compares,by simp[ox]; omega,hs.piles⟩
def alj (b:ß) (n:Int×Int):ß×Int:=if ä b≠0 then(mK,ä b) else if ä (ox b n)≠0 then(mK,ä (ox b n)) else(ox b n,0)
def ass {b:ß} (h:In b) (n:Int×Int):ki b n=some (alj b n):=by
 have hs:=h.size;have h1:=hs.gauges; have h2:=hs.uses; have h3:=hs.loans; have h4:=hs.compares; have h5:=hs.looks;unfold ki aaL alj;rw[iF hs h.num,À]
 by_cases hc:ä b=0
 ·have hg:=(ð b).1 hc;rw[Ð (by simp[ine,hc]),Ô (by omega),Am.iff_true,Ô (by omega),Am.iff_true,Ô (by omega),Am.iff_true,Ô (by omega),Am.iff_true,Ô (by omega),Am.iff_true,if_neg (show ¬(ä b≠0) from fun h=>h hc)];refine ë b.2.2.2.2.1 (fun _=>b.2.2.2.2.1) _ rfl (fun i d hi hd kn=>?_) (fun kn=>?_)
  ·dsimp only;unfold xh;obtain⟨p1,p2⟩:=hs.piles d (List.mem_of_getElem? hd)
   have e1:b.2.2.2.2.1.set i d=b.2.2.2.2.1:=by
    obtain⟨h,rfl⟩:=dj.1 hd;exact hO h
   rw[Ñ hi,iN hi,ĭ hd,Ô (by omega),Am.iff_true,Ô (by omega),Am.iff_true,iN hi,ĭ hd,dE];rw[show(d.1,d.2.1,d.2.2.1,d.2.2.2)=d from rfl,e1,iN hi,pq hd,Ê hi (by omega)];rw[show(d.1,d.2.1,d.2.2.1,d.2.2.2.1,d.2.2.2.2)=d from rfl,e1]
  ·try dsimp only
   unfold xh;rw[Ü];dsimp only;rw[Ô (by simp only[List.length_singleton]; omega),Am.iff_true];rw[show ù (b.1,b.2.1,b.2.2.1,b.2.2.2.1,b.2.2.2.2.1,b.2.2.2.2.2++[n])=ù (ox b n) from rfl,iF (aeP hg n) h.num,À]
   by_cases hc2:ä (ox b n)=0
   ·rw[Ð (by simp[ine,hc2]),if_neg (show ¬(ä (ox b n)≠0) from fun h=>h hc2)];rfl
   ·rw[Õ (by simp[ine,hc2]),if_pos hc2];rfl
 ·rw[Õ (by simp[ine,hc]),if_pos hc];rfl
section
variable {b:ß}
def amn:off b b.2.1.length=(Í b).length:=by unfold off Í; rw[List.take_length]
def aiS:∀n,n≤b.2.1.length→∀j,j<off b n→∃(i:Nat) (g:ì) (k:Nat),b.2.1[i]?=some g∧k<(ã b g).length∧j=off b i+k:=by
 intro n
 induction n with
 |zero=>intro _ j hj; simp[off] at hj
 |succ n ih =>
  intro hn j hj;have hg:b.2.1[n]?=some b.2.1[n]:=df (by omega);rw[apw hg] at hj
  by_cases h:j<off b n
  ·exact ih (by omega) j h
  ·exact⟨n,_,j-off b n,hg,by omega,by omega⟩
def Wv {v:Int} (h0:1≤v) (h1:v<((Í b).length+1:Nat)):∃(i:Nat) (g:ì) (k:Nat),b.2.1[i]?=some g∧k<(ã b g).length∧v=(off b i:Int)+k+1:=by
 obtain⟨i,g,k,h2,h3,h4⟩:=aiS (b:=b) b.2.1.length (dg _) (v-1).toNat (by rw[amn]; omega);exact⟨i,g,k,h2,h3,by omega⟩
def GL (b:ß) (L:List Lk):Prop:=∀(i:Nat) (g:ì),b.2.1[i]?=some g→∀l∈ú b g,l∈L
def ai8:GL b (æ b):=fun i g hg l hl=>qi.2 (.inl ⟨i,g,hg,hl⟩)
def alH {L:List Lk} (h:Ğ b) (hL:GL b L) {v:Int} (h0:0≤v) (h1:v<((Í b).length+1:Nat)):∃vs d,Wl L (fun u=>u=0) vs v d∧d≤4503599627370496:=by
 by_cases hv:v=0
 ·exact⟨[],0,.nil hv,by omega⟩
 obtain⟨i,g,k,hg,hk,rfl⟩:=Wv (by omega) h1;have hr:=h.gaugeR (dl hg);have r1:=hr.2.2.2.2.2.1;have r2:=hr.2.2.2.2.2.2.1
 have key:∀k:Nat,k<(ã b g).length→∃vs,Wl L (fun u=>u=0) vs ((off b i:Int)+k+1) (g.2.2.1+g.2.2.2.1.2):=by
  intro k
  induction k with
  |zero =>
   intro _;have hw:Wl L (fun u=>u=0) [0] ((off b i:Int)+1) (0+(g.2.2.1+g.2.2.2.1.2)):=Wl.step (.nil rfl) (hL i g hg _ ((ł h hg).2 (.inl rfl)));rw[ig] at hw;exact⟨[0],by simpa using hw⟩
  |succ k ih =>
   intro hk;obtain⟨vs,hw⟩:=ih (by omega);have hw':=Wl.step hw (hL i g hg _ ((ł h hg).2 (.inr (.inr ⟨k,_,_,df (show k<_ by omega),df hk,.inl rfl⟩))));rw[gn] at hw'
   have e:(off b i:Int)+((k+1:Nat):Int)+1=(off b i:Int)+k+2:=by push_cast; omega
   exact⟨_,by rw[e]; exact hw'⟩
 obtain⟨vs,hw⟩:=key k hk;exact⟨vs,_,hw,by omega⟩
def abW {L:List Lk} (h:Ğ b) (hL:GL b L) {v:Int} (h0:0≤v) (h1:v<((Í b).length+1:Nat)):∃vs d,Wl L (fun u=>u=v) vs 0 d∧d≤4503599627370496:=by
 by_cases hv:v=0
 ·exact⟨[],0,.nil hv.symm,by omega⟩
 obtain⟨i,g,k,hg,hk,rfl⟩:=Wv (by omega) h1;have hgm:=dl hg;have hr:=h.gaugeR hgm;have r1:=hr.2.2.2.2.2.1;have r2:=hr.2.2.2.2.2.2.1;have hd:=Jr h hgm
 have key:∀m:Nat,m≤k→∃vs d,Wl L (fun u=>u=(off b i:Int)+k+1) vs ((off b i:Int)+(k-m:Nat)+1) d∧d≤m*(12*(20001*1048576)+40*1048576):=by
  intro m
  induction m with
  |zero=>intro _; exact⟨[],0,.nil (by simp),by simp⟩
  |succ m ih =>
   intro hm;obtain⟨vs,d,hw,hd⟩:=ih (by omega)
   have e1:((k-m:Nat):Int)=((k-(m+1):Nat):Int)+1:=by omega
   have hl:(((off b i:Int)+(k-(m+1):Nat)+2,(off b i:Int)+(k-(m+1):Nat)+1,jq b g ((ã b g)[k-(m+1)]'(by omega)) ((ã b g)[k-(m+1)+1]'(by omega))):Lk)∈L :=
    hL i g hg _ ((ł h hg).2 (.inr (.inr ⟨k-(m+1),_,_,df (by omega),df (by omega),.inr rfl⟩)))
   have hb:=lh h hgm (f:=(ã b g)[k-(m+1)]'(by omega)) (t:=(ã b g)[k-(m+1)+1]'(by omega)) (h.day hgm (eh _)).2.1
   have e2:(off b i:Int)+(k-m:Nat)+1=(off b i:Int)+(k-(m+1):Nat)+2:=by omega
   rw[e2] at hw;exact⟨_,_,.step hw hl,by push_cast; omega⟩
 obtain⟨vs,d,hw,hdb⟩:=key k (dg _)
 have e:(off b i:Int)+(k-k:Nat)+1=(off b i:Int)+1:=by omega
 rw[e] at hw;have hw':=Wl.step hw (hL i g hg _ ((ł h hg).2 (.inr (.inl rfl))));exact⟨_,_,hw',by omega⟩
end
structure JH (L:List Lk) (N:Nat):Prop where
 to:∀v:Int,0≤v→v<N→∃vs d,Wl L (fun u=>u=0) vs v d∧d≤4503599627370496
 from':∀v:Int,0≤v→v<N→∃vs d,Wl L (fun u=>u=v) vs 0 d∧d≤4503599627370496
def Ğ.tied {b:ß} (h:Ğ b):JH (æ b) ((Í b).length+1):=⟨fun v h0 h1=>alH h ai8 h0 h1,fun v h0 h1=>abW h ai8 h0 h1⟩
def Ğ.tiedL {b:ß} {L:List Lk} (h:Ğ b) (hL:GL b L):JH L ((Í b).length+1):=⟨fun v h0 h1=>alH h hL h0 h1,fun v h0 h1=>abW h hL h0 h1⟩
section
variable {L:List Lk} {N:Nat}
def acL {L:List Lk} {s:Int} {vs:List Int} {v d:Int}:Wl L (fun v=>amk s v=true) vs v d↔Wl L (fun u=>u=s) vs v d :=
 ⟨fun h=>h.mono fun u hu=>by simpa[amk] using hu,fun h=>h.mono fun u hu=>by simpa[amk] using hu⟩
def ah3 (h:Ŋ L N) (ho:ĸ L N=true) {v:Int} (h0:0≤v) (h1:v<N):gv (ug L N v) v=0:=by
 have h2:=h.n60;obtain⟨p,hp⟩:=(Ŝ h.links (by omega)).1 ho;have hd:=jW h.links (by omega) hp (s:=v) ⟨h0,h1⟩;have h3:=hd.low v [] 0 (.nil (by simp[amk]));obtain⟨vs,hw⟩:=hd.att v h0 h1 (by unfold Ł; omega);obtain⟨s,hs,hx⟩:=(acL.1 hw).pot hp;subst hs;omega
end
def XA {b:ß}:∀i,i≤b.2.2.2.2.1.length→((b.2.2.2.2.1.take i).flatMap (ĉ b)).length=2*i∧(((b.2.2.2.2.1.take i).mapIdx fun i _=>[((3:Int),(i:Int)),((3:Int),(i:Int))]).flatten).length=2*i:=by
 intro i
 induction i with
 |zero=>intro _; simp
 |succ i ih =>
  intro hi;have ih:=ih (by omega);have hg:b.2.2.2.2.1[i]?=some b.2.2.2.2.1[i]:=df hi;rw[i6 _ hg,take_succ hg,ft,fU,di,di];simp only[ez,gZ,dU,gC,gH,ĉ,dn,dH];omega
section
variable {L:List Lk} {N:Nat}
def JM (h:Ŋ L N):Ą ((N:Int),L)=some (ĸ L N,0):=by
 have h2:=h.n60;unfold Ą tP;rw[mC h,À];dsimp only;rw[Ð (by rfl),D8 h.links h.n1 (by omega),À]
 cases ĸ L N<;>rfl
end
def mD (b:ß) (n:Int×Int):ß×Int:=if yr b n.1 n.2≠0 then(b,0) else if ä (ox b n)≠0 then(mK,ä (ox b n)) else(ox b n,0)
def ŵ:ß→List (Int×Int)→ß×Int
 |b,[]=>(b,0)
 |b,n::t=>if (mD b n).2≠0 then(mK,(mD b n).2) else ŵ (mD b n).1 t
def Ă (b:ß) (ns:List (Int×Int)):ß×Int :=
 if ä b≠0 then(mK,ä b) else if (ŵ b ns).2≠0 then(mK,(ŵ b ns).2) else
 if ĸ (æ (ŵ b ns).1) ((Í (ŵ b ns).1).length+1) then((ŵ b ns).1,0) else(mK,9)
def alK {b:ß} (h:Ğ b) {n:Int×Int} (e:(mD b n).2=0):Ğ (mD b n).1:=by
 unfold mD at e ⊢
 split
 ·exact h
 ·rename_i h1;rw[if_neg h1] at e
  split
  ·rename_i h2;rw[if_pos h2] at e;exact absurd e h2
  ·rename_i h2;exact(ð _).1 (by simpa using h2)
def af6 {b:ß} {n:Int×Int} (e:(mD b n).2=0):(mD b n).1.2.1=b.2.1:=by
 unfold mD at e ⊢
 split
 ·rfl
 ·rename_i h1;rw[if_neg h1] at e
  split
  ·rename_i h2;rw[if_pos h2] at e;exact absurd e h2
  ·rfl
def Gb:∀{ns:List (Int×Int)} {b:ß},Ğ b→(ŵ b ns).2=0→Ğ (ŵ b ns).1
 |[],b,h,_=>h
 |n::t,b,h,e=>by
  unfold ŵ at e ⊢
  split
  ·rename_i h1; rw[if_pos h1] at e; exact absurd e h1
  ·rename_i h1;rw[if_neg h1] at e;exact Gb (alK h (by simpa using h1)) e
def Ef:∀{ns:List (Int×Int)} {b:ß},(ŵ b ns).2=0→(ŵ b ns).1.2.1=b.2.1
 |[],b,_=>rfl
 |n::t,b,e=>by
  unfold ŵ at e ⊢
  split
  ·rename_i h1; rw[if_pos h1] at e; exact absurd e h1
  ·rename_i h1;rw[if_neg h1] at e;rw[Ef e,af6 (by simpa using h1)]
def Ğ.inn {b:ß} (h:Ğ b) (hn:∀g∈b.2.1,I64 g.2.2.2.2.1.1):In b:=⟨h.size,hn⟩
def jX {b:ß} (h:Ğ b):abC b=((((Í b).length:Int)+1,æ b),Ť b,0):=by
 unfold abC;rw[if_neg (by simp[(ð b).2 h])]
def F1 {b:ß} (h:Ğ b) (n:Int×Int):ajP b n=if yr b n.1 n.2=0 then(0,5) else(yr b n.1 n.2,0):=by
 unfold ajP;rw[if_neg (by simp[(ð b).2 h])]
abbrev Flat:Type:=Int×Int×List ì×List (Int×Int)×List M9×List Cmp×List (Int×Int)
def flat (b:ß):Flat:=(b.1.1,b.1.2,b.2.1,b.2.2.1,b.2.2.2.1,b.2.2.2.2.1,b.2.2.2.2.2)
def xr (b:ß):(((flat b).1,(flat b).2.1),(flat b).2.2)=b:=rfl
section
variable {ρ:Type}
def apl (ns:List (Int×Int)) (E1:Int×Flat→Option ρ) (K1:Flat→Option ρ) (b:ß):Option ρ :=
 É (fun(v:Int×Flat) kk=>ċ (Ó ns) ns v.1 v.2.1 v.2.2.1 v.2.2.2.1 v.2.2.2.2.1 v.2.2.2.2.2.1 v.2.2.2.2.2.2.1 v.2.2.2.2.2.2.2 (fun u1 u2 u3 u4 u5 u6 u7 u8=>kk (u1,u2,u3,u4,u5,u6,u7,u8)) (fun z=>E1 z) (fun z=>K1 z)) ((0:Int),b.1.1,b.1.2,b.2.1,b.2.2.1,b.2.2.2.1,b.2.2.2.2.1,b.2.2.2.2.2)
def al1 {ns:List (Int×Int)} (hl:ns.length≤1000) {E1:Int×Flat→Option ρ} {K1:Flat→Option ρ} (R:Int→Option ρ) (h1:∀z,z.1≠0→E1 z=R z.1) {b:ß} (hg:Ğ b) (hn:∀g∈b.2.1,I64 g.2.2.2.2.1.1) :
 apl ns E1 K1 b=if (ŵ b ns).2≠0 then R (ŵ b ns).2 else K1 (flat (ŵ b ns).1):=by
 unfold apl
 refine IU ns (fun(i:Nat) (s:Flat) (t:List (Int×Int))=>if (ŵ ((s.1,s.2.1),s.2.2) t).2≠0 then R (ŵ ((s.1,s.2.1),s.2.2) t).2 else K1 (flat (ŵ ((s.1,s.2.1),s.2.2) t).1))
  (fun i s=>Ğ ((s.1,s.2.1),s.2.2)∧∀g∈s.2.2.1,I64 g.2.2.2.2.1.1) (fun s hs kn=>?_) (fun i n t s hd hi ha hs kn hk=>?_) (s:=flat b) ⟨hg,hn⟩
 ·dsimp only;unfold ċ;rw[Ü];rfl
 ·dsimp only;unfold ċ;obtain⟨hs1,hs2⟩:=hs;have hin:In ((s.1,s.2.1),s.2.2):=hs1.inn hs2;rw[Ñ hi,iN hi,ĭ ha];rw[show š ((s.1,s.2.1),s.2.2.1,s.2.2.2.1,s.2.2.2.2.1,s.2.2.2.2.2.1,s.2.2.2.2.2.2) n=š ((s.1,s.2.1),s.2.2) n from rfl,TE hin,À];rw[show ki ((s.1,s.2.1),s.2.2.1,s.2.2.2.1,s.2.2.2.2.1,s.2.2.2.2.2.1,s.2.2.2.2.2.2) n=ki ((s.1,s.2.1),s.2.2) n from rfl,ass hin,À];rw[F1 hs1];generalize hB:(((s.1,s.2.1),s.2.2):ß)=B at hs1 hin ⊢
  have hu:ŵ B (n::t)=if (mD B n).2≠0 then(mK,(mD B n).2) else ŵ (mD B n).1 t:=rfl
  rw[hu]
  by_cases h0:yr B n.1 n.2=0
  ·rw[if_pos h0,Ð (by rfl)]
   by_cases h2:ä (ox B n)=0
   ·have e:mD B n=(ox B n,0):=by unfold mD; rw[if_neg (by simp[h0]),if_neg (by simp[h2])]
    have e2:alj B n=(ox B n,0):=by unfold alj; rw[if_neg (by simp[(ð B).2 hs1]),if_neg (by simp[h2])]
    rw[e2,e,Ð (by rfl),Ê hi (by omega),if_neg (show ¬((0:Int)≠0) by simp)];subst hB;exact hk (s.1,s.2.1,s.2.2.1,s.2.2.2.1,s.2.2.2.2.1,s.2.2.2.2.2.1,s.2.2.2.2.2.2++[n]) ⟨(ð _).1 h2,hs2⟩
   ·have e:mD B n=(mK,ä (ox B n)):=by unfold mD; rw[if_neg (by simp[h0]),if_pos h2]
    have e2:alj B n=(mK,ä (ox B n)):=by unfold alj; rw[if_neg (by simp[(ð B).2 hs1]),if_pos h2]
    rw[e2,e,Õ (by simp[ine,h2]),if_pos h2,if_pos h2];exact h1 _ h2
  ·have e:mD B n=(B,0):=by unfold mD; rw[if_pos h0]
   rw[if_neg h0,Õ (by rfl),Ê hi (by omega),e,if_neg (show ¬((0:Int)≠0) by simp)];subst hB;exact hk s ⟨hs1,hs2⟩
def rW {b:ß} (hI:In b) {ns:List (Int×Int)} (hl:ns.length≤1000) {E0:Int→Option ρ} {E1:Int×Flat→Option ρ} {E2:Flat→Sys×List (Int×Int)×Int→Option ρ} {E3:Flat→Sys×List (Int×Int)×Int→Bool×Int→Option ρ}
 {K:Flat→Sys×List (Int×Int)×Int→Bool×Int→Option ρ} (R:Int→Option ρ) (h0:∀e,e≠0→E0 e=R e) (h1:∀z,z.1≠0→E1 z=R z.1) (h3:∀z s r,E3 z s r=R 9) :
 Ã (ù b) (fun r1=>ifb (ine r1 (0:Int)) (E0 r1) (apl ns E1 (fun z8=>Ã (Ė ((z8.1,z8.2.1),z8.2.2)) fun r9=>ifb (ine r9.2.2 (0:Int)) (E2 z8 r9) (Ã (Ą r9.1) fun r10=>ifb (!r10.1) (E3 z8 r9 r10) (K z8 r9 r10))) b)) =
 if (Ă b ns).2≠0 then R (Ă b ns).2 else K (flat (Ă b ns).1) ((((Í (Ă b ns).1).length:Int)+1,æ (Ă b ns).1),Ť (Ă b ns).1,0) (true,0):=by
 rw[iF hI.size hI.num,À];unfold Ă
 by_cases hc:ä b=0
 ·have hg:=(ð b).1 hc;rw[Ð (by simp[ine,hc]),if_neg (show ¬(ä b≠0) from fun h=>h hc),al1 hl R h1 hg hI.num]
  by_cases hr:(ŵ b ns).2=0
  ·rw[if_neg (show ¬((ŵ b ns).2≠0) from fun h=>h hr),if_neg (show ¬((ŵ b ns).2≠0) from fun h=>h hr)];have hB:=Gb hg hr
   have hBn:∀g∈(ŵ b ns).1.2.1,I64 g.2.2.2.2.1.1:=by rw[Ef hr]; exact hI.num
   generalize (ŵ b ns).1=B at hB hBn ⊢;rw[xr,rK (hB.inn hBn),À,jX hB,Ð (by rfl)];dsimp only;rw[show(((Í B).length:Int)+1)=(((Í B).length+1:Nat):Int) by push_cast; rfl,JM hB.sys,À]
   cases ho:ĸ (æ B) ((Í B).length+1) with
   |true =>
    rw[if_neg (by simp)];simp only[dT,Ý];push_cast;rfl
   |false =>
    rw[if_pos (by simp)];simp only[gG,Ĕ];rw[h3];rfl
  ·rw[if_pos hr,if_pos hr,if_pos hr]
 ·rw[Õ (by simp[ine,hc]),h0 _ hc,if_pos hc,if_pos hc]
end
def Nc (b:ß) (id day:Int):Bool:=b.2.2.1.any fun u=>u.1==id&&u.2==day
def ahJ (b:ß) (g:ì) (d:Int):Int:=match mz b g.1 d with|some l=>l.2.2|none=>if Nc b g.1 d then g.2.2.2.2.2 else 0
def amO (l:M9) (id:Int) {f t:Int} (hft:f≤t):(if l.1=id∧0<Ĝ l f (t+1) then Ĝ l f (t+1)*l.2.2 else 0)=(if l.1=id∧0<Ĝ l f t then Ĝ l f t*l.2.2 else 0)+(if l.1=id∧l.2.1.1≤t∧t≤l.2.1.2 then l.2.2 else 0):=by
 by_cases hid:l.1=id
 ·by_cases h1:l.2.1.1≤t∧t≤l.2.1.2
  ·have e:Ĝ l f (t+1)=Ĝ l f t+1:=by unfold Ĝ; omega
   have p:0≤Ĝ l f t:=by unfold Ĝ; omega
   rw[e,if_pos ⟨hid,by omega⟩,if_pos (show l.1=id∧l.2.1.1≤t∧t≤l.2.1.2 from⟨hid,h1⟩),fX,gA]
   by_cases hp:0<Ĝ l f t
   ·rw[if_pos ⟨hid,hp⟩]
   ·rw[if_neg (fun h=>hp h.2)]
    have:Ĝ l f t=0:=by omega
    rw[this];omega
  ·rw[if_neg (show ¬(l.1=id∧l.2.1.1≤t∧t≤l.2.1.2) from fun h=>h1 h.2),gn]
   by_cases hlo:l.2.1.1≤t
   ·have e:Ĝ l f (t+1)=Ĝ l f t:=by unfold Ĝ; omega
    rw[e]
   ·have p1:¬0<Ĝ l f (t+1):=by unfold Ĝ; omega
    have p2:¬0<Ĝ l f t:=by unfold Ĝ; omega
    rw[if_neg (fun h=>p1 h.2),if_neg (fun h=>p2 h.2)]
 ·rw[if_neg (fun h=>hid h.1),if_neg (fun h=>hid h.1),if_neg (fun h=>hid h.1)];rfl
def W0 (id:Int) {f t:Int} (hft:f≤t):∀{x:List M9},x.Pairwise (fun a c=>¬(a.1=c.1∧a.2.1.1≤c.2.1.2∧c.2.1.1≤a.2.1.2)) →
 Ľ id f (t+1) x=Ľ id f t x+(match x.find? (fun l=>l.1==id&&inP t l.2.1.1 l.2.1.2) with|some l=>l.2.2|none=>0)
 |[],_=>rfl
 |l::r,hp=>by
  rw[dQ] at hp;have ih:=W0 id hft hp.2;simp only[Ľ];rw[ih,amO l id hft,gP]
  by_cases hm:l.1=id∧l.2.1.1≤t∧t≤l.2.1.2
  ·have e:(l.1==id&&inP t l.2.1.1 l.2.1.2)=true:=by simp[inP,hm.1,hm.2.1,hm.2.2]
   have hn:r.find? (fun l=>l.1==id&&inP t l.2.1.1 l.2.1.2)=none:=by
    rw[eT];intro c hc hcm;simp only[inP,dh,beq_iff_eq,decide_eq_true_eq] at hcm;exact hp.1 c hc ⟨by rw[hm.1,hcm.1],by omega,by omega⟩
   rw[if_pos hm,e,hn];simp only;omega
  ·have e:(l.1==id&&inP t l.2.1.1 l.2.1.2)=false:=by
    rw[fg];intro h;simp only[inP,dh,beq_iff_eq,decide_eq_true_eq] at h;exact hm h
   rw[if_neg hm,e];simp only;omega
section
variable {b:ß}
def Ğ.apart (h:Ğ b):b.2.2.2.1.Pairwise (fun a c=>¬(a.1=c.1∧a.2.1.1≤c.2.1.2∧c.2.1.1≤a.2.1.2)):=by
 rw[List.pairwise_iff_getElem];intro i j hi hj hij ⟨h1,h2,h3⟩;have hz:=h.loans j _ (List.getElem?_eq_getElem hj);unfold VK at hz
 have hany:(b.2.2.2.1.take j).any (fun x=>x.1==b.2.2.2.1[j].1&&(decide (x.2.1.1≤b.2.2.2.1[j].2.1.2)&&decide (b.2.2.2.1[j].2.1.1≤x.2.1.2)))=true:=by
  rw[fD];exact⟨b.2.2.2.1[i],dz.2 ⟨i,by rw[dv]; omega,by rw[List.getElem_take]⟩,by simp[h1,h2,h3]⟩
 rw[hany] at hz
 (repeat' split at hz)<;>first|omega|simp_all
def Ğ.notUsed (h:Ğ b) {id d:Int} {l:M9} (hl:mz b id d=some l):Nc b id d=false:=by
 have hm:=gN hl;have hp:=gw hl;simp only[inP,dh,beq_iff_eq,decide_eq_true_eq] at hp;obtain⟨j,hj,rfl⟩:=dz.1 hm;have hz:=h.loans j _ (df hj);rw[fg];intro hu;obtain⟨u,hu,hue⟩:=fD.1 hu;simp only[dh,beq_iff_eq] at hue
 have hany:b.2.2.1.any (fun u=>u.1==b.2.2.2.1[j].1&&inP u.2 b.2.2.2.1[j].2.1.1 b.2.2.2.1[j].2.1.2)=true:=by
  rw[fD];exact⟨u,hu,by simp only[inP,dh,beq_iff_eq,decide_eq_true_eq]; exact⟨by rw[hue.1,hp.1],by omega,by omega⟩⟩
 unfold VK at hz;rw[hany] at hz
 (repeat' split at hz)<;>first|omega|simp_all
def abQ {id f t:Int} (hft:f≤t):ab6 (jy b id f (t+1))=ab6 (jy b id f t)++if Nc b id t then[t] else[]:=by
 have hm:∀t x,x∈jy b id f t↔Nc b id x=true∧f≤x∧x<t:=by
  intro t x;unfold jy Nc;simp only[List.mem_map,List.mem_filter,List.any_eq_true,inP,Bool.and_eq_true,beq_iff_eq,decide_eq_true_eq];constructor
  ·rintro⟨u,⟨h1,h2,h3,h4⟩,rfl⟩;exact⟨⟨u,h1,h2,rfl⟩,h3,by omega⟩
  ·rintro⟨⟨u,h1,h2,rfl⟩,h3,h4⟩;exact⟨u,⟨h1,h2,h3,by omega⟩,rfl⟩
 refine ah6 (Eb _) ?_ fun x=>?_
 ·rw[List.pairwise_append]
  refine⟨Eb _,by split<;>simp,fun a ha c hc=>?_⟩
  rw[BB,hm] at ha
  split at hc
  ·rw[dt] at hc; omega
  ·cases hc
 ·rw[BB,hm,dk,BB,hm]
  by_cases hu:Nc b id t=true
  ·rw[if_pos hu,dt];constructor
   ·rintro⟨h1,h2,h3⟩
    by_cases he:x=t
    ·exact .inr he
    ·exact .inl ⟨h1,h2,by omega⟩
   ·rintro(⟨h1,h2,h3⟩|rfl)
    ·exact⟨h1,h2,by omega⟩
    ·exact⟨hu,hft,by omega⟩
  ·rw[if_neg hu];constructor
   ·rintro⟨h1,h2,h3⟩;refine .inl ⟨h1,h2,?_⟩
    by_cases he:x=t
    ·rw[he] at h1; exact absurd h1 hu
    ·omega
   ·rintro(⟨h1,h2,h3⟩|h)
    ·exact⟨h1,h2,by omega⟩
    ·cases h
def Sl (h:Ğ b) (g:ì) {f t:Int} (hft:f≤t):jq b g f (t+1)=jq b g f t+ahJ b g t:=by
 unfold jq ahJ;rw[W0 g.1 hft h.apart,abQ hft];show Ľ g.1 f t b.2.2.2.1+(match mz b g.1 t with|some l=>l.2.2|none=>0)+_=_
 cases ha:mz b g.1 t with
 |some l =>
  rw[h.notUsed ha];simp only[dw,if_false,dU];omega
 |none =>
  simp only
  cases Nc b g.1 t with
  |true=>simp only[if_true,di,dN,Int.natCast_add,fX]; omega
  |false=>simp only[dw,if_false,dU]; omega
def A0 (g:ì) {f t:Int} (hft:t≤f):jq b g f t=0:=by
 unfold jq
 have h1:∀x:List M9,Ľ g.1 f t x=0:=by
  intro x
  induction x with
  |nil=>rfl
  |cons l r ih =>
   simp only[Ľ];rw[ih,if_neg (by unfold Ĝ; omega)];rfl
 have h2:jy b g.1 f t=[]:=by
  unfold jy
  rw[List.filter_eq_nil_iff.2 fun u hu hc=>by
   simp only[inP,dh,beq_iff_eq,decide_eq_true_eq] at hc
   omega]
  rfl
 rw[h1,h2];have h3:ab6 ([]:List Int)=[]:=rfl;rw[h3];simp
end
section
variable {b:ß}
def OW (h:Ğ b) (g:ì) {f t u:Int} (h1:f≤t) (h2:t≤u):jq b g f u=jq b g f t+jq b g t u:=by
 obtain⟨n,rfl⟩:∃n:Nat,u=t+n:=⟨(u-t).toNat,by omega⟩;clear h2
 induction n with
 |zero=>simp[A0]
 |succ n ih =>
  have e:t+((n+1:Nat):Int)=(t+n)+1:=by omega
  rw[e,Sl h g (show f≤t+(n:Int) by omega),Sl h g (show t≤t+(n:Int) by omega),ih];omega
def FQ (h:Ğ b) {g:ì} (hg:g∈b.2.1) {f t:Int} (hf:0≤f):0≤jq b g f t:=(lh h hg hf).1
def Ο (b:ß) (id d:Int):Int:=match jz (Í b) id d with|some j=>(j:Int)+1|none=>0
def rY (h:Ğ b) {i:Nat} {g:ì} (hg:b.2.1[i]?=some g) {k:Nat} {d:Int} (hk:(ã b g)[k]?=some d):Ο b g.1 d=(off b i:Int)+k+1:=by
 unfold Ο;rw[agt h hg hk];simp only;omega
structure rM (b:ß) (p:Int→Int) (g:ì):Prop where
 hi:p (Ο b g.1 g.2.1)≤p 0+(g.2.2.1+g.2.2.2.1.2)
 lo:p 0+(g.2.2.1+g.2.2.2.1.1)≤p (Ο b g.1 g.2.1)
 down:∀d e,d∈ã b g→e∈ã b g→d≤e→p (Ο b g.1 e)≤p (Ο b g.1 d)
 loss:∀d e,d∈ã b g→e∈ã b g→d≤e→p (Ο b g.1 d)≤p (Ο b g.1 e)+jq b g d e
def pL (h:Ğ b) {i:Nat} {g:ì} (hg:b.2.1[i]?=some g) {p:Int→Int}:(∀l∈ú b g,p l.2.1≤p l.1+l.2.2)↔rM b p g:=by
 have hgm:=dl hg;obtain⟨tl,htl⟩:=S0 h hgm
 have h0:Ο b g.1 g.2.1=(off b i:Int)+1:=by
  have:=rY h hg (k:=0) (d:=g.2.1) (by rw[htl]; rfl);rw[this];omega
 constructor
 ·intro hl;have e1:=hl _ ((ł h hg).2 (.inl rfl));have e2:=hl _ ((ł h hg).2 (.inr (.inl rfl)));simp only at e1 e2
  have step:∀(k:Nat) (d e:Int),(ã b g)[k]?=some d→(ã b g)[k+1]?=some e→p (Ο b g.1 e)≤p (Ο b g.1 d)∧p (Ο b g.1 d)≤p (Ο b g.1 e)+jq b g d e:=by
   intro k d e hd he;have a1:=hl _ ((ł h hg).2 (.inr (.inr ⟨k,d,e,hd,he,.inl rfl⟩)));have a2:=hl _ ((ł h hg).2 (.inr (.inr ⟨k,d,e,hd,he,.inr rfl⟩)));simp only at a1 a2;rw[rY h hg hd,rY h hg he]
   have e3:(off b i:Int)+((k+1:Nat):Int)+1=(off b i:Int)+k+2:=by omega
   rw[e3];exact⟨by omega,a2⟩
  have pair:∀(n k:Nat) (d e:Int),(ã b g)[k]?=some d→(ã b g)[k+n]?=some e→p (Ο b g.1 e)≤p (Ο b g.1 d)∧p (Ο b g.1 d)≤p (Ο b g.1 e)+jq b g d e:=by
   intro n
   induction n with
   |zero =>
    intro k d e hd he;rw[fT,hd] at he;cases he;rw[A0 g (dR _)];omega
   |succ n ih =>
    intro k d e hd he;have hlt:=(dj.1 he).1;have hm:(ã b g)[k+n]?=some ((ã b g)[k+n]'(by omega)):=df (by omega);obtain⟨a1,a2⟩:=ih k d _ hd hm;obtain⟨a3,a4⟩:=step (k+n) _ e hm he
    have o1:d≤(ã b g)[k+n]'(by omega):=by
     obtain⟨hkl,hkd⟩:=dj.1 hd;rcases fE n with rfl|hn
     ·rw[←hkd]; exact Int.le_of_eq (by congr 1)
     ·have:=(dS.1 (xG b g)) k (k+n) hkl (by omega) (by omega);rw[hkd] at this; omega
    have o2:(ã b g)[k+n]'(by omega)≤e:=by
     obtain⟨hel,hee⟩:=dj.1 he;have:=(dS.1 (xG b g)) (k+n) (k+(n+1)) (by omega) hel (by omega);rw[hee] at this; omega
    have:=OW h g o1 o2;omega
  have any:∀d e,d∈ã b g→e∈ã b g→d≤e→p (Ο b g.1 e)≤p (Ο b g.1 d)∧p (Ο b g.1 d)≤p (Ο b g.1 e)+jq b g d e:=by
   intro d e hd he hde;obtain⟨k,hk,rfl⟩:=dz.1 hd;obtain⟨m,hm,rfl⟩:=dz.1 he
   have hkm:k≤m:=by
    rcases dG m k with hlt|hge
    ·have:=(dS.1 (xG b g)) m k hm hk hlt; omega
    ·exact hge
   exact pair (m-k) k _ _ (df hk) (by rw[show k+(m-k)=m by omega]; exact df hm)
  exact⟨by rw[h0]; omega,by rw[h0]; omega,fun d e hd he hde=>(any d e hd he hde).1,fun d e hd he hde=>(any d e hd he hde).2⟩
 ·intro hf l hl;rcases(ł h hg).1 hl with rfl|rfl|⟨k,d,e,hd,he,rfl|rfl⟩
  ·have:=hf.hi; rw[h0] at this; simp only; omega
  ·have:=hf.lo; rw[h0] at this; simp only; omega
  ·have hde:d≤e:=by
    obtain⟨a1,a2⟩:=dj.1 hd;obtain⟨a3,a4⟩:=dj.1 he;have:=(dS.1 (xG b g)) k (k+1) a1 a3 (by omega);rw[a2,a4] at this; omega
   have:=hf.down d e (dl hd) (dl he) hde;rw[rY h hg hd,rY h hg he] at this
   have e3:(off b i:Int)+((k+1:Nat):Int)+1=(off b i:Int)+k+2:=by omega
   rw[e3] at this;simp only;omega
  ·have hde:d≤e:=by
    obtain⟨a1,a2⟩:=dj.1 hd;obtain⟨a3,a4⟩:=dj.1 he;have:=(dS.1 (xG b g)) k (k+1) a1 a3 (by omega);rw[a2,a4] at this; omega
   have:=hf.loss d e (dl hd) (dl he) hde;rw[rY h hg hd,rY h hg he] at this
   have e3:(off b i:Int)+((k+1:Nat):Int)+1=(off b i:Int)+k+2:=by omega
   rw[e3] at this;simp only;exact this
def X1 (h:Ğ b) {p:Int→Int}:Pot (æ b) p↔(∀g∈b.2.1,rM b p g)∧∀c∈b.2.2.2.2.1,p (cx b c)≤p (cy b c)+(ζ b c).2∧p (cy b c)+(ζ b c).1≤p (cx b c):=by
 constructor
 ·intro hp;refine⟨fun g hg=>?_,fun c hc=>?_⟩
  ·obtain⟨i,hi,rfl⟩:=dz.1 hg;exact(pL h (df hi)).1 fun l hl=>hp l.1 l.2.1 l.2.2 (qi.2 (.inl ⟨i,_,df hi,hl⟩))
  ·have a1:=hp _ _ _ (qi.2 (.inr ⟨c,hc,.inl rfl⟩));have a2:=hp _ _ _ (qi.2 (.inr ⟨c,hc,.inr rfl⟩));omega
 ·rintro⟨hg,hc⟩ u v m hl;rcases qi.1 hl with⟨i,g,hig,hl⟩|⟨c,hcm,hl⟩
  ·exact(pL h hig).2 (hg g (dl hig)) (u,v,m) hl
  ·obtain⟨a1,a2⟩:=hc c hcm;rcases hl with hl|hl
   ·obtain⟨rfl,rfl,rfl⟩:u=cy b c∧v=cx b c∧m=(ζ b c).2:=by simpa using hl
    exact a1
   ·obtain⟨rfl,rfl,rfl⟩:u=cx b c∧v=cy b c∧m = -(ζ b c).1:=by simpa using hl
    omega
end
def aq0:List Int→Int
 |[]=>0
 |[a]=>a
 |a::b::t=>max a (aq0 (b::t))
def acT:∀{l:List Int},l≠[]→(∀a∈l,a≤aq0 l)∧aq0 l∈l
 |[],h=>absurd rfl h
 |[a],_=>⟨fun x hx=>by rw[dt] at hx; rw[hx]; exact dR _,by simp[aq0]⟩
 |a::b::t,_=>by
  obtain⟨h1,h2⟩:=acT (l:=b::t) (by simp);have e:aq0 (a::b::t)=max a (aq0 (b::t)):=rfl;rw[e];constructor
  ·intro x hx;rcases dm.1 hx with rfl|hx
   ·omega
   ·have:=h1 x hx; omega
  ·rcases Int.le_total a (aq0 (b::t)) with h|h
   ·rw[Int.max_eq_right h]; exact eR _ h2
   ·rw[Int.max_eq_left h]; exact List.mem_cons_self
section
variable {b:ß}
def Wc (b:ß) (f:Int→Int→Int) (z:Int) (v:Int):Int:=if v=0 then z else match (Í b)[(v-1).toNat]? with|some n=>f n.1 n.2|none=>0
def qv (f:Int→Int→Int) (z:Int):Wc b f z 0=z:=by unfold Wc; rw[if_pos rfl]
def Ge (h:Ğ b) (f:Int→Int→Int) (z:Int) {g:ì} (hg:g∈b.2.1) {d:Int} (hd:d∈ã b g):Wc b f z (Ο b g.1 d)=f g.1 d:=by
 obtain⟨i,hi,rfl⟩:=List.mem_iff_getElem.1 hg;obtain⟨k,hk,rfl⟩:=List.mem_iff_getElem.1 hd;have hgi:=List.getElem?_eq_getElem hi;have hdk:=List.getElem?_eq_getElem hk;rw[rY h hgi hdk];unfold Wc
 have e:((off b i:Int)+k+1-1).toNat=off b i+k:=by omega
 rw[if_neg (by omega),e,OK hgi hdk]
def Oy (b:ß) (l:List Int) (d:Int):Int:=match l with|[]=>0|x::_=>Ο b x d
def ajE (l:List Int) (d:Int):atP (Í b) l d=Oy b l d:=by
 unfold atP Oy Ο
 cases l<;>rfl
def LQ (c:Cmp):cx b c=Oy b (é c.2.2.1 c.2.2.2.1) c.2.1:=ajE _ _
def LP (c:Cmp):cy b c=Oy b (é c.2.2.2.1 c.2.2.1) c.2.1:=ajE _ _
def pJ (h:Ğ b) {c:Cmp} (hc:c∈b.2.2.2.2.1) {x:Int} (hx:x∈é c.2.2.1 c.2.2.2.1∨x∈é c.2.2.2.1 c.2.2.1):∃g∈b.2.1,g.1=x∧c.2.1∈ã b g:=by
 have hx':(x∈c.2.2.1∧x∉c.2.2.2.1)∨(x∈c.2.2.2.1∧x∉c.2.2.1):=by
  rcases hx with hx|hx
  ·exact .inl (kD.1 hx)
  ·exact .inr (kD.1 hx)
 have hm:x∈c.2.2.1++c.2.2.2.1:=by rw[dk]; exact hx'.imp (·.1) (·.1)
 obtain⟨⟨g,hg,_⟩,_⟩:=h.pile hc hm;obtain⟨hgm,hid⟩:=td hg;refine⟨g,hgm,hid,kJ.2 (.inr (.inl ⟨c,hc,?_,rfl⟩))⟩;rw[hid];intro he;rw[dX,eQ,eQ] at he;rcases hx' with⟨a,e⟩|⟨a,e⟩
 ·exact e (he.1 a)
 ·exact e (he.2 a)
def fill (b:ß) (p:Int→Int) (g:ì) (d:Int):Int:=aq0 ((ã b g).map fun e=>if d≤e then p (Ο b g.1 e) else p (Ο b g.1 e)-jq b g e d)
def SL {p:Int→Int} {g:ì} (d:Int):(∀e∈ã b g,(if d≤e then p (Ο b g.1 e) else p (Ο b g.1 e)-jq b g e d)≤fill b p g d)∧∃e∈ã b g,fill b p g d=if d≤e then p (Ο b g.1 e) else p (Ο b g.1 e)-jq b g e d:=by
 have hne:((ã b g).map fun e=>if d≤e then p (Ο b g.1 e) else p (Ο b g.1 e)-jq b g e d)≠[]:=by
  intro h;have:=List.map_eq_nil_iff.1 h;have h2:=kS (b:=b) g;rw[this] at h2;cases h2
 obtain⟨h1,h2⟩:=acT hne;refine⟨fun e he=>h1 _ (dZ.2 ⟨e,he,rfl⟩),?_⟩;obtain⟨e,he,hx⟩:=dZ.1 h2;exact⟨e,he,hx.symm⟩
def OZ (h:Ğ b) {p:Int→Int} {g:ì} (hg:g∈b.2.1) (hf:rM b p g) {d:Int} (hd:d∈ã b g):fill b p g d=p (Ο b g.1 d):=by
 obtain⟨h1,e,he,h2⟩:=SL (b:=b) (p:=p) (g:=g) d;have h3:=h1 d hd;rw[if_pos (dR _)] at h3
 have h4:fill b p g d≤p (Ο b g.1 d):=by
  rw[h2]
  split
  ·rename_i hde;exact hf.down d e hd he hde
  ·rename_i hde;have:=hf.loss e d he hd (by omega);omega
 omega
def I5 (h:Ğ b) {p:Int→Int} {g:ì} (hg:g∈b.2.1) (hf:rM b p g) {d e:Int} (h0:g.2.1≤d) (hde:d≤e):fill b p g e≤fill b p g d∧fill b p g d≤fill b p g e+jq b g d e:=by
 obtain⟨a1,x,hx,a2⟩:=SL (b:=b) (p:=p) (g:=g) d;obtain⟨b1,y,hy,b2⟩:=SL (b:=b) (p:=p) (g:=g) e;have hm:=(h.gaugeR hg).2.2.2.2.1;have hl:=FQ h hg (f:=d) (t:=e) (by omega);have dx:=h.day hg hx;have dy:=h.day hg hy;constructor
 ·have q:=a1 y hy;rw[b2]
  by_cases c1:e≤y
  ·rw[if_pos c1];rw[if_pos (by omega)] at q;exact q
  ·rw[if_neg c1]
   by_cases c2:d≤y
   ·rw[if_pos c2] at q;have:=FQ h hg (f:=y) (t:=e) dy.2.1;omega
   ·rw[if_neg c2] at q;have:=OW h g (f:=y) (t:=d) (u:=e) (by omega) hde;omega
 ·have q:=b1 x hx;rw[a2]
  by_cases c1:d≤x
  ·rw[if_pos c1]
   by_cases c2:e≤x
   ·rw[if_pos c2] at q;omega
   ·rw[if_neg c2] at q;have:=OW h g (f:=d) (t:=x) (u:=e) c1 (by omega);have:=FQ h hg (f:=d) (t:=x) (by omega);omega
  ·rw[if_neg c1];rw[if_neg (by omega)] at q;have:=OW h g (f:=x) (t:=d) (u:=e) (by omega) hde;omega
end
section
variable {b:ß} {c:Cmp}
def ahx:û (î b c)=(î b c).2.1.flatMap (ú (î b c))++b.2.2.2.2.1.flatMap (ĉ (î b c)):=by
 unfold û
 have e:æ (î b c)=((î b c).2.1.flatMap (ú (î b c))++b.2.2.2.2.1.flatMap (ĉ (î b c)))++ĉ (î b c) c:=by
  unfold æ;rw[show(î b c).2.2.2.2.1=b.2.2.2.2.1++[c] from rfl,List.flatMap_append,List.append_assoc];simp
 rw[e,di,show(ĉ (î b c) c).length=2 from rfl,Nat.add_sub_cancel,List.take_left]
def OY (h':Ğ (î b c)) {p:Int→Int}:Pot (û (î b c)) p↔(∀g∈b.2.1,rM (î b c) p g)∧∀d∈b.2.2.2.2.1,p (cx (î b c) d)≤p (cy (î b c) d)+(ζ b d).2∧p (cy (î b c) d)+(ζ b d).1≤p (cx (î b c) d):=by
 rw[ahx];constructor
 ·intro hp;refine⟨fun g hg=>?_,fun d hd=>?_⟩
  ·obtain⟨i,hi,rfl⟩:=dz.1 hg;exact(pL h' (i:=i) (df hi)).1 fun l hl=>hp l.1 l.2.1 l.2.2 (dk.2 (.inl (dK.2 ⟨_,eh hi,hl⟩)))
  ·have a1:=hp (cy (î b c) d) (cx (î b c) d) (ζ (î b c) d).2 (dk.2 (.inr (dK.2 ⟨d,hd,by simp[ĉ]⟩)));have a2:=hp (cx (î b c) d) (cy (î b c) d) (-(ζ (î b c) d).1) (dk.2 (.inr (dK.2 ⟨d,hd,by simp[ĉ]⟩)));have e:ζ (î b c) d=ζ b d:=rfl;rw[e] at a1 a2;omega
 ·rintro⟨hg,hc⟩ u v m hl;rcases dk.1 hl with hl|hl
  ·obtain⟨g,hgm,hl⟩:=dK.1 hl;obtain⟨i,hi,rfl⟩:=dz.1 hgm;exact(pL h' (i:=i) (df hi)).2 (hg _ hgm) (u,v,m) hl
  ·obtain⟨d,hd,hl⟩:=dK.1 hl;obtain⟨a1,a2⟩:=hc d hd;have e:ζ (î b c) d=ζ b d:=rfl;simp only[ĉ,dm,gp,or_false,e] at hl;rcases hl with hl|hl
   ·obtain⟨rfl,rfl,rfl⟩:u=cy (î b c) d∧v=cx (î b c) d∧m=(ζ b d).2:=by simpa using hl
    exact a1
   ·obtain⟨rfl,rfl,rfl⟩:u=cx (î b c) d∧v=cy (î b c) d∧m = -(ζ b d).1:=by simpa using hl
    omega
def vT {g:ì} {d:Int} (hd:d∈ã b g):d∈ã (î b c) g:=by
 rcases kJ.1 hd with e|⟨x,hx,h1,h2⟩|hn
 ·exact kJ.2 (.inl e)
 ·exact kJ.2 (.inr (.inl ⟨x,dk.2 (.inl hx),h1,h2⟩))
 ·exact kJ.2 (.inr (.inr hn))
def amJ (g:ì) (f t:Int):jq (î b c) g f t=jq b g f t:=rfl
def L3 {b':ß} (h':Ğ b') {l:List Int} {day:Int} (f:Int→Int→Int) (z:Int) (hl:∀x∈l,∃g∈b'.2.1,g.1=x∧day∈ã b' g):Wc b' f z (Oy b' l day)=match l with|[]=>z|x::_=>f x day:=by
 unfold Oy
 cases l with
 |nil=>exact qv f z
 |cons x t =>
  obtain⟨g,hg,rfl,hd⟩:=hl x (by simp);exact Ge h' f z hg hd
def ami (h:Ğ b) (h':Ğ (î b c)):(∃p,Pot (æ b) p)↔∃p,Pot (û (î b c)) p:=by
 constructor
 ·rintro⟨p,hp⟩;obtain⟨hg,hc⟩:=(X1 h).1 hp
  let f:Int→Int→Int:=fun id d=>match ŷ b id with|some g=>fill b p g d|none=>0
  have hfv:∀g∈b.2.1,∀d,f g.1 d=fill b p g d:=fun g hgm d=>by
   show(match ŷ b g.1 with|some g=>fill b p g d|none=>0)=_;rw[xo h.ids hgm]
  have hq:∀g∈b.2.1,∀d∈ã (î b c) g,Wc (î b c) f (p 0) (Ο (î b c) g.1 d)=fill b p g d:=fun g hgm d hd=>by
   rw[Ge h' f (p 0) hgm hd,hfv g hgm d]
  refine⟨Wc (î b c) f (p 0),(OY h').2 ⟨fun g hgm=>?_,fun d hd=>?_⟩⟩
  ·have gf:=hg g hgm;have hmade:g.2.1∈ã b g:=kS g;have e0:=hq g hgm g.2.1 (kS g);rw[OZ h hgm gf hmade] at e0;refine⟨?_,?_,fun x y hx hy hxy=>?_,fun x y hx hy hxy=>?_⟩
   ·rw[e0,qv]; exact gf.hi
   ·rw[e0,qv]; exact gf.lo
   ·rw[hq g hgm x hx,hq g hgm y hy];exact(I5 h hgm gf (h'.day hgm hx).1 hxy).1
   ·rw[hq g hgm x hx,hq g hgm y hy,amJ];exact(I5 h hgm gf (h'.day hgm hx).1 hxy).2
  ·have key:∀l:List Int,(∀x∈l,∃g∈b.2.1,g.1=x∧d.2.1∈ã b g)→Wc (î b c) f (p 0) (Oy (î b c) l d.2.1)=p (Oy b l d.2.1):=by
    intro l hl;rw[L3 h' f (p 0) (fun x hx=>by obtain⟨g,q1,q2,q3⟩:=hl x hx; exact⟨g,q1,q2,vT q3⟩)]
    cases l with
    |nil=>rfl
    |cons x t =>
     obtain⟨g,q1,rfl,q3⟩:=hl x (by simp);show f g.1 d.2.1=p (Ο b g.1 d.2.1);rw[hfv g q1,OZ h q1 (hg g q1) q3]
   rw[LQ,LP,key _ (fun x hx=>pJ h hd (.inl hx)),key _ (fun x hx=>pJ h hd (.inr hx)),←LQ,←LP];exact hc d hd
 ·rintro⟨p,hp⟩;obtain⟨hg,hc⟩:=(OY h').1 hp
  let f:Int→Int→Int:=fun id d=>p (Ο (î b c) id d)
  have hq:∀g∈b.2.1,∀d∈ã b g,Wc b f (p 0) (Ο b g.1 d)=p (Ο (î b c) g.1 d):=fun g hgm d hd=>Ge h f (p 0) hgm hd;refine⟨Wc b f (p 0),(X1 h).2 ⟨fun g hgm=>?_,fun d hd=>?_⟩⟩
  ·have gf:=hg g hgm;have e0:=hq g hgm g.2.1 (kS g);refine⟨?_,?_,fun x y hx hy hxy=>?_,fun x y hx hy hxy=>?_⟩
   ·rw[e0,qv]; exact gf.hi
   ·rw[e0,qv]; exact gf.lo
   ·rw[hq g hgm x hx,hq g hgm y hy];exact gf.down x y (vT hx) (vT hy) hxy
   ·rw[hq g hgm x hx,hq g hgm y hy];exact gf.loss x y (vT hx) (vT hy) hxy
  ·have key:∀l:List Int,(∀x∈l,∃g∈b.2.1,g.1=x∧d.2.1∈ã b g)→Wc b f (p 0) (Oy b l d.2.1)=p (Oy (î b c) l d.2.1):=by
    intro l hl;rw[L3 h f (p 0) hl]
    cases l<;>rfl
   rw[LQ,LP,key _ (fun x hx=>pJ h hd (.inl hx)),key _ (fun x hx=>pJ h hd (.inr hx)),←LQ,←LP];exact hc d hd
end
section
variable {L:List Lk} {N:Nat}
def Wl.app {u v:Int} {vs:List Int} {d:Int} (h1:Wl L (fun x=>x=u) vs v d) {ws:List Int} {w e:Int} (h2:Wl L (fun x=>x=v) ws w e):∃xs,Wl L (fun x=>x=u) xs w (d+e):=by
 induction h2 with
 |nil h=>subst h; exact⟨vs,by rw[gn]; exact h1⟩
 |step hw hx ih =>
  obtain⟨xs,hi⟩:=ih;have:=Wl.step hi hx;rw[Int.add_assoc] at this;exact⟨_,this⟩
def dst (L:List Lk) (N:Nat) (s t:Int):Int:=gv (ug L N s) t
def ans (h:Ŋ L N) (ht:JH L N) (ho:ĸ L N=true) {s t:Int} (hs:0≤s∧s<N) (hv:0≤t∧t<N):dst L N s t≤9007199254740992:=by
 have h2:=h.n60;obtain⟨p,hp⟩:=(Ŝ h.links (by omega)).1 ho;obtain⟨vs,d,hw,hd⟩:=ht.from' s hs.1 hs.2;obtain⟨ws,e,hx,he⟩:=ht.to t hv.1 hv.2;obtain⟨xs,hy⟩:=Wl.app hw hx;have:=(jW h.links (by omega) hp hs).low t xs _ (acL.2 hy);unfold dst;omega
def ajj (h:Ŋ L N) (ht:JH L N) (ho:ĸ L N=true) {s t:Int} (hs:0≤s∧s<N) (hv:0≤t∧t<N):dst L N s t≠Ł:=by
 have:=ans h ht ho hs hv;unfold Ł;omega
def anr (h:Ŋ L N) (ht:JH L N) (ho:ĸ L N=true) {s:Int} (hs:0≤s∧s<N):Pot L (dst L N s):=by
 have h2:=h.n60;obtain⟨p,hp⟩:=(Ŝ h.links (by omega)).1 ho;intro u v m hl;have hr:=h.inr _ hl;exact(jW h.links (by omega) hp hs).pot h.inr hl (ajj h ht ho hs hr.1)
def aji (h:Ŋ L N) (ho:ĸ L N=true) {s:Int} (hs:0≤s∧s<N):dst L N s s=0:=ah3 h ho hs.1 hs.2
def abb (h:Ŋ L N) (ht:JH L N) (ho:ĸ L N=true) {s t:Int} (hs:0≤s∧s<N) (hv:0≤t∧t<N) {p:Int→Int} (hp:Pot L p):p t-p s≤dst L N s t:=by
 have h2:=h.n60;obtain⟨vs,hw⟩:=(jW h.links (by omega) hp hs).att t hv.1 hv.2 (ajj h ht ho hs hv);obtain⟨u,hu,hx⟩:=(acL.1 hw).pot hp;subst hu;exact hx
def ar2 (h:Ŋ L N) (ht:JH L N) (ho:ĸ L N=true) {x y:Int} (hx:0≤x∧x<N) (hy:0≤y∧y<N) {t:Int} (h1 : -(dst L N x y)≤t) (h2:t≤dst L N y x):∃p,Pot L p∧p x-p y=t:=by
 refine⟨fun v=>min (dst L N y v) (dst L N x v+t),fun u v m hl=>?_,?_⟩
 ·have a1:=anr h ht ho hy u v m hl;have a2:=anr h ht ho hx u v m hl;show min _ _≤min _ _+m;omega
 ·have e1:=aji h ho hx;have e2:=aji h ho hy;show min (dst L N y x) (dst L N x x+t)-min (dst L N y y) (dst L N x y+t)=t;omega
def afj (h:Ŋ L N) (ht:JH L N) (ho:ĸ L N=true) {x y:Int} (hx:0≤x∧x<N) (hy:0≤y∧y<N) : -(dst L N x y)≤dst L N y x:=by
 have h2:=h.n60;obtain⟨p,hp⟩:=(Ŝ h.links (by omega)).1 ho;have a1:=abb h ht ho hx hy hp;have a2:=abb h ht ho hy hx hp;omega
def ajk (h:Ŋ L N) (ht:JH L N) (ho:ĸ L N=true) {s t:Int} (hs:0≤s∧s<N) (hv:0≤t∧t<N) : -9007199254740992≤dst L N s t∧dst L N s t≤9007199254740992:=by
 have a1:=ans h ht ho hs hv;have a2:=ans h ht ho hv hs;have a3:=afj h ht ho hv hs;omega
def Cs (h:Ŋ L N) (ht:JH L N) {s t:Int} (hs:0≤s∧s<N) (hv:0≤t∧t<N):iP L N s t=if ĸ L N then(dst L N s t,0) else(0,9):=by
 unfold iP
 by_cases ho:ĸ L N=true
 ·have hne:=ajj h ht ho hs hv;unfold dst at hne ⊢;rw[if_neg (by simp[ho]),if_neg hne,if_pos ho]
 ·rw[if_pos (by simpa using ho),if_neg ho]
end
section
variable {b:ß} {c:Cmp}
def arR (h':Ğ (î b c)):GL (î b c) (û (î b c)):=by
 intro i g hg l hl;rw[ahx];exact dk.2 (.inl (dK.2 ⟨g,dl hg,hl⟩))
def kE (h':Ğ (î b c)):JH (û (î b c)) ((Í (î b c)).length+1):=h'.tiedL (arR h')
def kd (h':Ğ (î b c)):Ŋ (û (î b c)) ((Í (î b c)).length+1) :=
 h'.sys.sub (fun l hl=>List.mem_of_mem_take hl) (by unfold û; rw[List.length_take]; omega)
def rk (h:Ğ b) (h':Ğ (î b c)):ĸ (û (î b c)) ((Í (î b c)).length+1)=ĸ (æ b) ((Í b).length+1):=by
 have n1:=h.sys.n60;have n2:=(kd h').n60;rw[dX,Ŝ (kd h').links (by omega),Ŝ h.sys.links (by omega)];exact(ami h h').symm
def BH:c∈(î b c).2.2.2.2.1:=by simp[î]
def D0 (h':Ğ (î b c)):0≤cx (î b c) c∧cx (î b c) c<((Í (î b c)).length+1:Nat):=(abd h' BH).rng
def DZ (h':Ğ (î b c)):0≤cy (î b c) c∧cy (î b c) c<((Í (î b c)).length+1:Nat):=(S6 h' BH).rng
def dLo (b:ß) (c:Cmp):Int:=-(dst (û (î b c)) ((Í (î b c)).length+1) (cx (î b c) c) (cy (î b c) c))
def dHi (b:ß) (c:Cmp):Int:=dst (û (î b c)) ((Í (î b c)).length+1) (cy (î b c) c) (cx (î b c) c)
def TC (h:Ğ b) (h':Ğ (î b (È c))):ľ b c=if ĸ (æ b) ((Í b).length+1) then Pl b (È c) (dLo b (È c),dHi b (È c)) else((0,0),9):=by
 have e:Bv b (È c)=(î b (È c),0):=by
  unfold Bv;rw[if_neg (by simp[(ð b).2 h]),if_neg (by simp[(ð _).2 h'])]
 unfold ľ;rw[e,Cs (kd h') (kE h') (DZ h') (D0 h'),Cs (kd h') (kE h') (D0 h') (DZ h'),rk h h']
 by_cases ho:ĸ (æ b) ((Í b).length+1)=true
 ·rw[if_pos ho,if_pos ho,if_pos ho];rfl
 ·rw[if_neg ho,if_neg ho,if_neg ho];rfl
def pW (hp:(ľ b c).2=0):Ğ b∧Ğ (î b (È c)):=by
 have hw:(Bv b (È c)).2=0:=by
  unfold ľ at hp
  by_cases hw:(Bv b (È c)).2=0
  ·exact hw
  ·rw[if_pos hw] at hp; exact hp
 unfold Bv at hw
 by_cases hb:ä b=0
 ·rw[if_neg (by simp[hb])] at hw
  by_cases hm:ä (î b (È c))=0
  ·exact⟨(ð b).1 hb,(ð _).1 hm⟩
  ·rw[if_pos hm] at hw; exact absurd hw hm
 ·rw[if_pos hb] at hw; exact absurd hw hb
def af9 {s:Int×Int} (h:(Pl b c s).2=0):ahr b c≤FU b c∧Pl b c s=((s.1+ahr b c,s.2+FU b c),0):=by
 unfold Pl at h ⊢
 split at h
 ·simp at h
 ·rename_i hl;rw[if_neg hl];exact⟨by omega,rfl⟩
end
end Go.Proofs.ZzM
end
