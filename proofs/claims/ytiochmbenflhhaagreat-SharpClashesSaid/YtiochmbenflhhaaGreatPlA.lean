/- lemmas -/
import Derived.Test.YtiochmbenflhhaaGreatAmG
import Derived.Test.YtiochmbenflhhaaGreatMdTA
set_option linter.all false
set_option linter.unusedSectionVars false
set_option linter.unusedVariables false
set_option linter.unusedSimpArgs false
noncomputable section
namespace Go.Am
section
variable {ρ:Type}
def ģ {α β:Type} (e:Nat→α→Option β):Nat→List α→Option β
 |_,[]=>none
 |i,a::t=>match e i a with
  |some b=>some b
  |none=>ģ e (i+1) t
def ij {α β:Type} (l:List α) (e:Nat→α→Option β) (k0:β→Option ρ) (k1:Option ρ) {f:Int→(Int→Option ρ)→Option ρ}
 (h:∀(i:Nat) (a:α),i<l.length→l[i]?=some a→∀kn,f i kn=match e i a with|some b=>k0 b|none=>kn ((i:Int)+1))
 (hn:∀kn,f l.length kn=k1):Í f 0=match ģ e 0 l with|some b=>k0 b|none=>k1:=by
 refine amX l (fun i t=>match ģ e i t with|some b=>k0 b|none=>k1) hn fun i a t hd hi ha kn hk=>?_;rw[h i a hi ha kn,hk,ģ]
 cases e i a<;>rfl
def ë {α σ:Type} (l:List α) (g:Nat→σ) (r:Option ρ) {f:Int×σ→(Int×σ→Option ρ)→Option ρ} {s0:σ} (h0:g 0=s0)
 (h:∀(i:Nat) (a:α),i<l.length→l[i]?=some a→∀kn,f (i,g i) kn=kn ((i:Int)+1,g (i+1)))
 (hn:∀kn,f (l.length,g l.length) kn=r):Í f (0,s0)=r:=by
 subst h0
 have hs:∀s,(s=g 0)→Í f (0,s)=r:=fun s e=>Hz l (fun _ _ _=>r) (fun i s=>s=g i) (fun s hs kn=>by rw[hs]; exact hn kn) (fun i a t s hd hi ha hI kn hk=>by
  rw[hI,h i a hi ha kn]; exact hk _ rfl) e
 exact hs _ rfl
def amW {α σ:Type} (l:List α) (g:Nat→σ) (r:Option ρ) {f:Int×σ→(Int×σ→Option ρ)→Option ρ} {s0:σ} (P:Nat→Prop) (h0:g 0=s0) (hP:P 0)
 (h:∀(i:Nat) (a:α),i<l.length→l[i]?=some a→P i→∀kn,f (i,g i) kn=r∨(P (i+1)∧f (i,g i) kn=kn ((i:Int)+1,g (i+1))))
 (hn:P l.length→∀kn,f (l.length,g l.length) kn=r):Í f (0,s0)=r:=by
 subst h0
 have hs:∀s,(s=g 0∧P 0)→Í f (0,s)=r:=fun s e=>Hz l (fun _ _ _=>r) (fun i s=>s=g i∧P i) (fun s hs kn=>by rw[hs.1]; exact hn hs.2 kn) (fun i a t s hd hi ha hI kn hk=>by
  rcases h i a hi ha hI.2 kn with h1|⟨h1,h2⟩
  ·rw[hI.1,h1]
  ·rw[hI.1,h2]; exact hk _ ⟨rfl,h1⟩) e
 exact hs _ ⟨rfl,hP⟩
def Ë {i n:Nat} (h:i<n) (hn:n≤1000000000) (f:Int→Option ρ):ck ((i:Int)+1) f=f ((i:Int)+1):=Ò (by omega) (by omega) f
def ifb_lt {i n:Nat} (h:i<n) (x y:Option ρ):ifb (ilt (i:Int) (alF n)) x y=x:=by simp[Č,O9,h]
def Ù (n:Nat) (x y:Option ρ):ifb (ilt (n:Int) (alF n)) x y=y:=by simp[Č,O9]
def Ð {α:Type} {l:List α} {i:Nat} (h:i<l.length) (x y:Option ρ):ifb (ilt (i:Int) (Ö l)) x y=x:=ifb_lt h x y
def Sz {α:Type} (p:α→Bool):∀(i:Nat) (l:List α),ģ (fun i a=>bif p a then some (i:Int) else none) i l=(l.findIdx? p).map fun j=>((i+j:Nat):Int)
 |_,[]=>rfl
 |i,a::t=>by
  simp only[ģ,List.findIdx?_cons]
  cases hp:p a with
  |true=>simp
  |false =>
   simp only[cond_false,dv,if_false];rw[Sz p (i+1) t]
   cases t.findIdx? p with
   |none=>rfl
   |some j=>simp only[d9]; congr 1; omega
def iP {α β:Type} {e:Nat→α→Option β}:∀{i:Nat} {l:List α},ģ e i l=none↔∀j a,l[j]?=some a→e (i+j) a=none
 |_,[]=>by simp[ģ]
 |i,a::t=>by
  simp only[ģ];constructor
  ·intro h j b hb
   cases he:e i a with
   |some c=>rw[he] at h; cases h
   |none =>
    rw[he] at h
    cases j with
    |zero=>simp at hb; subst hb; simpa using he
    |succ j=>have:=(iP.1 h) j b (by simpa using hb); rw[←this]; congr 1; omega
  ·intro h;have h0:=h 0 a (by simp);simp only[fN] at h0;rw[h0]
   exact iP.2 fun j b hb=>by have:=h (j+1) b (by simpa using hb); rw[←this]; congr 1; omega
def take_succ {α:Type} {l:List α} {i:Nat} {a:α} (h:l[i]?=some a):l.take (i+1)=l.take i++[a]:=by rw[List.take_succ,h]; rfl
end
end Go.Am
end

noncomputable section
namespace Go.Proofs.ZzM
open Go Go.Am
section
variable {ρ:Type}
def ġ {τ:Type} {f:τ→(τ→Option ρ)→Option ρ} {r:Option ρ} (I:τ→Prop) (μ:τ→Nat)
 (h:∀x,I x→(∀kn,f x kn=r)∨∃y,I y∧μ y<μ x∧∀kn,f x kn=kn y) {x:τ} (hx:I x):Í f x=r :=
 n0 (F:=fun _=>r) I μ (fun x hx kn hk=>by
  rcases h x hx with h1|⟨y,h1,h2,h3⟩
  ·exact h1 kn
  ·rw[h3,hk y h1 h2]) hx
def ś {α:Type} (l:List α) (p:α→Bool) (k0:Int→Option ρ) (k1:Option ρ) {f:Int→(Int→Option ρ)→Option ρ}
 (h:∀(i:Nat) (a:α),i<l.length→l[i]?=some a→∀kn,f i kn=if p a then k0 i else kn ((i:Int)+1))
 (hn:∀kn,f l.length kn=k1):Í f 0=match l.findIdx? p with|some j=>k0 j|none=>k1:=by
 rw[ij l (fun i a=>bif p a then some (i:Int) else none) k0 k1 (fun i a hi ha kn=>by rw[h i a hi ha kn]; cases p a<;>rfl) hn,Sz]
 cases l.findIdx? p with
 |none=>rfl
 |some j=>simp
def Ģ {α:Type} (l:List α) (p:α→Bool) (k0:Int→Option ρ) (K k1:Option ρ) {f:Int→(Int→Option ρ)→Option ρ} (hK:∀j:Nat,k0 j=K)
 (h:∀(i:Nat) (a:α),i<l.length→l[i]?=some a→∀kn,f i kn=if p a then k0 i else kn ((i:Int)+1))
 (hn:∀kn,f l.length kn=k1):Í f 0=if l.any p then K else k1:=by
 rw[ś l p k0 k1 h hn]
 cases hf:l.findIdx? p with
 |none =>
  have:l.any p=false:=by
   rw[eo];intro x hx;have:=dT.1 hf x hx;simp[this]
  simp[this]
 |some j =>
  have:l.any p=true:=by
   have:=dL.1 hf;obtain⟨hj,hp,_⟩:=this;exact dZ.2 ⟨_,fC hj,hp⟩
  simp[this,hK]
end
abbrev é:Type:=Int×Int×Int×(Int×Int)×((Int×Int)×Int)
abbrev IG:Type:=Int×((Int×Int)×Int)
abbrev Cmp:Type:=Int×Int×List Int×List Int×Int×(Int×(Int×Int))
abbrev Þ:Type:=(Int×Int)×List é×List (Int×Int)×List IG×List Cmp×List (Int×Int)
abbrev Sys:Type:=Int×List (Int×Int×Int)
abbrev Maker:Type:=Þ×List (Int×Int)×Sys×List (Int×Int)
section
variable {ρ:Type}
def Ñ {b:Bool} (h:b=true) (x y:Option ρ):ifb b x y=x:=by rw[h]; rfl
def Î {b:Bool} (h:b=false) (x y:Option ρ):ifb b x y=y:=by rw[h]; rfl
end
def I64 (n:Int):Prop:=-9223372036854775808≤n∧n≤9223372036854775807
def inP (n lo hi:Int):Bool:=decide (lo≤n)&&decide (n≤hi)
def Il (n:Int):Bool:=inP n 0 20000
def j6 (s:Int×Int) (lo hi:Int):Bool:=decide (lo≤s.1)&&(decide (s.1≤s.2)&&decide (s.2≤hi))
def ω (n lo hi:Int):Ě n lo hi=some (inP n lo hi):=by
 unfold Ě Ko inP ile
 cases decide (lo≤n)<;>rfl
def aa3 (n:Int):oi n=some (Il n):=by
 unfold oi RM;rw[ω]; rfl
def HD (s:Int×Int) (lo hi:Int):Ζ s lo hi=some (j6 s lo hi):=by
 unfold Ζ Kx j6 ile
 cases decide (lo≤s.1)<;>cases decide (s.1≤s.2)<;>rfl
def XU {n:Int} (h:I64 n):sw n=some (n.natAbs:Int):=by
 obtain⟨h1,h2⟩:=h;unfold sw aai
 by_cases hn:n<0
 ·have:ilt n 0=true:=by simpa using hn
  rw[Ñ this];congr 1;simp only[IntKind.wrap,IntKind.bits,IntKind.signed];simp;omega
 ·have:ilt n 0=false:=by simpa using hn
  rw[Î this];congr 1;simp only[IntKind.wrap,IntKind.bits,IntKind.signed];simp;omega
def arp (a b:Nat):SE a b=some ((Nat.gcd a b:Nat):Int):=by
 unfold SE ahd;refine ġ (fun x:Int×Int=>∃c d:Nat,x=((c:Int),(d:Int))∧Nat.gcd c d=Nat.gcd a b) (fun x=>x.2.toNat) ?_ ⟨a,b,rfl,rfl⟩;rintro x ⟨c,d,rfl,hg⟩
 cases d with
 |zero =>
  refine .inl fun kn=>?_;rw[Nat.gcd_zero_right] at hg;unfold AY;simp[hg,ine]
 |succ d =>
  refine .inr ⟨(((d+1:Nat):Int),((c % (d+1):Nat):Int)),⟨d+1,c % (d+1),rfl,?_⟩,?_,fun kn=>?_⟩
  ·rw[←hg,gY c (d+1),Nat.gcd_rec (d+1) c,gY]
  ·have:=gO c (gK d);simp only[dt];omega
  ·unfold AY
   have h1:ine ((d+1:Nat):Int) 0=true:=by simp[ine]; omega
   have h2:õ ((d+1:Nat):Int) 0=false:=by simp[õ]; omega
   simp only[h1,Ñ Î h2];congr 1
def Lt (r:Int×Int):Bool :=
 decide (1≤r.2)&&(decide (r.2≤2147483647)&&(decide ((r.1.natAbs:Int)≤2147483647)&&decide (Nat.gcd r.1.natAbs r.2.natAbs=1)))
def abK {r:Int×Int} (h:I64 r.1):uV r=some (Lt r):=by
 unfold uV Rs Lt
 by_cases h1:1≤r.2
 ·by_cases h2:r.2≤2147483647
  ·have h3:I64 r.2:=⟨by omega,by omega⟩
   have e1:ige r.2 1=true:=by simp[ige,h1]
   have e2:ile r.2 2147483647=true:=by simp[ile,h2]
   rw[Ñ e1,Ñ e2,XU h,À]
   by_cases h4:(r.1.natAbs:Int)≤2147483647
   ·have e4:ile (r.1.natAbs:Int) 2147483647=true:=by simp[ile,h4]
    rw[Ñ e4,À,XU h3,À,arp,À];congr 1;rw[dO];simp only[ieq,beq_iff_eq,h1,h2,h4,decide_true,dV,decide_eq_true_eq];omega
   ·have e4:ile (r.1.natAbs:Int) 2147483647=false:=by simp[ile]; omega
    rw[Î e4];simp[h4]
  ·have e1:ige r.2 1=true:=by simp[ige,h1]
   have e2:ile r.2 2147483647=false:=by simp[ile]; omega
   rw[Ñ e1,Î e2];simp[h2]
 ·have e1:ige r.2 1=false:=by simp[ige]; omega
  rw[Î e1];simp[h1]
def qz (g:é):Bool :=
 Lt g.2.2.2.2.1&&inP g.2.2.2.2.1.1 (-1000) 1000&&decide (g.2.2.2.2.1.2≤100)&&inP g.1 1 1099511627776&&Il g.2.1&&inP g.2.2.1 1 1125899906842624&&j6 g.2.2.2.1 (-1073741824) 1073741824&&inP g.2.2.2.2.2 0 1048576
def akI {g:é} (h:I64 g.2.2.2.2.1.1):wV g=some (qz g):=by
 unfold wV Er qz;rw[abK h,ω,ω,aa3,ω,HD,ω];generalize Lt g.2.2.2.2.1=x1;generalize inP g.2.2.2.2.1.1 (-1000) 1000=x2;generalize inP g.1 1 1099511627776=x3;generalize Il g.2.1=x4;generalize inP g.2.2.1 1 1125899906842624=x5;generalize j6 g.2.2.2.1 (-1073741824) 1073741824=x6;generalize inP g.2.2.2.2.2 0 1048576=x7;unfold ile;generalize decide (g.2.2.2.2.1.2≤100)=x8
 cases x1<;>cases x2<;>cases x3<;>cases x4<;>cases x5<;>cases x6<;>cases x8<;>rfl
section
variable {ρ:Type}
def HF {α:Type} {l:List α} {i:Nat} {a:α} (h0:0<i) (h:l[i-1]?=some a) (f:α→Option ρ):ï l ((i:Int)-1) f=f a:=by
 have:((i:Int)-1)=((i-1:Nat):Int):=by omega
 rw[this,Ç h]
def SV {i:Nat} (h:0<i) (hn:i≤1000000000) (f:Int→Option ρ):ck ((i:Int)-1) f=f ((i:Int)-1):=Ò (by omega) (by omega) f
def iq {i n:Nat} (h:i<n) (x:Option ρ):è ((ile 0 (i:Int))&&(ilt (i:Int) (n:Int))) x=x:=by
 have:((ile 0 (i:Int))&&(ilt (i:Int) (n:Int)))=true:=by simp[ile,ilt,h]
 rw[this,Am.iff_true]
def ħ {α:Type} {l:List α} {i:Nat} {a:α} (h:l[i]?=some a) (f:α→Option ρ):Ĩ l (Int.toNat (i:Int)) f=f a:=by
 rw[dt]; exact jI h f
end
def EJ {α:Type} (key:α→Int) (l:List α) (i:Nat) (a:α):Bool :=
 decide (0<i)&&(l[i-1]?).any fun q=>decide (key a≤key q)
def EY {α:Type} {l:List α} {i:Nat} (hi:i<l.length) (h0:0<i):∃q,l[i-1]?=some q :=
 ⟨l[i-1],cX (by omega)⟩
def abB {α:Type} (key:α→Int) (l:List α):(∀i a,l[i]?=some a→EJ key l i a=false)↔l.Pairwise (fun a b=>key a<key b):=by
 rw[dI];constructor
 ·intro h
  have step:∀i (h1:i+1<l.length),key l[i]<key l[i+1]:=by
   intro i h1;have:=h (i+1) l[i+1] (cX h1);simp only[EJ,Nat.add_sub_cancel,gK,decide_true,dV,cX (show i<l.length by omega),Option.any_some,decide_eq_false_iff_not] at this;omega
  intro i j hi hj hij
  induction j with
  |zero=>omega
  |succ j ih =>
   have:=step j hj;rcases dA i j with hlt|hge
   ·have:=ih (by omega) hlt; omega
   ·have:i=j:=by omega
    subst this; assumption
 ·intro h i a ha;obtain⟨hi,rfl⟩:=List.getElem?_eq_some_iff.1 ha;unfold EJ
  cases i with
  |zero=>rfl
  |succ i =>
   have:=h i (i+1) (by omega) hi (by omega);simp only[Nat.add_sub_cancel,gK,decide_true,dV,cX (show i<l.length by omega),Option.any_some,decide_eq_false_iff_not];omega
def oL (l:List é) (i:Nat) (g:é):Option Int :=
 if !qz g then some 1 else if EJ (fun g=>g.1) l i g then some 6 else none
def jz (b:Þ):Int:=(ģ (oL b.2.1) 0 b.2.1).getD 0
def VX {b:Þ} (hr:∀g∈b.2.1,I64 g.2.2.2.2.1.1) (hn:b.2.1.length≤1000):ų b=some (jz b):=by
 unfold ų qu;refine Eq.trans (ij b.2.1 (oL b.2.1) some (some 0) (fun i a hi ha kn=>?_) (fun kn=>?_)) ?_
 ·try dsimp only
  unfold jn;rw[Ð hi,Ç ha,akI (hr a (List.mem_of_getElem? ha)),À];unfold oL
  cases hg:qz a with
  |false=>simp
  |true =>
   simp only[eJ,æ,dv,if_false];rcases fE i with h0|h0
   ·subst h0
    have:igt ((0:Nat):Int) 0=false:=by simp[igt]
    rw[Î this,Ë hi (by omega)];simp[EJ]
   ·obtain⟨q,hq⟩:=EY hi h0
    have h1:igt (i:Int) 0=true:=by simp[igt]; omega
    rw[Ñ h1,SV h0 (by omega),HF h0 hq];simp only[EJ,h0,decide_true,Bool.true_and,hq,Option.any_some];unfold ile
    cases h2:decide (a.1≤q.1) with
    |true=>simp
    |false =>
     rw[æ,Ë hi (by omega)];simp
 ·try dsimp only
  unfold jn;rw[Ù]
 ·unfold jz
  cases ģ (oL b.2.1) 0 b.2.1<;>rfl
def acf (l:List é):List (Int×é):=l.foldl (fun m g=>N1 (k:=tI) (v:=Ï) g.1 g m) []
def Ť (b:Þ):List (Int×é):=acf b.2.1
def Wc {b:Þ} (hn:b.2.1.length≤1000):η b=some (Ť b):=by
 unfold η En;refine ë b.2.1 (fun i=>acf (b.2.1.take i)) _ rfl (fun i a hi ha kn=>?_) (fun kn=>?_)
 ·try dsimp only
  unfold nv;rw[Ð hi,Ç ha,Ë hi (by omega),take_succ ha];simp only[acf,List.foldl_append,List.foldl_cons,List.foldl_nil]
 ·try dsimp only
  unfold nv;rw[Ù,List.take_length];rfl
def ac5 (x y:Int) (g:é):∀m:List (Int×é),tV (k:=tI) (v:=Ï) x (N1 (k:=tI) (v:=Ï) y g m)=if x=y then some g else tV (k:=tI) (v:=Ï) x m
 |[]=>by
  unfold N1 tV kZ tV
  by_cases h:x=y<;>simp[h]
 |e::m=>by
  unfold N1
  by_cases h:y=e.1
  ·have:kZ tI y e.1=true:=by simp[kZ,h]
   rw[this]
   try dsimp only
   unfold tV kZ
   by_cases h2:x=y
   ·simp[h2]
   ·have:¬x=e.1:=fun h3=>h2 (h3.trans h.symm);simp[h2,this]
  ·have:kZ tI y e.1=false:=by simp[kZ,h]
   rw[this]
   try dsimp only
   have ih:=ac5 x y g m;unfold tV
   by_cases h2:x=e.1
   ·have:kZ tI x e.1=true:=by simp[kZ,h2]
    rw[this];have:¬x=y:=fun h3=>h (h3.symm.trans h2);simp[this]
   ·have:kZ tI x e.1=false:=by simp[kZ,h2]
    rw[this];exact ih
def ł (b:Þ) (id:Int):Option é:=b.2.1.find? fun g=>g.1==id
def agD (x:Int) (l:List é):tV (k:=tI) (v:=Ï) x (acf l)=l.reverse.find? fun g=>g.1==x:=by
 unfold acf;rw[←List.foldr_reverse]
 induction l.reverse with
 |nil=>rfl
 |cons g t ih =>
  rw[List.foldr_cons,ac5,ih,gH]
  by_cases h:x=g.1
  ·simp[h]
  ·have:(g.1==x)=false:=by simp; exact fun h2=>h h2.symm
   simp[h,this]
def afo {l:List é} (h:l.Pairwise fun a b=>a.1<b.1) (x:Int):l.reverse.find? (fun g=>g.1==x)=l.find? fun g=>g.1==x:=by
 induction l with
 |nil=>rfl
 |cons g t ih =>
  rw[dS] at h;rw[List.reverse_cons,List.find?_append,ih h.2,gH]
  by_cases hx:g.1=x
  ·have:t.find? (fun g=>g.1==x)=none:=ew.2 fun y hy=>by have:g.1<y.1:=h.1 y hy; simp; omega
   rw[this]; simp[hx]
  ·have:(g.1==x)=false:=by simp[hx]
   simp[this]
def hZ {b:Þ} (h:b.2.1.Pairwise fun a b=>a.1<b.1) (x:Int):tV (k:=tI) (v:=Ï) x (Ť b)=ł b x:=by
 unfold Ť ł;rw[agD,afo h]
def jt (s:List (Int×é)) (id day:Int):Int :=
 match tV (k:=tI) (v:=Ï) id s with
 |some g=>if day<g.2.1 then 4 else 0
 |none=>5
def agF (s:List (Int×é)) (id day:Int):je s id day=some (jt s id day):=by
 unfold je tg jt
 cases h:tV (k:=tI) (v:=Ï) id s with
 |none=>simp only[abR,h]
 |some g =>
  simp only[abR,h];rw[Č]
  by_cases h2:day<g.2.1<;>simp[h2]
def af8 (s:List (Int×é)) (id day:Int):Int:=if !Il day then 1 else jt s id day
def acv (s:List (Int×é)) (id day:Int):ĺ id day s=some (af8 s id day):=by
 unfold ĺ Ep af8;rw[aa3,À,agF,À]
 cases Il day<;>rfl
def HA (b:Þ) (s:List (Int×é)) (i:Nat) (l:IG):Int :=
 if !j6 l.2.1 0 20000 then 1 else if !inP l.2.2 0 1048576 then 1 else if jt s l.1 l.2.1.1 != 0 then jt s l.1 l.2.1.1 else
 if (b.2.2.2.1.take i).any (fun x=>x.1==l.1&&(decide (x.2.1.1≤l.2.1.2)&&decide (l.2.1.1≤x.2.1.2))) then 9 else
 if b.2.2.1.any (fun u=>u.1==l.1&&inP u.2 l.2.1.1 l.2.1.2) then 9 else 0
def afB {b:Þ} (hn:b.2.2.2.1.length≤1000) (hu:b.2.2.1.length≤1000) (s:List (Int×é)) {i:Nat} {l:IG} (hl:b.2.2.2.1[i]?=some l):Λ b s i=some (HA b s i l):=by
 unfold Λ wx HA;have hi:i<b.2.2.2.1.length:=(List.getElem?_eq_some_iff.1 hl).1;rw[Ç hl,HD,À,ω,À,agF,À]
 cases j6 l.2.1 0 20000 with
 |false=>rfl
 |true =>
 cases inP l.2.2 0 1048576 with
 |false=>rfl
 |true =>
 cases hm:(jt s l.1 l.2.1.1 != 0) with
 |true =>
  have:ine (jt s l.1 l.2.1.1) 0=true:=hm;simp[this]
 |false =>
 have hm':ine (jt s l.1 l.2.1.1) 0=false:=hm
 have hg:((ile (0:Int) (i:Int))&&(ile (i:Int) (ā b.2.2.2.1)))=true:=by simp[ile,ā]; omega
 simp only[eJ,æ,hm',dv,if_false];rw[ğ hg,dt]
 have inner:∀(k:Int→Option Int),Í (fun(v:Int) kk=>Δ b.2.2.1 (Ö b.2.2.1) l.1 l.2.1.1 l.2.1.2 v (fun u=>kk u) (fun z=>ifb (ige z 0) (k 9) (k 0)) (fun _=>k 0)) (0:Int)=if b.2.2.1.any (fun u=>u.1==l.1&&inP u.2 l.2.1.1 l.2.1.2) then k 9 else k 0:=by
  intro k;refine Ģ b.2.2.1 _ (fun z=>ifb (ige z 0) (k 9) (k 0)) (k 9) (k 0) (fun j=>?_) (fun j a hj ha kn=>?_) (fun kn=>?_)
  ·have:ige (j:Int) 0=true:=by simp[ige]
   rw[Ñ this]
  ·try dsimp only
   unfold Δ;rw[Ð hj,Ç ha,ω,À,Ë hj (by omega)]
   cases h1:(a.1==l.1) with
   |false =>
    have:ieq a.1 l.1=false:=h1;simp[this]
   |true =>
    have:ieq a.1 l.1=true:=h1;rw[this]
    cases inP a.2 l.2.1.1 l.2.1.2<;>simp
  ·try dsimp only
   unfold Δ;rw[Ù]
 rw[inner];refine eP (Ģ (b.2.2.2.1.take i) (fun x=>x.1==l.1&&(decide (x.2.1.1≤l.2.1.2)&&decide (l.2.1.1≤x.2.1.2))) (fun z=>ifb (ige z 0) (some 9) (if b.2.2.1.any (fun u=>u.1==l.1&&inP u.2 l.2.1.1 l.2.1.2) then some 9 else some 0)) (some 9) (if b.2.2.1.any (fun u=>u.1==l.1&&inP u.2 l.2.1.1 l.2.1.2) then some 9 else some 0) (fun j=>?_) (fun j a hj ha kn=>?_) (fun kn=>?_)) ?_
 ·have:ige (j:Int) 0=true:=by simp[ige]
  rw[Ñ this]
 ·try dsimp only
  unfold kG
  have hj':j≤1000:=by rw[dm] at hj; omega
  rw[Ð hj,Ç ha,Ë hj (by rw[dm]; omega)]
  cases h1:(a.1==l.1) with
  |false =>
   have:ieq a.1 l.1=false:=h1;simp[this]
  |true =>
   have:ieq a.1 l.1=true:=h1;rw[this]
   cases h2:decide (a.2.1.1≤l.2.1.2)<;>cases h3:decide (l.2.1.1≤a.2.1.2)<;>simp[ile,h2,h3,Č]<;>simp_all
 ·try dsimp only
  unfold kG;rw[Ù]
 ·cases List.any (b.2.2.2.1.take i) _<;>cases b.2.2.1.any _<;>rfl
def ao3 {l:List Int} (hn:l.length≤1000000) (x:Int):jR l x=some (match l.findIdx? (·==x) with|some j=>(j:Int)|none=>-1):=by
 unfold jR mM;refine Eq.trans (ś l (·==x) some (some (-1)) (fun i a hi ha kn=>?_) (fun kn=>?_)) ?_
 ·try dsimp only
  unfold χ;rw[Ð hi,Ç ha,Ë hi (by omega),Č]
  by_cases h:x=a
  ·subst h; simp[ieq]
  ·have h2:¬a=x:=fun e=>h e.symm;simp[ieq,h,h2]
 ·try dsimp only
  unfold χ;rw[Ù]
 ·cases l.findIdx? (·==x)<;>rfl
def om {l:List Int} (hn:l.length≤1000000) (x:Int):Ĥ l x=some (l.contains x):=by
 unfold Ĥ j4;rw[ao3 hn,À];congr 1
 cases h:l.findIdx? (·==x) with
 |none =>
  have:l.contains x=false:=by
   rw[ee];intro hc;have:=dT.1 h x (by simpa using hc);simp at this
  rw[this]; rfl
 |some j =>
  obtain⟨hj,hp,_⟩:=dL.1 h
  have:l.contains x=true:=by
   have h2:l[j]=x:=by simpa using hp
   rw[←h2]; simp
  rw[this];simp[ige]
def ç (a b:List Int):List Int:=a.filter fun x=>!b.contains x
def tm {a b:List Int} (ha:a.length≤1000000) (hb:b.length≤1000000):Š a b=some (ç a b):=by
 unfold Š aaE;rw[Ó (by omega),Am.iff_true]
 have second:∀z:Nat,z<a.length→ç (a.take z) b=a.take z→b.contains (a[z]?.getD 0)=true →
  Í (fun(v13:(Val (.pair tI (.pair tI (.slice tI))))) kk17=>kX b v13.1 v13.2.1 v13.2.2 (fun u14 u15 u16=>kk17 (u14,u15,u16)) (fun z12=>è ((ile (0:Int) z12.1)&&(ile z12.1 (ā z12.2))) (è ((ile (0:Int) z12.1)&&(ile z12.1 (ā (List.take (Int.toNat z12.1) z12.2++List.replicate (List.length z12.2-(Int.toNat z12.1)) (0:Int)++List.drop ((Int.toNat z12.1)+(List.length z12.2-(Int.toNat z12.1))) z12.2)))) (some (List.take (Int.toNat z12.1) (List.drop 0 (List.take (Int.toNat z12.1) z12.2++List.replicate (List.length z12.2-(Int.toNat z12.1)) (0:Int)++List.drop ((Int.toNat z12.1)+(List.length z12.2-(Int.toNat z12.1))) z12.2))))))) ((z:Int),((z:Int)+1),a)=some (ç a b):=by
  intro z hz hp hc
  refine ġ (fun x:Int×Int×List Int=>∃i j:Nat,x.1=i∧x.2.1=j∧i<j∧j≤a.length∧x.2.2.length=a.length∧x.2.2.take i=ç (a.take j) b∧x.2.2.drop j=a.drop j) (fun x=>a.length-x.2.1.toNat) ?_
   ⟨z,z+1,rfl,by simp,by omega,by omega,rfl,?_,rfl⟩
  ·rintro⟨x1,x2,s⟩ ⟨i,j,h1,h2,hij,hja,hl,ht,hd⟩;simp only at h1 h2 hl ht hd;subst h1 h2;rcases dA j a.length with hj|hj
   ·refine .inr ?_
    have hsj:s[j]?=some a[j]:=by
     have h3:(s.drop j)[0]?=(a.drop j)[0]?:=by rw[hd]
     rw[fg,fg] at h3;simpa[cX hj] using h3
    have hjs:j<s.length:=by omega
    have hta:ç (a.take (j+1)) b=ç (a.take j) b++if b.contains a[j] then[] else[a[j]]:=by
     rw[take_succ (cX hj),ç,ç,gJ];congr 1
     cases h:b.contains a[j] with
     |true=>simp only[ej,h,eJ,dv,if_false,eA,if_true]
     |false=>simp only[ej,h,Bool.not_false,dv,if_false,eA,if_true]
    cases h:b.contains a[j] with
    |true =>
     refine⟨(i,(j:Int)+1,s),⟨i,j+1,rfl,by simp,by omega,by omega,hl,?_,?_⟩,by simp; omega,fun kn=>?_⟩
     ·rw[hta,h]; simpa using ht
     ·have:=congrArg (List.drop 1) hd;simpa[gx,Nat.add_comm] using this
     ·try dsimp only
      unfold kX;rw[Ð hjs,iq hjs,ħ hsj,om hb,À,h];simp only[Bool.not_true,æ];rw[Ë hjs (by omega)]
    |false =>
     have his:i<s.length:=by omega
     refine⟨((i:Int)+1,(j:Int)+1,s.set i a[j]),⟨i+1,j+1,by simp,by simp,by omega,by omega,by simpa using hl,?_,?_⟩,by simp; omega,fun kn=>?_⟩
     ·show List.take (i+1) (s.set i a[j])=_;rw[hta,h,List.take_succ,f0,List.take_set_of_le (cY i),ht];simp[his]
     ·show List.drop (j+1) (s.set i a[j])=_;rw[List.drop_set_of_lt (by omega)];have:=congrArg (List.drop 1) hd;simpa[gx,Nat.add_comm] using this
     ·try dsimp only
      unfold kX;rw[Ð hjs,iq hjs,ħ hsj,om hb,À,h];simp only[Bool.not_false,ė];rw[iq his,ħ (List.getElem?_eq_getElem his),Ë his (by omega),Ë hjs (by omega),Int.toNat_natCast]
   ·refine .inl fun kn=>?_
    have hje:j=s.length:=by omega
    try dsimp only
    unfold kX;rw[hje,Ù];dsimp only
    have g1:((ile (0:Int) (i:Int))&&(ile (i:Int) (ā s)))=true:=by simp[ile,ā]; omega
    rw[ğ g1]
    have g2:((ile (0:Int) (i:Int))&&(ile (i:Int) (ā (List.take (Int.toNat (i:Int)) s++List.replicate (List.length s-(Int.toNat (i:Int))) (0:Int)++List.drop ((Int.toNat (i:Int))+(List.length s-(Int.toNat (i:Int)))) s))))=true:=by
     simp[ile,ā]; omega
    rw[ğ g2,dt,List.drop_zero,dz,List.take_append_of_le_length (by simp; omega),List.take_take,Nat.min_self,ht];rw[er (by omega)]
  ·show List.take z a=ç (a.take (z+1)) b;have hz':a[z]?=some a[z]:=cX hz;rw[take_succ hz',ç,gJ];rw[hz'] at hc;simp only[fD] at hc
   have:List.filter (fun x=>!b.contains x) [a[z]]=[]:=by simp only[ej,hc,eJ,dv,if_false,eA]
   rw[this,dU];exact hp.symm
 refine eP (ś a (fun x=>b.contains x) (fun z4=>ifb (ieq z4 (-1:Int)) (some a) (ck (z4+(1:Int)) fun n5=>Í (fun(v13:(Val (.pair tI (.pair tI (.slice tI))))) kk17=>kX b v13.1 v13.2.1 v13.2.2 (fun u14 u15 u16=>kk17 (u14,u15,u16)) (fun z12=>è ((ile (0:Int) z12.1)&&(ile z12.1 (ā z12.2))) (è ((ile (0:Int) z12.1)&&(ile z12.1 (ā (List.take (Int.toNat z12.1) z12.2++List.replicate (List.length z12.2-(Int.toNat z12.1)) (0:Int)++List.drop ((Int.toNat z12.1)+(List.length z12.2-(Int.toNat z12.1))) z12.2)))) (some (List.take (Int.toNat z12.1) (List.drop 0 (List.take (Int.toNat z12.1) z12.2++List.replicate (List.length z12.2-(Int.toNat z12.1)) (0:Int)++List.drop ((Int.toNat z12.1)+(List.length z12.2-(Int.toNat z12.1))) z12.2))))))) (z4,n5,a))) (some a) (fun i x hi hx kn=>?_) (fun kn=>?_)) ?_
 ·try dsimp only
  unfold wt;rw[Ð hi,iq hi,ħ hx,om hb,À,Ë hi (by omega),Č]
 ·try dsimp only
  unfold wt;rw[Ù]
 ·cases h:a.findIdx? (fun x=>b.contains x) with
  |none =>
   have:ç a b=a:=by
    rw[ç,List.filter_eq_self];intro x hx;have:=dT.1 h x hx;simpa using this
   rw[this]
  |some z =>
   obtain⟨hz,hc,hlt⟩:=dL.1 h
   have h1:ieq (z:Int) (-1)=false:=by simp[ieq]
   try dsimp only
   rw[Î h1,Ë hz (by omega)];refine second z hz ?_ ?_
   ·rw[ç,List.filter_eq_self];intro x hx;obtain⟨j,hj,rfl⟩:=dl.1 hx;rw[dm] at hj;rw[fm];have:=hlt j (by omega);simpa using this
   ·rw[cX hz]; exact hc
def xL (l:List Int) (i:Nat) (a:Int):Option Bool:=if !inP a 1 1099511627776 then some false else if EJ (fun x=>x) l i a then some false else none
def mq (l:List Int):Bool:=match ģ (xL l) 0 l with|some _=>false|none=>decide (l.length≤6)
def HC {l:List Int} (hn:l.length≤1000000):nf l=some (mq l):=by
 unfold nf Kw;refine Eq.trans (ij l (xL l) some (some (decide (l.length≤6))) (fun i a hi ha kn=>?_) (fun kn=>?_)) ?_
 ·try dsimp only
  unfold pd;rw[Ð hi,Ç ha,ω,À];unfold xL
  cases inP a 1 1099511627776 with
  |false=>rfl
  |true =>
   simp only[eJ,æ,dv,if_false];rcases fE i with h0|h0
   ·subst h0
    have:igt ((0:Nat):Int) 0=false:=by simp[igt]
    rw[Î this,Ë hi (by omega)];simp[EJ]
   ·obtain⟨q,hq⟩:=EY hi h0
    have h1:igt (i:Int) 0=true:=by simp[igt]; omega
    rw[Ñ h1,SV h0 (by omega),HF h0 hq];simp only[EJ,h0,decide_true,Bool.true_and,hq,Option.any_some];unfold ile
    cases h2:decide (a≤q) with
    |true=>rfl
    |false =>
     rw[æ,Ë hi (by omega)];rfl
 ·try dsimp only
  unfold pd;rw[Ù,Ü];simp[ile];omega
 ·have hb:∀x,ģ (xL l) 0 l=some x→x=false:=by
   have:∀(m:List Int) (j:Nat) (x:Bool),ģ (xL l) j m=some x→x=false:=by
    intro m
    induction m with
    |nil=>intro j x h; cases h
    |cons a m ih =>
     intro j x h;unfold ģ at h
     cases hp:xL l j a with
     |none=>rw[hp] at h; exact ih _ _ h
     |some y =>
      rw[hp] at h;cases h;unfold xL at hp
      split at hp
      ·cases hp; rfl
      ·split at hp
       ·cases hp; rfl
       ·cases hp
   exact this l 0
  unfold mq
  cases h:ģ (xL l) 0 l with
  |none=>rfl
  |some x=>rw[hb x h]
def EZ (l:List Int):mq l=true↔(∀x∈l,1≤x∧x≤1099511627776)∧l.Pairwise (·<·)∧l.length≤6:=by
 have h0:ģ (xL l) 0 l=none↔(∀x∈l,1≤x∧x≤1099511627776)∧l.Pairwise (·<·):=by
  rw[iP,←abB (fun x=>x) l];constructor
  ·intro h
   have h1:∀(j:Nat) (a:Int),l[j]?=some a→inP a 1 1099511627776=true∧EJ (fun x=>x) l j a=false:=by
    intro j a ha;have:=h j a ha;rw[Nat.zero_add] at this;unfold xL at this
    split at this
    ·cases this
    ·split at this
     ·cases this
     ·rename_i h1 h2;exact⟨by simpa using h1,by simpa using h2⟩
   refine⟨fun x hx=>?_,fun i a ha=>(h1 i a ha).2⟩;obtain⟨j,hj,rfl⟩:=dl.1 hx;have:=(h1 j l[j] (cX hj)).1;simpa[inP] using this
  ·rintro⟨h1,h2⟩ j a ha;rw[du];have h3:=h1 a (dg ha)
   have:inP a 1 1099511627776=true:=by simpa[inP] using h3
   simp[xL,this,h2 j a ha]
 unfold mq
 cases h:ģ (xL l) 0 l with
 |none =>
  obtain⟨h1,h2⟩:=h0.1 h;simp only[decide_eq_true_eq];exact⟨fun h3=>⟨h1,h2,h3⟩,fun h3=>h3.2.2⟩
 |some x =>
  constructor
  ·intro h2; cases h2
  ·rintro⟨h1,h2,h3⟩;rw[h0.2 ⟨h1,h2⟩] at h; cases h
def ao5 {a b:List Int} (ha:a.length≤1000000) (hb:b.length≤1000000):í [a,b]=some (a++b):=by
 have hk:∀n:Nat,n≤4000000→∀(f:Int→Option (List Int)),ck (n:Int) f=f n:=fun n h f=>Ò (by omega) (by omega) f
 have second:Í (fun(v9:(Val (.pair tI (.slice tI)))) kk12=>ð [a,b] (Ö [a,b]) v9.1 v9.2 (fun u10 u11=>kk12 (u10,u11)) (fun z8=>some z8)) ((0:Int),([]:List Int))=some (a++b):=by
  refine ë [a,b] (fun i=>([a,b].take i).flatten) (some (a++b)) (f:=fun(v9:(Val (.pair tI (.slice tI)))) kk12=>ð [a,b] (Ö [a,b]) v9.1 v9.2 (fun u10 u11=>kk12 (u10,u11)) (fun z8=>some z8)) rfl (fun i x hi hx kn=>?_) (fun kn=>?_)
  ·try dsimp only
   unfold ð;rw[Ð hi,Ç hx,Ë hi (by simp),take_succ hx,List.flatten_append]
   have:ã ((List.take i [a,b]).flatten.length+x.length)=true:=by
    refine Ó ?_
    have h1:x.length≤1000000:=by
     have:=dg hx;simp at this
     rcases this with rfl|rfl<;>assumption
    have h2:(List.take i [a,b]).flatten.length≤2000000:=by
     have:i=0∨i=1:=by simp at hi; omega
     rcases this with rfl|rfl<;>simp<;>omega
    omega
   rw[ğ this];simp
  ·try dsimp only
   unfold ð;rw[Ù];simp
 unfold í jl;refine ġ (fun x:Int×Int=>∃i:Nat,i≤2∧x=((([a,b].take i).flatten.length:Int),(i:Int))) (fun x=>2-x.2.toNat) ?_ ⟨0,by omega,rfl⟩;rintro x ⟨i,hi,rfl⟩;rcases Nat.lt_or_ge i 2 with h2|h2
 ·refine .inr ⟨((([a,b].take (i+1)).flatten.length:Int),(i:Int)+1),⟨i+1,h2,by simp⟩,by simp; omega,fun kn=>?_⟩;have hi':i<[a,b].length:=h2;obtain⟨x,hx⟩:∃x,[a,b][i]?=some x:=⟨_,cX hi'⟩
  have hxl:x.length≤1000000:=by
   have:=dg hx;simp at this
   rcases this with rfl|rfl<;>assumption
  have h3:(List.take i [a,b]).flatten.length≤2000000:=by
   have:i=0∨i=1:=by omega
   rcases this with rfl|rfl<;>simp<;>omega
  try dsimp only
  unfold ĵ;rw[Ð hi',Ç hx,Ü]
  have e1:(((List.take i [a,b]).flatten.length:Int)+(x.length:Int))=((List.take i [a,b]).flatten.length+x.length:Nat):=by omega
  rw[e1,hk _ (by omega)]
  have:ilt ((((List.take i [a,b]).flatten.length+x.length:Nat)):Int) 0=false:=by simp[ilt]; omega
  rw[Î this,Ë hi' (by simp),take_succ hx];simp
 ·refine .inl fun kn=>?_
  obtain rfl:i=2:=by omega
  try dsimp only
  unfold ĵ;rw[show((2:Nat):Int)=(([a,b].length:Nat):Int) from rfl,Ù]
  have e1:((List.take 2 [a,b]).flatten.length:Int)=((a.length+b.length:Nat):Int):=by simp
  have e2:ilt (((a.length+b.length:Nat)):Int) 0=false:=by simp[ilt]; omega
  rw[e1];dsimp only;rw[Î e2,Int.sub_zero,hk _ (by omega)];rcases Nat.eq_zero_or_pos (a.length+b.length) with h0|h0
  ·have:igt (((a.length+b.length:Nat)):Int) 0=false:=by simp[igt]; omega
   rw[Î this];exact second
  ·have:igt (((a.length+b.length:Nat)):Int) 0=true:=by simp[igt]; omega
   rw[Ñ this]
   have:((ilt (0:Int) (((a.length+b.length:Nat)):Int))&&(ã (Int.toNat (((a.length+b.length:Nat)):Int))))=true:=by
    rw[dt,Ó (by omega)];simp[ilt]; omega
   rw[ğ this]
   have:ile 0 (ā (List.replicate (Int.toNat (((a.length+b.length:Nat)):Int)) (0:Int)))=true:=by simp[ile]
   rw[ğ this];exact second
def j5 (b:Þ) (id day:Int):Option IG:=b.2.2.2.1.find? fun l=>l.1==id&&inP day l.2.1.1 l.2.1.2
def Oa {α:Type} (p:α→Bool):∀l:List α,l.find? p=(match l.findIdx? p with|some j=>l[j]?|none=>none)
 |[]=>rfl
 |a::l=>by
  rw[gH,List.findIdx?_cons]
  cases h:p a with
  |true=>simp
  |false =>
   simp only[dv,if_false];rw[Oa p l]
   cases l.findIdx? p<;>simp
def asJ {b:Þ} (hn:b.2.2.2.1.length≤1000) (id day:Int):Bm b id day=some (match j5 b id day with|some l=>(l,true)|none=>((0,(0,0),0),false)):=by
 unfold Bm aaN;refine Eq.trans (ś b.2.2.2.1 (fun l=>l.1==id&&inP day l.2.1.1 l.2.1.2) (fun z5=>ifb (ilt z5 (0:Int)) (some (((0:Int),((0:Int),(0:Int)),(0:Int)),false)) (ï b.2.2.2.1 z5 fun e6=>some (e6,true))) (some ((0,(0,0),0),false)) (fun i a hi ha kn=>?_) (fun kn=>?_)) ?_
 ·try dsimp only
  unfold wy;rw[Ð hi,Ç ha,ω,À,Ë hi (by omega)]
  cases h1:(a.1==id) with
  |false =>
   have:ieq a.1 id=false:=h1;simp[this]
  |true =>
   have:ieq a.1 id=true:=h1;rw[this]
   cases inP day a.2.1.1 a.2.1.2<;>simp
 ·try dsimp only
  unfold wy;rw[Ù]
 ·unfold j5;rw[Oa]
  cases h:b.2.2.2.1.findIdx? (fun l=>l.1==id&&inP day l.2.1.1 l.2.1.2) with
  |none=>rfl
  |some j =>
   obtain⟨hj,_,_⟩:=dL.1 h
   have:ilt (j:Int) 0=false:=by simp[ilt]
   try dsimp only
   rw[Î this,Ç (cX hj),cX hj]
def asi (a:Int):List Int→List Int
 |[]=>[a]
 |b::t=>if a≤b then a::b::t else b::asi a t
def Xd:List Int→List Int
 |[]=>[]
 |a::t=>asi a (Xd t)
def xW (p:Option Int):List Int→List Int
 |[]=>[]
 |a::t=>if p=some a then xW (some a) t else a::xW (some a) t
def XW (l:List Int):List Int:=xW none (Xd l)
def Sh (a:Int):∀l,(asi a l).Perm (a::l)
 |[]=>List.Perm.refl _
 |b::t=>by
  unfold asi
  split
  ·exact List.Perm.refl _
  ·exact((Sh a t).cons b).trans (List.Perm.swap a b t)
def wD:∀l,(Xd l).Perm l
 |[]=>List.Perm.refl _
 |a::t=>(Sh a _).trans ((wD t).cons a)
def Sg (a:Int):∀{l:List Int},l.Pairwise (·≤·)→(asi a l).Pairwise (·≤·)
 |[],_=>by simp[asi]
 |b::t,h=>by
  rw[List.pairwise_cons] at h;unfold asi
  split
  ·rename_i hab;refine dS.2 ⟨fun x hx=>?_,dS.2 h⟩;rcases di.1 hx with rfl|hx
   ·exact hab
   ·have:=h.1 x hx; omega
  ·rename_i hab;refine dS.2 ⟨fun x hx=>?_,Sg a h.2⟩;rcases di.1 ((Sh a t).mem_iff.1 hx) with rfl|hx
   ·omega
   ·exact h.1 x hx
def wC:∀l:List Int,(Xd l).Pairwise (·≤·)
 |[]=>List.Pairwise.nil
 |a::t=>Sg a (wC t)
def apA (l:List Int):EO l=Xd l:=by
 have h1:(EO l).Pairwise (·≤·):=by
  have:=List.pairwise_mergeSort (le:=fun a b:Int=>decide (a≤b)) (fun a b c h1 h2=>by simp at *; omega) (fun a b=>by simp; omega) l
  exact this.imp fun h=>by simpa using h
 exact List.Perm.eq_of_pairwise (le:=(·≤·)) (fun a b _ _ h1 h2=>by omega) h1 (wC l) ((List.mergeSort_perm l _).trans (wD l).symm)
def V5 (a:Int):∀(l:List Int) (p:Option Int),xW p (l++[a])=xW p l++(if (match l.getLast? with|some b=>some b|none=>p)=some a then[] else[a])
 |[],p=>by simp only[fM,xW,List.getLast?_nil]; rfl
 |b::t,p=>by
  have ih:=V5 a t (some b)
  have e:(match (b::t).getLast? with|some c=>some c|none=>p)=(match t.getLast? with|some c=>some c|none=>some b):=by
   cases t with
   |nil=>rfl
   |cons c t =>
    rw[List.getLast?_cons_cons]
    cases h:(c::t).getLast? with
    |none=>simp at h
    |some x=>rfl
  rw[e];simp only[ff,xW,ih]
  split<;>simp
def Df (l:List Int):∀m,m≤l.length→Lib.compactUpTo l.toArray m=xW none (l.take m)
 |0,_=>by simp[Lib.compactUpTo,xW]
 |m+1,h=>by
  have hm:m<l.length:=h;rw[Lib.compactUpTo_succ,Df l m (by omega),take_succ (cX hm),V5];congr 1
  have e1:l.toArray[m]! = l[m]:=by simp[getElem!_pos,hm]
  rw[e1];unfold Lib.keeps;rw[e1]
  cases m with
  |zero=>simp
  |succ m =>
   have hm':m<l.length:=by omega
   have e2:l.toArray[m+1-1]! = l[m]:=by simp[getElem!_pos,hm']
   rw[e2]
   have e3:(l.take (m+1)).getLast?=some l[m]:=by rw[take_succ (cX hm'),List.getLast?_append]; rfl
   rw[e3]
   by_cases hne:l[m+1]=l[m]
   ·simp[hne]
   ·have:¬l[m]=l[m+1]:=fun h=>hne h.symm;simp[hne,this]
def ahP (l:List Int):Br l=xW none l:=by
 unfold Br Lib.compact;rw[Df l l.length (Nat.le_refl _),List.take_length]
def al8 (l:List Int):Br (EO l)=XW l:=by rw[apA,ahP]; rfl
def ab1:∀{l:List Int} {p:Option Int} {x:Int},p≠some x→(x∈xW p l↔x∈l)
 |[],_,_,_=>Iff.rfl
 |a::t,p,x,hp=>by
  unfold xW
  by_cases hx:x=a
  ·subst hx;rw[if_neg hp]; simp
  ·have ih:=ab1 (l:=t) (p:=some a) (x:=x) (fun e=>hx (by cases e; rfl))
   split<;>simp[ih,hx]
def air:∀{l:List Int} {p:Option Int},l.Pairwise (·≤·)→(∀q,p=some q→∀x∈l,q≤x)→(xW p l).Pairwise (·<·)∧∀q,p=some q→∀x∈xW p l,q<x
 |[],p,_,_=>⟨List.Pairwise.nil,fun _ _ _ h=>by cases h⟩
 |a::t,p,h,hp=>by
  rw[List.pairwise_cons] at h;obtain⟨i1,i2⟩:=air (l:=t) (p:=some a) h.2 (fun q hq x hx=>by cases hq; exact h.1 x hx);unfold xW
  split
  ·rename_i e;exact⟨i1,fun q hq x hx=>by rw[e] at hq; cases hq; exact i2 _ rfl x hx⟩
  ·rename_i e;refine⟨dS.2 ⟨fun x hx=>i2 _ rfl x hx,i1⟩,fun q hq x hx=>?_⟩;have:=hp q hq a (by simp);have hne:q≠a:=fun h=>e (by rw[hq,h]);rcases di.1 hx with rfl|hx
   ·omega
   ·have:=i2 _ rfl x hx; omega
def qW {l:List Int} {x:Int}:x∈XW l↔x∈l:=by
 unfold XW;rw[ab1 (by simp),(wD l).mem_iff]
def vl (l:List Int):(XW l).Pairwise (·<·):=(air (wC l) (fun q hq=>by cases hq)).1
def ab2:∀(l:List Int) (p:Option Int),(xW p l).length≤l.length
 |[],_=>cY _
 |a::t,p=>by
  have:=ab2 t (some a);unfold xW
  split<;>simp<;>omega
def EQ (l:List Int):(XW l).length≤l.length:=by
 unfold XW;have:=ab2 (Xd l) none
 rwa [(wD l).length_eq] at this
def abC {l m:List Int} (hl:l.Pairwise (·<·)) (hm:m.Pairwise (·<·)) (h:∀x,x∈l↔x∈m):l=m:=by
 induction l generalizing m with
 |nil =>
  cases m with
  |nil=>rfl
  |cons a t=>have:=(h a).2 (by simp); cases this
 |cons a t ih =>
  rw[dS] at hl
  cases m with
  |nil=>have:=(h a).1 (by simp); cases this
  |cons b u =>
   rw[dS] at hm
   have hab:a=b:=by
    rcases di.1 ((h a).1 (by simp)) with h1|h1
    ·exact h1
    ·rcases di.1 ((h b).2 (by simp)) with h2|h2
     ·exact h2.symm
     ·have:=hm.1 a h1; have:=hl.1 b h2; omega
   subst hab;rw[ih hl.2 hm.2 fun x=>?_];constructor
   ·intro hx;rcases di.1 ((h x).1 (by simp[hx])) with h1|h1
    ·have:=hl.1 x hx; omega
    ·exact h1
   ·intro hx;rcases di.1 ((h x).2 (by simp[hx])) with h1|h1
    ·have:=hm.1 x hx; omega
    ·exact h1
def yf (b:Þ) (s:List (Int×é)) (c:Cmp):Int :=
 if (c.2.2.1++c.2.2.2.1).any (fun id=>jt s id c.2.1==5) then 5 else
 if (c.2.2.1++c.2.2.2.1).any (fun id=>jt s id c.2.1==4) then 4 else
 if (c.2.2.1++c.2.2.2.1).any (fun id=>(j5 b id c.2.1).isSome) then 9 else
 if 1<(ç c.2.2.1 c.2.2.2.1).length then 1 else if 1<(ç c.2.2.2.1 c.2.2.1).length then 1 else
 if (ç c.2.2.1 c.2.2.2.1).length+(ç c.2.2.2.1 c.2.2.1).length=0 then 1 else 0
def Mp (c:Cmp):Bool :=
 inP c.1 1 1099511627776&&(Il c.2.1&&(inP c.2.2.2.2.1 (-1125899906842624) 1125899906842624&&(inP c.2.2.2.2.2.1 0 1073741824&&(j6 c.2.2.2.2.2.2 (-10000) 10000&&(mq c.2.2.1&&mq c.2.2.2.1)))))
def mj (b:Þ) (s:List (Int×é)) (i:Nat) (c:Cmp):Int :=
 if !Mp c then 1 else if (b.2.2.2.2.1.take i).any (fun x=>x.1==c.1) then 6 else yf b s c
def Aa (a b:List Int):(ç a b).length≤a.length:=dR _ _
set_option maxHeartbeats 1000000 in
def SX {b:Þ} (hn:b.2.2.2.2.1.length≤1000) (hl:b.2.2.2.1.length≤1000) (s:List (Int×é)) {i:Nat} {c:Cmp} (hA:c.2.2.1.length≤1000) (hB:c.2.2.2.1.length≤1000)
 (hc:b.2.2.2.2.1[i]?=some c):Ľ b s i=some (mj b s i c):=by
 have hi:i<b.2.2.2.2.1.length:=(List.getElem?_eq_some_iff.1 hc).1;unfold Ľ oC mj Mp;rw[Ç hc,ω,À]
 cases inP c.1 1 1099511627776 with
 |false=>rfl
 |true =>
 rw[aa3,À]
 cases Il c.2.1 with
 |false=>rfl
 |true =>
 rw[ω,À]
 cases inP c.2.2.2.2.1 (-1125899906842624) 1125899906842624 with
 |false=>rfl
 |true =>
 rw[ω,À]
 cases inP c.2.2.2.2.2.1 0 1073741824 with
 |false=>rfl
 |true =>
 rw[HD,À]
 cases j6 c.2.2.2.2.2.2 (-10000) 10000 with
 |false=>rfl
 |true =>
 rw[HC (by omega),À]
 cases mq c.2.2.1 with
 |false=>rfl
 |true =>
 rw[HC (by omega),À]
 cases mq c.2.2.2.1 with
 |false=>rfl
 |true =>
 have hg:((ile (0:Int) (i:Int))&&(ile (i:Int) (ā b.2.2.2.2.1)))=true:=by simp[ile,ā]; omega
 simp only[eJ,æ,Bool.and_self,dv,if_false];rw[ğ hg,dt]
 -- what comes behind the IDs
 have rest:(Å (í ([c.2.2.1,c.2.2.2.1])) fun r12=>Í (fun(v36:Int) kk38=>ň s r12 (Ö ([(5:Int),(4:Int)])) c.2.1 ([(5:Int),(4:Int)]) v36 (fun u37=>kk38 u37) (fun z23=>some z23) (fun _=>Í (fun(v33:Int) kk35=>Ň r12 (Ö r12) b.1.1 b.1.2 b.2.1 b.2.2.1 b.2.2.2.1 b.2.2.2.2.1 b.2.2.2.2.2 c.2.1 v33 (fun u34=>kk35 u34) (fun z28=>some z28) (fun _=>Å (Š c.2.2.1 c.2.2.2.1) fun r30=>Å (Š c.2.2.2.1 c.2.2.1) fun r31=>ifb (igt (Ö r30) (1:Int)) (some (1:Int)) (ifb (igt (Ö r31) (1:Int)) (some (1:Int)) (ck ((Ö r30)+(Ö r31)) fun n32=>ifb (ieq n32 (0:Int)) (some (1:Int)) (some (0:Int)))))) (0:Int))) (0:Int))=some (yf b s c):=by
  rw[ao5 (by omega) (by omega),À]
  have hall:(c.2.2.1++c.2.2.2.1).length≤2000:=by simp; omega
  have last:(Å (Š c.2.2.1 c.2.2.2.1) fun r30=>Å (Š c.2.2.2.1 c.2.2.1) fun r31=>ifb (igt (Ö r30) (1:Int)) (some (1:Int)) (ifb (igt (Ö r31) (1:Int)) (some (1:Int)) (ck ((Ö r30)+(Ö r31)) fun n32=>ifb (ieq n32 (0:Int)) (some (1:Int)) (some (0:Int))))) =
   some (if 1<(ç c.2.2.1 c.2.2.2.1).length then 1 else if 1<(ç c.2.2.2.1 c.2.2.1).length then 1 else if (ç c.2.2.1 c.2.2.2.1).length+(ç c.2.2.2.1 c.2.2.1).length=0 then 1 else 0):=by
   rw[tm (by omega) (by omega),À,tm (by omega) (by omega),À];have l1:=Aa c.2.2.1 c.2.2.2.1;have l2:=Aa c.2.2.2.1 c.2.2.1;rw[Ü,Ü,Ò (by omega) (by omega)]
   by_cases c1:1<(ç c.2.2.1 c.2.2.2.1).length
   ·rw[Ñ (by simp[igt]; omega),if_pos c1]
   rw[Î (by simp[igt]; omega),if_neg c1]
   by_cases c2:1<(ç c.2.2.2.1 c.2.2.1).length
   ·rw[Ñ (by simp[igt]; omega),if_pos c2]
   rw[Î (by simp[igt]; omega),if_neg c2]
   by_cases c3:(ç c.2.2.1 c.2.2.2.1).length+(ç c.2.2.2.1 c.2.2.1).length=0
   ·rw[Ñ (by simp[ieq]; omega),if_pos c3]
   rw[Î (by simp[ieq]; omega),if_neg c3]
  refine eP (ij [(5:Int),4] (fun _ want=>if (c.2.2.1++c.2.2.2.1).any (fun id=>jt s id c.2.1==want) then some want else none) some (some (if (c.2.2.1++c.2.2.2.1).any (fun id=>(j5 b id c.2.1).isSome) then 9 else if 1<(ç c.2.2.1 c.2.2.2.1).length then 1 else if 1<(ç c.2.2.2.1 c.2.2.1).length then 1 else if (ç c.2.2.1 c.2.2.2.1).length+(ç c.2.2.2.1 c.2.2.1).length=0 then 1 else 0)) (fun j want hj hw kn=>?_) (fun kn=>?_)) ?_
  ·try dsimp only
   unfold ň;rw[Ð hj,iq hj,ħ hw];refine Eq.trans (Ģ (c.2.2.1++c.2.2.2.1) (fun id=>jt s id c.2.1==want) (fun _=>some want) (some want) (kn ((j:Int)+1)) (fun _=>rfl) (fun k a hk ha kn'=>?_) (fun kn'=>?_)) ?_
   ·try dsimp only
    unfold iL;rw[Ð hk,Ç ha,agF,À,Ë hk (by omega),Č]
   ·try dsimp only
    unfold iL;rw[Ù,Ë hj (by simp)]
   ·cases List.any (c.2.2.1++c.2.2.2.1) (fun id=>jt s id c.2.1==want)<;>rfl
  ·try dsimp only
   unfold ň;rw[Ù];refine Eq.trans (Ģ (c.2.2.1++c.2.2.2.1) (fun id=>(j5 b id c.2.1).isSome) (fun _=>some 9) (some 9) (some (if 1<(ç c.2.2.1 c.2.2.2.1).length then 1 else if 1<(ç c.2.2.2.1 c.2.2.1).length then 1 else if (ç c.2.2.1 c.2.2.2.1).length+(ç c.2.2.2.1 c.2.2.1).length=0 then 1 else 0)) (fun _=>rfl) (fun k a hk ha kn'=>?_) (fun kn'=>?_)) ?_
   ·try dsimp only
    unfold Ň;have haw:=asJ hl a c.2.1;rw[Ð hk,Ç ha,Ë hk (by omega)];rw[show Bm ((b.1.1,b.1.2),b.2.1,b.2.2.1,b.2.2.2.1,b.2.2.2.2.1,b.2.2.2.2.2) a c.2.1=Bm b a c.2.1 from rfl,haw,À]
    cases j5 b a c.2.1<;>rfl
   ·try dsimp only
    unfold Ň;rw[Ù,last]
   ·cases List.any (c.2.2.1++c.2.2.2.1) (fun id=>(j5 b id c.2.1).isSome)<;>rfl
  ·unfold yf ģ ģ ģ
   try dsimp only
   cases List.any (c.2.2.1++c.2.2.2.1) (fun id=>jt s id c.2.1==5) with
   |true=>rfl
   |false =>
   cases List.any (c.2.2.1++c.2.2.2.1) (fun id=>jt s id c.2.1==4)<;>rfl
 refine eP (Ģ (b.2.2.2.2.1.take i) (fun x=>x.1==c.1) (fun z11=>ifb (ige z11 (0:Int)) (some 6) (some (yf b s c))) (some 6) (some (yf b s c)) (fun j=>?_) (fun j a hj ha kn=>?_) (fun kn=>?_)) ?_
 ·have:ige (j:Int) 0=true:=by simp[ige]
  rw[Ñ this]
 ·try dsimp only
  unfold iM;rw[rest,Ð hj,Ç ha,Ë hj (by rw[List.length_take]; omega),Č]
 ·try dsimp only
  unfold iM;rw[Ù,rest]
 ·cases List.any (b.2.2.2.2.1.take i) (fun x=>x.1==c.1)<;>rfl
def ahK (b:Þ) (g:é):List Int :=
 [g.2.1]++(b.2.2.2.2.1.filter fun c=>!(c.2.2.1.contains g.1==c.2.2.2.1.contains g.1)).map (fun c=>c.2.1)++(b.2.2.2.2.2.filter fun n=>n.1==g.1).map (fun n=>n.2)
def ß (b:Þ) (g:é):List Int:=XW (ahK b g)
structure ľ (b:Þ):Prop where
 gauges:b.2.1.length≤1000
 uses:b.2.2.1.length≤1000
 loans:b.2.2.2.1.length≤1000
 compares:b.2.2.2.2.1.length≤1000
 looks:b.2.2.2.2.2.length≤1000
 piles:∀c∈b.2.2.2.2.1,c.2.2.1.length≤1000∧c.2.2.2.1.length≤1000
def acb (l:List Int):(EO l).length=l.length:=List.length_mergeSort l
def afv {b:Þ} (hs:ľ b) (g:é):(ahK b g).length≤2001:=by
 have h1:=hs.compares;have h2:=hs.looks;have h3:=dR (fun c:Cmp=>!(c.2.2.1.contains g.1==c.2.2.2.1.contains g.1)) b.2.2.2.2.1;have h4:=dR (fun n:Int×Int=>n.1==g.1) b.2.2.2.2.2;simp only[ahK,dc,dY,dK];omega
def anE {b:Þ} (hs:ľ b) (g:é):pl b g=some (ß b g):=by
 unfold pl aaM;have hr:=afv hs g
 have hd:(ß b g).length≤2001:=by
  unfold ß;have:=EQ (ahK b g);omega
 have hcl:=hs.compares;have hll:=hs.looks;refine ë b.2.2.2.2.1 (fun i=>[g.2.1]++((b.2.2.2.2.1.take i).filter fun c=>!(c.2.2.1.contains g.1==c.2.2.2.1.contains g.1)).map (fun c=>c.2.1)) _ rfl (fun i c hi hc kn=>?_) (fun kn=>?_)
 ·try dsimp only
  unfold ww;obtain⟨p1,p2⟩:=hs.piles c (List.mem_of_getElem? hc);rw[Ð hi,Ç hc,om (by omega),À,om (by omega),À,Ë hi (by omega),Ë hi (by omega),take_succ hc,List.filter_append,List.map_append]
  have hlen:([g.2.1]++((b.2.2.2.2.1.take i).filter fun c=>!(c.2.2.1.contains g.1==c.2.2.2.1.contains g.1)).map (fun c=>c.2.1)).length≤1001:=by
   have h3:=dR (fun c:Cmp=>!(c.2.2.1.contains g.1==c.2.2.2.1.contains g.1)) (b.2.2.2.2.1.take i);rw[dm] at h3;simp only[dc,dY,dK];omega
  rw[Ó (by simp only[dK]; omega),Am.iff_true]
  cases h:(c.2.2.1.contains g.1==c.2.2.2.1.contains g.1) with
  |true=>simp only[eJ,æ,ej,h,dv,if_false,eA,fA,dU]
  |false=>simp only[Bool.not_false,ė,ej,h,if_true,eA,eV,fA,dz]
 ·try dsimp only
  unfold ww;rw[Ù,List.take_length];refine ë b.2.2.2.2.2 (fun i=>[g.2.1]++(b.2.2.2.2.1.filter fun c=>!(c.2.2.1.contains g.1==c.2.2.2.1.contains g.1)).map (fun c=>c.2.1)++((b.2.2.2.2.2.take i).filter fun n=>n.1==g.1).map (fun n=>n.2)) _ (by simp) (fun i n hi hn kn=>?_) (fun kn=>?_)
  ·try dsimp only
   unfold wu;rw[Ð hi,Ç hn,Ë hi (by omega),Ë hi (by omega),take_succ hn,List.filter_append,List.map_append]
   have hlen:([g.2.1]++(b.2.2.2.2.1.filter fun c=>!(c.2.2.1.contains g.1==c.2.2.2.1.contains g.1)).map (fun c=>c.2.1)++((b.2.2.2.2.2.take i).filter fun n=>n.1==g.1).map (fun n=>n.2)).length≤2001:=by
    have h3:=dR (fun c:Cmp=>!(c.2.2.1.contains g.1==c.2.2.2.1.contains g.1)) b.2.2.2.2.1;have h4:=dR (fun n:Int×Int=>n.1==g.1) (b.2.2.2.2.2.take i);rw[dm] at h4;simp only[dc,dY,dK];omega
   rw[Ó (by simp only[dK]; omega),Am.iff_true]
   cases h:(n.1==g.1) with
   |true =>
    have:ieq n.1 g.1=true:=h;simp[h,this]
   |false =>
    have:ieq n.1 g.1=false:=h;simp[h,this]
  ·try dsimp only
   unfold wu;rw[Ù,List.take_length];rw[show([g.2.1]++(b.2.2.2.2.1.filter fun c=>!(c.2.2.1.contains g.1==c.2.2.2.1.contains g.1)).map (fun c=>c.2.1)++(b.2.2.2.2.2.filter fun n=>n.1==g.1).map (fun n=>n.2))=ahK b g from rfl];dsimp only;rw[Ó (by omega),Am.iff_true,Ó (by rw[acb]; omega),Am.iff_true,al8];rfl
def Ì (b:Þ):List (Int×Int):=b.2.1.flatMap fun g=>(ß b g).map fun d=>((g.1,d):Int×Int)
def Ik {b:Þ} (hs:ľ b) (g:é):(ß b g).length≤2001:=by
 unfold ß;have:=EQ (ahK b g);have:=afv hs g;omega
def wK {α β:Type} (f:α→List β) (n:Nat) (h:∀a,(f a).length≤n):∀l:List α,(l.flatMap f).length≤l.length*n
 |[]=>by simp
 |a::l=>by
  have:=wK f n h l;have:=h a;simp only[dM,dc,dj,dH,fu];omega
def Yn {b:Þ} (hs:ľ b):qL b=some (Ì b):=by
 unfold qL RG;have hg:=hs.gauges
 have hlen:∀l:List é,(l.flatMap fun g=>(ß b g).map fun d=>((g.1,d):Int×Int)).length≤l.length*2001:=fun l =>
  wK _ 2001 (fun g=>by rw[dY]; exact Ik hs g) l
 refine ë b.2.1 (fun i=>(b.2.1.take i).flatMap fun g=>(ß b g).map fun d=>((g.1,d):Int×Int)) _ rfl (fun i g hi hg' kn=>?_) (fun kn=>?_)
 ·try dsimp only
  unfold si;rw[Ð hi,Ç hg'];rw[show pl ((b.1.1,b.1.2),b.2.1,b.2.2.1,b.2.2.2.1,b.2.2.2.2.1,b.2.2.2.2.2) g=pl b g from rfl,anE hs,À];have hd:=Ik hs g;have hi2:=hlen (b.2.1.take i)
  have htl:(b.2.1.take i).length≤1000:=by rw[dm]; omega
  refine ë (ß b g) (fun j=>((b.2.1.take i).flatMap fun g=>(ß b g).map fun d=>((g.1,d):Int×Int))++((ß b g).take j).map fun d=>((g.1,d):Int×Int)) _ (by simp) (fun j d hj hd' kn'=>?_) (fun kn'=>?_)
  ·try dsimp only
   unfold sh;rw[Ð hj,Ç hd',Ë hj (by omega),take_succ hd',List.map_append];rw[Ó (by simp only[List.length_append,List.length_map,List.length_take,List.length_singleton]; omega),Am.iff_true];simp
  ·try dsimp only
   unfold sh;rw[Ù,List.take_length];dsimp only;rw[Ë hi (by omega),take_succ hg',List.flatMap_append];simp
 ·try dsimp only
  unfold si;rw[Ù,List.take_length];rfl
def yh (b:Þ) (s:List (Int×é)):List Int :=
 b.2.2.1.map (fun u=>af8 s u.1 u.2)++(b.2.2.2.1.mapIdx (fun i l=>HA b s i l)++(b.2.2.2.2.1.mapIdx (fun i c=>mj b s i c)++b.2.2.2.2.2.map (fun u=>af8 s u.1 u.2)))
def adb {α:Type} {f:Int→Option Int} {g:Nat→α→Int} (l:List α) (h:∀(i:Nat) (a:α),l[i]?=some a→f i=some (g i a)):Pe f (xV l.length)=some (l.mapIdx g):=by
 have h1:∀i,i<l.length→f (i:Int)=some ((l.mapIdx g)[i]?.getD 0):=by
  intro i hi;rw[h i l[i] (cX hi)];simp[hi]
 have h2:∀x∈xV l.length,f x=some ((l.mapIdx g)[x.toNat]?.getD 0):=by
  intro x hx;unfold xV at hx;obtain⟨i,hi,rfl⟩:=List.mem_map.1 hx;rw[h1 i (by simpa using hi)];rfl
 rw[Fz h2];congr 1;refine gU (by simp[xV]) fun i h3 h4=>?_
 have h5:i<l.length:=by simpa using h4
 simp[xV,h5]
def apN {b:Þ} (hs:ľ b) (s:List (Int×é)):oc b s=some (yh b s):=by
 unfold oc yh
 rw[Fz (fun u _=>acv s u.1 u.2),À,adb b.2.2.2.1 (fun i l hl=>afB hs.loans hs.uses s hl),À,
  adb b.2.2.2.2.1 (fun i c hc=>SX hs.compares hs.loans s (hs.piles c (dg hc)).1 (hs.piles c (dg hc)).2 hc),À,Fz (fun u _=>acv s u.1 u.2),À]
def â (b:Þ):Int :=
 if !j6 b.1 0 1000000 then 1 else
 if 12<b.2.1.length then 2 else if 40<b.2.2.1.length then 2 else if 12<b.2.2.2.1.length then 2 else if 40<b.2.2.2.2.1.length then 2 else if 10<b.2.2.2.2.2.length then 2 else
 if jz b != 0 then jz b else
 match (yh b (Ť b)).find? (fun e=>e != 0) with
 |some e=>e
 |none=>if 59<(Ì b).length then 2 else if 300<2*b.2.1.length+2*((Ì b).length-b.2.1.length:Int)+2*b.2.2.2.2.1.length then 2 else 0
def I9 {b:Þ} (hs:ľ b):(Ì b).length≤2001000:=by
 have:=wK (fun g:é=>(ß b g).map fun d=>((g.1,d):Int×Int)) 2001 (fun g=>by rw[List.length_map]; exact Ik hs g) b.2.1;have h2:=hs.gauges;unfold Ì;omega
def jo {b:Þ} (hs:ľ b) (hr:∀g∈b.2.1,I64 g.2.2.2.2.1.1):û b=some (â b):=by
 unfold û RU â;rw[HD,À]
 cases j6 b.1 0 1000000 with
 |false=>rfl
 |true =>
 have h1:=hs.gauges;have h2:=hs.compares;have h3:=I9 hs;rw[Î (show(!true)=false from rfl),if_neg (by simp)];simp only[Ü]
 by_cases c0:12<b.2.1.length
 ·rw[Ñ (by simp[igt]; omega),if_pos c0]
 rw[Î (by simp[igt]; omega),if_neg c0]
 by_cases c1:40<b.2.2.1.length
 ·rw[Ñ (by simp[igt]; omega),if_pos c1]
 rw[Î (by simp[igt]; omega),if_neg c1]
 by_cases c2:12<b.2.2.2.1.length
 ·rw[Ñ (by simp[igt]; omega),if_pos c2]
 rw[Î (by simp[igt]; omega),if_neg c2]
 by_cases c3:40<b.2.2.2.2.1.length
 ·rw[Ñ (by simp[igt]; omega),if_pos c3]
 rw[Î (by simp[igt]; omega),if_neg c3]
 by_cases c4:10<b.2.2.2.2.2.length
 ·rw[Ñ (by simp[igt]; omega),if_pos c4]
 rw[Î (by simp[igt]; omega),if_neg c4];rw[VX hr h1,À]
 cases hm:(jz b != 0) with
 |true =>
  have:ine (jz b) 0=true:=hm;rw[Ñ this,if_pos rfl]
 |false =>
 have:ine (jz b) 0=false:=hm;rw[Î this,if_neg (by simp)];rw[Wc h1,À];unfold acn;rw[apN hs,À]
 cases(yh b (Ť b)).find? (fun e=>e != 0) with
 |some e=>rfl
 |none =>
 dsimp only;rw[Yn hs,À]
 by_cases c5:59<(Ì b).length
 ·rw[Ñ (by simp[igt]; omega),if_pos c5]
 rw[Î (by simp[igt]; omega),if_neg c5];rw[Ò (by omega) (by omega),Ò (by omega) (by omega),Ò (by omega) (by omega),Ò (by omega) (by omega),Ò (by omega) (by omega),Ò (by omega) (by omega)]
 by_cases c6:300<2*b.2.1.length+2*((Ì b).length-b.2.1.length:Int)+2*b.2.2.2.2.1.length
 ·rw[Ñ (by simp[igt]; omega),if_pos c6]
 rw[Î (by simp[igt]; omega),if_neg c6]
def wrapU {n:Nat} (h:n<18446744073709551616):IntKind.wrap .u64 (n:Int)=n:=by
 simp only[IntKind.wrap,IntKind.bits,IntKind.signed];simp;omega
def wrapI {n:Nat} (h:n<9223372036854775808):IntKind.wrap .i64 (n:Int)=n:=by
 simp only[IntKind.wrap,IntKind.bits,IntKind.signed];simp;omega
def jf (l:List (Int×Int)) (x d:Int):Option Nat:=l.findIdx? fun n=>decide (x=n.1)&&decide (d=n.2)
def af1 {l:List (Int×Int)} (hn:l.length≤100000000) (x d:Int):ù l (x,d)=some (match jf l x d with|some j=>(j:Int)|none=>-1):=by
 unfold ù Ů;refine Eq.trans (ś l (fun n=>decide (x=n.1)&&decide (d=n.2)) some (some (-1)) (fun i a hi ha kn=>?_) (fun kn=>?_)) ?_
 ·try dsimp only
  unfold Ħ;rw[Ð hi,Ç ha,Ë hi (by omega),Č,Bool.and_true]
 ·try dsimp only
  unfold Ħ;rw[Ù]
 ·unfold jf
  cases List.findIdx? (fun n=>decide (x=n.1)&&decide (d=n.2)) l<;>rfl
def atP (l:List (Int×Int)) (p:List Int) (d:Int):Int :=
 match p with
 |[]=>0
 |x::_=>match jf l x d with|some j=>(j:Int)+1|none=>0
def mJ {l:List (Int×Int)} {x d:Int} {j:Nat} (h:jf l x d=some j):j<l.length∧l[j]?=some (x,d):=by
 unfold jf at h;obtain⟨hj,hp,_⟩:=List.findIdx?_eq_some_iff_getElem.1 h;refine⟨hj,?_⟩;rw[List.getElem?_eq_getElem hj];simp only[Bool.and_eq_true,decide_eq_true_eq] at hp;congr 1;exact Prod.ext hp.1.symm hp.2.symm
def aov (m:Maker) (p:List Int) (d:Int) (hn:m.2.1.length≤100000000):iE m p d=some (atP m.2.1 p d):=by
 unfold iE zS atP
 cases p with
 |nil=>simp[Ü,ieq]
 |cons x p =>
  have h:ieq (Ö (x::p)) 0=false:=by
   rw[Ü];simp only[ieq,dj,beq_eq_false_iff_ne,ne_eq];omega
  rw[h,æ,show(0:Int)=((0:Nat):Int) from rfl,Ç (a:=x) rfl,af1 hn,À]
  cases hx:jf m.2.1 x d with
  |none=>dsimp only; rw[Ò (by omega) (by omega)]; simp only[hx]; rfl
  |some j =>
   have:=(mJ hx).1;dsimp only;rw[Ò (by omega) (by omega)];simp only[hx]
def ye (s:List (Int×é)) (p:List Int):Int×Int :=
 match p with
 |[]=>(0,1)
 |x::_=>match tV (k:=tI) (v:=Ï) x s with
  |some g=>g.2.2.2.2.1
  |none=>(0,0)
def acm (s:List (Int×é)) (p:List Int):i7 s p=some (ye s p):=by
 unfold i7 oB ye
 cases p with
 |nil=>simp[Ü,ieq]
 |cons x p =>
  have h:ieq (Ö (x::p)) 0=false:=by
   rw[Ü];simp only[ieq,dj,beq_eq_false_iff_ne,ne_eq];omega
  rw[h,æ,show(0:Int)=((0:Nat):Int) from rfl,Ç (a:=x) rfl]
  cases hx:tV (k:=tI) (v:=Ï) x s with
  |none=>simp only[abR,hx]
  |some g=>simp only[abR,hx]
def ain {l:List (Int×Int)} (hr:∀r∈l,I64 r.1) (hn:l.length≤1000):kr l=some (if l.any (fun r=>!Lt r) then 1 else 0):=by
 unfold kr Rm;refine Eq.trans (Ģ l (fun r=>!Lt r) (fun _=>some 1) (some 1) (some 0) (fun _=>rfl) (fun i a hi ha kn=>?_) (fun kn=>?_)) ?_
 ·try dsimp only
  unfold sf;rw[Ð hi,Ç ha,abK (hr a (List.mem_of_getElem? ha)),À,Ë hi (by omega),Č]
 ·try dsimp only
  unfold sf;rw[Ù]
 ·cases l.any (fun r=>!Lt r)<;>rfl
def ot (n d:Int):Int×Int:=(n / (Nat.gcd n.natAbs d.natAbs:Nat),d / (Nat.gcd n.natAbs d.natAbs:Nat))
def ky (r:Int×Int):Lt r=true↔1≤r.2∧r.2≤2147483647∧(r.1.natAbs:Int)≤2147483647∧Nat.gcd r.1.natAbs r.2.natAbs=1:=by
 simp[Lt]
def AM {n d:Int} (hd:0<d):∃g:Nat,0<g∧g=Nat.gcd n.natAbs d.natAbs∧n=(ot n d).1*g∧d=(ot n d).2*g:=by
 have hg:0<Nat.gcd n.natAbs d.natAbs:=Nat.gcd_pos_of_pos_right _ (by omega);refine⟨_,hg,rfl,?_,?_⟩
 ·exact(Int.ediv_mul_cancel (Int.ofNat_dvd_left.2 (Nat.gcd_dvd_left _ _))).symm
 ·exact(Int.ediv_mul_cancel (Int.ofNat_dvd_left.2 (Nat.gcd_dvd_right _ _))).symm
def X2 {n d:Int} (hd:0<d) (hn:n.natAbs≤2147483647) (hd2:d≤2147483647):Lt (ot n d)=true:=by
 obtain⟨g,h0,hg,h1,h2⟩:=AM (n:=n) hd;rw[ky]
 have a1:n.natAbs=(ot n d).1.natAbs*g:=by conv=>lhs; rw[h1]; rw[fR,fT]
 have a2:d.natAbs=(ot n d).2.natAbs*g:=by conv=>lhs; rw[h2]; rw[fR,fT]
 have p2:0<(ot n d).2:=by
  rcases Int.lt_trichotomy (ot n d).2 0 with h|h|h
  ·have:=Int.mul_neg_of_neg_of_pos h (show(0:Int)<g by omega); omega
  ·rw[h] at h2; simp at h2; omega
  ·exact h
 have b1:(ot n d).1.natAbs≤n.natAbs:=by rw[a1]; exact gi _ h0
 have b2:(ot n d).2.natAbs≤d.natAbs:=by rw[a2]; exact gi _ h0
 refine⟨by omega,by omega,by omega,?_⟩;have:=Nat.gcd_mul_right (ot n d).1.natAbs g (ot n d).2.natAbs;rw[←a1,←a2,←hg] at this
 have h3:(Nat.gcd (ot n d).1.natAbs (ot n d).2.natAbs)*g=1*g:=by omega
 exact Nat.eq_of_mul_eq_mul_right h0 h3
def Wf {n d:Int} (hd:0<d) (hn:n.natAbs≤2147483647) (hd2:d≤2147483647):qK n d=some (ot n d,0):=by
 obtain⟨g,h0,hg,h1,h2⟩:=AM (n:=n) hd;have hr:=(ky _).1 (X2 hd hn hd2);unfold qK El;rw[XU ⟨by omega,by omega⟩,À,XU ⟨by omega,by omega⟩,À,arp,À,←hg]
 have a1:n.natAbs=(ot n d).1.natAbs*g:=by conv=>lhs; rw[h1]; rw[fR,fT]
 have a2:d.natAbs=(ot n d).2.natAbs*g:=by conv=>lhs; rw[h2]; rw[fR,fT]
 have q1:Int.tdiv (n.natAbs:Int) (g:Int)=((ot n d).1.natAbs:Int):=by
  rw[a1,g8]; exact gF _ (by omega)
 have q2:Int.tdiv (d.natAbs:Int) (g:Int)=((ot n d).2.natAbs:Int):=by
  rw[a2,g8]; exact gF _ (by omega)
 have z:õ (g:Int) 0=false:=by simp[õ]; omega
 have g1:igt ((ot n d).1.natAbs:Int) 2147483647=false:=by simp[igt]; omega
 have g2:igt ((ot n d).2.natAbs:Int) 2147483647=false:=by simp[igt]; omega
 rw[Î z,Î z,q1,q2,wrapU (by omega),wrapU (by omega),wrapI (by omega),wrapI (by omega),Î g1,Î g2]
 have hd0:ilt d 0=false:=by simp[ilt]; omega
 rw[hd0]
 have e2:((ot n d).2.natAbs:Int)=(ot n d).2:=by omega
 rw[e2]
 by_cases hneg:n<0
 ·have hn0:ilt n 0=true:=by simp[ilt,hneg]
  have:(ot n d).1≤0:=by
   rcases gM 0 (ot n d).1 with h|h
   ·have:=Int.mul_pos h (show(0:Int)<g by omega); omega
   ·exact h
  rw[hn0];rw[show(!true==false)=true from rfl,ė,Ò (by omega) (by omega)]
  have:0-((ot n d).1.natAbs:Int)=(ot n d).1:=by omega
  rw[this]
 ·have hn0:ilt n 0=false:=by simp[ilt]; omega
  have:0≤(ot n d).1:=by
   rcases gM (ot n d).1 0 with h|h
   ·have:=Int.mul_neg_of_neg_of_pos h (show(0:Int)<g by omega); omega
   ·exact h
  rw[hn0];rw[show(!false==false)=false from rfl,æ]
  have:((ot n d).1.natAbs:Int)=(ot n d).1:=by omega
  rw[this]
structure qS (r:Int×Int) (n d:Int):Prop where
 rat:Lt r=true
 num : -n≤r.1∧r.1≤n
 den:r.2≤d
def qS.pos {r:Int×Int} {n d:Int} (h:qS r n d):1≤r.2:=((ky r).1 h.rat).1
def qS.i64 {r:Int×Int} {n d:Int} (h:qS r n d):I64 r.1:=by
 have:=((ky r).1 h.rat).2.2.1;exact⟨by omega,by omega⟩
def alO {x y:Int×Int} (hx:Lt x=true) (hy:Lt y=true):kr [x,y]=some 0:=by
 rw[ain]
 ·simp[hx,hy]
 ·intro r hr
  have:Lt r=true:=by simp at hr; rcases hr with rfl|rfl<;>assumption
  have:=((ky r).1 this).2.2.1;exact⟨by omega,by omega⟩
 ·simp
def nl {a b m n:Int} (h1 : -m≤a∧a≤m) (h2 : -n≤b∧b≤n) : -(m*n)≤a*b∧a*b≤m*n:=by
 have hm:0≤m:=by omega
 have hn:0≤n:=by omega
 have h3:(a*b).natAbs≤(m*n).natAbs:=by
  rw[fR,fR];exact gr (by omega) (by omega)
 have h4:0≤m*n:=f9 hm hn;omega
def subP (x y:Int×Int):Int×Int:=ot (x.1*y.2-y.1*x.2) (x.2*y.2)
def IM {x y:Int×Int} (hx:qS x 1000 100) (hy:qS y 1000 100):(x.1*y.2-y.1*x.2).natAbs≤200000∧0<x.2*y.2∧x.2*y.2≤10000:=by
 have h1:=nl hx.num (show -100≤y.2∧y.2≤100 from⟨by have:=hy.pos; omega,hy.den⟩);have h2:=nl hy.num (show -100≤x.2∧x.2≤100 from⟨by have:=hx.pos; omega,hx.den⟩);have h3:=nl (show -100≤x.2∧x.2≤100 from⟨by have:=hx.pos; omega,hx.den⟩) (show -100≤y.2∧y.2≤100 from⟨by have:=hy.pos; omega,hy.den⟩);have h4:=Int.mul_pos (show 0<x.2 by have:=hx.pos; omega) (show 0<y.2 by have:=hy.pos; omega);refine⟨by omega,h4,by omega⟩
def Sub_ok {x y:Int×Int} (hx:qS x 1000 100) (hy:qS y 1000 100):abf x y=some (subP x y,0):=by
 obtain⟨b1,b2,b3⟩:=IM hx hy;have h1:=nl hx.num (show -100≤y.2∧y.2≤100 from⟨by have:=hy.pos; omega,hy.den⟩);have h2:=nl hy.num (show -100≤x.2∧x.2≤100 from⟨by have:=hx.pos; omega,hx.den⟩);unfold abf ahj;rw[alO hx.rat hy.rat,À];rw[show ine (0:Int) 0=false from rfl,æ,Ò (by omega) (by omega),Ò (by omega) (by omega),Ò (by omega) (by omega),Ò (by omega) (by omega),Wf b2 (by omega) (by omega),À];rfl
def ami {n d:Int} (hd:0<d):(ot n d).1.natAbs≤n.natAbs∧(ot n d).2≤d:=by
 obtain⟨g,h0,hg,h1,h2⟩:=AM (n:=n) hd
 have a1:n.natAbs=(ot n d).1.natAbs*g:=by conv=>lhs; rw[h1]; rw[fR,fT]
 have a2:d.natAbs=(ot n d).2.natAbs*g:=by conv=>lhs; rw[h2]; rw[fR,fT]
 have b1:(ot n d).1.natAbs≤n.natAbs:=by rw[a1]; exact gi _ h0
 have b2:(ot n d).2.natAbs≤d.natAbs:=by rw[a2]; exact gi _ h0
 exact⟨b1,by omega⟩
def Oy {x y:Int×Int} (hx:qS x 1000 100) (hy:qS y 1000 100):qS (subP x y) 200000 10000:=by
 obtain⟨b1,b2,b3⟩:=IM hx hy;obtain⟨c1,c2⟩:=ami (n:=x.1*y.2-y.1*x.2) b2;exact⟨X2 b2 (by omega) (by omega),by unfold subP; omega,by unfold subP; omega⟩
def Fv (k:Int×Int) (n:Int):Int×Int:=ot (k.1*n) k.2
def Jb {k:Int×Int} (hk:qS k 200000 10000) {n:Int} (hn : -10000≤n∧n≤10000):(k.1*n).natAbs≤2000000000:=by
 have:=nl hk.num hn;omega
def ahy {n:Int} (hn : -10000≤n∧n≤10000):Lt (n,1)=true:=by
 rw[ky];exact⟨by simp,by simp,by simp; omega,by simp⟩
def arG {k:Int×Int} (hk:qS k 200000 10000) {n:Int} (hn : -10000≤n∧n≤10000):SH k (n,1)=some (Fv k n,0):=by
 have b:=Jb hk hn;have p:=hk.pos;have q:=hk.den;unfold SH ahm;rw[alO hk.rat (ahy hn),À];rw[show ine (0:Int) 0=false from rfl,æ,Ò (by simp only; omega) (by simp only; omega),Int.mul_one,Ò (by omega) (by omega),Wf (by omega) (by simp only; omega) (by omega),À];rfl
def Yq {k:Int×Int} (hk:qS k 200000 10000) {n:Int} (hn : -10000≤n∧n≤10000):qS (Fv k n) 2000000000 10000:=by
 have b:=Jb hk hn;have p:=hk.pos;have q:=hk.den;obtain⟨c1,c2⟩:=ami (n:=k.1*n) (show 0<k.2 by omega);exact⟨X2 (by omega) (by omega) (by omega),by unfold Fv; omega,by unfold Fv; omega⟩
def arA (x y:Int×Int):Int:=if x=y then 0 else if x.1*y.2<y.1*x.2 then -1 else if y.1*x.2<x.1*y.2 then 1 else 0
def arz {x y:Int×Int} {m d:Int} (hx:qS x m d) (hy:qS y m d) (hm:m≤2000000000) (hd:d≤10000):SF x y=some (arA x y):=by
 have h1:=nl hx.num (show -d≤y.2∧y.2≤d from⟨by have:=hy.pos; have:=hy.den; omega,hy.den⟩);have h2:=nl hy.num (show -d≤x.2∧x.2≤d from⟨by have:=hx.pos; have:=hx.den; omega,hx.den⟩);have h0:0≤m∧0≤d:=⟨by have:=hx.num; omega,by have:=hx.pos; have:=hx.den; omega⟩;have h3:m*d≤2000000000*10000:=Int.mul_le_mul hm hd h0.2 (by omega);unfold SF ahg arA;rw[Ò (by omega) (by omega),Ò (by omega) (by omega)];simp only[Č,Bool.and_true,Bool.and_eq_true,decide_eq_true_eq,õ,ilt,igt,gt_iff_lt];have:(x.1=y.1∧x.2=y.2)↔x=y:=⟨fun h=>Prod.ext h.1 h.2,fun h=>by rw[h]; exact⟨rfl,rfl⟩⟩;simp only[this]
 (repeat' split)<;>rfl
def Yi (k:Int×Int) (heat:Int×Int):(Int×Int)×(Int×Int) :=
 if 0<arA (Fv k heat.1) (Fv k heat.2) then(Fv k heat.2,Fv k heat.1) else(Fv k heat.1,Fv k heat.2)
def ar8 {k heat:Int×Int} (hk:qS k 200000 10000) (hh:j6 heat (-10000) 10000=true):pk k heat=some (Yi k heat):=by
 simp only[j6,Bool.and_eq_true,decide_eq_true_eq] at hh;obtain⟨h1,h2,h3⟩:=hh;have n1 : -10000≤heat.1∧heat.1≤10000:=⟨by omega,by omega⟩;have n2 : -10000≤heat.2∧heat.2≤10000:=⟨by omega,by omega⟩;have r1:qS (heat.1,1) 10000 10000:=⟨ahy n1,n1,by simp⟩;have r2:qS (heat.2,1) 10000 10000:=⟨ahy n2,n2,by simp⟩;unfold pk wh SG Rt tv tf;rw[alO r1.rat r2.rat,À];have:ieq 0 0=true:=rfl;rw[Ñ this,arz r1 r2 (by omega) (by omega),À]
 have hc:ile (arA (heat.1,1) (heat.2,1)) 0=true:=by
  unfold arA;simp only[ile,decide_eq_true_eq,Int.mul_one]
  split
  ·omega
  ·split
   ·omega
   ·rw[if_neg (by omega)]; omega
 rw[hc,À];simp only[Bool.not_true,æ];rw[abK hk.i64,hk.rat,À];simp only[Bool.not_true,æ];rw[arG hk n1,À,arG hk n2,À];simp only[show ine (0:Int) 0=false from rfl,æ];rw[arz (Yq hk n1) (Yq hk n2) (by omega) (by omega),À];unfold Yi;rw[Č]
 by_cases h:0<arA (Fv k heat.1) (Fv k heat.2)
 ·rw[if_pos h,if_pos (by simpa[igt] using h)]; rfl
 ·rw[if_neg h,if_neg (by simpa[igt] using h)]; rfl
def rateK (s:List (Int×é)) (c:Cmp):Int×Int:=subP (ye s (ç c.2.2.1 c.2.2.2.1)) (ye s (ç c.2.2.2.1 c.2.2.1))
def Ĭ (b:Þ) (c:Cmp):(Int×Int)×(Int×Int):=Yi (rateK (Ť b) c) c.2.2.2.2.2.2
def afd {b:Þ} (hs:ľ b) {c:Cmp} (hA:c.2.2.1.length≤1000) (hB:c.2.2.2.1.length≤1000)
 (h1:qS (ye (Ť b) (ç c.2.2.1 c.2.2.2.1)) 1000 100) (h2:qS (ye (Ť b) (ç c.2.2.2.1 c.2.2.1)) 1000 100) (hh:j6 c.2.2.2.2.2.2 (-10000) 10000=true):pI b c=some (Ĭ b c):=by
 unfold pI Ky;rw[Wc hs.gauges,À,tm (by omega) (by omega),À,acm,À,tm (by omega) (by omega),À,acm,À];unfold wU wi;rw[Sub_ok h1 h2,À,À]
 try dsimp only
 rw[ar8 (Oy h1 h2) hh,À];rfl
def i6 (b:Þ) (c:Cmp):Int×Int :=
 (((c.2.2.1.length-1:Nat):Int)*b.1.1-((c.2.2.2.1.length-1:Nat):Int)*b.1.2,((c.2.2.1.length-1:Nat):Int)*b.1.2-((c.2.2.2.1.length-1:Nat):Int)*b.1.1)
def ajj {b:Þ} {c:Cmp} (hA:c.2.2.1.length≤1000) (hB:c.2.2.2.1.length≤1000) (h1:0≤b.1.1) (h2:b.1.1≤1000000) (h3:0≤b.1.2) (h4:b.1.2≤1000000):uX b c=some (i6 b c):=by
 unfold uX RO i6
 have e:∀n:Nat,TC 0 ((n:Int)-1)=((n-1:Nat):Int):=by
  intro n;unfold TC
  split<;>omega
 have bd:∀(n:Nat) (x:Int),n≤1000→0≤x→x≤1000000→0≤((n-1:Nat):Int)*x∧((n-1:Nat):Int)*x≤1000000000:=by
  intro n x hn h0 hx;refine⟨f9 (by omega) h0,?_⟩;have:=fF (show((n-1:Nat):Int)≤1000 by omega) hx h0 (by omega);omega
 have b1:=bd _ _ hA h1 h2;have b2:=bd _ _ hA h3 h4;have b3:=bd _ _ hB h1 h2;have b4:=bd _ _ hB h3 h4;simp only[Ü];rw[Ò (by omega) (by omega),Ò (by omega) (by omega)];simp only[e];rw[Ò (by omega) (by omega),Ò (by omega) (by omega),Ò (by omega) (by omega),Ò (by omega) (by omega),Ò (by omega) (by omega),Ò (by omega) (by omega)]
def aba {n d:Int} (hd:1≤d) (hn : -4000000000≤n∧n≤4000000000):uU n d=some (n / d):=by
 unfold uU GZ
 have z:õ d 0=false:=by simp[õ]; omega
 rw[Î z];have t:=Int.mul_tdiv_add_tmod n d
 have b1 : -4000000000≤Int.tdiv n d∧Int.tdiv n d≤4000000000:=by
  have:=Int.natAbs_tdiv_le_natAbs n d;omega
 rw[Ò (by omega) (by omega),Î z,Č]
 by_cases h:Int.tmod n d<0
 ·rw[if_pos (by simpa[ilt] using h),Ò (by omega) (by omega)];congr 1
  have h5 : -d<Int.tmod n d:=by
   have h6:=gZ n d;have h7:=gO n.natAbs (show 0<d.natAbs by omega);omega
  refine(gp (by omega)).2 ⟨?_,?_⟩ |>.symm
  ·rw[Int.sub_mul,fS]; omega
  ·rw[Int.sub_mul,fS (Int.tdiv n d)]; omega
 ·rw[if_neg (by simpa[ilt] using h)];congr 1
  have h5:Int.tmod n d<d:=by
   have h6:=gZ n d;have h7:=gO n.natAbs (show 0<d.natAbs by omega);omega
  refine(gp (by omega)).2 ⟨?_,?_⟩ |>.symm
  ·rw[fS]; omega
  ·rw[fS (Int.tdiv n d)]; omega
def ard {x:Int×Int} (hx:Lt x=true):kr [x]=some 0:=by
 rw[ain]
 ·simp[hx]
 ·intro r hr
  have:Lt r=true:=by simp at hr; subst hr; assumption
  have:=((ky r).1 this).2.2.1;exact⟨by omega,by omega⟩
 ·simp
def K9 (r:Int×Int):Int:=-(-r.1 / r.2)
def ajZ {r:Int×Int} (h:Lt r=true):Ap r=some (r.1 / r.2,0):=by
 unfold Ap Rv;have:=(ky r).1 h;rw[ard h,À];rw[show ine (0:Int) 0=false from rfl,æ,aba (by omega) (by omega),À]
def KY {n d:Int} (hd:1≤d):(n / d).natAbs≤n.natAbs:=by
 exact Int.natAbs_ediv_le_natAbs n d
def ao6 {r:Int×Int} (h:Lt r=true):Ib r=some (K9 r,0):=by
 unfold Ib aar K9;have:=(ky r).1 h;rw[ard h,À];rw[show ine (0:Int) 0=false from rfl,æ,Ò (by omega) (by omega),aba (by omega) (by omega),À];have hb:=KY (n:=0-r.1) (show 1≤r.2 by omega);rw[Ò (by omega) (by omega),Int.zero_sub,Int.zero_sub]
def Ū (b:Þ) (c:Cmp):Int×Int :=
 (c.2.2.2.2.1-c.2.2.2.2.2.1-(i6 b c).2-(Ĭ b c).2.1 / (Ĭ b c).2.2,c.2.2.2.2.1+c.2.2.2.2.2.1-(i6 b c).1-K9 (Ĭ b c).1)
structure Ċ (b:Þ):Prop where
 film:0≤b.1.1∧b.1.1≤b.1.2∧b.1.2≤1000000
 nG:b.2.1.length≤12
 nU:b.2.2.1.length≤40
 nL:b.2.2.2.1.length≤12
 nC:b.2.2.2.2.1.length≤40
 nK:b.2.2.2.2.2.length≤10
 gauge:∀g∈b.2.1,qz g=true
 ids:b.2.1.Pairwise fun a b=>a.1<b.1
 uses:∀u∈b.2.2.1,af8 (Ť b) u.1 u.2=0
 loans:∀i l,b.2.2.2.1[i]?=some l→HA b (Ť b) i l=0
 compares:∀i c,b.2.2.2.2.1[i]?=some c→mj b (Ť b) i c=0
 looks:∀u∈b.2.2.2.2.2,af8 (Ť b) u.1 u.2=0
 nodes:(Ì b).length≤59
 links:2*(Ì b).length+2*b.2.2.2.2.1.length≤300
def wH (b:Þ):jz b=0↔(∀g∈b.2.1,qz g=true)∧b.2.1.Pairwise fun a b=>a.1<b.1:=by
 have h0:ģ (oL b.2.1) 0 b.2.1=none↔(∀g∈b.2.1,qz g=true)∧b.2.1.Pairwise fun a b=>a.1<b.1:=by
  rw[iP,←abB (fun g:é=>g.1) b.2.1];constructor
  ·intro h
   have h1:∀(j:Nat) (a:é),b.2.1[j]?=some a→qz a=true∧EJ (fun g:é=>g.1) b.2.1 j a=false:=by
    intro j a ha;have:=h j a ha;rw[Nat.zero_add] at this;unfold oL at this
    split at this
    ·cases this
    ·split at this
     ·cases this
     ·rename_i h1 h2;exact⟨by simpa using h1,by simpa using h2⟩
   refine⟨fun x hx=>?_,fun i a ha=>(h1 i a ha).2⟩;obtain⟨j,hj,rfl⟩:=dl.1 hx;exact(h1 j _ (cX hj)).1
  ·rintro⟨h1,h2⟩ j a ha;rw[du];simp[oL,h1 a (dg ha),h2 j a ha]
 rw[←h0];unfold jz
 cases h:ģ (oL b.2.1) 0 b.2.1 with
 |none=>simp
 |some e =>
  have:∀(m:List é) (j:Nat) (x:Int),ģ (oL b.2.1) j m=some x→x≠0:=by
   intro m
   induction m with
   |nil=>intro j x h; cases h
   |cons a m ih =>
    intro j x h;unfold ģ at h
    cases hp:oL b.2.1 j a with
    |none=>rw[hp] at h; exact ih _ _ h
    |some y =>
     rw[hp] at h;cases h;unfold oL at hp
     split at hp
     ·cases hp; omega
     ·split at hp
      ·cases hp; omega
      ·cases hp
  simp[this _ _ _ h]
def ê (b:Þ):â b=0↔Ċ b:=by
 unfold â;constructor
 ·intro h
  split at h
  ·omega
  rename_i h1
  (repeat' split at h)<;>try omega
  ·rename_i hg
   have hg':jz b≠0:=by simpa using hg
   exact(hg' h).elim
  ·rename_i hf;have:=fL hf;rename_i e;simp at this;exact(this h).elim
  ·rename_i hn1 hn2 hn3 hn4 hn5 hg e hf hn6 hn7
   have hg0:jz b=0:=by simpa using hg
   obtain⟨g1,g2⟩:=(wH b).1 hg0
   have hall:∀x∈yh b (Ť b),x=0:=fun x hx=>by
    have:=ew.1 hf x hx;simpa using this
   simp only[yh,dh] at hall
   have hs:j6 b.1 0 1000000=true:=by simpa using h1
   simp only[j6,cZ,decide_eq_true_eq] at hs;refine⟨⟨hs.1,hs.2.1,hs.2.2⟩,by omega,by omega,by omega,by omega,by omega,g1,g2,fun u hu=>hall _ (.inl (dP.2 ⟨u,hu,rfl⟩)),fun i l hl=>?_,fun i c hc=>?_,fun u hu=>hall _ (.inr (.inr (.inr (dP.2 ⟨u,hu,rfl⟩)))),by omega,by omega⟩
   ·obtain⟨hi,rfl⟩:=df.1 hl;exact hall _ (.inr (.inl (gX.2 ⟨i,hi,rfl⟩)))
   ·obtain⟨hi,rfl⟩:=df.1 hc;exact hall _ (.inr (.inr (.inl (gX.2 ⟨i,hi,rfl⟩))))
 ·intro h
  have hs:j6 b.1 0 1000000=true:=by simp[j6,h.film.1,h.film.2.1,h.film.2.2]
  have hg:jz b=0:=(wH b).2 ⟨h.gauge,h.ids⟩
  have hall:(yh b (Ť b)).find? (fun e=>e != 0)=none:=by
   rw[ew];intro x hx;simp only[yh,dh,dP,gX] at hx
   have:x=0:=by
    rcases hx with⟨u,hu,rfl⟩|⟨i,hi,rfl⟩|⟨i,hi,rfl⟩|⟨u,hu,rfl⟩
    ·exact h.uses u hu
    ·exact h.loans i _ (cX hi)
    ·exact h.compares i _ (cX hi)
    ·exact h.looks u hu
   simp[this]
  have:=h.nG; have:=h.nU; have:=h.nL; have:=h.nC; have:=h.nK; have:=h.nodes; have:=h.links;rw[hs,hg,hall];simp only[eJ,dv,if_false,bne_self_eq_false];rw[if_neg (by omega),if_neg (by omega),if_neg (by omega),if_neg (by omega),if_neg (by omega),if_neg (by omega),if_neg (by omega)]
section
variable {b:Þ}
def Ĵ {l:List Int} (h:mq l=true):l.length≤6:=((EZ l).1 h).2.2
def Ċ.nums (h:Ċ b) {c:Cmp} (hc:c∈b.2.2.2.2.1):Mp c=true:=by
 obtain⟨i,hi,rfl⟩:=List.mem_iff_getElem.1 hc;have:=h.compares i _ (List.getElem?_eq_getElem hi);unfold mj at this
 split at this
 ·omega
 ·rename_i h; simpa using h
def Ċ.pilesOf (h:Ċ b) {c:Cmp} (hc:c∈b.2.2.2.2.1):yf b (Ť b) c=0:=by
 obtain⟨i,hi,rfl⟩:=List.mem_iff_getElem.1 hc;have:=h.compares i _ (List.getElem?_eq_getElem hi);unfold mj at this
 split at this
 ·omega
 ·split at this
  ·omega
  ·exact this
def Η (c:Cmp):Mp c=true↔(1≤c.1∧c.1≤1099511627776)∧(0≤c.2.1∧c.2.1≤20000)∧(-1125899906842624≤c.2.2.2.2.1∧c.2.2.2.2.1≤1125899906842624)∧(0≤c.2.2.2.2.2.1∧c.2.2.2.2.2.1≤1073741824)∧j6 c.2.2.2.2.2.2 (-10000) 10000=true∧mq c.2.2.1=true∧mq c.2.2.2.1=true:=by
 simp[Mp,inP,Il,and_assoc]
def Ċ.size (h:Ċ b):ľ b:=by
 have h1:=h.nG; have h2:=h.nU; have h3:=h.nL; have h4:=h.nC; have h5:=h.nK;refine⟨by omega,by omega,by omega,by omega,by omega,fun c hc=>?_⟩;have:=(Η c).1 (h.nums hc);have a:=Ĵ this.2.2.2.2.2.1;have b:=Ĵ this.2.2.2.2.2.2;omega
def uM (g:é):qz g=true↔Lt g.2.2.2.2.1=true∧(-1000≤g.2.2.2.2.1.1∧g.2.2.2.2.1.1≤1000)∧g.2.2.2.2.1.2≤100∧(1≤g.1∧g.1≤1099511627776)∧(0≤g.2.1∧g.2.1≤20000)∧(1≤g.2.2.1∧g.2.2.1≤1125899906842624)∧(-1073741824≤g.2.2.2.1.1∧g.2.2.2.1.1≤g.2.2.2.1.2∧g.2.2.2.1.2≤1073741824)∧(0≤g.2.2.2.2.2∧g.2.2.2.2.2≤1048576):=by
 simp[qz,inP,Il,j6,and_assoc]
def iD {id:Int} {g:é} (h:ł b id=some g):g∈b.2.1∧g.1=id:=by
 unfold ł at h;exact⟨List.mem_of_find?_eq_some h,by simpa using List.find?_some h⟩
def ű (hi:b.2.1.Pairwise fun a b=>a.1<b.1) {g:é} (hg:g∈b.2.1):ł b g.1=some g:=by
 unfold ł
 induction hl:b.2.1 generalizing b with
 |nil=>rw[hl] at hg; cases hg
 |cons a t ih =>
  rw[hl] at hg hi;rw[dS] at hi;rw[gH];rcases di.1 hg with rfl|hg
  ·simp
  ·have h1:=hi.1 g hg
   have:(a.1==g.1)=false:=by simp; omega
   rw[this];have:=ih (b:=(b.1,t,b.2.2)) hi.2 hg rfl;exact this
def Jc (h:Ċ b) {id day:Int} (hm:jt (Ť b) id day=0):∃g,ł b id=some g∧g.2.1≤day:=by
 unfold jt at hm;rw[hZ h.ids] at hm
 split at hm
 ·rename_i g hg
  split at hm
  ·omega
  ·exact⟨g,hg,by omega⟩
 ·omega
def Pf (s:List (Int×é)) (id day:Int):jt s id day=0∨jt s id day=4∨jt s id day=5:=by
 unfold jt
 split
 ·split<;>simp
 ·simp
def Ċ.pile (h:Ċ b) {c:Cmp} (hc:c∈b.2.2.2.2.1) {x:Int} (hx:x∈c.2.2.1++c.2.2.2.1):(∃g,ł b x=some g∧g.2.1≤c.2.1)∧j5 b x c.2.1=none:=by
 have hp:=h.pilesOf hc;unfold yf at hp
 split at hp
 ·omega
 rename_i h5
 split at hp
 ·omega
 rename_i h4
 split at hp
 ·omega
 rename_i h9;have a5:=(eo.1 (ee.2 h5)) x hx;have a4:=(eo.1 (ee.2 h4)) x hx;have a9:=(eo.1 (ee.2 h9)) x hx;simp at a5 a4 a9;refine⟨Jc h ?_,a9⟩;rcases Pf (Ť b) x c.2.1 with h0|h0|h0
 ·exact h0
 ·exact(a4 h0).elim
 ·exact(a5 h0).elim
def Ċ.lefts (h:Ċ b) {c:Cmp} (hc:c∈b.2.2.2.2.1):(ç c.2.2.1 c.2.2.2.1).length≤1∧(ç c.2.2.2.1 c.2.2.1).length≤1∧(ç c.2.2.1 c.2.2.2.1).length+(ç c.2.2.2.1 c.2.2.1).length≠0:=by
 have hp:=h.pilesOf hc;unfold yf at hp
 (repeat' split at hp)<;>first|omega|exact⟨by omega,by omega,by omega⟩
def i5 {a c:List Int} {x:Int}:x∈ç a c↔x∈a∧x∉c:=by
 simp[ç]
def Ċ.rate (h:Ċ b) {p:List Int} (hp:∀x∈p,∃g,ł b x=some g):qS (ye (Ť b) p) 1000 100:=by
 unfold ye
 cases p with
 |nil =>
  have:qS (0,1) 1000 100:=⟨by decide,by decide,by decide⟩;exact this
 |cons x t =>
  obtain⟨g,hg⟩:=hp x (by simp)
  try dsimp only
  rw[hZ h.ids,hg];have:=(uM g).1 (h.gauge g (iD hg).1);exact⟨this.1,this.2.1,this.2.2.1⟩
def Ċ.rates (h:Ċ b) {c:Cmp} (hc:c∈b.2.2.2.2.1):qS (ye (Ť b) (ç c.2.2.1 c.2.2.2.1)) 1000 100∧qS (ye (Ť b) (ç c.2.2.2.1 c.2.2.1)) 1000 100:=by
 constructor
 ·exact h.rate fun x hx=>by
   obtain⟨⟨g,hg,_⟩,_⟩:=h.pile hc (eF _ (i5.1 hx).1);exact⟨g,hg⟩
 ·exact h.rate fun x hx=>by
   obtain⟨⟨g,hg,_⟩,_⟩:=h.pile hc (eh _ (i5.1 hx).1);exact⟨g,hg⟩
def Ċ.growth (h:Ċ b) {c:Cmp} (hc:c∈b.2.2.2.2.1):pI b c=some (Ĭ b c):=by
 obtain⟨r1,r2⟩:=h.rates hc;have hn:=(Η c).1 (h.nums hc);have a:=Ĵ hn.2.2.2.2.2.1;have b:=Ĵ hn.2.2.2.2.2.2;exact afd h.size (by omega) (by omega) r1 r2 hn.2.2.2.2.1
def Ċ.films (h:Ċ b) {c:Cmp} (hA:c.2.2.1.length≤1000) (hB:c.2.2.2.1.length≤1000):uX b c=some (i6 b c):=by
 have:=h.film;exact ajj hA hB (by omega) (by omega) (by omega) (by omega)
def Yh {k heat:Int×Int} (hk:qS k 200000 10000) (hh:j6 heat (-10000) 10000=true):qS (Yi k heat).1 2000000000 10000∧qS (Yi k heat).2 2000000000 10000:=by
 simp only[j6,Bool.and_eq_true,decide_eq_true_eq] at hh;have r1:=Yq hk (n:=heat.1) ⟨by omega,by omega⟩;have r2:=Yq hk (n:=heat.2) ⟨by omega,by omega⟩;unfold Yi
 split
 ·exact⟨r2,r1⟩
 ·exact⟨r1,r2⟩
def wL {c:Cmp} (hA:c.2.2.1.length≤1000) (hB:c.2.2.2.1.length≤1000) (h1:0≤b.1.1) (h2:b.1.1≤1000000) (h3:0≤b.1.2) (h4:b.1.2≤1000000) :
 (-1000000000≤(i6 b c).1∧(i6 b c).1≤1000000000)∧(-1000000000≤(i6 b c).2∧(i6 b c).2≤1000000000):=by
 have bd:∀(n:Nat) (x:Int),n≤1000→0≤x→x≤1000000→0≤((n-1:Nat):Int)*x∧((n-1:Nat):Int)*x≤1000000000:=by
  intro n x hn h0 hx;refine⟨f9 (by omega) h0,?_⟩;have:=fF (show((n-1:Nat):Int)≤1000 by omega) hx h0 (by omega);omega
 have b1:=bd _ _ hA h1 h2;have b2:=bd _ _ hA h3 h4;have b3:=bd _ _ hB h1 h2;have b4:=bd _ _ hB h3 h4;unfold i6
 try dsimp only
 omega
def wJ {r:Int×Int} (h:qS r 2000000000 10000) : -2000000000≤r.1 / r.2∧r.1 / r.2≤2000000000:=by
 have:=KY (n:=r.1) h.pos;have:=h.num;omega
def Bu {r:Int×Int} (h:qS r 2000000000 10000) : -2000000000≤K9 r∧K9 r≤2000000000:=by
 have:=KY (n:=-r.1) h.pos;have:=h.num;unfold K9;omega
def Ċ.says (h:Ċ b) {c:Cmp} (hc:c∈b.2.2.2.2.1):wT b c=some (Ū b c):=by
 obtain⟨r1,r2⟩:=h.rates hc;have hn:=(Η c).1 (h.nums hc);have ha:=Ĵ hn.2.2.2.2.2.1;have hb:=Ĵ hn.2.2.2.2.2.2;have hf:=h.film;obtain⟨g1,g2⟩:=Yh (Oy r1 r2) hn.2.2.2.2.1;have fb:=wL (b:=b) (c:=c) (by omega) (by omega) (by omega) (by omega) (by omega) (by omega);have q1:qS (Ĭ b c).1 2000000000 10000:=g1;have q2:qS (Ĭ b c).2 2000000000 10000:=g2;have c1:=Bu q1;have c2:=wJ q2;unfold wT aax Ū;rw[h.growth hc,À,h.films (by omega) (by omega),À,ajZ q2.rat,À,ao6 q1.rat,À]
 try dsimp only
 have n3:=hn.2.2.1;have n4:=hn.2.2.2.1;rw[Ò (by omega) (by omega),Ò (by omega) (by omega),Ò (by omega) (by omega),Ò (by omega) (by omega),Ò (by omega) (by omega),Ò (by omega) (by omega)]
end
def Ė (l:IG) (f t:Int):Int:=min l.2.1.2 (t-1)-max l.2.1.1 f+1
def ÿ (id f t:Int):List IG→Int
 |[]=>0
 |l::r=>(if l.1=id∧0<Ė l f t then Ė l f t*l.2.2 else 0)+ÿ id f t r
def zX (id f t:Int):∀(x y:List IG),ÿ id f t (x++y)=ÿ id f t x+ÿ id f t y
 |[],y=>by simp[ÿ]
 |l::r,y=>by
  simp only[ff,ÿ,zX id f t r y];omega
def Τ (b:Þ) (id f t:Int):List Int:=(b.2.2.1.filter fun u=>u.1==id&&inP u.2 f (t-1)).map fun u=>u.2
def ii (b:Þ) (g:é) (f t:Int):Int:=ÿ g.1 f t b.2.2.2.1+(XW (Τ b g.1 f t)).length*g.2.2.2.2.2
def wF (a c:Int):Xh a c=min a c:=by unfold Xh; split<;>omega
def ahB (a c:Int):TC a c=max a c:=by unfold TC; split<;>omega
def A2 {b:Þ} (h:Ċ b) {l:IG} (hl:l∈b.2.2.2.1):(0≤l.2.1.1∧l.2.1.1≤l.2.1.2∧l.2.1.2≤20000)∧(0≤l.2.2∧l.2.2≤1048576):=by
 obtain⟨i,hi,rfl⟩:=List.mem_iff_getElem.1 hl;have:=h.loans i _ (List.getElem?_eq_getElem hi);unfold HA at this
 split at this
 ·omega
 rename_i h1
 split at this
 ·omega
 rename_i h2;simp only[eO,Bool.not_eq_false,j6,inP,cZ,decide_eq_true_eq] at h1 h2;exact⟨h1,h2⟩
def W5 {l:IG} (h:(0≤l.2.1.1∧l.2.1.1≤l.2.1.2∧l.2.1.2≤20000)∧(0≤l.2.2∧l.2.2≤1048576)) {f t:Int} (hf:0≤f) (hd:0<Ė l f t):0≤Ė l f t*l.2.2∧Ė l f t*l.2.2≤20001*1048576:=by
 refine⟨Int.mul_nonneg (by omega) h.2.1,Int.mul_le_mul ?_ h.2.2 h.2.1 (by omega)⟩;unfold Ė;omega
def tj {id f t:Int} (hf:0≤f):∀{x:List IG},(∀l∈x,(0≤l.2.1.1∧l.2.1.1≤l.2.1.2∧l.2.1.2≤20000)∧(0≤l.2.2∧l.2.2≤1048576))→0≤ÿ id f t x∧ÿ id f t x≤x.length*(20001*1048576)
 |[],_=>by simp[ÿ]
 |l::r,h=>by
  have ih:=tj (id:=id) (t:=t) hf (x:=r) fun l hl=>h l (by simp[hl]);simp only[ÿ,dj,gB,gq,gC]
  split
  ·rename_i hc;have:=W5 (h l (by simp)) hf hc.2;omega
  ·omega
def asg {b:Þ} (h:Ċ b) {g:é} (hg:0≤g.2.2.2.2.2∧g.2.2.2.2.2≤1048576) {f t:Int} (hf:0≤f∧f≤100000) (ht:0≤t∧t≤100000):Bl b g f t=some (ii b g f t):=by
 have hL:=h.nL;have hU:=h.nU
 have hlb:∀i,0≤ÿ g.1 f t (b.2.2.2.1.take i)∧ÿ g.1 f t (b.2.2.2.1.take i)≤12*(20001*1048576):=by
  intro i;have h1:=tj (id:=g.1) (t:=t) hf.1 (x:=b.2.2.2.1.take i) fun l hl=>A2 h (List.mem_of_mem_take hl);have h2:((b.2.2.2.1.take i).length:Int)*(20001*1048576)≤12*(20001*1048576):=fO (by rw[dm]; omega) (by omega);omega
 unfold Bl aaB;refine ġ (fun x:Int×Int=>∃i:Nat,i≤b.2.2.2.1.length∧x=(ÿ g.1 f t (b.2.2.2.1.take i),(i:Int))) (fun x=>b.2.2.2.1.length-x.2.toNat) ?_ ⟨0,by omega,rfl⟩;rintro x ⟨i,hi,rfl⟩;rcases Nat.lt_or_ge i b.2.2.2.1.length with hlt|hge
 ·have hl:b.2.2.2.1[i]?=some b.2.2.2.1[i]:=cX hlt;have hz:=A2 h (dg hl);refine .inr ⟨(ÿ g.1 f t (b.2.2.2.1.take (i+1)),(i:Int)+1),⟨i+1,hlt,by simp⟩,by simp; omega,fun kn=>?_⟩
  try dsimp only
  unfold wq;have b1:=hlb i;have b2:=hlb (i+1)
  have e1:ÿ g.1 f t (b.2.2.2.1.take (i+1))=ÿ g.1 f t (b.2.2.2.1.take i)+(if b.2.2.2.1[i].1=g.1∧0<Ė b.2.2.2.1[i] f t then Ė b.2.2.2.1[i] f t*b.2.2.2.1[i].2.2 else 0):=by
   rw[take_succ hl,zX]; simp[ÿ]
  rw[Ð hlt,Ç hl,Ò (by omega) (by omega),wF,ahB,Ò (by omega) (by omega),Ò (by omega) (by omega)];rw[show min b.2.2.2.1[i].2.1.2 (t-1)-max b.2.2.2.1[i].2.1.1 f+1=Ė b.2.2.2.1[i] f t from rfl,Č]
  by_cases hid:b.2.2.2.1[i].1=g.1
  ·rw[if_pos (by simpa[ieq] using hid),Č]
   by_cases hd:0<Ė b.2.2.2.1[i] f t
   ·have lb:=W5 hz hf.1 hd;rw[if_pos ⟨hid,hd⟩] at e1;rw[if_pos (by simpa[igt] using hd),Ò (by omega) (by omega),Ò (by omega) (by omega),Ë hlt (by omega),e1]
   ·rw[if_neg (fun hc=>hd hc.2)] at e1;rw[if_neg (by simpa[igt] using hd),Ë hlt (by omega),e1,gd]
  ·rw[if_neg (fun hc=>hid hc.1)] at e1;rw[if_neg (by simpa[ieq] using hid),Ë hlt (by omega),e1,gd]
 ·refine .inl fun kn=>?_
  have:i=b.2.2.2.1.length:=by omega
  subst this
  try dsimp only
  unfold wq;rw[Ù,List.take_length]
  have hud:∀x:List (Int×Int),x.length≤40→((x.filter fun u=>u.1==g.1&&inP u.2 f (t-1)).map fun u=>u.2).length≤40:=by
   intro x hx;rw[dY];exact dG (dR _ _) hx
  refine ë b.2.2.1 (fun i=>((b.2.2.1.take i).filter fun u=>u.1==g.1&&inP u.2 f (t-1)).map fun u=>u.2) _ rfl (fun i u hi hu kn'=>?_) (fun kn'=>?_)
  ·try dsimp only
   unfold wp;have hx:=hud (b.2.2.1.take i) (by rw[List.length_take]; omega);rw[Ð hi,Ç hu,Ò (by omega) (by omega),ω,À,Ó (by simp only[List.length_singleton]; omega),Am.iff_true,Ë hi (by omega),Ë hi (by omega),take_succ hu,List.filter_append,List.map_append]
   cases h1:(u.1==g.1) with
   |false =>
    have:ieq u.1 g.1=false:=h1;simp only[this,æ,ej,h1,Bool.false_and,dv,if_false,eA,fA,dU]
   |true =>
    have:ieq u.1 g.1=true:=h1;rw[this]
    cases h2:inP u.2 f (t-1) with
    |false=>simp only[ė,æ,ej,h1,h2,dV,dv,if_false,eA,fA,dU]
    |true=>simp only[ė,ej,h1,h2,dV,if_true,eA,fA,eV]
  ·try dsimp only
   unfold wp;rw[Ù,List.take_length];rw[show((b.2.2.1.filter fun u=>u.1==g.1&&inP u.2 f (t-1)).map fun u=>u.2)=Τ b g.1 f t from rfl];have h40:(Τ b g.1 f t).length≤40:=hud _ hU
   have hc40:(XW (Τ b g.1 f t)).length≤40:=by
    have:=EQ (Τ b g.1 f t);omega
   have hm:0≤((XW (Τ b g.1 f t)).length:Int)*g.2.2.2.2.2∧((XW (Τ b g.1 f t)).length:Int)*g.2.2.2.2.2≤40*1048576 :=
    ⟨f9 (by omega) hg.1,fF (by omega) hg.2 hg.1 (by omega)⟩
   have b1:=hlb b.2.2.2.1.length;rw[List.take_length] at b1;dsimp only;rw[Ó (by omega),Am.iff_true,Ó (by rw[acb]; omega),Am.iff_true,al8,Ü,Ò (by omega) (by omega),Ò (by omega) (by omega)];rfl
abbrev Lk:Type:=Int×Int×Int
inductive Wl (L:List Lk) (S:Int→Prop):List Int→Int→Int→Prop
 |nil {v:Int}:S v→Wl L S [] v 0
 |step {vs:List Int} {u v m d:Int}:Wl L S vs u d→(u,v,m)∈L→Wl L S (u::vs) v (d+m)
def Pot (L:List Lk) (p:Int→Int):Prop:=∀u v m,(u,v,m)∈L→p v≤p u+m
def InR (L:List Lk) (N:Nat):Prop:=∀l∈L,(0≤l.1∧l.1<N)∧(0≤l.2.1∧l.2.1<N)
section
variable {L:List Lk} {S:Int→Prop} {N:Nat} {p:Int→Int}
def Wl.cut (hp:Pot L p) {vs:List Int} {v d:Int} (h:Wl L S vs v d):∀x∈vs,∃vs1 d1,Wl L S vs1 x d1∧(x::vs1) <:+ vs∧d1+(p v-p x)≤d:=by
 induction h with
 |nil h=>intro x hx; cases hx
 | @step vs u v m d hw hl ih =>
  intro x hx;have h1:=hp u v m hl;rcases di.1 hx with rfl|hx
  ·exact⟨vs,d,hw,List.suffix_refl _,by omega⟩
  ·obtain⟨vs1,d1,g1,g2,g3⟩:=ih x hx;exact⟨vs1,d1,g1,g2.trans (List.suffix_cons _ _),by omega⟩
def Wl.simple (hp:Pot L p) {vs:List Int} {v d:Int} (h:Wl L S vs v d):∃vs' d',Wl L S vs' v d'∧d'≤d∧(v::vs').Nodup:=by
 induction h with
 |nil h=>exact⟨[],0,.nil h,dQ _,by simp⟩
 | @step vs u v m d hw hl ih =>
  obtain⟨vs1,d1,g1,g2,g3⟩:=ih;have hw1:=Wl.step g1 hl
  by_cases hv:v∈u::vs1
  ·obtain⟨vs2,d2,k1,k2,k3⟩:=hw1.cut hp v hv;exact⟨vs2,d2,k1,by omega,g3.sublist k2.sublist⟩
  ·exact⟨u::vs1,d1+m,hw1,by omega,fX.2 ⟨hv,g3⟩⟩
def Wl.range (hL:InR L N) (hS:∀v,S v→0≤v∧v<N) {vs:List Int} {v d:Int} (h:Wl L S vs v d):(0≤v∧v<N)∧∀u∈vs,0≤u∧u<N:=by
 induction h with
 |nil h=>exact⟨hS _ h,fun u hu=>by cases hu⟩
 | @step vs u v m d hw hl ih =>
  refine⟨(hL _ hl).2,fun w hw'=>?_⟩;rcases di.1 hw' with rfl|h
  ·exact ih.1
  ·exact ih.2 w h
def aiJ:∀(N:Nat) (l:List Int),l.Nodup→(∀x∈l,0≤x∧x<N)→l.length≤N
 |0,l,_,h=>by
  cases l with
  |nil=>simp
  |cons a l=>have:=h a (by simp); omega
 |N+1,l,hn,h=>by
  have h1:(l.erase (N:Int)).length≤N:=aiJ N _ (hn.erase _) fun x hx=>by
   have h2:=(hn.mem_erase_iff).1 hx;have:=h x h2.2;have:=h2.1;omega
  have:=List.length_erase (a:=(N:Int)) (l:=l)
  split at this<;>omega
def Wl.short (hL:InR L N) (hS:∀v,S v→0≤v∧v<N) {vs:List Int} {v d:Int} (h:Wl L S vs v d) (hn:(v::vs).Nodup):vs.length+1≤N:=by
 have:=h.range hL hS
 exact aiJ N (v::vs) hn fun x hx=>by
  rcases di.1 hx with rfl|hx
  ·exact this.1
  ·exact this.2 x hx
def Mq (f:Lk→Bool):List Lk→Int
 |[]=>0
 |l::t=>(if f l then min l.2.2 0 else 0)+Mq f t
def amH (f:Lk→Bool):∀L:List Lk,Mq (fun _=>true) L≤Mq f L
 |[]=>dQ _
 |l::t=>by
  have:=amH f t;simp only[Mq,if_true]
  split<;>omega
def vu (f:Lk→Bool):∀L:List Lk,Mq f L≤0
 |[]=>dQ _
 |l::t=>by
  have:=vu f t;simp only[Mq]
  split<;>omega
def ai0 {f:Lk→Bool} {l:Lk} (hf:f l=true):∀{L:List Lk},l∈L→Mq f L≤l.2.2
 |a::t,h=>by
  simp only[Mq];rcases di.1 h with rfl|h
  ·have:=vu f t;rw[if_pos hf]; omega
  ·have:=ai0 hf h
   split<;>omega
def amG {f g:Lk→Bool} (h:∀l,f l=true→g l=false):∀L:List Lk,Mq (fun l=>f l||g l) L=Mq f L+Mq g L
 |[]=>rfl
 |l::t=>by
  have ih:=amG h t;simp only[Mq,ih]
  by_cases hf:f l=true
  ·simp[hf,h l hf]; omega
  ·have hf':f l=false:=by simpa using hf
   by_cases hg:g l=true
   ·simp[hf',hg]; omega
   ·simp[hf',hg]
def Wl.low {vs:List Int} {v d:Int} (h:Wl L S vs v d):vs.Nodup→Mq (fun l=>vs.contains l.1) L≤d:=by
 induction h with
 |nil h=>intro _; exact vu _ _
 | @step vs u v m d hw hl ih =>
  intro hn;rw[fX] at hn;have h1:=ih hn.2;have h2:Mq (fun l=>l.1==u) L≤m:=ai0 (f:=fun l=>l.1==u) (l:=(u,v,m)) (by simp) hl
  have h3:=amG (f:=fun l:Lk=>l.1==u) (g:=fun l=>vs.contains l.1) (fun l hf=>by
   simp only[beq_iff_eq] at hf;rw[hf]
   simpa using hn.1) L
  have h4:(fun l:Lk=>(u::vs).contains l.1)=fun l=>(l.1==u)||vs.contains l.1:=by funext l; rw[List.contains_cons]
  rw[h4,h3];omega
def NZ (L:List Lk):Int:=Mq (fun _=>true) L
def Wl.low' (hp:Pot L p) {vs:List Int} {v d:Int} (h:Wl L S vs v d):NZ L≤d:=by
 obtain⟨vs',d',h1,h2,h3⟩:=h.simple hp;have:=h1.low (List.nodup_cons.1 h3).2;have:=amH (fun l=>vs'.contains l.1) L;unfold NZ;omega
def Wl.high {M:Int} (hM:∀l∈L,l.2.2≤M) {vs:List Int} {v d:Int} (h:Wl L S vs v d):d≤vs.length*M:=by
 induction h with
 |nil h=>simp
 | @step vs u v m d hw hl ih =>
  have:=hM _ hl;simp only[dj,gB,gq,gC];simp only at this;omega
def Wl.lowM {M:Int} (hM:∀l∈L,-M≤l.2.2) {vs:List Int} {v d:Int} (h:Wl L S vs v d) : -(vs.length*M)≤d:=by
 induction h with
 |nil h=>simp
 | @step vs u v m d hw hl ih =>
  have:=hM _ hl;simp only[dj,gB,gq,gC];simp only at this;omega
def Wl.mono {S':Int→Prop} (hS:∀v,S v→S' v) {vs:List Int} {v d:Int} (h:Wl L S vs v d):Wl L S' vs v d:=by
 induction h with
 |nil h=>exact .nil (hS _ h)
 |step hw hl ih=>exact .step ih hl
def Wl.pot (hp:Pot L p) {vs:List Int} {v d:Int} (h:Wl L S vs v d):∃s,S s∧p v-p s≤d:=by
 induction h with
 | @nil v h=>exact⟨v,h,by omega⟩
 | @step vs u v m d hw hl ih =>
  obtain⟨s,h1,h2⟩:=ih;have:=hp u v m hl;exact⟨s,h1,by omega⟩
end
abbrev ď:Int:=1152921504606846976
structure alJ (L:List Lk) (S:Int→Prop) (N:Nat) (x:Int→Int):Prop where
 att:∀v:Int,0≤v→v<N→x v≠ď→∃vs,Wl L S vs v (x v)
 low:∀v vs d,Wl L S vs v d→x v≤d
 bd:∀v:Int,0≤v→v<N→x v≤ď
def alJ.uniq {L:List Lk} {S:Int→Prop} {N:Nat} {x y:Int→Int} (hx:alJ L S N x) (hy:alJ L S N y) {v:Int} (h0:0≤v) (h1:v<N):x v=y v:=by
 have key:∀{x y:Int→Int},alJ L S N x→alJ L S N y→x v≤y v:=by
  intro x y hx hy
  by_cases h:y v=ď
  ·rw[h]; exact hx.bd v h0 h1
  ·obtain⟨vs,hw⟩:=hy.att v h0 h1 h;exact hx.low v vs _ hw
 exact Int.le_antisymm (key hx hy) (key hy hx)
def gv (x:List Int) (v:Int):Int:=x[v.toNat]?.getD 0
def Xi {x:List Int} {v:Int} (h:v.toNat<x.length):x[v.toNat]?=some (gv x v):=by
 unfold gv; rw[List.getElem?_eq_getElem h]; rfl
def oK {x:List Int} {u v:Int} (hu:0≤u) (hv:0≤v) (h:u.toNat<x.length) (y:Int):gv (x.set u.toNat y) v=if v=u then y else gv x v:=by
 unfold gv;rw[List.getElem?_set]
 by_cases hvu:v=u
 ·subst hvu; simp[h]
 ·have:¬u.toNat=v.toNat:=by omega
  simp[hvu,this]
def ajd {x y:List Int} (hl:x.length=y.length) (h:∀v:Int,0≤v→v<x.length→gv x v=gv y v):x=y:=by
 refine List.ext_getElem hl fun i h1 h2=>?_;have:=h i (by omega) (by omega);unfold gv at this;simpa[h1,h2] using this
def mB (x:List Int) (l:Lk):List Int:=if gv x l.1<ď∧gv x l.1+l.2.2<gv x l.2.1 then x.set l.2.1.toNat (gv x l.1+l.2.2) else x
def Mm (L:List Lk) (x:List Int):List Int:=L.foldl mB x
def lG (L:List Lk):Nat→List Int→List Int
 |0,x=>x
 |n+1,x=>lG L n (Mm L x)
def oN (x:List Int) (l:Lk):(mB x l).length=x.length:=by unfold mB; split<;>simp
def yg (L:List Lk):∀x:List Int,(Mm L x).length=x.length:=by
 induction L with
 |nil=>intro x; rfl
 |cons l t ih=>intro x; show(Mm t (mB x l)).length=_; rw[ih,oN]
def Į (L:List Lk):∀(n:Nat) (x:List Int),(lG L n x).length=x.length
 |0,x=>rfl
 |n+1,x=>by rw[lG,Į L n,yg]
def Du (L:List Lk):∀(n:Nat) (x:List Int),lG L (n+1) x=Mm L (lG L n x)
 |0,x=>rfl
 |n+1,x=>by rw[lG,Du L n]; rfl
section
variable {L0:List Lk} {S:Int→Prop} {N:Nat}
def ack {x:List Int} {l:Lk} (hl:(0≤l.1∧l.1<N)∧(0≤l.2.1∧l.2.1<N)) (hx:x.length=N) (v:Int) (hv:0≤v):gv (mB x l) v≤gv x v:=by
 unfold mB
 split
 ·rename_i h;rw[oK hl.2.1 hv (by omega)]
  split
  ·rename_i h2; subst h2; omega
  ·exact dQ _
 ·exact dQ _
def E5:∀{L:List Lk},InR L N→∀{x:List Int},x.length=N→∀v,0≤v→gv (Mm L x) v≤gv x v
 |[],_,x,_,v,_=>dQ _
 |l::t,hL,x,hx,v,hv=>by
  have h1:=ack (hL l (by simp)) hx v hv;have h2:=E5 (L:=t) (fun l hl=>hL l (by simp[hl])) (x:=mB x l) (by rw[oN,hx]) v hv;show gv (Mm t (mB x l)) v≤_;omega
def IZ:∀{L:List Lk},InR L N→∀{x:List Int},x.length=N→∀u v m,(u,v,m)∈L→gv x u<ď→gv (Mm L x) v≤gv x u+m
 |l::t,hL,x,hx,u,v,m,hm,hf=>by
  have ht:InR t N:=fun l hl=>hL l (by simp[hl])
  have hx':(mB x l).length=N:=by rw[oN,hx]
  show gv (Mm t (mB x l)) v≤_;rcases di.1 hm with rfl|hm
  ·have hl:=hL (u,v,m) (by simp);have h2:=E5 ht hx' v hl.2.1
   have h3:gv (mB x (u,v,m)) v≤gv x u+m:=by
    unfold mB
    split
    ·rw[oK hl.2.1 hl.2.1 (by simp only at hl; simp only; omega),if_pos rfl]; exact dQ _
    ·rename_i h; simp only[not_and,Int.not_lt] at h; exact h hf
   omega
  ·have hl:=hL (u,v,m) (by simp[hm]);have h1:=ack (hL l (by simp)) hx u hl.1.1;have:=IZ ht hx' u v m hm (by omega);omega
def Att (L0:List Lk) (S:Int→Prop) (N:Nat) (x:List Int):Prop:=∀v:Int,0≤v→v<N→gv x v<ď→∃vs,Wl L0 S vs v (gv x v)
def akj {x:List Int} {l:Lk} (hl:(0≤l.1∧l.1<N)∧(0≤l.2.1∧l.2.1<N)) (hm:l∈L0) (hx:x.length=N) (h:Att L0 S N x):Att L0 S N (mB x l):=by
 unfold mB
 split
 ·rename_i hc;intro v h0 h1 hf;rw[oK hl.2.1 h0 (by omega)] at hf ⊢
  split
  ·rename_i h2;obtain⟨vs,hw⟩:=h l.1 hl.1.1 hl.1.2 hc.1;exact⟨_,h2▸Wl.step hw hm⟩
  ·rename_i h2;rw[if_neg h2] at hf;exact h v h0 h1 hf
 ·exact h
def acu:∀{L:List Lk},InR L N→(∀l∈L,l∈L0)→∀{x:List Int},x.length=N→Att L0 S N x→Att L0 S N (Mm L x)
 |[],_,_,_,_,h=>h
 |l::t,hL,hsub,x,hx,h=>acu (L:=t) (fun l hl=>hL l (by simp[hl])) (fun l hl=>hsub l (by simp[hl])) (x:=mB x l) (by rw[oN,hx]) (akj (hL l (by simp)) (hsub l (by simp)) hx h)
def Wh (hL:InR L0 N):∀(n:Nat) {x:List Int},x.length=N→Att L0 S N x→Att L0 S N (lG L0 n x)
 |0,_,_,h=>h
 |n+1,x,hx,h=>Wh hL n (by rw[yg,hx]) (acu hL (fun _ h=>h) hx h)
def E4 (hL:InR L0 N):∀(n:Nat) {x:List Int},x.length=N→∀v,0≤v→gv (lG L0 n x) v≤gv x v
 |0,_,_,_,_=>dQ _
 |n+1,x,hx,v,hv=>Int.le_trans (E4 hL n (by rw[yg,hx]) v hv) (E5 hL hx v hv)
def vg (S:Int→Bool) (N:Nat):List Int:=(List.range N).map fun(i:Nat)=>if S i then 0 else ď
def jh (S:Int→Bool) {N:Nat} {v:Int} (h0:0≤v) (h1:v<N):gv (vg S N) v=if S v then 0 else ď:=by
 unfold gv vg
 have:v.toNat<N:=by omega
 rw[f5,fq this];simp only[d9,fD];rw[Int.toNat_of_nonneg h0]
def ú (S:Int→Bool) (N:Nat):(vg S N).length=N:=by simp[vg]
end
def IY {L:List Lk} {S:Int→Bool} {N:Nat} {M:Int} (hL:InR L N) (hS:∀v,S v=true→0≤v∧v<N) (hM:∀l∈L,l.2.2≤M):∀(n:Nat),n*M<ď→0≤M→∀vs v d,Wl L (fun v=>S v=true) vs v d→vs.length≤n→gv (lG L n (vg S N)) v≤d
 |0,_,_,vs,v,d,hw,hl=>by
  cases hw with
  |nil h =>
   have:=hS v h;rw[lG,jh S this.1 this.2,if_pos h]; exact dQ _
  |step=>simp at hl
 |n+1,hn,hM0,vs,v,d,hw,hl=>by
  have hn':n*M<ď:=by rw[gB,gq,gC] at hn; omega
  have hlen:(lG L n (vg S N)).length=N:=by rw[Į,ú]
  rw[Du]
  cases hw with
  |nil h =>
   have h1:=E5 hL hlen v (hS v h).1;have h2:=IY hL hS hM n hn' hM0 [] v 0 (.nil h) (by simp);omega
  | @step vs u _ m d hw hlk =>
   have h2:=IY hL hS hM n hn' hM0 vs u d hw (by simpa using hl);have h3:=hw.high hM;have h4:(vs.length:Int)*M≤n*M:=fO (by simp at hl; omega) hM0;have:=IZ hL hlen u v m hlk (by omega);omega
def OM {L:List Lk} {S:Int→Bool} {N:Nat} {M:Int} {p:Int→Int} (hp:Pot L p) (hL:InR L N) (hS:∀v,S v=true→0≤v∧v<N) (hM:∀l∈L,l.2.2≤M) (hM0:0≤M) (hN:N*M<ď) (n:Nat) (hn:N≤n+1):alJ L (fun v=>S v=true) N (gv (lG L n (vg S N))):=by
 have hatt:Att L (fun v=>S v=true) N (vg S N):=fun v h0 h1 hf=>by
  rw[jh S h0 h1] at hf ⊢
  split
  ·rename_i h; exact⟨[],.nil h⟩
  ·rename_i h; rw[if_neg h] at hf; omega
 have hbd:∀v:Int,0≤v→v<N→gv (lG L n (vg S N)) v≤ď:=fun v h0 h1=>by
  have:=E4 hL n (ú S N) v h0;rw[jh S h0 h1] at this
  have hF:(0:Int)≤ď:=by decide
  split at this<;>omega
 have hlow:∀(n:Nat),N≤n+1→∀v vs d,Wl L (fun v=>S v=true) vs v d→gv (lG L n (vg S N)) v≤d:=by
  intro n hn v vs d hw;obtain⟨vs',d',h1,h2,h3⟩:=hw.simple hp;have h4:=h1.short hL hS h3
  have hpos:0<N:=by omega
  obtain⟨k,rfl⟩:∃k,N=k+1:=⟨N-1,by omega⟩
  have hk:(k:Int)*M<ď:=by rw[gB,gq,gC] at hN; omega
  have h5:=IY hL hS hM k hk hM0 vs' v d' h1 (by omega);obtain⟨j,rfl⟩:∃j,n=k+j:=⟨n-k,by omega⟩
  have h6:∀(j:Nat),gv (lG L (k+j) (vg S (k+1))) v≤gv (lG L k (vg S (k+1))) v:=by
   intro j
   induction j with
   |zero=>exact dQ _
   |succ j ih =>
    rw[←fh,Du];have:=E5 hL (x:=lG L (k+j) (vg S (k+1))) (by rw[Į,ú]) v (h1.range hL hS).1.1;omega
  have:=h6 j;omega
 exact⟨fun v h0 h1 hne=>Wh hL n (ú S N) hatt v h0 h1 (by have:=hbd v h0 h1; omega),hlow n hn,hbd⟩
def alJ.pot {L:List Lk} {S:Int→Prop} {N:Nat} {x:Int→Int} (h:alJ L S N x) (hL:InR L N) {u v m:Int} (hl:(u,v,m)∈L) (hf:x u≠ď):x v≤x u+m:=by
 obtain⟨vs,hw⟩:=h.att u (hL _ hl).1.1 (hL _ hl).1.2 hf;exact h.low v _ _ (.step hw hl)
def á (b:Þ) (g:é):List Lk :=
 [(0,atP (Ì b) [g.1] g.2.1,g.2.2.1+g.2.2.2.1.2),(atP (Ì b) [g.1] g.2.1,0,-(g.2.2.1+g.2.2.2.1.1))] ++
 (List.range ((ß b g).length-1)).flatMap fun(k:Nat)=>[(atP (Ì b) [g.1] g.2.1+k,atP (Ì b) [g.1] g.2.1+k+1,0),(atP (Ì b) [g.1] g.2.1+k+1,atP (Ì b) [g.1] g.2.1+k,ii b g ((ß b g)[k]?.getD 0) ((ß b g)[k+1]?.getD 0))]
def cx (b:Þ) (c:Cmp):Int:=atP (Ì b) (ç c.2.2.1 c.2.2.2.1) c.2.1
def cy (b:Þ) (c:Cmp):Int:=atP (Ì b) (ç c.2.2.2.1 c.2.2.1) c.2.1
def ø (b:Þ) (c:Cmp):List Lk:=[(cy b c,cx b c,(Ū b c).2),(cx b c,cy b c,-(Ū b c).1)]
def Ø (b:Þ):List Lk:=b.2.1.flatMap (á b)++b.2.2.2.2.1.flatMap (ø b)
def à (b:Þ) (i:Nat) (g:é):List (Int×Int):=[(1,(i:Int)),(1,(i:Int))]++(List.range ((ß b g).length-1)).flatMap fun _=>[(2,(i:Int)),(2,(i:Int))]
def ĥ (b:Þ):List (Int×Int):=(b.2.1.mapIdx (à b)).flatten++(b.2.2.2.2.1.mapIdx fun i _=>[(3,(i:Int)),(3,(i:Int))]).flatten
section
variable {b:Þ}
def Ov (h:Ċ b) {id day:Int} (hu:af8 (Ť b) id day=0):(0≤day∧day≤20000)∧∃g,ł b id=some g∧g.2.1≤day:=by
 unfold af8 at hu
 split at hu
 ·omega
 ·rename_i hd;simp only[eO,Bool.not_eq_false,Il,inP,cZ,decide_eq_true_eq] at hd;exact⟨hd,Jc h hu⟩
def iw {g:é} {d:Int}:d∈ß b g↔d=g.2.1∨(∃c∈b.2.2.2.2.1,(c.2.2.1.contains g.1)≠(c.2.2.2.1.contains g.1)∧c.2.1=d)∨(∃n∈b.2.2.2.2.2,n.1=g.1∧n.2=d):=by
 unfold ß;rw[qW,ahK];simp only[List.mem_append,List.mem_singleton,List.mem_map,List.mem_filter];constructor
 ·rintro((h|⟨c,⟨h1,h2⟩,h3⟩)|⟨n,⟨h1,h2⟩,h3⟩)
  ·exact .inl h
  ·exact .inr (.inl ⟨c,h1,by simpa using h2,h3⟩)
  ·exact .inr (.inr ⟨n,h1,by simpa using h2,h3⟩)
 ·rintro(h|⟨c,h1,h2,h3⟩|⟨n,h1,h2,h3⟩)
  ·exact .inl (.inl h)
  ·exact .inl (.inr ⟨c,⟨h1,by simpa using h2⟩,h3⟩)
  ·exact .inr ⟨n,⟨h1,by simpa using h2⟩,h3⟩
def Ċ.gaugeR (h:Ċ b) {g:é} (hg:g∈b.2.1):Lt g.2.2.2.2.1=true∧(-1000≤g.2.2.2.2.1.1∧g.2.2.2.2.1.1≤1000)∧g.2.2.2.2.1.2≤100∧(1≤g.1∧g.1≤1099511627776)∧(0≤g.2.1∧g.2.1≤20000)∧(1≤g.2.2.1∧g.2.2.1≤1125899906842624)∧(-1073741824≤g.2.2.2.1.1∧g.2.2.2.1.1≤g.2.2.2.1.2∧g.2.2.2.1.2≤1073741824)∧(0≤g.2.2.2.2.2∧g.2.2.2.2.2≤1048576):=(uM g).1 (h.gauge g hg)
def Ċ.day (h:Ċ b) {g:é} (hg:g∈b.2.1) {d:Int} (hd:d∈ß b g):g.2.1≤d∧0≤d∧d≤20000:=by
 have hr:=h.gaugeR hg;have hgo:=ű h.ids hg;rcases iw.1 hd with rfl|⟨c,hc,h1,rfl⟩|⟨n,hn,h1,rfl⟩
 ·have:=hr.2.2.2.2.1; omega
 ·have hn:=(Η c).1 (h.nums hc)
  have hx:g.1∈c.2.2.1++c.2.2.2.1:=by
   rw[dh]
   by_cases h2:g.1∈c.2.2.1
   ·exact .inl h2
   ·refine .inr ?_
    have e1:c.2.2.1.contains g.1=false:=by simpa using h2
    rw[e1] at h1
    have:c.2.2.2.1.contains g.1=true:=by cases hh:c.2.2.2.1.contains g.1<;>simp_all
    simpa using this
  obtain⟨⟨g',h3,h4⟩,_⟩:=h.pile hc hx;rw[hgo] at h3; cases h3;have:=hn.2.1;omega
 ·obtain⟨h2,g',h3,h4⟩:=Ov h (h.looks n hn);rw[h1,hgo] at h3; cases h3;omega
def kK (g:é):g.2.1∈ß b g:=iw.2 (.inl rfl)
def Ij (h:Ċ b) {g:é} (hg:g∈b.2.1):(ß b g).length≤59:=by
 have h1:∀l:List é,g∈l→(ß b g).length≤(l.flatMap fun g=>(ß b g).map fun d=>((g.1,d):Int×Int)).length:=by
  intro l
  induction l with
  |nil=>intro hg; cases hg
  |cons a t ih =>
   intro hg;rw[dM,dc,dY];rcases di.1 hg with rfl|hg
   ·omega
   ·have:=ih hg; omega
 have:=h1 b.2.1 hg;have:=h.nodes;unfold Ì at this;omega
def aow {p:List Int} {d:Int}:0≤atP (Ì b) p d∧atP (Ì b) p d≤(Ì b).length:=by
 unfold atP
 cases p with
 |nil=>simp
 |cons x t =>
  try dsimp only
  cases h:jf (Ì b) x d with
  |none=>simp
  |some j=>have:=(mJ h).1; dsimp only; omega
def Dp (h:Ċ b) {c:Cmp} (hc:c∈b.2.2.2.2.1):(-1125904000000000≤(Ū b c).1∧(Ū b c).1≤1125904000000000)∧(-1125904000000000≤(Ū b c).2∧(Ū b c).2≤1125904000000000):=by
 obtain⟨r1,r2⟩:=h.rates hc;have hn:=(Η c).1 (h.nums hc);have ha:=Ĵ hn.2.2.2.2.2.1;have hb:=Ĵ hn.2.2.2.2.2.2;have hf:=h.film;obtain⟨g1,g2⟩:=Yh (Oy r1 r2) hn.2.2.2.2.1;have fb:=wL (b:=b) (c:=c) (by omega) (by omega) (by omega) (by omega) (by omega) (by omega);have q1:qS (Ĭ b c).1 2000000000 10000:=g1;have q2:qS (Ĭ b c).2 2000000000 10000:=g2;have c1:=Bu q1;have c2:=wJ q2;have n3:=hn.2.2.1;have n4:=hn.2.2.2.1;unfold Ū
 try dsimp only
 omega
def kY (h:Ċ b) {g:é} (hg:g∈b.2.1) {f t:Int} (hf:0≤f):0≤ii b g f t∧ii b g f t≤12*(20001*1048576)+40*1048576:=by
 have hr:=(h.gaugeR hg).2.2.2.2.2.2.2;have h1:=tj (id:=g.1) (t:=t) hf (x:=b.2.2.2.1) fun l hl=>A2 h hl;have h2:(b.2.2.2.1.length:Int)*(20001*1048576)≤12*(20001*1048576):=fO (by have:=h.nL; omega) (by omega)
 have h3:(Τ b g.1 f t).length≤40:=by
  unfold Τ;rw[List.length_map];exact Nat.le_trans (List.length_filter_le _ _) h.nU
 have h4:=EQ (Τ b g.1 f t)
 have hm:0≤((XW (Τ b g.1 f t)).length:Int)*g.2.2.2.2.2∧((XW (Τ b g.1 f t)).length:Int)*g.2.2.2.2.2≤40*1048576 :=
  ⟨f9 (by omega) hr.1,fF (by omega) hr.2 hr.1 (by omega)⟩
 unfold ii;omega
end
def iI {α β:Type} (f:Nat→α→β) {l:List α} {i:Nat} {a:α} (h:l[i]?=some a):(l.take (i+1)).mapIdx f=(l.take i).mapIdx f++[f i a]:=by
 have hi:i<l.length:=(df.1 h).1
 have:(l.take i).length=i:=by rw[dm]; omega
 rw[take_succ h,List.mapIdx_append];simp[this]
def tM {α:Type} (f:Nat→List α) (j:Nat):(List.range (j+1)).flatMap f=(List.range j).flatMap f++f j:=by
 rw[List.range_succ,eZ]; simp
def Ņ {α:Type} (f:Nat→List α) (n:Nat) (h:∀k,(f k).length=2):((List.range n).flatMap f).length=2*n:=by
 induction n with
 |zero=>rfl
 |succ n ih=>rw[tM,dc,ih,h]; omega
set_option maxHeartbeats 2000000 in
def ai4 {b:Þ} (h:Ċ b):Ie b=some (b,Ì b,(((Ì b).length:Int)+1,Ø b),ĥ b):=by
 unfold Ie aaA;have hN:=h.nodes;have hG:=h.nG;have hC:=h.nC;rw[Yn h.size,À,Ü,Ò (by omega) (by omega)]
 -- lengths of what comes
 have gl:∀g∈b.2.1,(á b g).length≤120∧∀i,(à b i g).length≤120:=by
  intro g hg;have:=Ij h hg;constructor
  ·unfold á;rw[List.length_append,Ņ _ _ (fun _=>rfl)];simp only[List.length_cons,List.length_nil]; omega
  ·intro i;unfold à;rw[List.length_append,Ņ _ _ (fun _=>rfl)];simp only[List.length_cons,List.length_nil]; omega
 have gls:∀i,((b.2.1.take i).flatMap (á b)).length≤1440∧(((b.2.1.take i).mapIdx (à b)).flatten).length≤1440:=by
  intro i
  induction i with
  |zero=>simp
  |succ i ih =>
   have key:∀i,i≤b.2.1.length→((b.2.1.take i).flatMap (á b)).length≤i*120∧(((b.2.1.take i).mapIdx (à b)).flatten).length≤i*120:=by
    intro i
    induction i with
    |zero=>intro _; simp
    |succ i ih =>
     intro hi;have ih:=ih (by omega);have hg:b.2.1[i]?=some b.2.1[i]:=cX hi;have h2:=gl _ (dg hg);have h3:=h2.2 i;rw[iI _ hg,take_succ hg,eZ,fP,dc,dc];simp only[dM,gR,dU,f7,gy];omega
   rcases dA b.2.1.length (i+1) with h1|h1
   ·rw[er (by omega)];have:=key b.2.1.length (cY _);rw[gT] at this;omega
   ·have:=key (i+1) h1;omega
 refine ë b.2.1 (fun i=>((b.2.1.take i).flatMap (á b),((b.2.1.take i).mapIdx (à b)).flatten)) _ rfl (fun i g hi hg kn=>?_) (fun kn=>?_)
 ·try dsimp only
  unfold wo;have hgm:=List.mem_of_getElem? hg;have hr:=h.gaugeR hgm;have hd:=Ij h hgm;have hls:=gls i;have hat:=aow (b:=b) (p:=[g.1]) (d:=g.2.1);rw[Ð hi,Ç hg];rw[show pl ((b.1.1,b.1.2),b.2.1,b.2.2.1,b.2.2.2.1,b.2.2.2.2.1,b.2.2.2.2.2) g=pl b g from rfl,anE h.size,À];rw[aov _ _ _ (by dsimp only; omega),À]
  try dsimp only
  have r1:=hr.2.2.2.2.2.1;have r2:=hr.2.2.2.2.2.2.1;rw[Ò (by omega) (by omega),Ò (by omega) (by omega),Ò (by omega) (by omega),Ó (by simp only[dj,dE]; omega),Am.iff_true,Ó (by simp only[dj,dE]; omega),Am.iff_true]
  refine ġ (fun x:Int×List Lk×List (Int×Int)=>∃j:Nat,j+1≤(ß b g).length∧x.1=(j:Int)+1 ∧
   x.2.1=(b.2.1.take i).flatMap (á b)++([(0,atP (Ì b) [g.1] g.2.1,g.2.2.1+g.2.2.2.1.2),(atP (Ì b) [g.1] g.2.1,0,-(g.2.2.1+g.2.2.2.1.1))] ++
    (List.range j).flatMap fun(k:Nat)=>[(atP (Ì b) [g.1] g.2.1+k,atP (Ì b) [g.1] g.2.1+k+1,0),(atP (Ì b) [g.1] g.2.1+k+1,atP (Ì b) [g.1] g.2.1+k,ii b g ((ß b g)[k]?.getD 0) ((ß b g)[k+1]?.getD 0))]) ∧
   x.2.2=((b.2.1.take i).mapIdx (à b)).flatten++([(1,(i:Int)),(1,(i:Int))]++(List.range j).flatMap fun _=>[(2,(i:Int)),(2,(i:Int))])) (fun x=>(ß b g).length-x.1.toNat) ?_
   ⟨0,gn (kK g),rfl,by simp,by simp⟩
  rintro⟨x1,ls,ss⟩ ⟨j,hj,e1,e2,e3⟩;dsimp only at e1 e2 e3 ⊢;subst e1
  have hlls:ls.length≤1562:=by
   rw[e2,dc,dc,Ņ _ _ (fun _=>rfl)];simp only[dj,dE]; omega
  have hlss:ss.length≤1562:=by
   rw[e3,dc,dc,Ņ _ _ (fun _=>rfl)];simp only[dj,dE]; omega
  rcases dA (j+1) (ß b g).length with hlt|hge
  ·refine .inr ⟨((j:Int)+1+1,_,_),⟨j+1,hlt,by push_cast; rfl,rfl,rfl⟩,by dsimp only; omega,fun kn'=>?_⟩
   try dsimp only
   unfold wn
   have g1:(ß b g)[j]?=some ((ß b g)[j]?.getD 0):=by rw[cX (by omega)]; rfl
   have g2:(ß b g)[j+1]?=some ((ß b g)[j+1]?.getD 0):=by rw[cX hlt]; rfl
   have d1:=h.day hgm (dg g1);have d2:=h.day hgm (dg g2);have lb:=kY h hgm (t:=(ß b g)[j+1]?.getD 0) d1.2.1
   have ec:((j:Int)+1)=((j+1:Nat):Int):=by push_cast; rfl
   rw[ec,Ð hlt,Ò (by omega) (by omega),Ò (by omega) (by omega),Ò (by omega) (by omega),Ò (by omega) (by omega)];rw[show(((j+1:Nat):Int)-1)=((j:Nat):Int) by omega,Ç g1,Ç g2];rw[show Bl ((b.1.1,b.1.2),b.2.1,b.2.2.1,b.2.2.2.1,b.2.2.2.2.1,b.2.2.2.2.2) (g.1,g.2.1,g.2.2.1,(g.2.2.2.1.1,g.2.2.2.1.2),(g.2.2.2.2.1.1,g.2.2.2.2.1.2),g.2.2.2.2.2) ((ß b g)[j]?.getD 0) ((ß b g)[j+1]?.getD 0)=Bl b g ((ß b g)[j]?.getD 0) ((ß b g)[j+1]?.getD 0) from rfl];rw[asg h hr.2.2.2.2.2.2.2 ⟨by omega,by omega⟩ ⟨by omega,by omega⟩,À,Ò (by omega) (by omega),Ò (by omega) (by omega),Ó (by simp only[dj,dE]; omega),Am.iff_true,Ó (by simp only[dj,dE]; omega),Am.iff_true,Ë hlt (by omega)];rw[tM,tM,e2,e3]
   have a1:atP (Ì b) [g.1] g.2.1+((j+1:Nat):Int)-1=atP (Ì b) [g.1] g.2.1+(j:Int):=by push_cast; omega
   have a2:atP (Ì b) [g.1] g.2.1+((j+1:Nat):Int)=atP (Ì b) [g.1] g.2.1+(j:Int)+1:=by push_cast; omega
   have a3:0-(0-ii b g ((ß b g)[j]?.getD 0) ((ß b g)[j+1]?.getD 0))=ii b g ((ß b g)[j]?.getD 0) ((ß b g)[j+1]?.getD 0):=by omega
   rw[a1,a2,a3];simp only[dz]
  ·refine .inl fun kn'=>?_
   have hje:j+1=(ß b g).length:=by omega
   unfold wn;rw[show((j:Int)+1)=(((ß b g).length:Nat):Int) by rw[←hje]; push_cast; rfl,Ù];dsimp only;rw[Ë hi (by omega)];rw[iI _ hg,take_succ hg,List.flatMap_append,List.flatten_append,e2,e3,show j=(ß b g).length-1 by omega];simp only[List.flatMap_cons,List.flatMap_nil,List.append_nil,List.flatten_cons,List.flatten_nil];rfl
 ·try dsimp only
  unfold wo;rw[Ù,List.take_length];have hls:=gls b.2.1.length;rw[List.take_length] at hls
  have cl:∀i,i≤b.2.2.2.2.1.length→((b.2.2.2.2.1.take i).flatMap (ø b)).length=2*i∧(((b.2.2.2.2.1.take i).mapIdx fun i _=>[((3:Int),(i:Int)),((3:Int),(i:Int))]).flatten).length=2*i:=by
   intro i
   induction i with
   |zero=>intro _; simp
   |succ i ih =>
    intro hi;have ih:=ih (by omega);have hg:b.2.2.2.2.1[i]?=some b.2.2.2.2.1[i]:=cX hi;rw[iI _ hg,take_succ hg,eZ,fP,dc,dc];simp only[dM,gR,dU,f7,gy,ø,dj,dE];omega
  refine ë b.2.2.2.2.1 (fun i=>(b.2.1.flatMap (á b)++(b.2.2.2.2.1.take i).flatMap (ø b),(b.2.1.mapIdx (à b)).flatten++((b.2.2.2.2.1.take i).mapIdx fun i _=>[((3:Int),(i:Int)),((3:Int),(i:Int))]).flatten)) _ (by simp) (fun i c hi hc kn'=>?_) (fun kn'=>?_)
  ·try dsimp only
   unfold wm;have hcm:=List.mem_of_getElem? hc;have hn:=(Η c).1 (h.nums hcm);have ha:=Ĵ hn.2.2.2.2.2.1;have hb:=Ĵ hn.2.2.2.2.2.2;have sb:=Dp h hcm;have c1:=cl i (by omega);rw[Ð hi,Ç hc,tm (by omega) (by omega),À,aov _ _ _ (by dsimp only; omega),À,tm (by omega) (by omega),À,aov _ _ _ (by dsimp only; omega),À];rw[show wT ((b.1.1,b.1.2),b.2.1,b.2.2.1,b.2.2.2.1,b.2.2.2.2.1,b.2.2.2.2.2) c=wT b c from rfl,h.says hcm,À];rw[Ò (by omega) (by omega),Ó (by simp only[List.length_append,List.length_cons,List.length_nil]; omega),Am.iff_true,Ó (by simp only[List.length_append,List.length_cons,List.length_nil]; omega),Am.iff_true,Ë hi (by omega),iI _ hc,take_succ hc,List.flatMap_append,List.flatten_append];simp only[List.flatMap_cons,List.flatMap_nil,List.append_nil,List.flatten_cons,List.flatten_nil,List.append_assoc,Int.zero_sub];rfl
  ·try dsimp only
   unfold wm;rw[Ù,List.take_length];rfl
section
variable {ρ:Type}
def wv (w:List Bool) (v:Int):Bool:=w[v.toNat]?.getD false
def aii {w:List Bool} {u v:Int} (hu:0≤u) (hv:0≤v) (h:u.toNat<w.length) (y:Bool):wv (w.set u.toNat y) v=if v=u then y else wv w v:=by
 unfold wv;rw[List.getElem?_set]
 by_cases hvu:v=u
 ·subst hvu; simp[h]
 ·have:¬u.toNat=v.toNat:=by omega
  simp[hvu,this]
def kQ {x:List Int} {v:Int} (h:v.toNat<x.length) (f:Int→Option ρ):Ĩ x v.toNat f=f (gv x v):=jI (Xi h) f
def Yo {w:List Bool} {v:Int} (h:v.toNat<w.length) (f:Bool→Option ρ):Ĩ w v.toNat f=f (wv w v):=by
 refine jI ?_ f;unfold wv; rw[List.getElem?_eq_getElem h]; rfl
def ă {v:Int} {n:Nat} (h0:0≤v) (h1:v<n) (x:Option ρ):è ((ile 0 v)&&(ilt v (n:Int))) x=x:=by
 have:((ile 0 v)&&(ilt v (n:Int)))=true:=by simp[ile,ilt,h0,h1]
 rw[this,Am.iff_true]
end
def qw (n least:Int):List Lk→List Int→List Bool→List Int→Bool×List Int×List Bool×List Int
 |[],x,w,q=>(true,x,w,q)
 |l::t,x,w,q =>
  if l.1≠n then qw n least t x w q else
  if gv x l.2.1≤gv x n+l.2.2 then qw n least t x w q else
  if gv x n+l.2.2<least then(false,x.set l.2.1.toNat (gv x n+l.2.2),w,q) else
  if wv w l.2.1 then qw n least t (x.set l.2.1.toNat (gv x n+l.2.2)) w q else qw n least t (x.set l.2.1.toNat (gv x n+l.2.2)) (w.set l.2.1.toNat true) (q++[l.2.1])
structure iU (L:List Lk) (N:Nat) (M:Int):Prop where
 inr:InR L N
 noloop:∀l∈L,l.1≠l.2.1
 most:∀l∈L,-M≤l.2.2∧l.2.2≤M
 len:L.length≤400
 nodes:N≤1000
 m0:0≤M
 m1:M≤4503599627370496
set_option maxHeartbeats 1000000 in
def aqa {ρ:Type} {L:List Lk} {N:Nat} {M:Int} (hL:iU L N M) {n least:Int} (hn:0≤n∧n<N) {x:List Int} {w:List Bool} {q:List Int} (hx:x.length=N) (hw:w.length=N) (hq:q.length≤1000000)
 (hb : -2305843009213693952≤gv x n∧gv x n≤2305843009213693952) (K0:(Val (.pair .bool (.pair (.slice tI) (.pair (.slice .bool) (.slice tI)))))→Option ρ) (K1:(Val (.pair (.slice tI) (.pair (.slice .bool) (.slice tI))))→Option ρ) :
 Í (fun(v47:(Val (.pair tI (.pair (.slice tI) (.pair (.slice .bool) (.slice tI)))))) kk52=>jw [] least n L (Ö L) v47.1 v47.2.1 v47.2.2.1 v47.2.2.2 (fun u48 u49 u50 u51=>kk52 (u48,u49,u50,u51)) K0 K1) ((0:Int),x,w,q) =
  match qw n least L x w q with
  |(true,r)=>K1 r
  |(false,r)=>K0 (false,r):=by
 have hlen:=hL.len
 refine Hz L (fun i (s:List Int×List Bool×List Int) t=>match qw n least t s.1 s.2.1 s.2.2 with|(true,r)=>K1 r|(false,r)=>K0 (false,r))
  (fun i s=>s.1.length=N∧s.2.1.length=N∧gv s.1 n=gv x n∧s.2.2.length≤1000000+i) (fun s hs kn=>?_) (fun i l t s hd hi hl hI kn hk=>?_) (s:=(x,w,q)) ⟨hx,hw,rfl,by simpa using hq⟩
 ·try dsimp only
  unfold jw;rw[Ù];rfl
 ·obtain⟨y,u,p⟩:=s;obtain⟨h1,h2,h3,h4⟩:=hI;dsimp only at h1 h2 h3 h4 hk ⊢;have hmem:l∈L:=List.mem_of_getElem? hl;have hr:=hL.inr l hmem;have hm:=hL.most l hmem;have hm1:=hL.m1;have hnl:=hL.noloop l hmem;unfold jw;rw[Ð hi,Ç hl];unfold qw
  by_cases hln:l.1=n
  ·have e0:ine l.1 n=false:=by simp[ine,hln]
   rw[Î e0];have e1:∀(f:Bool→Option ρ) (g:Option ρ),abR (k:=tI) (v:=.bool) (i:Int) [] f g=g:=fun f g=>rfl;rw[e1,if_neg (by simp[hln])]
   have tn:n.toNat<y.length:=by omega
   have tt:l.2.1.toNat<y.length:=by omega
   have tu:l.2.1.toNat<u.length:=by omega
   rw[ă hn.1 (by omega),kQ tn,Ò (by omega) (by omega),ă hr.2.1 (by omega),kQ tt,Č]
   by_cases hge:gv y l.2.1≤gv y n+l.2.2
   ·rw[if_pos (by simpa[ige] using hge),if_pos hge,Ë hi (by omega)];exact hk (y,u,p) ⟨h1,h2,h3,by dsimp only; omega⟩
   ·rw[if_neg (by simpa[ige] using hge),if_neg hge]
    have hset:gv (y.set l.2.1.toNat (gv y n+l.2.2)) n=gv x n:=by
     rw[oK hr.2.1 hn.1 tt,if_neg (fun h=>hnl (hln.trans h)),h3]
    have hself:gv (y.set l.2.1.toNat (gv y n+l.2.2)) l.2.1=gv y n+l.2.2:=by
     rw[oK hr.2.1 hr.2.1 tt,if_pos rfl]
    rw[ă hn.1 (by omega),kQ tn,Ò (by omega) (by omega),ă hr.2.1 (by omega),kQ tt];rw[show(ā (List.set y l.2.1.toNat (gv y n+l.2.2)))=((y.length:Nat):Int) by simp[ā]];rw[ă hr.2.1 (by omega),kQ (by simpa using tt),hself,Č]
    by_cases hlt:gv y n+l.2.2<least
    ·rw[if_pos (by simpa[ilt] using hlt),if_pos hlt]
    ·rw[if_neg (by simpa[ilt] using hlt),if_neg hlt,ă hr.2.1 (by omega),Yo tu,Č]
     cases hwv:wv u l.2.1 with
     |true =>
      rw[if_neg (by simp),if_pos rfl,Ë hi (by omega)];exact hk (y.set l.2.1.toNat (gv y n+l.2.2),u,p) ⟨by simpa using h1,h2,hset,by dsimp only; omega⟩
     |false =>
      rw[if_pos (by simp),if_neg (by simp),Ó (by simp only[dK]; omega),Am.iff_true,ă hr.2.1 (by omega),Yo tu,Ë hi (by omega)];exact hk (y.set l.2.1.toNat (gv y n+l.2.2),u.set l.2.1.toNat true,p++[l.2.1]) ⟨by simpa using h1,by simpa using h2,hset,by simp only[dc,dK]; omega⟩
  ·have e0:ine l.1 n=true:=by simp[ine,hln]
   rw[Ñ e0,if_pos hln,Ë hi (by omega)];exact hk (y,u,p) ⟨h1,h2,h3,by dsimp only; omega⟩
structure arc (N:Nat) (n least:Int) (L:List Lk) (x:List Int) (q:List Int) (x':List Int) (w':List Bool) (q':List Int):Prop where
 lx:x'.length=N
 lw:w'.length=N
 same:gv x' n=gv x n
 le:∀v:Int,0≤v→v<N→gv x' v≤gv x v
 link:∀v m,(n,v,m)∈L→gv x' v≤gv x n+m
 chg:∀v:Int,0≤v→v<N→gv x' v=gv x v∨(v∈q'∧gv x' v<gv x v∧∃m,(n,v,m)∈L∧gv x' v=gv x n+m∧least≤gv x' v)
 new:∃l,q'=q++l∧∀v∈l,(0≤v∧v<N)∧gv x' v<gv x v
 nodup:q'.Nodup
 waits:∀v:Int,0≤v→v<N→(wv w' v=true↔v∈q')
def lq {N:Nat} {n least:Int} (hn:0≤n∧n<N):∀{L:List Lk},InR L N→(∀l∈L,l.1≠l.2.1)→∀{x:List Int} {w:List Bool} {q:List Int},x.length=N→w.length=N→q.Nodup→(∀v:Int,0≤v→v<N→(wv w v=true↔v∈q)) →
 ∀{x':List Int} {w':List Bool} {q':List Int},qw n least L x w q=(true,x',w',q')→arc N n least L x q x' w' q'
 |[],_,_,x,w,q,hx,hw,hq,hwq,x',w',q',h=>by
  cases h;exact⟨hx,hw,rfl,fun _ _ _=>dQ _,fun _ _ h=>(by cases h),fun _ _ _=>.inl rfl,⟨[],by simp,fun _ h=>by cases h⟩,hq,hwq⟩
 |l::t,hL,hnl,x,w,q,hx,hw,hq,hwq,x',w',q',h=>by
  have hLt:InR t N:=fun l hl=>hL l (by simp[hl]);have hnt:∀l∈t,l.1≠l.2.1:=fun l hl=>hnl l (by simp[hl]);have hr:=hL l (by simp);have hl0:=hnl l (by simp);unfold qw at h
  split at h
  ·rename_i hne;have a:=lq hn hLt hnt hx hw hq hwq h
   exact⟨a.lx,a.lw,a.same,a.le,fun v m hm=>by
    rcases di.1 hm with rfl|hm
    ·exact(hne rfl).elim
    ·exact a.link v m hm,fun v h0 h1=>(a.chg v h0 h1).imp id fun⟨g1,g2,m,g3,g4⟩=>⟨g1,g2,m,by simp[g3],g4⟩,a.new,a.nodup,a.waits⟩
  ·rename_i hne
   have hln:l.1=n:=by simpa using hne
   split at h
   ·rename_i hle;have a:=lq hn hLt hnt hx hw hq hwq h
    exact⟨a.lx,a.lw,a.same,a.le,fun v m hm=>by
     rcases di.1 hm with rfl|hm
     ·have:=a.le v hr.2.1 hr.2.2; simp only at hle; omega
     ·exact a.link v m hm,fun v h0 h1=>(a.chg v h0 h1).imp id fun⟨g1,g2,m,g3,g4⟩=>⟨g1,g2,m,by simp[g3],g4⟩,a.new,a.nodup,a.waits⟩
   ·rename_i hgt
    split at h
    ·cases h
    ·rename_i hls
     have tt:l.2.1.toNat<x.length:=by omega
     have tw:l.2.1.toNat<w.length:=by omega
     have hy:(x.set l.2.1.toNat (gv x n+l.2.2)).length=N:=by simpa using hx
     have hyn:gv (x.set l.2.1.toNat (gv x n+l.2.2)) n=gv x n:=by
      rw[oK hr.2.1 hn.1 tt,if_neg (fun h=>hl0 (hln.trans h))]
     have hyv:∀v,0≤v→gv (x.set l.2.1.toNat (gv x n+l.2.2)) v=if v=l.2.1 then gv x n+l.2.2 else gv x v:=fun v h0=>oK hr.2.1 h0 tt _
     have hlm:(n,l.2.1,l.2.2)∈l::t:=by rw[←hln]; simp
     -- what both ways have in common
     have fin:∀{w1:List Bool} {q1:List Int},arc N n least t (x.set l.2.1.toNat (gv x n+l.2.2)) q1 x' w' q'→l.2.1∈q1→(∃l',q1=q++l'∧∀v∈l',v=l.2.1)→arc N n least (l::t) x q x' w' q':=by
      intro w1 q1 a hmem hq1;obtain⟨new,hnew,hnv⟩:=a.new;obtain⟨l',hl',hlv⟩:=hq1
      have hto:gv x' l.2.1≤gv x n+l.2.2:=by
       have:=a.le l.2.1 hr.2.1 hr.2.2;rw[hyv _ hr.2.1,if_pos rfl] at this;exact this
      refine⟨a.lx,a.lw,a.same.trans hyn,fun v h0 h1=>?_,fun v m hm=>?_,fun v h0 h1=>?_,⟨l'++new,by rw[hnew,hl',dz],fun v hv=>?_⟩,a.nodup,a.waits⟩
      ·have:=a.le v h0 h1;rw[hyv v h0] at this
       split at this
       ·rename_i e; subst e; omega
       ·exact this
      ·rcases di.1 hm with rfl|hm
       ·exact hto
       ·have:=a.link v m hm
        rwa [hyn] at this
      ·rcases a.chg v h0 h1 with g|⟨g1,g2,m,g3,g4,g5⟩
       ·rw[hyv v h0] at g
        split at g
        ·rename_i e;subst e;exact .inr ⟨by rw[hnew]; exact eF _ hmem,by omega,l.2.2,hlm,g,by omega⟩
        ·exact .inl g
       ·rw[hyv v h0] at g2;rw[hyn] at g4;refine .inr ⟨g1,?_,m,by simp[g3],g4,g5⟩
        split at g2
        ·rename_i e; subst e; omega
        ·exact g2
      ·rcases dh.1 hv with hv|hv
       ·rw[hlv v hv]; exact⟨hr.2,by omega⟩
       ·obtain⟨g1,g2⟩:=hnv v hv;rw[hyv v g1.1] at g2;refine⟨g1,?_⟩
        split at g2
        ·rename_i e; subst e; omega
        ·exact g2
     split at h
     ·rename_i hwt;exact fin (w1:=w) (lq hn hLt hnt hy hw hq hwq h) ((hwq _ hr.2.1 hr.2.2).1 hwt) ⟨[],by simp,fun _ h=>by cases h⟩
     ·rename_i hwt;have hnq:l.2.1∉q:=fun hc=>hwt ((hwq _ hr.2.1 hr.2.2).2 hc);refine fin (w1:=w.set l.2.1.toNat true) (lq hn hLt hnt hy (by simpa using hw) ?_ ?_ h) (by simp) ⟨[l.2.1],rfl,fun v hv=>by simpa using hv⟩
      ·rw[List.nodup_append];exact⟨hq,by simp,fun a ha b hb=>by simp at hb; subst hb; exact fun e=>hnq (e▸ha)⟩
      ·intro v h0 h1;rw[aii hr.2.1 h0 tw]
       by_cases hv:v=l.2.1
       ·simp[hv]
       ·simp only[hv,if_false,dh,dk,or_false];exact hwq v h0 h1
def ob {n least:Int}:∀{L:List Lk},(∀l∈L,l.1≠l.2.1)→(∀l∈L,0≤l.2.1)→0≤n→∀{x:List Int} {w:List Bool} {q:List Int} {r},qw n least L x w q=(false,r)→∃v m,(n,v,m)∈L∧gv x n+m<least
 |[],_,_,_,x,w,q,r,h=>by cases h
 |l::t,hnl,h0,hn,x,w,q,r,h=>by
  have hnt:∀l∈t,l.1≠l.2.1:=fun l hl=>hnl l (by simp[hl]);have h0t:∀l∈t,0≤l.2.1:=fun l hl=>h0 l (by simp[hl]);have up:(∃v m,(n,v,m)∈t∧gv x n+m<least)→∃v m,(n,v,m)∈l::t∧gv x n+m<least:=fun⟨v,m,g1,g2⟩=>⟨v,m,by simp[g1],g2⟩;unfold qw at h
  split at h
  ·exact up (ob hnt h0t hn h)
  ·rename_i hne
   have hln:l.1=n:=by simpa using hne
   split at h
   ·exact up (ob hnt h0t hn h)
   ·split at h
    ·rename_i hlt;exact⟨l.2.1,l.2.2,by rw[←hln]; simp,hlt⟩
    ·have hyn:gv (x.set l.2.1.toNat (gv x n+l.2.2)) n=gv x n:=by
      unfold gv;rw[List.getElem?_set];have h1:=hnl l (by simp);have h2:=h0 l (by simp)
      have:¬l.2.1.toNat=n.toNat:=by omega
      simp[this]
     split at h
     ·have:=ob hnt h0t hn h;rw[hyn] at this;exact up this
     ·have:=ob hnt h0t hn h;rw[hyn] at this;exact up this
def aiY {ρ:Type} {L:List Lk} {N:Nat} {M:Int} (hL:iU L N M) {n least:Int} (hn:0≤n∧n<N) {x:List Int} {w:List Bool} {t rest:List Int} (hx:x.length=N) (hw:w.length=N) (ht:t.length=N) (hq:rest.length≤1000000)
 (hb : -2305843009213693952≤gv x n∧gv x n≤2305843009213693952) (htn:0≤gv t n∧gv t n≤1000000) (kn:List Int→List Bool→List Int→List Int→Option ρ) (k0:(Val (.pair .bool (.pair (.slice tI) (.pair (.slice .bool) (.pair (.slice tI) (.slice tI))))))→Option ρ) :
 ī [] least (N:Int) L x w t (n::rest) kn k0 =
  if (N:Int)+1<gv t n+1 then k0 (false,x,w.set n.toNat false,t.set n.toNat (gv t n+1),rest) else
  match qw n least L x (w.set n.toNat false) rest with
  |(true,x',w',q')=>kn x' w' (t.set n.toNat (gv t n+1)) q'
  |(false,x',w',q')=>k0 (false,x',w',t.set n.toNat (gv t n+1),q'):=by
 have hN:=hL.nodes
 have tn:n.toNat<x.length:=by omega
 have tw:n.toNat<w.length:=by omega
 have tt:n.toNat<t.length:=by omega
 unfold ī
 have e0:ieq (Ö (n::rest)) 0=false:=by
  rw[Ü];simp only[ieq,dj,beq_eq_false_iff_ne,ne_eq];omega
 have e1:ilt (0:Int) (ā (n::rest))=true:=by simp[ilt,ā]
 have e2:ile (1:Int) (ā (n::rest))=true:=by simp[ile,ā]; omega
 have e3:decide (1+(List.length (n::rest)-1)=List.length (n::rest))=true:=by simp; omega
 rw[Î e0,ğ e1];rw[show Ĩ (n::rest) 0=fun(f:Int→Option ρ)=>f n from rfl]
 try dsimp only
 rw[ğ e2,ğ e3,ă hn.1 (by omega),Yo tw,ă hn.1 (by omega),kQ tt,Ò (by omega) (by omega),ă hn.1 (by omega),kQ tt];rw[show(ā (List.set t n.toNat (gv t n+1)))=((t.length:Nat):Int) by simp[ā]];rw[ă hn.1 (by omega),kQ (by simpa using tt),oK hn.1 hn.1 tt,if_pos rfl,Ò (by omega) (by omega),Č];rw[show List.drop 1 (n::rest)=rest from rfl]
 by_cases hlt:(N:Int)+1<gv t n+1
 ·rw[if_pos (by simpa[igt] using hlt),if_pos hlt]
 ·rw[if_neg (by simpa[igt] using hlt),if_neg hlt];rw[aqa hL hn hx (w:=w.set n.toNat false) (by simpa using hw) hq hb];generalize qw n least L x (w.set n.toNat false) rest=r;obtain⟨b,x',w',q'⟩:=r
  cases b<;>rfl
def amo {ρ:Type} {L:List Lk} {N:Int} {least:Int} {x:List Int} {w:List Bool} {t:List Int} (kn:List Int→List Bool→List Int→List Int→Option ρ) (k0:(Val (.pair .bool (.pair (.slice tI) (.pair (.slice .bool) (.pair (.slice tI) (.slice tI))))))→Option ρ) :
 ī [] least N L x w t [] kn k0=k0 (true,x,w,t,[]):=by
 unfold ī
 have e0:ieq (Ö ([]:List Int)) 0=true:=by rw[Ü]; rfl
 rw[Ñ e0]
def aa0 (N:Nat) (t:List Int):Nat:=(t.map fun a=>((N:Int)+2-a).toNat).sum
def ai8 (N:Nat):∀(t:List Int) (i:Nat) (a b:Int),t[i]?=some a→a<b→a<(N:Int)+2→aa0 N (t.set i b)<aa0 N t
 |a0::t,0,a,b,h,h1,h2=>by
  simp at h; subst h;simp only[aa0,List.set_cons_zero,eV,List.sum_cons];omega
 |a0::t,i+1,a,b,h,h1,h2=>by
  have:=ai8 N t i a b (by simpa using h) h1 h2;simp only[aa0] at this;simp only[aa0,List.set_cons_succ,eV,List.sum_cons];omega
def ae4 {N:Nat} {t:List Int} {n:Int} (hn:n.toNat<t.length) (h:gv t n≤(N:Int)+1):aa0 N (t.set n.toNat (gv t n+1))<aa0 N t :=
 ai8 N t n.toNat (gv t n) _ (Xi hn) (by omega) (by omega)
structure alI (L:List Lk) (S:Int→Prop) (N:Nat) (M:Int) (k:Nat) (A B:List Int) (x:List Int) (w:List Bool) (t q:List Int):Prop where
 q_eq:q=A++B
 lx:x.length=N
 lw:w.length=N
 lt:t.length=N
 nodup:q.Nodup
 rng:∀v∈q,0≤v∧v<N
 waits:∀v:Int,0≤v→v<N→(wv w v=true↔v∈q)
 t0:∀v:Int,0≤v→v<N→0≤gv t v∧gv t v≤(k:Int)+1
 tA:∀v∈A,gv t v≤k
 low:∀vs v d,Wl L S vs v d→vs.length≤k→gv x v≤d
 nxt:∀vs u d,Wl L S vs u d→vs.length≤k→u∉A→∀v m,(u,v,m)∈L→gv x v≤d+m
 rel:∀u:Int,0≤u→u<N→u∉q→gv x u≠ď→∀v m,(u,v,m)∈L→gv x v≤gv x u+m
 att:∀v:Int,0≤v→v<N→gv x v≠ď→∃vs,Wl L S vs v (gv x v)
 bd:∀v:Int,0≤v→v<N→gv x v=ď∨gv x v≤((k:Int)+1)*M
 bA:∀v∈A,gv x v≤(k:Int)*M
 fin:∀v∈q,gv x v<ď
 kN:k+1≤N
 last:k+1=N→B=[]
section
variable {L:List Lk} {S:Int→Prop} {N:Nat} {M:Int} {p:Int→Int} {k:Nat} {A B x:List Int} {w:List Bool} {t q:List Int}
def N0 {a b:Nat} {M:Int} (h:a≤b) (hM:0≤M):(a:Int)*M≤(b:Int)*M:=fO (by omega) hM
def Wl.lt_free (hL:iU L N M) (hNM:N*M<ď) {vs:List Int} {v d:Int} (hw:Wl L S vs v d) (h:vs.length≤N):d<ď:=by
 have h1:=hw.high fun l hl=>(hL.most l hl).2;have h2:=N0 h hL.m0;omega
def alI.next (hL:iU L N M) (hNM:N*M<ď) (hS:∀v,S v→0≤v∧v<N) (h:alI L S N M k [] B x w t q) (hB:B≠[]):alI L S N M (k+1) B [] x w t q:=by
 have hM:=hL.m0
 have hq:q=B:=by simpa using h.q_eq
 have hk:k+1≠N:=fun e=>hB (h.last e);have hkN:=h.kN
 have low':∀vs v d,Wl L S vs v d→vs.length≤k+1→gv x v≤d:=by
  intro vs v d hw hl
  cases hw with
  |nil hs=>exact h.low [] v 0 (.nil hs) (by simp)
  | @step vs u _ m d hw hlk=>exact h.nxt vs u d hw (by simpa using hl) (by simp) v m hlk
 refine⟨by simp[hq],h.lx,h.lw,h.lt,h.nodup,h.rng,h.waits,fun v h0 h1=>⟨(h.t0 v h0 h1).1,by have:=(h.t0 v h0 h1).2; push_cast; omega⟩,fun v hv=>?_,low',fun vs u d hw hl hu v m hlk=>?_,h.rel,h.att,fun v h0 h1=>?_,fun v hv=>?_,h.fin,by omega,fun _=>rfl⟩
 ·have:=h.rng v (by rw[hq]; exact hv);have:=(h.t0 v this.1 this.2).2;push_cast; omega
 ·have h1:=low' vs u d hw hl;have h2:=hw.lt_free hL hNM (by omega);have h3:=(hw.range hL.inr hS).1;have:=h.rel u h3.1 h3.2 (by rw[hq]; exact hu) (by omega) v m hlk;omega
 ·rcases h.bd v h0 h1 with h2|h2
  ·exact .inl h2
  ·refine .inr ?_;have:=N0 (show k+1≤k+1+1 by omega) hM;push_cast at this ⊢;omega
 ·have h1:=h.rng v (by rw[hq]; exact hv);have h2:=h.fin v (by rw[hq]; exact hv);rcases h.bd v h1.1 h1.2 with h3|h3
  ·omega
  ·push_cast; exact h3
def alI.step {n:Int} {A':List Int} {least:Int} {x':List Int} {w':List Bool} {q':List Int} (hL:iU L N M) (hNM:N*M<ď) (hp:Pot L p) (hS:∀v,S v→0≤v∧v<N) (h:alI L S N M k (n::A') B x w t q)
 (ha:arc N n least L x (A'++B) x' w' q'):∃B',alI L S N M k A' B' x' w' (t.set n.toNat (gv t n+1)) q':=by
 have hM:=hL.m0
 have hq:q=n::(A'++B):=by simpa using h.q_eq
 have hkN:=h.kN;have hnr:=h.rng n (by rw[hq]; simp);have hnf:=h.fin n (by rw[hq]; simp)
 have hnd:n∉A'++B:=by have:=h.nodup; rw[hq,fX] at this; exact this.1
 have htn:n.toNat<t.length:=by have:=h.lt; omega
 have tset:∀v,0≤v→gv (t.set n.toNat (gv t n+1)) v=if v=n then gv t n+1 else gv t v:=fun v h0=>oK hnr.1 h0 htn _
 have hkM:((k:Int)+1)*M<ď:=by
  have:=N0 hkN hM;push_cast at this;omega
 have xle:∀v:Int,0≤v→v<N→gv x v≤ď:=fun v h0 h1=>by rcases h.bd v h0 h1 with h2|h2<;>omega
 obtain⟨l,hl,hlv⟩:=ha.new
 have att':∀v:Int,0≤v→v<N→gv x' v≠ď→∃vs,Wl L S vs v (gv x' v):=by
  intro v h0 h1 hne;rcases ha.chg v h0 h1 with g|⟨_,_,m,g3,g4,_⟩
  ·rw[g] at hne ⊢; exact h.att v h0 h1 hne
  ·obtain⟨vs,hw⟩:=h.att n hnr.1 hnr.2 (by omega);rw[g4]; exact⟨_,hw.step g3⟩
 refine⟨B++l,by rw[hl,dz],ha.lx,ha.lw,by rw[fo]; exact h.lt,ha.nodup,fun v hv=>?_,ha.waits,fun v h0 h1=>?_,fun v hv=>?_,fun vs v d hw hlen=>?_,fun vs u d hw hlen hu v m hlk=>?_,
  fun u h0 h1 hu hf v m hlk=>?_,att',fun v h0 h1=>?_,fun v hv=>?_,fun v hv=>?_,hkN,fun hk=>?_⟩
 ·rw[hl] at hv;rcases dh.1 hv with hv|hv
  ·exact h.rng v (by rw[hq]; simp only[di]; exact .inr hv)
  ·exact(hlv v hv).1
 ·rw[tset v h0];have h2:=h.t0 v h0 h1
  split
  ·have h3:=h.tA n (by simp);have h4:=h.t0 n hnr.1 hnr.2;omega
  ·exact h2
 ·have h1:=h.rng v (by rw[hq]; simp[hv]);rw[tset v h1.1,if_neg (fun e=>hnd (by rw[←e]; simp[hv]))];exact h.tA v (by simp[hv])
 ·have h1:=h.low vs v d hw hlen;have h2:=(hw.range hL.inr hS).1;have:=ha.le v h2.1 h2.2;omega
 ·have hvr:=(hL.inr _ hlk).2
  by_cases hun:u=n
  ·subst hun;have h1:=ha.link v m hlk;have h2:=h.low vs u d hw hlen;omega
  ·have h1:=h.nxt vs u d hw hlen (by simp[hun,hu]) v m hlk;have:=ha.le v hvr.1 hvr.2;omega
 ·have hvr:=(hL.inr _ hlk).2
  have heq:gv x' u=gv x u:=by
   rcases ha.chg u h0 h1 with g|⟨g,_⟩
   ·exact g
   ·exact(hu g).elim
  by_cases hun:u=n
  ·subst hun;have h1:=ha.link v m hlk;omega
  ·have hur:u∉q:=by
    rw[hq];intro hc;rcases di.1 hc with e|hc
    ·exact hun e
    ·exact hu (by rw[hl]; exact eF _ hc)
   have h2:=h.rel u h0 h1 hur (by rw[←heq]; exact hf) v m hlk;have:=ha.le v hvr.1 hvr.2;omega
 ·rcases ha.chg v h0 h1 with g|⟨_,_,m,g3,g4,_⟩
  ·rw[g]; exact h.bd v h0 h1
  ·have h2:=h.bA n (by simp);have h3:=(hL.most _ g3).2;simp only at h3;refine .inr ?_;rw[g4,gq,gC];omega
 ·have h1:=h.rng v (by rw[hq]; simp[hv]);have h2:=h.bA v (by simp[hv]);have:=ha.le v h1.1 h1.2;omega
 ·rw[hl] at hv;rcases dh.1 hv with hv|hv
  ·have h1:=h.rng v (by rw[hq]; simp only[di]; exact .inr hv);have h2:=h.fin v (by rw[hq]; simp only[di]; exact .inr hv);have:=ha.le v h1.1 h1.2;omega
  ·obtain⟨g1,g2⟩:=hlv v hv;have:=xle v g1.1 g1.2;omega
 ·rw[h.last hk]
  cases l with
  |nil=>rfl
  |cons v l =>
   exfalso;obtain⟨g1,g2⟩:=hlv v (by simp);have:=xle v g1.1 g1.2;obtain⟨vs,hw⟩:=att' v g1.1 g1.2 (by omega);obtain⟨vs',d',k1,k2,k3⟩:=hw.simple hp;have k4:=k1.short hL.inr hS k3;have:=h.low vs' v d' k1 (by omega);omega
def alI.done (hL:iU L N M) (hNM:N*M<ď) (hp:Pot L p) (hS:∀v,S v→0≤v∧v<N) (h:alI L S N M k A B x w t []):alJ L S N (gv x):=by
 have hkN:=h.kN;have hM:=hL.m0
 have hkM:((k:Int)+1)*M<ď:=by
  have:=N0 hkN hM;push_cast at this;omega
 have key:∀vs v d,Wl L S vs v d→vs.length+1≤N→gv x v≤d:=by
  intro vs v d hw
  induction hw with
  |nil hs=>intro _; exact h.low [] _ 0 (.nil hs) (by simp)
  | @step vs u v m d hw hlk ih =>
   intro hlen;simp only[dj] at hlen;have h1:=ih (by omega);have h2:=hw.lt_free hL hNM (by omega);have h3:=(hw.range hL.inr hS).1;have:=h.rel u h3.1 h3.2 (by simp) (by omega) v m hlk;omega
 refine⟨h.att,fun v vs d hw=>?_,fun v h0 h1=>?_⟩
 ·obtain⟨vs',d',k1,k2,k3⟩:=hw.simple hp;have:=key vs' v d' k1 (k1.short hL.inr hS k3);omega
 ·rcases h.bd v h0 h1 with h2|h2<;>omega
def aca {ρ:Type} {r:Option ρ} (hL:iU L N M) (hNM:N*M<ď) (hp:Pot L p) (hS:∀v,S v→0≤v∧v<N) (k0:(Val (.pair .bool (.pair (.slice tI) (.pair (.slice .bool) (.pair (.slice tI) (.slice tI))))))→Option ρ)
 (hK:∀x w t q,x.length=N→alJ L S N (gv x)→k0 (true,x,w,t,q)=r) (h:alI L S N M k A B x w t q) :
 Í (fun(v64:(Val (.pair (.slice tI) (.pair (.slice .bool) (.pair (.slice tI) (.slice tI)))))) kk69=>ī [] (NZ L) (N:Int) L v64.1 v64.2.1 v64.2.2.1 v64.2.2.2 (fun u65 u66 u67 u68=>kk69 (u65,u66,u67,u68)) k0) (x,w,t,q)=r:=by
 refine ġ (fun s:List Int×List Bool×List Int×List Int=>∃k A B,alI L S N M k A B s.1 s.2.1 s.2.2.1 s.2.2.2) (fun s=>aa0 N s.2.2.1) ?_ ⟨k,A,B,h⟩;rintro⟨x,w,t,q⟩ ⟨k,A,B,h⟩;dsimp only at h ⊢;have hN:=hL.nodes
 cases q with
 |nil=>exact .inl fun kn=>by rw[amo]; exact hK x w t [] h.lx (h.done hL hNM hp hS)
 |cons n rest =>
  -- the phase in which the first one is
  have hph:∃k A' B,alI L S N M k (n::A') B x w t (n::rest):=by
   cases A with
   |nil =>
    have hB:B=n::rest:=by simpa using h.q_eq.symm
    subst hB;exact⟨k+1,rest,[],h.next hL hNM hS (by simp)⟩
   |cons a A' =>
    have:=h.q_eq;simp only[ff,List.cons.injEq] at this;obtain⟨rfl,_⟩:=this;exact⟨k,A',B,h⟩
  clear h k A B;obtain⟨k,A',B,h⟩:=hph
  have hrest:rest=A'++B:=by have:=h.q_eq; simpa using this
  have hnr:=h.rng n (by simp);have hnf:=h.fin n (by simp);have hkN:=h.kN;have h1:=h.tA n (by simp);have h2:=h.t0 n hnr.1 hnr.2;obtain⟨vs,hw⟩:=h.att n hnr.1 hnr.2 (by omega);have hlow:=hw.low' hp
  have hneg : -(400*4503599627370496)≤NZ L:=by
   have:∀L':List Lk,(∀l∈L',-M≤l.2.2)→-((L'.length:Int)*M)≤NZ L':=by
    intro L'
    induction L' with
    |nil=>intro _; simp[NZ,Mq]
    |cons l t ih =>
     intro hh;have i1:=ih fun l hl=>hh l (by simp[hl]);have i2:=hh l (by simp);have i3:=hL.m0;unfold NZ at i1 ⊢;simp only[Mq,if_true,List.length_cons,Int.natCast_succ,Int.add_mul,Int.one_mul];omega
   have h3:=this L fun l hl=>(hL.most l hl).1;have h4:(L.length:Int)*M≤400*4503599627370496:=fF (by have:=hL.len; omega) hL.m1 hL.m0 (by omega);omega
  have hrl:rest.length≤1000000:=by
   have:=aiJ N (n::rest) h.nodup h.rng;simp only[dj] at this;omega
  refine .inr ?_
  have hw':(w.set n.toNat false).length=N:=by rw[fo]; exact h.lw
  cases hr:qw n (NZ L) L x (w.set n.toNat false) rest with
  |mk b r' =>
  obtain⟨x',w',q'⟩:=r'
  cases b with
  |false =>
   exfalso;obtain⟨v,m,g1,g2⟩:=ob hL.noloop (fun l hl=>(hL.inr l hl).2.1) hnr.1 hr;have:=(hw.step g1).low' hp;omega
  |true =>
   have hnd:=h.nodup;rw[fX] at hnd
   have ha:=lq hnr hL.inr hL.noloop h.lx hw' hnd.2 (fun v h0 h1=>by
    rw[aii hnr.1 h0 (by have:=h.lw; omega)]
    by_cases hv:v=n
    ·subst hv; simp[hnd.1]
    ·rw[if_neg hv,h.waits v h0 h1]
     simp[hv]) hr
   rw[hrest] at ha;obtain⟨B',hB'⟩:=h.step hL hNM hp hS ha;refine⟨(x',w',t.set n.toNat (gv t n+1),q'),⟨k,A',B',hB'⟩,ae4 (by have:=h.lt; omega) (by omega),fun kn=>?_⟩;have hF:ď=1152921504606846976:=rfl
   rw[aiY hL hnr h.lx h.lw h.lt hrl (by constructor<;>omega) (by constructor<;>omega),if_neg (by omega),hr]
end
def O8 (f:Lk→Bool):∀(L L':List Lk),Mq f (L++L')=Mq f L+Mq f L'
 |[],L'=>by simp[Mq]
 |l::t,L'=>by
  simp only[ff,Mq,O8 f t L'];omega
def ac2 {L:List Lk} {i:Nat} {l:Lk} (h:L[i]?=some l):NZ (L.take (i+1))=NZ (L.take i)+min l.2.2 0:=by
 rw[take_succ h,NZ,NZ,O8];simp[Mq]
def imin0 (e:Int):Xh e 0=min e 0:=by
 unfold Xh
 split<;>omega
def Yp {L:List Lk} {M:Int} (h:∀l∈L,-M≤l.2.2) (hM:0≤M) : -((L.length:Int)*M)≤NZ L:=by
 induction L with
 |nil=>simp[NZ,Mq]
 |cons l t ih =>
  have i1:=ih fun l hl=>h l (by simp[hl]);have i2:=h l (by simp);unfold NZ at i1 ⊢;simp only[Mq,if_true,List.length_cons,Int.natCast_succ,Int.add_mul,Int.one_mul];omega
def asc (L:List Lk):NZ L≤0:=vu _ L
section
variable {ρ:Type} {L:List Lk} {N:Nat} {M:Int}
def ai9 (hL:iU L N M) (k0:Int→Option ρ):Í (fun(v75:Val Â) kk78=>ig L (Ö L) v75.1 v75.2 (fun u76 u77=>kk78 (u76,u77)) k0) ((0:Int),(0:Int))=k0 (NZ L):=by
 refine ġ (fun x:Int×Int=>∃i:Nat,i≤L.length∧x=(NZ (L.take i),(i:Int))) (fun x=>L.length-x.2.toNat) ?_ ⟨0,by omega,rfl⟩;rintro x ⟨i,hi,rfl⟩;have hlen:=hL.len;rcases dA i L.length with h|h
 ·have hl:L[i]?=some L[i]:=cX h;refine .inr ⟨(NZ (L.take (i+1)),(i:Int)+1),⟨i+1,h,by simp⟩,by simp; omega,fun kn=>?_⟩
  try dsimp only
  unfold ig
  have hb:∀j,j≤L.length→-(400*4503599627370496)≤NZ (L.take j):=by
   intro j hj;have h1:=Yp (L:=L.take j) (fun l hl=>(hL.most l (List.mem_of_mem_take hl)).1) hL.m0;have h2:((L.take j).length:Int)*M≤400*4503599627370496:=fF (by rw[dm]; omega) hL.m1 hL.m0 (by omega);omega
  have h1:=hb i hi;have h2:=hb (i+1) h;have h3:=asc (L.take i);rw[ac2 hl] at h2;rw[Ð h,Ç hl,imin0,Ò (by omega) (by omega),Ë h (by omega),ac2 hl]
 ·refine .inl fun kn=>?_
  have:i=L.length:=by omega
  subst this
  try dsimp only
  unfold ig;rw[Ù,List.take_length]
def al3 {x:List Int} (hx:x.length=N) (hN:N≤1000) {r:Option ρ} (k0:(Val (.pair (.slice .bool) (.slice tI)))→Option ρ)
 (hK:∀(w:List Bool) (q:List Int),w.length=N→q.Nodup→(∀v∈q,0≤v∧v<N)→(∀v:Int,0≤v→v<N→(wv w v=true↔v∈q))→(∀v:Int,0≤v→v<N→(v∈q↔gv x v≠ď))→k0 (w,q)=r) :
 Í (fun(v70:(Val (.pair tI (.pair (.slice .bool) (.slice tI))))) kk74=>ŏ (N:Int) x v70.1 v70.2.1 v70.2.2 (fun u71 u72 u73=>kk74 (u71,u72,u73)) k0) ((0:Int),(List.replicate N false),([]:List Int))=r:=by
 refine ġ (fun s:Int×List Bool×List Int=>∃i:Nat,i≤N∧s.1=i∧s.2.1.length=N∧s.2.2.Nodup∧s.2.2.length≤i∧(∀v∈s.2.2,0≤v∧v<i)∧(∀v:Int,0≤v→v<N→(wv s.2.1 v=true↔v∈s.2.2))∧(∀v:Int,0≤v→v<i→(v∈s.2.2↔gv x v≠ď))) (fun s=>N-s.1.toNat) ?_
  ⟨0,by omega,rfl,by simp,by simp,by simp,by simp,fun v h0 h1=>?_,fun v h0 h1=>by omega⟩
 ·rintro⟨s,w,q⟩ ⟨i,hi,h1,h2,h3,h4,h5,h6,h7⟩;simp only at h1 h2 h3 h4 h5 h6 h7;subst h1;rcases dA i N with h|h
  ·refine .inr ?_
   have hix:i<x.length:=by omega
   have hiw:i<w.length:=by omega
   have hnq:((i:Int))∉q:=fun hc=>by have:=(h5 _ hc).2; omega
   by_cases hf:gv x i=ď
   ·refine⟨((i:Int)+1,w,q),⟨i+1,h,by simp,h2,h3,by simp only; omega,fun v hv=>⟨(h5 v hv).1,by have:=(h5 v hv).2; push_cast; omega⟩,h6,fun v h0 h1=>?_⟩,by simp; omega,fun kn=>?_⟩
    ·by_cases hv:v=i
     ·subst hv; simp[hf,hnq]
     ·exact h7 v h0 (by push_cast at h1; omega)
    ·try dsimp only
     unfold ŏ
     have e:ilt (i:Int) (N:Int)=true:=by simp[ilt,h]
     rw[Ñ e,iq hix,kQ (by simpa using hix)]
     have e2:ine (gv x i) 1152921504606846976=false:=by simp[ine,hf]
     rw[Î e2,Ë h (by omega)]
   ·refine⟨((i:Int)+1,w.set i true,q++[(i:Int)]),⟨i+1,h,by simp,by simpa using h2,?_,by simp; omega,fun v hv=>?_,fun v h0 h1=>?_,fun v h0 h1=>?_⟩,by simp; omega,fun kn=>?_⟩
    ·rw[List.nodup_append];exact⟨h3,by simp,fun a ha b hb=>by simp at hb; subst hb; exact fun e=>hnq (e▸ha)⟩
    ·rcases dh.1 hv with hv|hv
     ·exact⟨(h5 v hv).1,by have:=(h5 v hv).2; push_cast; omega⟩
     ·simp at hv; subst hv; push_cast; omega
    ·have:=aii (w:=w) (u:=(i:Int)) (by omega) h0 (by simpa using hiw) true;rw[dt] at this;show wv (w.set i true) v=true↔v∈q++[(i:Int)];rw[this]
     by_cases hv:v=i
     ·simp[hv]
     ·simp only[hv,if_false,dh,dk,or_false];exact h6 v h0 h1
    ·show v∈q++[(i:Int)]↔_
     by_cases hv:v=i
     ·subst hv; simp[hf]
     ·simp only[dh,dk,hv,or_false];exact h7 v h0 (by push_cast at h1; omega)
    ·try dsimp only
     unfold ŏ
     have e:ilt (i:Int) (N:Int)=true:=by simp[ilt,h]
     rw[Ñ e,iq hix,kQ (by simpa using hix)]
     have e2:ine (gv x i) 1152921504606846976=true:=by simp[ine,hf]
     rw[Ñ e2,Ó (by simp only[dK]; omega),Am.iff_true,iq hiw,Yo (by simpa using hiw),Ë h (by omega),dt]
  ·refine .inl fun kn=>?_
   have:i=N:=by omega
   subst this
   try dsimp only
   unfold ŏ
   have e:ilt (i:Int) (i:Int)=false:=by simp[ilt]
   rw[Î e];exact hK w q h2 h3 h5 h6 h7
 ·have:wv (List.replicate N false) v=false:=by
   unfold wv;rw[List.getElem?_replicate]
   split<;>rfl
  simp[this]
def V8 (hL:iU L N M) (hN:1≤N) {S:Int→Bool} (hS:∀v,S v=true→0≤v∧v<N) {w:List Bool} {q:List Int} (hw:w.length=N) (hq:q.Nodup) (hr:∀v∈q,0≤v∧v<N) (hwq:∀v:Int,0≤v→v<N→(wv w v=true↔v∈q)) (hqs:∀v:Int,0≤v→v<N→(v∈q↔gv (vg S N) v≠ď)) :
 alI L (fun v=>S v=true) N M 0 q [] (vg S N) w (List.replicate N 0) q:=by
 have ht:∀v:Int,0≤v→v<N→gv (List.replicate N (0:Int)) v=0:=by
  intro v h0 h1;unfold gv;rw[List.getElem?_replicate]
  split<;>rfl
 have hg:∀v:Int,0≤v→v<N→(v∈q↔S v=true):=by
  intro v h0 h1;rw[hqs v h0 h1,jh S h0 h1]
  cases S v<;>simp[ď]
 have hM:=hL.m0;refine⟨by simp,ú S N,hw,by simp,hq,hr,hwq,fun v h0 h1=>?_,fun v hv=>?_,fun vs v d hw hl=>?_,fun vs u d hw hl hu v m hlk=>?_,fun u h0 h1 hu hf v m hlk=>?_,fun v h0 h1 hf=>?_,fun v h0 h1=>?_,fun v hv=>?_,fun v hv=>?_,by omega,fun _=>rfl⟩
 ·rw[ht v h0 h1]; omega
 ·have:=hr v hv;rw[ht v this.1 this.2]; omega
 ·cases hw with
  |nil hs =>
   have:=hS v hs;rw[jh S this.1 this.2,if_pos hs]; omega
  |step=>simp at hl
 ·cases hw with
  |nil hs =>
   have:=hS u hs;exact(hu ((hg u this.1 this.2).2 hs)).elim
  |step=>simp at hl
 ·rw[jh S h0 h1] at hf;have:=mt (hg u h0 h1).2 hu;rw[if_neg this] at hf;exact(hf rfl).elim
 ·rw[jh S h0 h1] at hf ⊢
  split at hf
  ·rename_i hs;rw[if_pos hs]; exact⟨[],.nil hs⟩
  ·exact(hf rfl).elim
 ·rw[jh S h0 h1]
  split
  ·exact .inr (by simp[hM])
  ·exact .inl rfl
 ·have h1:=hr v hv;rw[jh S h1.1 h1.2,if_pos ((hg v h1.1 h1.2).1 hv)]; simp
 ·have h1:=hr v hv;rw[jh S h1.1 h1.2,if_pos ((hg v h1.1 h1.2).1 hv)]; simp[ď]
structure Bad (L:List Lk) (N:Nat) (x:List Int) (w:List Bool) (t q:List Int):Prop where
 lx:x.length=N
 lw:w.length=N
 lt:t.length=N
 nodup:q.Nodup
 rng:∀v∈q,0≤v∧v<N
 waits:∀v:Int,0≤v→v<N→(wv w v=true↔v∈q)
 t0:∀v:Int,0≤v→v<N→0≤gv t v∧gv t v≤(N:Int)+1
 bd:∀v:Int,0≤v→v<N→-2305843009213693952≤gv x v∧gv x v≤0
 rel:∀u:Int,0≤u→u<N→u∉q→∀v m,(u,v,m)∈L→gv x v≤gv x u+m
def apz {r:Option ρ} {x:List Int} {w:List Bool} {t q:List Int} (hL:iU L N M) (hp:¬∃p,Pot L p) (k0:(Val (.pair .bool (.pair (.slice tI) (.pair (.slice .bool) (.pair (.slice tI) (.slice tI))))))→Option ρ)
 (hK:∀x w t q,k0 (false,x,w,t,q)=r) (h:Bad L N x w t q) :
 Í (fun(v64:(Val (.pair (.slice tI) (.pair (.slice .bool) (.pair (.slice tI) (.slice tI)))))) kk69=>ī [] (NZ L) (N:Int) L v64.1 v64.2.1 v64.2.2.1 v64.2.2.2 (fun u65 u66 u67 u68=>kk69 (u65,u66,u67,u68)) k0) (x,w,t,q)=r:=by
 refine ġ (fun s:List Int×List Bool×List Int×List Int=>Bad L N s.1 s.2.1 s.2.2.1 s.2.2.2) (fun s=>aa0 N s.2.2.1) ?_ h;rintro⟨x,w,t,q⟩ h;dsimp only at h ⊢;have hN:=hL.nodes
 cases q with
 |nil =>
  exfalso;exact hp ⟨gv x,fun u v m hl=>h.rel u (hL.inr _ hl).1.1 (hL.inr _ hl).1.2 (by simp) v m hl⟩
 |cons n rest =>
  have hnr:=h.rng n (by simp);have hb:=h.bd n hnr.1 hnr.2;have ht:=h.t0 n hnr.1 hnr.2
  have hrl:rest.length≤1000000:=by
   have:=aiJ N (n::rest) h.nodup h.rng;simp only[dj] at this;omega
  have hout:=fun(kn:List Int→List Bool→List Int→List Int→Option ρ)=>aiY (ρ:=ρ) hL (least:=NZ L) hnr h.lx h.lw h.lt hrl ⟨hb.1,by omega⟩ ⟨ht.1,by omega⟩ kn k0
  by_cases hlt:(N:Int)+1<gv t n+1
  ·exact .inl fun kn=>by rw[hout,if_pos hlt]; exact hK _ _ _ _
  ·have hw':(w.set n.toNat false).length=N:=by rw[fo]; exact h.lw
   cases hr:qw n (NZ L) L x (w.set n.toNat false) rest with
   |mk b r' =>
   obtain⟨x',w',q'⟩:=r'
   cases b with
   |false=>exact .inl fun kn=>by rw[hout,if_neg hlt,hr]; exact hK _ _ _ _
   |true =>
    have hnd:=h.nodup;rw[fX] at hnd
    have htl:n.toNat<t.length:=by have:=h.lt; omega
    have ha:=lq hnr hL.inr hL.noloop h.lx hw' hnd.2 (fun v h0 h1=>by
     rw[aii hnr.1 h0 (by have:=h.lw; omega)]
     by_cases hv:v=n
     ·subst hv; simp[hnd.1]
     ·rw[if_neg hv,h.waits v h0 h1]
      simp[hv]) hr
    obtain⟨l,hl,hlv⟩:=ha.new;refine .inr ⟨(x',w',t.set n.toNat (gv t n+1),q'),⟨ha.lx,ha.lw,by rw[fo]; exact h.lt,ha.nodup,fun v hv=>?_,ha.waits,fun v h0 h1=>?_,fun v h0 h1=>?_,fun u h0 h1 hu v m hlk=>?_⟩,ae4 htl (by omega),fun kn=>by rw[hout,if_neg hlt,hr]⟩
    ·dsimp only at hv;rw[hl] at hv;rcases List.mem_append.1 hv with hv|hv
     ·exact h.rng v (by simp[hv])
     ·exact(hlv v hv).1
    ·try dsimp only
     rw[oK hnr.1 h0 htl];have:=h.t0 v h0 h1
     split<;>omega
    ·try dsimp only
     have h2:=h.bd v h0 h1;rcases ha.chg v h0 h1 with g|⟨_,g2,m,g3,g4,g5⟩
     ·rw[g]; exact h2
     ·have h3:=Yp (L:=L) (fun l hl=>(hL.most l hl).1) hL.m0;have h4:(L.length:Int)*M≤400*4503599627370496:=fF (by have:=hL.len; omega) hL.m1 hL.m0 (by omega);omega
    ·dsimp only at hu ⊢;have hvr:=(hL.inr _ hlk).2
     have heq:gv x' u=gv x u:=by
      rcases ha.chg u h0 h1 with g|⟨g,_⟩
      ·exact g
      ·exact(hu g).elim
     by_cases hun:u=n
     ·subst hun;have h1:=ha.link v m hlk;omega
     ·have hur:u∉n::rest:=by
       intro hc;rcases di.1 hc with e|hc
       ·exact hun e
       ·exact hu (by rw[hl]; exact eF _ hc)
      have h2:=h.rel u h0 h1 hur v m hlk;have:=ha.le v hvr.1 hvr.2;omega
end
def alH (N:Nat) (v:Int):Bool:=decide (0≤v)&&decide (v<(N:Int))
def amw (s:Int) (v:Int):Bool:=v==s
def ab9 (N:Nat):vg (alH N) N=List.replicate N 0:=by
 refine ajd (by simp[ú]) fun v h0 h1=>?_;rw[ú] at h1;rw[jh _ h0 h1]
 have:alH N v=true:=by simp[alH,h0,h1]
 rw[if_pos this];unfold gv;rw[List.getElem?_replicate]
 split<;>rfl
def Ī (L:List Lk) (N:Nat):List Int:=lG L N (vg (alH N) N)
def Ĕ (L:List Lk) (N:Nat):Bool:=decide (Mm L (Ī L N)=Ī L N)
def tE (L:List Lk) (N:Nat) (s:Int):List Int:=lG L N (vg (amw s) N)
section
variable {L:List Lk} {N:Nat} {M:Int}
def apV (hL:iU L N M) (hN:N≤200):N*M<ď:=by
 have:(N:Int)*M≤200*4503599627370496:=Int.mul_le_mul (by omega) hL.m1 hL.m0 (by omega);unfold ď;omega
def AJ {p:Int→Int} (hL:iU L N M) (hN:N≤200) (hp:Pot L p):alJ L (fun v=>alH N v=true) N (gv (Ī L N)) :=
 OM hp hL.inr (fun v h=>by simpa[alH] using h) (fun l hl=>(hL.most l hl).2) hL.m0 (apV hL hN) N (by omega)
def jD {p:Int→Int} (hL:iU L N M) (hN:N≤200) (hp:Pot L p) {s:Int} (hs:0≤s∧s<N):alJ L (fun v=>amw s v=true) N (gv (tE L N s)) :=
 OM hp hL.inr (fun v h=>by simp[amw] at h; subst h; exact hs) (fun l hl=>(hL.most l hl).2) hL.m0 (apV hL hN) N (by omega)
def act:∀{L:List Lk} {x:List Int},(∀u v m,(u,v,m)∈L→gv x u<ď→gv x v≤gv x u+m)→Mm L x=x
 |[],x,_=>rfl
 |l::t,x,h=>by
  have h1:mB x l=x:=by
   unfold mB
   split
   ·rename_i hc;have:=h l.1 l.2.1 l.2.2 (by simp) hc.1;omega
   ·rfl
  show Mm t (mB x l)=x;rw[h1];exact act fun u v m hm=>h u v m (by simp[hm])
def ō (hL:iU L N M) (hN:N≤200):Ĕ L N=true↔∃p,Pot L p:=by
 unfold Ĕ;rw[decide_eq_true_eq]
 have hle:∀v:Int,0≤v→v<N→gv (Ī L N) v≤0:=by
  intro v h0 h1;have:=E4 hL.inr N (ú (alH N) N) v h0;rw[jh _ h0 h1,if_pos (by simp[alH,h0,h1])] at this;exact this
 constructor
 ·intro h;refine⟨gv (Ī L N),fun u v m hl=>?_⟩;have hr:=(hL.inr _ hl).1;have:=IZ hL.inr (x:=Ī L N) (by unfold Ī; rw[Į,ú]) u v m hl (by have:=hle u hr.1 hr.2; unfold ď; omega)
  rwa [h] at this
 ·rintro⟨p,hp⟩;have hd:=AJ hL hN hp;exact act fun u v m hl hf=>hd.pot hL.inr hl (by omega)
end
section
variable {ρ:Type} {L:List Lk} {N:Nat} {M:Int}
def HG (hN:N≤1000) (x:Option ρ):è ((ile (0:Int) (N:Int))&&(ã (Int.toNat (N:Int)))) x=x:=by
 rw[dt,Ó (by omega)]
 have:((ile (0:Int) (N:Int))&&true)=true:=by simp[ile]
 rw[this,Am.iff_true]
def agt (hL:iU L N M) (h1:1≤N) (hN:N≤200) (k0:(Val (.pair .bool (.pair (.slice tI) (.pair (.slice .bool) (.pair (.slice tI) (.slice tI))))))→Option ρ) {rT rF:Option ρ}
 (hT:Ĕ L N=true→∀w t q,k0 (true,Ī L N,w,t,q)=rT) (hF:∀x w t q,k0 (false,x,w,t,q)=rF) :
 (Í (fun(v70:(Val (.pair tI (.pair (.slice .bool) (.slice tI))))) kk74=>ŏ (N:Int) (List.replicate N (0:Int)) v70.1 v70.2.1 v70.2.2 (fun u71 u72 u73=>kk74 (u71,u72,u73)) (fun z9=>Í (fun(v64:(Val (.pair (.slice tI) (.pair (.slice .bool) (.pair (.slice tI) (.slice tI)))))) kk69=>ī [] (NZ L) (N:Int) L v64.1 v64.2.1 v64.2.2.1 v64.2.2.2 (fun u65 u66 u67 u68=>kk69 (u65,u66,u67,u68)) k0) ((List.replicate N (0:Int)),z9.1,(List.replicate N (0:Int)),z9.2))) ((0:Int),(List.replicate N false),([]:List Int)))=if Ĕ L N then rT else rF:=by
 refine al3 (by simp) (by omega) _ fun w q hw hq hr hwq hqs=>?_
 try dsimp only
 have hS:∀v,alH N v=true→0≤v∧v<N:=fun v h=>by simpa[alH] using h
 by_cases ho:Ĕ L N=true
 ·rw[if_pos ho];obtain⟨p,hp⟩:=(ō hL hN).1 ho;have hs:=V8 hL h1 hS hw hq hr hwq (fun v a b=>by rw[ab9]; exact hqs v a b);rw[ab9] at hs;refine aca hL (apV hL hN) hp hS k0 (fun x w t q hx hd=>?_) hs
  have:x=Ī L N:=by
   refine ajd (by rw[hx]; unfold Ī; rw[Į,ú]) fun v a b=>?_;exact hd.uniq (AJ hL hN hp) a (by omega)
  rw[this]; exact hT ho w t q
 ·rw[if_neg ho];refine apz hL (fun hp=>ho ((ō hL hN).2 hp)) k0 hF ?_
  have hg:∀v,gv (List.replicate N (0:Int)) v=0:=by
   intro v;unfold gv;rw[List.getElem?_replicate]
   split<;>rfl
  refine⟨by simp,hw,by simp,hq,hr,hwq,fun v a b=>?_,fun v a b=>?_,fun u a b hu v m hl=>?_⟩
  ·rw[hg]; omega
  ·rw[hg]; omega
  ·exact(hu ((hqs u a b).2 (by rw[hg]; unfold ď; omega))).elim
end
def shift_ok {ρ:Type} {x:List Int} (f:Int) (hx:x.length≤1000) (hf : -2305843009213693952≤f∧f≤2305843009213693952) (hb:∀a∈x,-2305843009213693952≤a∧a≤2305843009213693952) (k0:List Int→Option ρ) :
 Í (fun(v60:(Val (.pair tI (.slice tI)))) kk63=>jv f (Ö x) v60.1 v60.2 (fun u61 u62=>kk63 (u61,u62)) k0) ((0:Int),x)=k0 (x.map fun a=>a-f):=by
 refine ë x (fun i=>(x.take i).map (fun a=>a-f)++x.drop i) _ (by simp) (fun i a hi ha kn=>?_) (fun kn=>?_)
 ·try dsimp only
  unfold jv
  have hlen:((x.take i).map (fun a=>a-f)++x.drop i).length=x.length:=by simp; omega
  have hget:((x.take i).map (fun a=>a-f)++x.drop i)[i]?=some a:=by
   rw[eE (by simp; omega)];simp only[dY,dm,fg];rw[←ha]; congr 1; omega
  have hi':i<((x.take i).map (fun a=>a-f)++x.drop i).length:=by omega
  have ha':=hb a (dg ha);rw[Ð hi,iq hi',ħ hget,Ò (by omega) (by omega),iq hi',ħ hget,Ë hi (by omega),dt,take_succ ha];congr 2;rw[fH hi,gG,dz,gW _ _ (by simp; omega)]
  have:i-(List.map (fun a=>a-f) (List.take i x)).length=0:=by simp; omega
  rw[this]
  have h1:x[i]=a:=by rw[cX hi] at ha; simpa using ha
  simp[h1]
 ·try dsimp only
  unfold jv;rw[Ù];simp
section
variable {L:List Lk} {N:Nat} {M:Int}
def XT (hL:iU L N M) (hN:N≤200) (ho:Ĕ L N=true):∀a∈Ī L N,-2305843009213693952≤a∧a≤0:=by
 obtain⟨p,hp⟩:=(ō hL hN).1 ho;have hd:=AJ hL hN hp;intro a ha;obtain⟨i,hi,rfl⟩:=dl.1 ha
 have hlen:(Ī L N).length=N:=by unfold Ī; rw[Į,ú]
 have h0:gv (Ī L N) i=(Ī L N)[i]:=by unfold gv; simp[hi]
 have hle:=E4 hL.inr N (ú (alH N) N) (i:Int) (by omega);rw[jh _ (by omega) (by omega),if_pos (by simp[alH]; omega)] at hle;have hle':gv (Ī L N) i≤0:=hle;obtain⟨vs,hw⟩:=hd.att i (by omega) (by omega) (by unfold ď; omega);have h1:=hw.low' hp;have h3:=Yp (L:=L) (fun l hl=>(hL.most l hl).1) hL.m0;have h4:(L.length:Int)*M≤400*4503599627370496:=Int.mul_le_mul (by have:=hL.len; omega) hL.m1 hL.m0 (by omega);omega
def solP (L:List Lk) (N:Nat):List Int:=(Ī L N).map fun a=>a-gv (Ī L N) 0
def vh (hL:iU L N M) (h1:1≤N) (hN:N≤200):lr ((N:Int),L) []=some (if Ĕ L N then(solP L N,true) else([],false)):=by
 unfold lr zE
 try dsimp only
 rw[HG (by omega),HG (by omega),HG (by omega),dt];refine eP (ai9 hL _) ?_;refine eP (agt hL h1 hN _ (rT:=some (solP L N,true)) (rF:=some ([],false)) (fun ho w t q=>?_) (fun x w t q=>?_)) ?_
 ·try dsimp only
  have hlen:(Ī L N).length=N:=by unfold Ī; rw[Į,ú]
  have hb:=XT hL hN ho;have h0:ilt (0:Int) (ā (Ī L N))=true:=decide_eq_true (show(0:Int)<((Ī L N).length:Int) by omega);have hg:(Ī L N)[0]?=some (gv (Ī L N) 0):=Xi (v:=0) (show 0<_ by omega);have hm:=hb _ (dg hg);rw[show(!true)=false from rfl,æ,ğ h0,jI hg];exact shift_ok _ (by omega) ⟨hm.1,by omega⟩ (fun a ha=>⟨(hb a ha).1,by have:=(hb a ha).2; omega⟩) _
 ·rfl
 ·cases Ĕ L N<;>rfl
structure Ą (L:List Lk) (N:Nat):Prop where
 n1:1≤N
 n60:N≤60
 len:L.length≤300
 inr:InR L N
 noloop:∀l∈L,l.1≠l.2.1
 most:∀l∈L,-4503599627370496≤l.2.2∧l.2.2≤4503599627370496
def Ą.links (h:Ą L N):iU L N 4503599627370496 :=
 ⟨h.inr,h.noloop,h.most,by have:=h.len; omega,by have:=h.n60; omega,by omega,by omega⟩
def Ą.sub {L':List Lk} (h:Ą L N) (hs:∀l∈L',l∈L) (hl:L'.length≤L.length):Ą L' N :=
 ⟨h.n1,h.n60,by have:=h.len; omega,fun l hm=>h.inr l (hs l hm),fun l hm=>h.noloop l (hs l hm),fun l hm=>h.most l (hs l hm)⟩
def O6 (n:Int) (L:List Lk) (v:Int):sv (n,L) v=some (decide (0≤v)&&decide (v<n)):=by
 unfold sv Z3 ige
 by_cases h:0≤v
 ·have:decide (v≥0)=true:=by simpa using h
  rw[Ñ this]; simp[h]
 ·have:decide (v≥0)=false:=by simpa using h
  rw[Î this]; simp[h]
def jZ (h:Ą L N):oh ((N:Int),L)=some (0,-1):=by
 have h1:=h.n1;have h2:=h.n60;have h3:=h.len;unfold oh Re
 try dsimp only
 rw[Î (by simp[ilt]; omega),Î (by simp[igt]; omega),Î (by rw[Ü]; simp[igt]; omega)];refine eP (ś L (fun _=>false) (fun i=>some (1,i)) (some (0,-1)) (fun i l hi hl kn=>?_) (fun kn=>?_)) ?_
 ·try dsimp only
  unfold sc;have hm:=List.mem_of_getElem? hl;have a:=h.inr l hm;have b:=h.noloop l hm;have c:=h.most l hm
  have e1:(decide (0≤l.1)&&decide (l.1<(N:Int)))=true:=by simp[a.1.1,a.1.2]
  have e2:(decide (0≤l.2.1)&&decide (l.2.1<(N:Int)))=true:=by simp[a.2.1,a.2.2]
  rw[Ð hi,Ç hl,O6,À,e1,O6,À,e2];simp only[eJ,æ,dv,if_false];rw[Î (by simp[ieq,b]),Î (by simp[ilt]; omega),Î (by simp[igt]; omega),Ë hi (by omega)]
 ·try dsimp only
  unfold sc;rw[Ù]
 ·rw[dT.2 (by simp)]
def wG {ρ:Type} {x:List Int} {v:Int} (h0:0≤v) (h:v.toNat<x.length) (f:Int→Option ρ):ï x v f=f (gv x v):=by
 obtain⟨i,rfl⟩:=gP h0;exact Ç (Xi h) f
end
section
variable {b:Þ}
def tx (b:Þ) (g:é):(ß b g).Pairwise (·<·):=vl _
def SO (h:Ċ b) {g:é} (hg:g∈b.2.1):∃t,ß b g=g.2.1::t:=by
 have h1:=tx b g;have h2:=kK (b:=b) g;have h3:∀d∈ß b g,g.2.1≤d:=fun d hd=>(h.day hg hd).1
 cases hd:ß b g with
 |nil=>rw[hd] at h2; cases h2
 |cons a t =>
  rw[hd] at h1 h2 h3;rw[dS] at h1;rcases di.1 h2 with e|e
  ·exact⟨t,by rw[e]⟩
  ·have:=h1.1 _ e;have:=h3 a (by simp);omega
def off (b:Þ) (i:Nat):Nat:=((b.2.1.take i).flatMap fun g=>(ß b g).map fun d=>((g.1,d):Int×Int)).length
def DB {i:Nat} {g:é} (hg:b.2.1[i]?=some g):Ì b=((b.2.1.take i).flatMap fun g=>(ß b g).map fun d=>((g.1,d):Int×Int))++(((ß b g).map fun d=>((g.1,d):Int×Int))++((b.2.1.drop (i+1)).flatMap fun g=>(ß b g).map fun d=>((g.1,d):Int×Int))):=by
 obtain⟨hi,rfl⟩:=df.1 hg
 have h1:b.2.1=b.2.1.take i++(b.2.1[i]::b.2.1.drop (i+1)):=by
  rw[←fH hi,List.take_append_drop]
 unfold Ì
 conv=>lhs; rw[h1]
 rw[eZ,dM]
def agC (h:Ċ b) {i:Nat} {g:é} (hg:b.2.1[i]?=some g) {k:Nat} {d:Int} (hk:(ß b g)[k]?=some d):jf (Ì b) g.1 d=some (off b i+k):=by
 obtain⟨hi,hgi⟩:=List.getElem?_eq_some_iff.1 hg;obtain⟨hkl,hkd⟩:=List.getElem?_eq_some_iff.1 hk;unfold jf;rw[DB hg,List.findIdx?_append,List.findIdx?_append]
 have h1:List.findIdx? (fun n:Int×Int=>decide (g.1=n.1)&&decide (d=n.2)) ((b.2.1.take i).flatMap fun g=>(ß b g).map fun d=>((g.1,d):Int×Int))=none:=by
  rw[dT];intro x hx;obtain⟨g',hg',hx⟩:=dC.1 hx;obtain⟨d',_,rfl⟩:=dP.1 hx;obtain⟨j,hj,rfl⟩:=dl.1 hg';rw[dm] at hj;rw[fm];have:=(dI.1 h.ids) j i (by omega) hi (by omega);rw[hgi] at this;simp only[gw,decide_eq_false_iff_not];exact .inl (by omega)
 have h2:List.findIdx? (fun n:Int×Int=>decide (g.1=n.1)&&decide (d=n.2)) ((ß b g).map fun d=>((g.1,d):Int×Int))=some k:=by
  rw[dL];refine⟨by simpa using hkl,by simp[hkd],fun j hj=>?_⟩;have:=(dI.1 (tx b g)) j k (by omega) hkl hj;rw[hkd] at this;simp only[List.getElem_map,cZ,decide_eq_true_eq,not_and];intro _;omega
 rw[h1,h2];simp only[Option.map_some,Option.some_or,Option.none_or];unfold off;congr 1;omega
def NY {i:Nat} {g:é} (hg:b.2.1[i]?=some g) {k:Nat} {d:Int} (hk:(ß b g)[k]?=some d):(Ì b)[off b i+k]?=some (g.1,d):=by
 obtain⟨hkl,hkd⟩:=List.getElem?_eq_some_iff.1 hk;rw[DB hg,List.getElem?_append_right (by unfold off; omega),List.getElem?_append_left (by unfold off; simp; omega)];unfold off;simp[hk]
def ajM (h:Ċ b) {i:Nat} {g:é} (hg:b.2.1[i]?=some g):atP (Ì b) [g.1] g.2.1=(off b i:Int)+1:=by
 obtain⟨t,ht⟩:=SO h (List.mem_of_getElem? hg);have:=agC h hg (k:=0) (d:=g.2.1) (by rw[ht]; rfl);unfold atP;simp only[this];rfl
def amy (h:Ċ b) {i:Nat} {g:é} (hg:b.2.1[i]?=some g):off b i+(ß b g).length≤(Ì b).length:=by
 rw[DB hg];unfold off;simp only[List.length_append,List.length_map];omega
def apS {i:Nat} {g:é} (hg:b.2.1[i]?=some g):off b (i+1)=off b i+(ß b g).length:=by
 unfold off;rw[take_succ hg,List.flatMap_append];simp
def ac1 (h:Ċ b) {c:Cmp} (hc:c∈b.2.2.2.2.1) {x:Int} (hx:(x∈c.2.2.1∧x∉c.2.2.2.1)∨(x∈c.2.2.2.1∧x∉c.2.2.1)):∃j,jf (Ì b) x c.2.1=some j:=by
 have hm:x∈c.2.2.1++c.2.2.2.1:=by rw[dh]; exact hx.imp (·.1) (·.1)
 obtain⟨⟨g,hg,_⟩,_⟩:=h.pile hc hm;obtain⟨hgm,hgx⟩:=iD hg;obtain⟨i,hi,hgi⟩:=dl.1 hgm
 have hd:c.2.1∈ß b g:=iw.2 (.inr (.inl ⟨c,hc,by
  rw[hgx];rcases hx with⟨h1,h2⟩|⟨h1,h2⟩
  ·have e1:c.2.2.1.contains x=true:=by simpa using h1
   have e2:c.2.2.2.1.contains x=false:=by simpa using h2
   rw[e1,e2]; simp
  ·have e1:c.2.2.2.1.contains x=true:=by simpa using h1
   have e2:c.2.2.1.contains x=false:=by simpa using h2
   rw[e1,e2]; simp,rfl⟩))
 obtain⟨k,hk,hkd⟩:=dl.1 hd;have:=agC h (g:=g) (i:=i) (by rw[cX hi,hgi]) (k:=k) (d:=c.2.1) (by rw[cX hk,hkd]);rw[hgx] at this;exact⟨_,this⟩
inductive alz (b:Þ) (p:List Int) (d:Int) (n:Int):Prop
 |none:p=[]→n=0→alz b p d n
 |one (x:Int) (j:Nat):p=[x]→jf (Ì b) x d=some j→n=(j:Int)+1→alz b p d n
def abj (h:Ċ b) {c:Cmp} (hc:c∈b.2.2.2.2.1):alz b (ç c.2.2.1 c.2.2.2.1) c.2.1 (cx b c):=by
 have hl:=(h.lefts hc).1
 cases hp:ç c.2.2.1 c.2.2.2.1 with
 |nil=>exact .none rfl (by unfold cx atP; rw[hp])
 |cons x t =>
  rw[hp] at hl
  have:t=[]:=by cases t with|nil=>rfl|cons=>simp at hl
  subst this;obtain⟨j,hj⟩:=ac1 h hc (x:=x) (.inl (i5.1 (by rw[hp]; simp)));exact .one x j rfl hj (by unfold cx atP; rw[hp]; simp only[hj])
def SP (h:Ċ b) {c:Cmp} (hc:c∈b.2.2.2.2.1):alz b (ç c.2.2.2.1 c.2.2.1) c.2.1 (cy b c):=by
 have hl:=(h.lefts hc).2.1
 cases hp:ç c.2.2.2.1 c.2.2.1 with
 |nil=>exact .none rfl (by unfold cy atP; rw[hp])
 |cons x t =>
  rw[hp] at hl
  have:t=[]:=by cases t with|nil=>rfl|cons=>simp at hl
  subst this;obtain⟨j,hj⟩:=ac1 h hc (x:=x) (.inr (i5.1 (by rw[hp]; simp)));exact .one x j rfl hj (by unfold cy atP; rw[hp]; simp only[hj])
def alz.rng {p:List Int} {d n:Int} (h:alz b p d n):0≤n∧n<((Ì b).length+1:Nat):=by
 rcases h with⟨_,h⟩|⟨x,j,_,h1,h2⟩
 ·omega
 ·have:=(mJ h1).1;omega
def aqs (h:Ċ b) {c:Cmp} (hc:c∈b.2.2.2.2.1):cx b c≠cy b c:=by
 have hl:=(h.lefts hc).2.2;rcases abj h hc with⟨h1,h2⟩|⟨x,j,h1,h2,h3⟩
 ·rcases SP h hc with⟨g1,g2⟩|⟨y,k,g1,g2,g3⟩
  ·rw[h1,g1] at hl; simp at hl
  ·omega
 ·rcases SP h hc with⟨g1,g2⟩|⟨y,k,g1,g2,g3⟩
  ·omega
  ·intro e
   have:j=k:=by omega
   subst this;have e1:=(mJ h2).2;have e2:=(mJ g2).2;rw[e1] at e2;simp only[Option.some.injEq,Prod.mk.injEq] at e2
   have m1:x∈ç c.2.2.1 c.2.2.2.1:=by rw[h1]; simp
   have m2:y∈ç c.2.2.2.1 c.2.2.1:=by rw[g1]; simp
   rw[e2.1] at m1;exact(i5.1 m1).2 (i5.1 m2).1
def RY (h:Ċ b):(Ø b).length=2*(Ì b).length+2*b.2.2.2.2.1.length:=by
 have h1:∀l:List é,(∀g∈l,g∈b.2.1)→(l.flatMap (á b)).length=2*(l.flatMap fun g=>(ß b g).map fun d=>((g.1,d):Int×Int)).length:=by
  intro l
  induction l with
  |nil=>intro _; rfl
  |cons g t ih =>
   intro hm;have:=ih fun g hg=>hm g (by simp[hg]);have hp:=List.length_pos_of_mem (kK (b:=b) g);simp only[List.flatMap_cons,List.length_append,List.length_map,this];unfold á;rw[List.length_append,Ņ _ _ (fun _=>rfl)];simp only[List.length_cons,List.length_nil];omega
 have h2:∀l:List Cmp,(l.flatMap (ø b)).length=2*l.length:=by
  intro l
  induction l with
  |nil=>rfl
  |cons c t ih =>
   simp only[dM,dc,ih,ø,dj,dE];omega
 unfold Ø;rw[List.length_append,h1 _ fun _ h=>h,h2];rfl
def ĸ (h:Ċ b) {i:Nat} {g:é} (hg:b.2.1[i]?=some g) {l:Lk}:l∈á b g ↔
 l=(0,(off b i:Int)+1,g.2.2.1+g.2.2.2.1.2)∨l=((off b i:Int)+1,0,-(g.2.2.1+g.2.2.2.1.1)) ∨
 ∃(k:Nat) (d e:Int),(ß b g)[k]?=some d∧(ß b g)[k+1]?=some e∧(l=((off b i:Int)+k+1,(off b i:Int)+k+2,0)∨l=((off b i:Int)+k+2,(off b i:Int)+k+1,ii b g d e)):=by
 unfold á;rw[ajM h hg];simp only[List.mem_append,List.mem_cons,List.not_mem_nil,or_false,List.mem_flatMap,List.mem_range];constructor
 ·rintro((h1|h1)|⟨k,hk,h1⟩)
  ·exact .inl h1
  ·exact .inr (.inl h1)
  ·refine .inr (.inr ⟨k,(ß b g)[k],(ß b g)[k+1],cX (by omega),cX (by omega),?_⟩);rw[cX (show k<(ß b g).length by omega),cX (show k+1<(ß b g).length by omega)] at h1;simp only[fD] at h1
   have e1:(off b i:Int)+1+k=(off b i:Int)+k+1:=by omega
   have e2:(off b i:Int)+k+1+1=(off b i:Int)+k+2:=by omega
   rw[e1,e2] at h1;exact h1
 ·rintro(h1|h1|⟨k,d,e,hd,he,h1⟩)
  ·exact .inl (.inl h1)
  ·exact .inl (.inr h1)
  ·obtain⟨h2,rfl⟩:=df.1 hd;obtain⟨h3,rfl⟩:=df.1 he;refine .inr ⟨k,by omega,?_⟩;rw[hd,he];simp only[fD]
   have e1:(off b i:Int)+1+k=(off b i:Int)+k+1:=by omega
   have e2:(off b i:Int)+k+1+1=(off b i:Int)+k+2:=by omega
   rw[e1,e2];exact h1
def pD {l:Lk}:l∈Ø b↔(∃(i:Nat) (g:é),b.2.1[i]?=some g∧l∈á b g)∨∃c∈b.2.2.2.2.1,l=(cy b c,cx b c,(Ū b c).2)∨l=(cx b c,cy b c,-(Ū b c).1):=by
 unfold Ø;simp only[List.mem_append,List.mem_flatMap,ø,List.mem_cons,List.not_mem_nil,or_false];constructor
 ·rintro(⟨g,hg,h⟩|h)
  ·obtain⟨i,hi,rfl⟩:=dl.1 hg;exact .inl ⟨i,_,cX hi,h⟩
  ·exact .inr h
 ·rintro(⟨i,g,hg,h⟩|h)
  ·exact .inl ⟨g,dg hg,h⟩
  ·exact .inr h
def Ċ.sys (h:Ċ b):Ą (Ø b) ((Ì b).length+1):=by
 have hN:=h.nodes;have hL:=h.links
 have key:∀l∈Ø b,((0≤l.1∧l.1<((Ì b).length+1:Nat))∧(0≤l.2.1∧l.2.1<((Ì b).length+1:Nat)))∧l.1≠l.2.1∧(-4503599627370496≤l.2.2∧l.2.2≤4503599627370496):=by
  intro l hl;rcases pD.1 hl with⟨i,g,hg,hl⟩|⟨c,hc,hl⟩
  ·have hgm:=dg hg;have hr:=h.gaugeR hgm;have ho:=amy h hg;have hp:=gn (kK (b:=b) g);have r1:=hr.2.2.2.2.2.1;have r2:=hr.2.2.2.2.2.2.1;rcases(ĸ h hg).1 hl with rfl|rfl|⟨k,d,e,hd,he,h1⟩
   ·dsimp only; omega
   ·dsimp only; omega
   ·obtain⟨h2,_⟩:=df.1 he;have d1:=h.day hgm (dg hd);have lb:=kY h hgm (t:=e) d1.2.1;rcases h1 with rfl|rfl
    ·dsimp only; omega
    ·dsimp only; omega
  ·have a:=(abj h hc).rng;have b':=(SP h hc).rng;have ne:=aqs h hc;have sb:=Dp h hc;rcases hl with rfl|rfl
   ·dsimp only; omega
   ·dsimp only; omega
 exact⟨by omega,by omega,by rw[RY h]; omega,fun l hl=>(key l hl).1,fun l hl=>(key l hl).2.1,fun l hl=>(key l hl).2.2⟩
end
def aos {ρ:Type}:@wd ρ=@ig ρ:=rfl
def aor {ρ:Type}:@wc ρ=@ŏ ρ:=rfl
def aoq {ρ:Type}:@wa ρ=@ī ρ:=rfl
def afb {ρ:Type} {N:Nat} (hN:N≤1000) (x:Option ρ):è ((ile (0:Int) (N:Int))&&(ã N)) x=x:=by
 have:=HG hN x
 rwa [dt] at this
section
variable {L:List Lk} {N:Nat} {M:Int}
def al2 {s:Int} (hs:0≤s∧s<N):(List.replicate N ď).set s.toNat 0=vg (amw s) N:=by
 refine ajd (by simp[ú]) fun v h0 h1=>?_
 have hv:v<N:=by simpa using h1
 rw[jh _ h0 hv,oK hs.1 h0 (by simp; omega)];unfold amw
 by_cases h:v=s
 ·simp[h]
 ·simp only[h,if_false,beq_iff_eq];unfold gv;rw[List.getElem?_replicate]
  have:v.toNat<N:=by omega
  simp[this]
def aop (hL:iU L N M) (h1:1≤N) (hN:N≤200) (ho:Ĕ L N=true) {s:Int} (hs:0≤s∧s<N):Bk ((N:Int),L) [] s=some (tE L N s):=by
 obtain⟨p,hp⟩:=(ō hL hN).1 ho;unfold Bk Kj;rw[aos,aor,aoq];dsimp only;rw[HG (by omega),Int.toNat_natCast];refine ë (List.replicate N (0:Int)) (fun i=>List.replicate i ď++List.replicate (N-i) 0) _ (by simp) (fun i a hi ha kn=>?_) (fun kn=>?_)
 ·dsimp only;unfold pb
  have hiN:i<N:=by simpa using hi
  have hl:i<(List.replicate i ď++List.replicate (N-i) (0:Int)).length:=by simp; omega
  rw[Ð hi,iq hl,ħ (cX hl),Ë hiN (by omega),dt];congr 2;rw[gW _ _ (by simp)]
  have:N-i=(N-(i+1))+1:=by omega
  rw[this,fY,Nat.sub_self,gD,List.set_cons_zero,List.replicate_succ'];simp
 ·try dsimp only
  unfold pb;rw[Ù];dsimp only
  have e0:List.replicate (List.replicate N (0:Int)).length ď++List.replicate (N-(List.replicate N (0:Int)).length) 0=List.replicate N ď:=by simp
  rw[e0]
  have hlen:s.toNat<(List.replicate N ď).length:=by simp; omega
  rw[show ā (List.replicate N ď)=((N:Nat):Int) by simp[ā],ă hs.1 hs.2,kQ hlen,afb (by omega),afb (by omega),al2 hs];refine eP (ai9 hL _) ?_
  have hS:∀v,amw s v=true→0≤v∧v<N:=fun v h=>by simp[amw] at h; subst h; exact hs
  refine al3 (ú _ _) (by omega) _ fun w q hw hq hr hwq hqs=>?_;have hs0:=V8 hL h1 hS hw hq hr hwq hqs;refine aca hL (apV hL hN) hp hS _ (fun x w t q hx hd=>?_) hs0
  have:x=tE L N s:=by
   refine ajd (by rw[hx]; unfold tE; rw[Į,ú]) fun v a b=>?_;exact hd.uniq (jD hL hN hp hs) a (by omega)
  dsimp only;rw[this]
def ix (L:List Lk) (N:Nat) (s t:Int):Int×Int :=
 if !Ĕ L N then(0,9) else if gv (tE L N s) t=ď then(0,5) else(gv (tE L N s) t,0)
def aqV (h:Ą L N) {ns:List Int} (hn:∀n∈ns,0≤n∧n<N) (hl:ns.length≤1000):Ia ((N:Int),L) ns=some (if Ĕ L N then 0 else 9):=by
 have h2:=h.n60;unfold Ia Q6;rw[jZ h,À];dsimp only;rw[Î (by rfl)];refine Eq.trans (ś ns (fun _=>false) (fun _=>some 1) (some (if Ĕ L N then 0 else 9)) (fun i n hi hm kn=>?_) (fun kn=>?_)) ?_
 ·try dsimp only
  unfold rZ;have a:=hn n (List.mem_of_getElem? hm)
  have e:(decide (0≤n)&&decide (n<(N:Int)))=true:=by simp[a.1,a.2]
  rw[Ð hi,Ç hm,O6,À,e,Ë hi (by omega)];simp
 ·try dsimp only
  unfold rZ;rw[Ù,vh h.links h.n1 (by omega),À]
  cases Ĕ L N<;>rfl
 ·rw[dT.2 (by simp)]
def Oq (h:Ą L N) {s t:Int} (hs:0≤s∧s<N) (ht:0≤t∧t<N):qJ ((N:Int),L) s t=some (ix L N s t):=by
 have h2:=h.n60;unfold qJ Rk ix
 rw[aqV h (fun n hn=>by simp at hn; rcases hn with rfl|rfl<;>assumption) (by simp),À]
 by_cases ho:Ĕ L N=true
 ·rw[if_pos ho,Î (by rfl),aop h.links h.n1 (by omega) ho hs,À,wG ht.1 (by unfold tE; rw[Į,ú]; omega),Č,if_neg (show ¬(!Ĕ L N)=true by simp[ho])]
  by_cases hf:gv (tE L N s) t=ď
  ·rw[if_pos (by simpa[ieq] using hf),if_pos hf]
  ·rw[if_neg (by simpa[ieq] using hf),if_neg hf]
 ·rw[if_neg ho,Ñ (by rfl),if_pos (show(!Ĕ L N)=true by simpa using ho)]
end
def ì (b:Þ) (c:Cmp):Þ:=(b.1,b.2.1,b.2.2.1,b.2.2.2.1,b.2.2.2.2.1++[c],b.2.2.2.2.2)
def i9:Þ:=((0,0),[],[],[],[],[])
def AF (b:Þ) (c:Cmp):Þ×Int:=if â b≠0 then(i9,â b) else if â (ì b c)≠0 then(i9,â (ì b c)) else(ì b c,0)
def amK {b:Þ} (h:Ċ b) {c:Cmp} (hA:c.2.2.1.length≤1000) (hB:c.2.2.2.1.length≤1000):ľ (ì b c):=by
 have hs:=h.size;have:=h.nC;refine⟨hs.gauges,hs.uses,hs.loans,by simp[ì]; omega,hs.looks,fun d hd=>?_⟩;rcases dh.1 (show d∈b.2.2.2.2.1++[c] from hd) with hd|hd
 ·exact hs.piles d hd
 ·simp at hd; subst hd; exact⟨hA,hB⟩
def aoC {b:Þ} (hs:ľ b) (hr:∀g∈b.2.1,I64 g.2.2.2.2.1.1) {c:Cmp} (hA:c.2.2.1.length≤1000) (hB:c.2.2.2.1.length≤1000):pm b c=some (AF b c):=by
 unfold pm aaO AF;have h1:=hs.gauges; have h2:=hs.uses; have h3:=hs.loans; have h4:=hs.compares; have h5:=hs.looks;rw[Ó (by omega),Am.iff_true,Ó (by omega),Am.iff_true,jo hs hr,À]
 by_cases hc:â b=0
 ·have h:=(ê b).1 hc;rw[Î (by simp[ine,hc]),Ó (by omega),Am.iff_true,Ó (by omega),Am.iff_true,Ó (by omega),Am.iff_true,Ó (by omega),Am.iff_true,Ó (by omega),Am.iff_true,if_neg (show ¬(â b≠0) from fun h=>h hc)];refine ë b.2.2.2.2.1 (fun _=>b.2.2.2.2.1) _ rfl (fun i d hi hd kn=>?_) (fun kn=>?_)
  ·dsimp only;unfold wz;obtain⟨p1,p2⟩:=hs.piles d (List.mem_of_getElem? hd)
   have e1:b.2.2.2.2.1.set i d=b.2.2.2.2.1:=by
    obtain⟨h,rfl⟩:=df.1 hd;exact List.set_getElem_self h
   rw[Ð hi,iq hi,ħ hd,Ó (by omega),Am.iff_true,Ó (by omega),Am.iff_true,iq hi,ħ hd,dt];rw[show(d.1,d.2.1,d.2.2.1,d.2.2.2)=d from rfl,e1,iq hi,jI hd,Ë hi (by omega)];rw[show(d.1,d.2.1,d.2.2.1,d.2.2.2.1,d.2.2.2.2)=d from rfl,e1]
  ·try dsimp only
   unfold wz;rw[Ù];dsimp only;rw[Ó (by simp only[List.length_singleton]; omega),Am.iff_true];rw[show û (b.1,b.2.1,b.2.2.1,b.2.2.2.1,b.2.2.2.2.1++[c],b.2.2.2.2.2)=û (ì b c) from rfl,jo (amK h hA hB) hr,À]
   by_cases hc2:â (ì b c)=0
   ·rw[Î (by simp[ine,hc2]),if_neg (show ¬(â (ì b c)≠0) from fun h=>h hc2)];rfl
   ·rw[Ñ (by simp[ine,hc2]),if_pos hc2];rfl
 ·rw[Ñ (by simp[ine,hc]),if_pos hc];rfl
def Ê (c:Cmp):Cmp:=(c.1,c.2.1,c.2.2.1,c.2.2.2.1,0,c.2.2.2.2.2)
def ahx (b:Þ) (c:Cmp):Int:=K9 (Ĭ b c).1+(i6 b c).1-c.2.2.2.2.2.1
def EC (b:Þ) (c:Cmp):Int:=(Ĭ b c).2.1 / (Ĭ b c).2.2+(i6 b c).2+c.2.2.2.2.2.1
def OE (b:Þ) (c:Cmp) (s:Int×Int):(Int×Int)×Int:=if EC b c<ahx b c then((0,0),5) else((s.1+ahx b c,s.2+EC b c),0)
structure aig (b:Þ) (c:Cmp):Prop where
 nums:Mp c=true
 r1:qS (ye (Ť b) (ç c.2.2.1 c.2.2.2.1)) 1000 100
 r2:qS (ye (Ť b) (ç c.2.2.2.1 c.2.2.1)) 1000 100
def Ċ.cmp {b:Þ} (h:Ċ b) {c:Cmp} (hc:c∈b.2.2.2.2.1):aig b c:=⟨h.nums hc,(h.rates hc).1,(h.rates hc).2⟩
def ya {b:Þ} (hf:0≤b.1.1∧b.1.1≤b.1.2∧b.1.2≤1000000) {c:Cmp} (h:aig b c):qS (Ĭ b c).1 2000000000 10000∧qS (Ĭ b c).2 2000000000 10000∧(-3000000000≤K9 (Ĭ b c).1+(i6 b c).1∧K9 (Ĭ b c).1+(i6 b c).1≤3000000000) ∧
 (-3000000000≤(Ĭ b c).2.1 / (Ĭ b c).2.2+(i6 b c).2∧(Ĭ b c).2.1 / (Ĭ b c).2.2+(i6 b c).2≤3000000000)∧(0≤c.2.2.2.2.2.1∧c.2.2.2.2.2.1≤1073741824):=by
 have hn:=(Η c).1 h.nums;have ha:=Ĵ hn.2.2.2.2.2.1;have hb:=Ĵ hn.2.2.2.2.2.2;obtain⟨g1,g2⟩:=Yh (Oy h.r1 h.r2) hn.2.2.2.2.1;have fb:=wL (b:=b) (c:=c) (by omega) (by omega) (by omega) (by omega) (by omega) (by omega);have q1:qS (Ĭ b c).1 2000000000 10000:=g1;have q2:qS (Ĭ b c).2 2000000000 10000:=g2;have c1:=Bu q1;have c2:=wJ q2;exact⟨q1,q2,by omega,by omega,hn.2.2.2.1⟩
def apD {b:Þ} (hs:ľ b) (hf:0≤b.1.1∧b.1.1≤b.1.2∧b.1.2≤1000000) {c:Cmp} (h:aig b c) {s:Int×Int} (h1 : -2305843009213693952≤s.1∧s.1≤2305843009213693952) (h2 : -2305843009213693952≤s.2∧s.2≤2305843009213693952):uW b c s=some (OE b c s):=by
 have hn:=(Η c).1 h.nums;have ha:=Ĵ hn.2.2.2.2.2.1;have hb:=Ĵ hn.2.2.2.2.2.2;obtain⟨q1,q2,b1,b2,b3⟩:=ya hf h;unfold uW Rz OE ahx EC;rw[afd hs (by omega) (by omega) h.r1 h.r2 hn.2.2.2.2.1,À,ajj (by omega) (by omega) (by omega) (by omega) (by omega) (by omega),À,ao6 q1.rat,À,ajZ q2.rat,À];dsimp only;rw[Ò (by omega) (by omega),Ò (by omega) (by omega),Ò (by omega) (by omega),Ò (by omega) (by omega),Č]
 by_cases hlt:(Ĭ b c).2.1 / (Ĭ b c).2.2+(i6 b c).2+c.2.2.2.2.2.1<K9 (Ĭ b c).1+(i6 b c).1-c.2.2.2.2.2.1
 ·rw[if_pos (by simpa[igt] using hlt),if_pos hlt]
 ·rw[if_neg (by simpa[igt] using hlt),if_neg hlt,Ò (by omega) (by omega),Ò (by omega) (by omega)]
def ö (b:Þ):List Lk:=(Ø b).take ((Ø b).length-2)
def Ķ (b:Þ) (c:Cmp):(Int×Int)×Int :=
 if (AF b (Ê c)).2≠0 then((0,0),(AF b (Ê c)).2) else
 if (ix (ö (ì b (Ê c))) ((Ì (ì b (Ê c))).length+1) (cy (ì b (Ê c)) (Ê c)) (cx (ì b (Ê c)) (Ê c))).2≠0 then
  ((0,0),(ix (ö (ì b (Ê c))) ((Ì (ì b (Ê c))).length+1) (cy (ì b (Ê c)) (Ê c)) (cx (ì b (Ê c)) (Ê c))).2) else
 if (ix (ö (ì b (Ê c))) ((Ì (ì b (Ê c))).length+1) (cx (ì b (Ê c)) (Ê c)) (cy (ì b (Ê c)) (Ê c))).2≠0 then
  ((0,0),(ix (ö (ì b (Ê c))) ((Ì (ì b (Ê c))).length+1) (cx (ì b (Ê c)) (Ê c)) (cy (ì b (Ê c)) (Ê c))).2) else
 OE b (Ê c) (-(ix (ö (ì b (Ê c))) ((Ì (ì b (Ê c))).length+1) (cx (ì b (Ê c)) (Ê c)) (cy (ì b (Ê c)) (Ê c))).1,
  (ix (ö (ì b (Ê c))) ((Ì (ì b (Ê c))).length+1) (cy (ì b (Ê c)) (Ê c)) (cx (ì b (Ê c)) (Ê c))).1)
def af6 {L:List Lk} {N:Nat} (h:Ą L N) {s t:Int} (hs:0≤s∧s<N) (ht:0≤t∧t<N) : -2305843009213693952≤(ix L N s t).1∧(ix L N s t).1≤2305843009213693952:=by
 unfold ix;have h2:=h.n60
 split
 ·simp
 ·rename_i ho
  have ho':Ĕ L N=true:=by simpa using ho
  obtain⟨p,hp⟩:=(ō h.links (by omega)).1 ho';have hd:=jD h.links (by omega) hp hs
  split
  ·simp
  ·rename_i hne;dsimp only;have hb:=hd.bd t ht.1 ht.2;obtain⟨vs,hw⟩:=hd.att t ht.1 ht.2 hne;have h3:=hw.low' hp;have h4:=Yp (L:=L) (fun l hl=>(h.most l hl).1) (M:=4503599627370496) (by omega);have h5:=h.len;unfold ď at hb
   constructor<;>omega
def alx {b:Þ} (hs:ľ b) (hr:∀g∈b.2.1,I64 g.2.2.2.2.1.1) {c:Cmp} (hA:c.2.2.1.length≤1000) (hB:c.2.2.2.1.length≤1000):wW b c=some (Ķ b c):=by
 unfold wW Ey Ķ;rw[show pm b (c.1,c.2.1,c.2.2.1,c.2.2.2.1,0,c.2.2.2.2.2)=pm b (Ê c) from rfl,aoC hs hr (c:=Ê c) hA hB,À]
 by_cases hw:(AF b (Ê c)).2=0
 ·rw[Î (by simp[ine,hw]),if_neg (show ¬((AF b (Ê c)).2≠0) from fun h=>h hw)]
  -- the book is valid, and so is the greater one
  have hb:â b=0:=by
   unfold AF at hw
   split at hw
   ·rename_i h; exact(h hw).elim
   ·rename_i h; simpa using h
  have hm:â (ì b (Ê c))=0:=by
   unfold AF at hw;rw[if_neg (by simp[hb])] at hw
   split at hw
   ·rename_i h; exact(h hw).elim
   ·rename_i h; simpa using h
  have he:AF b (Ê c)=(ì b (Ê c),0):=by
   unfold AF;rw[if_neg (by simp[hb]),if_neg (by simp[hm])]
  have g:=(ê b).1 hb;have gm:=(ê _).1 hm
  have hmem:Ê c∈(ì b (Ê c)).2.2.2.2.1:=by simp[ì]
  have hN:=gm.nodes;have hll:=RY gm
  have hcl:(ì b (Ê c)).2.2.2.2.1.length=b.2.2.2.2.1.length+1:=by simp[ì]
  have hlk:=gm.links;have hsys:Ą (ö (ì b (Ê c))) ((Ì (ì b (Ê c))).length+1):=gm.sys.sub (fun l hl=>List.mem_of_mem_take hl) (by unfold ö; rw[List.length_take]; omega);have hx:=(abj gm hmem).rng;have hy:=(SP gm hmem).rng;have lA:c.2.2.1.length≤1000:=hA;rw[he];dsimp only;rw[ai4 gm,À];dsimp only;rw[Ü,Ò (by omega) (by omega)]
  have e1:((ile (0:Int) (((Ø (ì b (Ê c))).length:Int)-2))&&(ile (((Ø (ì b (Ê c))).length:Int)-2) (ā (Ø (ì b (Ê c))))))=true:=by
   simp[ile,ā]; omega
  have e2:(((Ø (ì b (Ê c))).length:Int)-2).toNat=(Ø (ì b (Ê c))).length-2:=by omega
  rw[ğ e1,tm (by omega) (by omega),À,aov _ _ _ (by dsimp only; omega),À,tm (by omega) (by omega),À,aov _ _ _ (by dsimp only; omega),À,e2]
  have e3:(((Ì (ì b (Ê c))).length:Int)+1)=(((Ì (ì b (Ê c))).length+1:Nat):Int):=by push_cast; rfl
  rw[e3];rw[show List.take ((Ø (ì b (Ê c))).length-2) (Ø (ì b (Ê c)))=ö (ì b (Ê c)) from rfl];dsimp only;rw[show atP (Ì (ì b (Ê c))) (ç c.2.2.1 c.2.2.2.1) c.2.1=cx (ì b (Ê c)) (Ê c) from rfl,show atP (Ì (ì b (Ê c))) (ç c.2.2.2.1 c.2.2.1) c.2.1=cy (ì b (Ê c)) (Ê c) from rfl];rw[Oq hsys hy hx,À,Oq hsys hx hy];have b1:=af6 hsys hy hx;have b2:=af6 hsys hx hy;generalize hB1:ix (ö (ì b (Ê c))) ((Ì (ì b (Ê c))).length+1) (cy (ì b (Ê c)) (Ê c)) (cx (ì b (Ê c)) (Ê c))=B1 at b1 ⊢;generalize hB2:ix (ö (ì b (Ê c))) ((Ì (ì b (Ê c))).length+1) (cx (ì b (Ê c)) (Ê c)) (cy (ì b (Ê c)) (Ê c))=B2 at b2 ⊢
  by_cases h1:B1.2=0
  ·rw[Î (by simp[ine,h1]),if_neg (show ¬(B1.2≠0) from fun h=>h h1),À]
   by_cases h2:B2.2=0
   ·rw[Î (by simp[ine,h2]),if_neg (show ¬(B2.2≠0) from fun h=>h h2),Ò (by omega) (by omega)];have hck:aig b (Ê c):=⟨(gm.cmp hmem).nums,(gm.cmp hmem).r1,(gm.cmp hmem).r2⟩;rw[show uW b (c.1,c.2.1,c.2.2.1,c.2.2.2.1,0,c.2.2.2.2.2) (0-B2.1,B1.1)=uW b (Ê c) (0-B2.1,B1.1) from rfl,apD g.size g.film hck (by dsimp only; omega) (by dsimp only; omega),À,Int.zero_sub]
   ·rw[Ñ (by simp[ine,h2]),if_pos h2]
  ·rw[Ñ (by simp[ine,h1]),if_pos h1]
 ·rw[Ñ (by simp[ine,hw]),if_pos hw]
structure In (b:Þ):Prop where
 size:ľ b
 num:∀g∈b.2.1,I64 g.2.2.2.2.1.1
def Tr (b:Þ):Sys×List (Int×Int)×Int:=if â b≠0 then((0,[]),[],â b) else((((Ì b).length:Int)+1,Ø b),ĥ b,0)
def kv {b:Þ} (h:In b):ĩ b=some (Tr b):=by
 unfold ĩ KD Tr;rw[jo h.size h.num,À]
 by_cases hc:â b=0
 ·rw[Î (by simp[ine,hc]),ai4 ((ê b).1 hc),À,if_neg (show ¬(â b≠0) from fun h=>h hc)]
 ·rw[Ñ (by simp[ine,hc]),if_pos hc]
def cmp0:Cmp:=(0,0,[],[],0,0,0,0)
def tF (b:Þ) (i:Int):Cmp×Int:=if â b≠0 then(cmp0,â b) else if i<0∨(b.2.2.2.2.1.length:Int)≤i then(cmp0,1) else(b.2.2.2.2.1[i.toNat]?.getD cmp0,0)
def aph {b:Þ} (h:In b) (i:Int):Ic b i=some (tF b i):=by
 unfold Ic Rx tF;rw[jo h.size h.num,À]
 by_cases hc:â b=0
 ·rw[Î (by simp[ine,hc]),if_neg (show ¬(â b≠0) from fun h=>h hc),Ü]
  by_cases h1:i<0
  ·rw[Ñ (by simp[ilt,h1]),if_pos (.inl h1)]; rfl
  ·rw[Î (by simp[ilt]; omega)]
   by_cases h2:(b.2.2.2.2.1.length:Int)≤i
   ·rw[Ñ (by simp[ige,h2]),if_pos (.inr h2)]; rfl
   ·rw[Î (by simp[ige]; omega),if_neg (by omega)];obtain⟨j,rfl⟩:=gP (show 0≤i by omega)
    have hj:j<b.2.2.2.2.1.length:=by omega
    rw[Ç (cX hj),dt,cX hj];rfl
 ·rw[Ñ (by simp[ine,hc]),if_pos hc]; rfl
def agb {b:Þ} {i:Int} (h:(tF b i).2=0):Ċ b∧(tF b i).1∈b.2.2.2.2.1∧b.2.2.2.2.1[i.toNat]?=some (tF b i).1∧0≤i:=by
 unfold tF at h ⊢
 split at h
 ·rename_i hc; exact(hc h).elim
 ·rename_i hc
  have hc0:â b=0:=by simpa using hc
  split at h
  ·simp at h
  ·rename_i hi
   have hj:i.toNat<b.2.2.2.2.1.length:=by omega
   rw[if_neg hc,if_neg hi,cX hj];exact⟨(ê b).1 hc0,fC hj,rfl,by omega⟩
def aq0 (b:Þ) (i:Int):(Int×Int)×Int:=if (tF b i).2≠0 then((0,0),(tF b i).2) else(Ū b (tF b i).1,0)
def asL {b:Þ} (h:In b) (i:Int):Oi b i=some (aq0 b i):=by
 unfold Oi aaQ aq0;rw[aph h,À]
 by_cases hw:(tF b i).2=0
 ·obtain⟨g,hm,_,_⟩:=agb hw;rw[Î (by simp[ine,hw]),g.says hm,À,if_neg (show ¬((tF b i).2≠0) from fun h=>h hw)]
 ·rw[Ñ (by simp[ine,hw]),if_pos hw]
def exB:Þ:=((0,2),[(1,0,1000,(-5,5),(1,10),1),(2,0,1000,(-50,50),(1,4),0)],[(1,10)],[(1,(20,29),3)],[(7,10,[1],[2],-20,1,100,200)],[])
def Aq:In exB:=⟨⟨by decide,by decide,by decide,by decide,by decide,by decide⟩,by
 intro g hg;simp[exB] at hg
 rcases hg with rfl|rfl<;>exact⟨by decide,by decide⟩⟩
def exC:Cmp:=(8,10,[1],[2],0,0,0,0)
def A5 (b:Þ) (x d:Int):Int:=match jf (Ì b) x d with|some j=>(j:Int)+1|none=>0
def ajY (b:Þ) (n:Int×Int):Int×Int:=if â b≠0 then(0,â b) else if A5 b n.1 n.2=0 then(0,5) else(A5 b n.1 n.2,0)
def Tw {b:Þ} (h:In b) (n:Int×Int):Ŝ b n=some (ajY b n):=by
 have hl:=I9 h.size;unfold Ŝ RT ajY;rw[jo h.size h.num,À]
 by_cases hc:â b=0
 ·rw[Î (by simp[ine,hc]),if_neg (show ¬(â b≠0) from fun h=>h hc),Yn h.size,À,show ù (Ì b) n=ù (Ì b) (n.1,n.2) from rfl,af1 (by omega),À];unfold A5
  cases hx:jf (Ì b) n.1 n.2 with
  |none=>rfl
  |some j =>
   have:=(mJ hx).1;simp only;rw[Î (by simp[ilt]),Ò (by omega) (by omega),if_neg (by omega)]
 ·rw[Ñ (by simp[ine,hc]),if_pos hc]
def oa (b:Þ) (n:Int×Int):Þ:=(b.1,b.2.1,b.2.2.1,b.2.2.2.1,b.2.2.2.2.1,b.2.2.2.2.2++[n])
def ae2 {b:Þ} (h:Ċ b) (n:Int×Int):ľ (oa b n):=by
 have hs:=h.size;have:=h.nK;exact⟨hs.gauges,hs.uses,hs.loans,hs.compares,by simp[oa]; omega,hs.piles⟩
def aly (b:Þ) (n:Int×Int):Þ×Int:=if â b≠0 then(i9,â b) else if â (oa b n)≠0 then(i9,â (oa b n)) else(oa b n,0)
def asS {b:Þ} (h:In b) (n:Int×Int):kJ b n=some (aly b n):=by
 have hs:=h.size;have h1:=hs.gauges; have h2:=hs.uses; have h3:=hs.loans; have h4:=hs.compares; have h5:=hs.looks;unfold kJ aaR aly;rw[jo hs h.num,À]
 by_cases hc:â b=0
 ·have hg:=(ê b).1 hc;rw[Î (by simp[ine,hc]),Ó (by omega),Am.iff_true,Ó (by omega),Am.iff_true,Ó (by omega),Am.iff_true,Ó (by omega),Am.iff_true,Ó (by omega),Am.iff_true,if_neg (show ¬(â b≠0) from fun h=>h hc)];refine ë b.2.2.2.2.1 (fun _=>b.2.2.2.2.1) _ rfl (fun i d hi hd kn=>?_) (fun kn=>?_)
  ·dsimp only;unfold wA;obtain⟨p1,p2⟩:=hs.piles d (List.mem_of_getElem? hd)
   have e1:b.2.2.2.2.1.set i d=b.2.2.2.2.1:=by
    obtain⟨h,rfl⟩:=df.1 hd;exact List.set_getElem_self h
   rw[Ð hi,iq hi,ħ hd,Ó (by omega),Am.iff_true,Ó (by omega),Am.iff_true,iq hi,ħ hd,dt];rw[show(d.1,d.2.1,d.2.2.1,d.2.2.2)=d from rfl,e1,iq hi,jI hd,Ë hi (by omega)];rw[show(d.1,d.2.1,d.2.2.1,d.2.2.2.1,d.2.2.2.2)=d from rfl,e1]
  ·try dsimp only
   unfold wA;rw[Ù];dsimp only;rw[Ó (by simp only[List.length_singleton]; omega),Am.iff_true];rw[show û (b.1,b.2.1,b.2.2.1,b.2.2.2.1,b.2.2.2.2.1,b.2.2.2.2.2++[n])=û (oa b n) from rfl,jo (ae2 hg n) h.num,À]
   by_cases hc2:â (oa b n)=0
   ·rw[Î (by simp[ine,hc2]),if_neg (show ¬(â (oa b n)≠0) from fun h=>h hc2)];rfl
   ·rw[Ñ (by simp[ine,hc2]),if_pos hc2];rfl
 ·rw[Ñ (by simp[ine,hc]),if_pos hc];rfl
section
variable {b:Þ}
def amz:off b b.2.1.length=(Ì b).length:=by unfold off Ì; rw[List.take_length]
def aiZ:∀n,n≤b.2.1.length→∀j,j<off b n→∃(i:Nat) (g:é) (k:Nat),b.2.1[i]?=some g∧k<(ß b g).length∧j=off b i+k:=by
 intro n
 induction n with
 |zero=>intro _ j hj; simp[off] at hj
 |succ n ih =>
  intro hn j hj;have hg:b.2.1[n]?=some b.2.1[n]:=cX (by omega);rw[apS hg] at hj
  by_cases h:j<off b n
  ·exact ih (by omega) j h
  ·exact⟨n,_,j-off b n,hg,by omega,by omega⟩
def Wz {v:Int} (h0:1≤v) (h1:v<((Ì b).length+1:Nat)):∃(i:Nat) (g:é) (k:Nat),b.2.1[i]?=some g∧k<(ß b g).length∧v=(off b i:Int)+k+1:=by
 obtain⟨i,g,k,h2,h3,h4⟩:=aiZ (b:=b) b.2.1.length (cY _) (v-1).toNat (by rw[amz]; omega);exact⟨i,g,k,h2,h3,by omega⟩
def GL (b:Þ) (L:List Lk):Prop:=∀(i:Nat) (g:é),b.2.1[i]?=some g→∀l∈á b g,l∈L
def aje:GL b (Ø b):=fun i g hg l hl=>pD.2 (.inl ⟨i,g,hg,hl⟩)
def alS {L:List Lk} (h:Ċ b) (hL:GL b L) {v:Int} (h0:0≤v) (h1:v<((Ì b).length+1:Nat)):∃vs d,Wl L (fun u=>u=0) vs v d∧d≤4503599627370496:=by
 by_cases hv:v=0
 ·exact⟨[],0,.nil hv,by omega⟩
 obtain⟨i,g,k,hg,hk,rfl⟩:=Wz (by omega) h1;have hr:=h.gaugeR (dg hg);have r1:=hr.2.2.2.2.2.1;have r2:=hr.2.2.2.2.2.2.1
 have key:∀k:Nat,k<(ß b g).length→∃vs,Wl L (fun u=>u=0) vs ((off b i:Int)+k+1) (g.2.2.1+g.2.2.2.1.2):=by
  intro k
  induction k with
  |zero =>
   intro _;have hw:Wl L (fun u=>u=0) [0] ((off b i:Int)+1) (0+(g.2.2.1+g.2.2.2.1.2)):=Wl.step (.nil rfl) (hL i g hg _ ((ĸ h hg).2 (.inl rfl)));rw[gI] at hw;exact⟨[0],by simpa using hw⟩
  |succ k ih =>
   intro hk;obtain⟨vs,hw⟩:=ih (by omega);have hw':=Wl.step hw (hL i g hg _ ((ĸ h hg).2 (.inr (.inr ⟨k,_,_,cX (show k<_ by omega),cX hk,.inl rfl⟩))));rw[gd] at hw'
   have e:(off b i:Int)+((k+1:Nat):Int)+1=(off b i:Int)+k+2:=by push_cast; omega
   exact⟨_,by rw[e]; exact hw'⟩
 obtain⟨vs,hw⟩:=key k hk;exact⟨vs,_,hw,by omega⟩
def ab3 {L:List Lk} (h:Ċ b) (hL:GL b L) {v:Int} (h0:0≤v) (h1:v<((Ì b).length+1:Nat)):∃vs d,Wl L (fun u=>u=v) vs 0 d∧d≤4503599627370496:=by
 by_cases hv:v=0
 ·exact⟨[],0,.nil hv.symm,by omega⟩
 obtain⟨i,g,k,hg,hk,rfl⟩:=Wz (by omega) h1;have hgm:=dg hg;have hr:=h.gaugeR hgm;have r1:=hr.2.2.2.2.2.1;have r2:=hr.2.2.2.2.2.2.1;have hd:=Ij h hgm
 have key:∀m:Nat,m≤k→∃vs d,Wl L (fun u=>u=(off b i:Int)+k+1) vs ((off b i:Int)+(k-m:Nat)+1) d∧d≤m*(12*(20001*1048576)+40*1048576):=by
  intro m
  induction m with
  |zero=>intro _; exact⟨[],0,.nil (by simp),by simp⟩
  |succ m ih =>
   intro hm;obtain⟨vs,d,hw,hd⟩:=ih (by omega)
   have e1:((k-m:Nat):Int)=((k-(m+1):Nat):Int)+1:=by omega
   have hl:(((off b i:Int)+(k-(m+1):Nat)+2,(off b i:Int)+(k-(m+1):Nat)+1,ii b g ((ß b g)[k-(m+1)]'(by omega)) ((ß b g)[k-(m+1)+1]'(by omega))):Lk)∈L :=
    hL i g hg _ ((ĸ h hg).2 (.inr (.inr ⟨k-(m+1),_,_,cX (by omega),cX (by omega),.inr rfl⟩)))
   have hb:=kY h hgm (f:=(ß b g)[k-(m+1)]'(by omega)) (t:=(ß b g)[k-(m+1)+1]'(by omega)) (h.day hgm (fC _)).2.1
   have e2:(off b i:Int)+(k-m:Nat)+1=(off b i:Int)+(k-(m+1):Nat)+2:=by omega
   rw[e2] at hw;exact⟨_,_,.step hw hl,by push_cast; omega⟩
 obtain⟨vs,d,hw,hdb⟩:=key k (cY _)
 have e:(off b i:Int)+(k-k:Nat)+1=(off b i:Int)+1:=by omega
 rw[e] at hw;have hw':=Wl.step hw (hL i g hg _ ((ĸ h hg).2 (.inr (.inl rfl))));exact⟨_,_,hw',by omega⟩
end
structure BX (L:List Lk) (N:Nat):Prop where
 to:∀v:Int,0≤v→v<N→∃vs d,Wl L (fun u=>u=0) vs v d∧d≤4503599627370496
 from':∀v:Int,0≤v→v<N→∃vs d,Wl L (fun u=>u=v) vs 0 d∧d≤4503599627370496
def Ċ.tied {b:Þ} (h:Ċ b):BX (Ø b) ((Ì b).length+1):=⟨fun v h0 h1=>alS h aje h0 h1,fun v h0 h1=>ab3 h aje h0 h1⟩
def Ċ.tiedL {b:Þ} {L:List Lk} (h:Ċ b) (hL:GL b L):BX L ((Ì b).length+1):=⟨fun v h0 h1=>alS h hL h0 h1,fun v h0 h1=>ab3 h hL h0 h1⟩
section
variable {L:List Lk} {N:Nat}
def acZ {L:List Lk} {s:Int} {vs:List Int} {v d:Int}:Wl L (fun v=>amw s v=true) vs v d↔Wl L (fun u=>u=s) vs v d :=
 ⟨fun h=>h.mono fun u hu=>by simpa[amw] using hu,fun h=>h.mono fun u hu=>by simpa[amw] using hu⟩
def ah6 (h:Ą L N) (ho:Ĕ L N=true) {v:Int} (h0:0≤v) (h1:v<N):gv (tE L N v) v=0:=by
 have h2:=h.n60;obtain⟨p,hp⟩:=(ō h.links (by omega)).1 ho;have hd:=jD h.links (by omega) hp (s:=v) ⟨h0,h1⟩;have h3:=hd.low v [] 0 (.nil (by simp[amw]));obtain⟨vs,hw⟩:=hd.att v h0 h1 (by unfold ď; omega);obtain⟨s,hs,hx⟩:=(acZ.1 hw).pot hp;subst hs;omega
end
def XE {b:Þ}:∀i,i≤b.2.2.2.2.1.length→((b.2.2.2.2.1.take i).flatMap (ø b)).length=2*i∧(((b.2.2.2.2.1.take i).mapIdx fun i _=>[((3:Int),(i:Int)),((3:Int),(i:Int))]).flatten).length=2*i:=by
 intro i
 induction i with
 |zero=>intro _; simp
 |succ i ih =>
  intro hi;have ih:=ih (by omega);have hg:b.2.2.2.2.1[i]?=some b.2.2.2.2.1[i]:=cX hi;rw[iI _ hg,take_succ hg,eZ,fP,dc,dc];simp only[dM,gR,dU,f7,gy,ø,dj,dE];omega
section
variable {L:List Lk} {N:Nat}
def II (h:Ą L N):Ġ ((N:Int),L)=some (Ĕ L N,0):=by
 have h2:=h.n60;unfold Ġ ta;rw[jZ h,À];dsimp only;rw[Î (by rfl),vh h.links h.n1 (by omega),À]
 cases Ĕ L N<;>rfl
end
def mG (b:Þ) (n:Int×Int):Þ×Int:=if A5 b n.1 n.2≠0 then(b,0) else if â (oa b n)≠0 then(i9,â (oa b n)) else(oa b n,0)
def ū:Þ→List (Int×Int)→Þ×Int
 |b,[]=>(b,0)
 |b,n::t=>if (mG b n).2≠0 then(i9,(mG b n).2) else ū (mG b n).1 t
def ě (b:Þ) (ns:List (Int×Int)):Þ×Int :=
 if â b≠0 then(i9,â b) else if (ū b ns).2≠0 then(i9,(ū b ns).2) else
 if Ĕ (Ø (ū b ns).1) ((Ì (ū b ns).1).length+1) then((ū b ns).1,0) else(i9,9)
def al1 {b:Þ} (h:Ċ b) {n:Int×Int} (e:(mG b n).2=0):Ċ (mG b n).1:=by
 unfold mG at e ⊢
 split
 ·exact h
 ·rename_i h1;rw[if_neg h1] at e
  split
  ·rename_i h2;rw[if_pos h2] at e;exact absurd e h2
  ·rename_i h2;exact(ê _).1 (by simpa using h2)
def agi {b:Þ} {n:Int×Int} (e:(mG b n).2=0):(mG b n).1.2.1=b.2.1:=by
 unfold mG at e ⊢
 split
 ·rfl
 ·rename_i h1;rw[if_neg h1] at e
  split
  ·rename_i h2;rw[if_pos h2] at e;exact absurd e h2
  ·rfl
def EV:∀{ns:List (Int×Int)} {b:Þ},Ċ b→(ū b ns).2=0→Ċ (ū b ns).1
 |[],b,h,_=>h
 |n::t,b,h,e=>by
  unfold ū at e ⊢
  split
  ·rename_i h1; rw[if_pos h1] at e; exact absurd e h1
  ·rename_i h1;rw[if_neg h1] at e;exact EV (al1 h (by simpa using h1)) e
def Ds:∀{ns:List (Int×Int)} {b:Þ},(ū b ns).2=0→(ū b ns).1.2.1=b.2.1
 |[],b,_=>rfl
 |n::t,b,e=>by
  unfold ū at e ⊢
  split
  ·rename_i h1; rw[if_pos h1] at e; exact absurd e h1
  ·rename_i h1;rw[if_neg h1] at e;rw[Ds e,agi (by simpa using h1)]
def Ċ.inn {b:Þ} (h:Ċ b) (hn:∀g∈b.2.1,I64 g.2.2.2.2.1.1):In b:=⟨h.size,hn⟩
def Ξ {b:Þ} (h:Ċ b):Tr b=((((Ì b).length:Int)+1,Ø b),ĥ b,0):=by
 unfold Tr;rw[if_neg (by simp[(ê b).2 h])]
def EL {b:Þ} (h:Ċ b) (n:Int×Int):ajY b n=if A5 b n.1 n.2=0 then(0,5) else(A5 b n.1 n.2,0):=by
 unfold ajY;rw[if_neg (by simp[(ê b).2 h])]
abbrev Flat:Type:=Int×Int×List é×List (Int×Int)×List IG×List Cmp×List (Int×Int)
def flat (b:Þ):Flat:=(b.1.1,b.1.2,b.2.1,b.2.2.1,b.2.2.2.1,b.2.2.2.2.1,b.2.2.2.2.2)
def Ae (b:Þ):(((flat b).1,(flat b).2.1),(flat b).2.2)=b:=rfl
section
variable {ρ:Type}
def arW (ns:List (Int×Int)) (E1:Int×Flat→Option ρ) (K1:Flat→Option ρ) (b:Þ):Option ρ :=
 Í (fun(v:Int×Flat) kk=>Đ (Ö ns) ns v.1 v.2.1 v.2.2.1 v.2.2.2.1 v.2.2.2.2.1 v.2.2.2.2.2.1 v.2.2.2.2.2.2.1 v.2.2.2.2.2.2.2 (fun u1 u2 u3 u4 u5 u6 u7 u8=>kk (u1,u2,u3,u4,u5,u6,u7,u8)) (fun z=>E1 z) (fun z=>K1 z)) ((0:Int),b.1.1,b.1.2,b.2.1,b.2.2.1,b.2.2.2.1,b.2.2.2.2.1,b.2.2.2.2.2)
def amf {ns:List (Int×Int)} (hl:ns.length≤1000) {E1:Int×Flat→Option ρ} {K1:Flat→Option ρ} (R:Int→Option ρ) (h1:∀z,z.1≠0→E1 z=R z.1) {b:Þ} (hg:Ċ b) (hn:∀g∈b.2.1,I64 g.2.2.2.2.1.1) :
 arW ns E1 K1 b=if (ū b ns).2≠0 then R (ū b ns).2 else K1 (flat (ū b ns).1):=by
 unfold arW
 refine Hz ns (fun(i:Nat) (s:Flat) (t:List (Int×Int))=>if (ū ((s.1,s.2.1),s.2.2) t).2≠0 then R (ū ((s.1,s.2.1),s.2.2) t).2 else K1 (flat (ū ((s.1,s.2.1),s.2.2) t).1))
  (fun i s=>Ċ ((s.1,s.2.1),s.2.2)∧∀g∈s.2.2.1,I64 g.2.2.2.2.1.1) (fun s hs kn=>?_) (fun i n t s hd hi ha hs kn hk=>?_) (s:=flat b) ⟨hg,hn⟩
 ·dsimp only;unfold Đ;rw[Ù];rfl
 ·dsimp only;unfold Đ;obtain⟨hs1,hs2⟩:=hs;have hin:In ((s.1,s.2.1),s.2.2):=hs1.inn hs2;rw[Ð hi,iq hi,ħ ha];rw[show Ŝ ((s.1,s.2.1),s.2.2.1,s.2.2.2.1,s.2.2.2.2.1,s.2.2.2.2.2.1,s.2.2.2.2.2.2) n=Ŝ ((s.1,s.2.1),s.2.2) n from rfl,Tw hin,À];rw[show kJ ((s.1,s.2.1),s.2.2.1,s.2.2.2.1,s.2.2.2.2.1,s.2.2.2.2.2.1,s.2.2.2.2.2.2) n=kJ ((s.1,s.2.1),s.2.2) n from rfl,asS hin,À];rw[EL hs1];generalize hB:(((s.1,s.2.1),s.2.2):Þ)=B at hs1 hin ⊢
  have hu:ū B (n::t)=if (mG B n).2≠0 then(i9,(mG B n).2) else ū (mG B n).1 t:=rfl
  rw[hu]
  by_cases h0:A5 B n.1 n.2=0
  ·rw[if_pos h0,Î (by rfl)]
   by_cases h2:â (oa B n)=0
   ·have e:mG B n=(oa B n,0):=by unfold mG; rw[if_neg (by simp[h0]),if_neg (by simp[h2])]
    have e2:aly B n=(oa B n,0):=by unfold aly; rw[if_neg (by simp[(ê B).2 hs1]),if_neg (by simp[h2])]
    rw[e2,e,Î (by rfl),Ë hi (by omega),if_neg (show ¬((0:Int)≠0) by simp)];subst hB;exact hk (s.1,s.2.1,s.2.2.1,s.2.2.2.1,s.2.2.2.2.1,s.2.2.2.2.2.1,s.2.2.2.2.2.2++[n]) ⟨(ê _).1 h2,hs2⟩
   ·have e:mG B n=(i9,â (oa B n)):=by unfold mG; rw[if_neg (by simp[h0]),if_pos h2]
    have e2:aly B n=(i9,â (oa B n)):=by unfold aly; rw[if_neg (by simp[(ê B).2 hs1]),if_pos h2]
    rw[e2,e,Ñ (by simp[ine,h2]),if_pos h2,if_pos h2];exact h1 _ h2
  ·have e:mG B n=(B,0):=by unfold mG; rw[if_pos h0]
   rw[if_neg h0,Ñ (by rfl),Ë hi (by omega),e,if_neg (show ¬((0:Int)≠0) by simp)];subst hB;exact hk s ⟨hs1,hs2⟩
def vt {b:Þ} (hI:In b) {ns:List (Int×Int)} (hl:ns.length≤1000) {E0:Int→Option ρ} {E1:Int×Flat→Option ρ} {E2:Flat→Sys×List (Int×Int)×Int→Option ρ} {E3:Flat→Sys×List (Int×Int)×Int→Bool×Int→Option ρ}
 {K:Flat→Sys×List (Int×Int)×Int→Bool×Int→Option ρ} (R:Int→Option ρ) (h0:∀e,e≠0→E0 e=R e) (h1:∀z,z.1≠0→E1 z=R z.1) (h3:∀z s r,E3 z s r=R 9) :
 Å (û b) (fun r1=>ifb (ine r1 (0:Int)) (E0 r1) (arW ns E1 (fun z8=>Å (ĩ ((z8.1,z8.2.1),z8.2.2)) fun r9=>ifb (ine r9.2.2 (0:Int)) (E2 z8 r9) (Å (Ġ r9.1) fun r10=>ifb (!r10.1) (E3 z8 r9 r10) (K z8 r9 r10))) b)) =
 if (ě b ns).2≠0 then R (ě b ns).2 else K (flat (ě b ns).1) ((((Ì (ě b ns).1).length:Int)+1,Ø (ě b ns).1),ĥ (ě b ns).1,0) (true,0):=by
 rw[jo hI.size hI.num,À];unfold ě
 by_cases hc:â b=0
 ·have hg:=(ê b).1 hc;rw[Î (by simp[ine,hc]),if_neg (show ¬(â b≠0) from fun h=>h hc),amf hl R h1 hg hI.num]
  by_cases hr:(ū b ns).2=0
  ·rw[if_neg (show ¬((ū b ns).2≠0) from fun h=>h hr),if_neg (show ¬((ū b ns).2≠0) from fun h=>h hr)];have hB:=EV hg hr
   have hBn:∀g∈(ū b ns).1.2.1,I64 g.2.2.2.2.1.1:=by rw[Ds hr]; exact hI.num
   generalize (ū b ns).1=B at hB hBn ⊢;rw[Ae,kv (hB.inn hBn),À,Ξ hB,Î (by rfl)];dsimp only;rw[show(((Ì B).length:Int)+1)=(((Ì B).length+1:Nat):Int) by push_cast; rfl,II hB.sys,À]
   cases ho:Ĕ (Ø B) ((Ì B).length+1) with
   |true =>
    rw[if_neg (by simp)];simp only[eJ,æ];push_cast;rfl
   |false =>
    rw[if_pos (by simp)];simp only[Bool.not_false,ė];rw[h3];rfl
  ·rw[if_pos hr,if_pos hr,if_pos hr]
 ·rw[Ñ (by simp[ine,hc]),h0 _ hc,if_pos hc,if_pos hc]
end
def Mi (b:Þ) (id day:Int):Bool:=b.2.2.1.any fun u=>u.1==id&&u.2==day
def ahL (b:Þ) (g:é) (d:Int):Int:=match j5 b g.1 d with|some l=>l.2.2|none=>if Mi b g.1 d then g.2.2.2.2.2 else 0
def amZ (l:IG) (id:Int) {f t:Int} (hft:f≤t):(if l.1=id∧0<Ė l f (t+1) then Ė l f (t+1)*l.2.2 else 0)=(if l.1=id∧0<Ė l f t then Ė l f t*l.2.2 else 0)+(if l.1=id∧l.2.1.1≤t∧t≤l.2.1.2 then l.2.2 else 0):=by
 by_cases hid:l.1=id
 ·by_cases h1:l.2.1.1≤t∧t≤l.2.1.2
  ·have e:Ė l f (t+1)=Ė l f t+1:=by unfold Ė; omega
   have p:0≤Ė l f t:=by unfold Ė; omega
   rw[e,if_pos ⟨hid,by omega⟩,if_pos (show l.1=id∧l.2.1.1≤t∧t≤l.2.1.2 from⟨hid,h1⟩),gq,gC]
   by_cases hp:0<Ė l f t
   ·rw[if_pos ⟨hid,hp⟩]
   ·rw[if_neg (fun h=>hp h.2)]
    have:Ė l f t=0:=by omega
    rw[this];omega
  ·rw[if_neg (show ¬(l.1=id∧l.2.1.1≤t∧t≤l.2.1.2) from fun h=>h1 h.2),gd]
   by_cases hlo:l.2.1.1≤t
   ·have e:Ė l f (t+1)=Ė l f t:=by unfold Ė; omega
    rw[e]
   ·have p1:¬0<Ė l f (t+1):=by unfold Ė; omega
    have p2:¬0<Ė l f t:=by unfold Ė; omega
    rw[if_neg (fun h=>p1 h.2),if_neg (fun h=>p2 h.2)]
 ·rw[if_neg (fun h=>hid h.1),if_neg (fun h=>hid h.1),if_neg (fun h=>hid h.1)];rfl
def W4 (id:Int) {f t:Int} (hft:f≤t):∀{x:List IG},x.Pairwise (fun a c=>¬(a.1=c.1∧a.2.1.1≤c.2.1.2∧c.2.1.1≤a.2.1.2)) →
 ÿ id f (t+1) x=ÿ id f t x+(match x.find? (fun l=>l.1==id&&inP t l.2.1.1 l.2.1.2) with|some l=>l.2.2|none=>0)
 |[],_=>rfl
 |l::r,hp=>by
  rw[dS] at hp;have ih:=W4 id hft hp.2;simp only[ÿ];rw[ih,amZ l id hft,gH]
  by_cases hm:l.1=id∧l.2.1.1≤t∧t≤l.2.1.2
  ·have e:(l.1==id&&inP t l.2.1.1 l.2.1.2)=true:=by simp[inP,hm.1,hm.2.1,hm.2.2]
   have hn:r.find? (fun l=>l.1==id&&inP t l.2.1.1 l.2.1.2)=none:=by
    rw[ew];intro c hc hcm;simp only[inP,cZ,beq_iff_eq,decide_eq_true_eq] at hcm;exact hp.1 c hc ⟨by rw[hm.1,hcm.1],by omega,by omega⟩
   rw[if_pos hm,e,hn];simp only;omega
  ·have e:(l.1==id&&inP t l.2.1.1 l.2.1.2)=false:=by
    rw[ee];intro h;simp only[inP,cZ,beq_iff_eq,decide_eq_true_eq] at h;exact hm h
   rw[if_neg hm,e];simp only;omega
section
variable {b:Þ}
def Ċ.apart (h:Ċ b):b.2.2.2.1.Pairwise (fun a c=>¬(a.1=c.1∧a.2.1.1≤c.2.1.2∧c.2.1.1≤a.2.1.2)):=by
 rw[List.pairwise_iff_getElem];intro i j hi hj hij ⟨h1,h2,h3⟩;have hz:=h.loans j _ (List.getElem?_eq_getElem hj);unfold HA at hz
 have hany:(b.2.2.2.1.take j).any (fun x=>x.1==b.2.2.2.1[j].1&&(decide (x.2.1.1≤b.2.2.2.1[j].2.1.2)&&decide (b.2.2.2.1[j].2.1.1≤x.2.1.2)))=true:=by
  rw[dZ];exact⟨b.2.2.2.1[i],dl.2 ⟨i,by rw[dm]; omega,by rw[fm]⟩,by simp[h1,h2,h3]⟩
 rw[hany] at hz
 (repeat' split at hz)<;>first|omega|simp_all
def Ċ.notUsed (h:Ċ b) {id d:Int} {l:IG} (hl:j5 b id d=some l):Mi b id d=false:=by
 have hm:=fG hl;have hp:=fL hl;simp only[inP,cZ,beq_iff_eq,decide_eq_true_eq] at hp;obtain⟨j,hj,rfl⟩:=dl.1 hm;have hz:=h.loans j _ (cX hj);rw[ee];intro hu;obtain⟨u,hu,hue⟩:=dZ.1 hu;simp only[cZ,beq_iff_eq] at hue
 have hany:b.2.2.1.any (fun u=>u.1==b.2.2.2.1[j].1&&inP u.2 b.2.2.2.1[j].2.1.1 b.2.2.2.1[j].2.1.2)=true:=by
  rw[dZ];exact⟨u,hu,by simp only[inP,cZ,beq_iff_eq,decide_eq_true_eq]; exact⟨by rw[hue.1,hp.1],by omega,by omega⟩⟩
 unfold HA at hz;rw[hany] at hz
 (repeat' split at hz)<;>first|omega|simp_all
def abX {id f t:Int} (hft:f≤t):XW (Τ b id f (t+1))=XW (Τ b id f t)++if Mi b id t then[t] else[]:=by
 have hm:∀t x,x∈Τ b id f t↔Mi b id x=true∧f≤x∧x<t:=by
  intro t x;unfold Τ Mi;simp only[List.mem_map,List.mem_filter,List.any_eq_true,inP,Bool.and_eq_true,beq_iff_eq,decide_eq_true_eq];constructor
  ·rintro⟨u,⟨h1,h2,h3,h4⟩,rfl⟩;exact⟨⟨u,h1,h2,rfl⟩,h3,by omega⟩
  ·rintro⟨⟨u,h1,h2,rfl⟩,h3,h4⟩;exact⟨u,⟨h1,h2,h3,by omega⟩,rfl⟩
 refine abC (vl _) ?_ fun x=>?_
 ·rw[List.pairwise_append]
  refine⟨vl _,by split<;>simp,fun a ha c hc=>?_⟩
  rw[qW,hm] at ha
  split at hc
  ·rw[dk] at hc; omega
  ·cases hc
 ·rw[qW,hm,dh,qW,hm]
  by_cases hu:Mi b id t=true
  ·rw[if_pos hu,dk];constructor
   ·rintro⟨h1,h2,h3⟩
    by_cases he:x=t
    ·exact .inr he
    ·exact .inl ⟨h1,h2,by omega⟩
   ·rintro(⟨h1,h2,h3⟩|rfl)
    ·exact⟨h1,h2,by omega⟩
    ·exact⟨hu,hft,by omega⟩
  ·rw[if_neg hu];constructor
   ·rintro⟨h1,h2,h3⟩;refine .inl ⟨h1,h2,?_⟩
    by_cases he:x=t
    ·rw[he] at h1; exact absurd h1 hu
    ·omega
   ·rintro(⟨h1,h2,h3⟩|h)
    ·exact⟨h1,h2,by omega⟩
    ·cases h
def RV (h:Ċ b) (g:é) {f t:Int} (hft:f≤t):ii b g f (t+1)=ii b g f t+ahL b g t:=by
 unfold ii ahL;rw[W4 g.1 hft h.apart,abX hft];show ÿ g.1 f t b.2.2.2.1+(match j5 b g.1 t with|some l=>l.2.2|none=>0)+_=_
 cases ha:j5 b g.1 t with
 |some l =>
  rw[h.notUsed ha];simp only[dv,if_false,dU];omega
 |none =>
  simp only
  cases Mi b g.1 t with
  |true=>simp only[if_true,dc,dK,Int.natCast_add,gq]; omega
  |false=>simp only[dv,if_false,dU]; omega
def zW (g:é) {f t:Int} (hft:t≤f):ii b g f t=0:=by
 unfold ii
 have h1:∀x:List IG,ÿ g.1 f t x=0:=by
  intro x
  induction x with
  |nil=>rfl
  |cons l r ih =>
   simp only[ÿ];rw[ih,if_neg (by unfold Ė; omega)];rfl
 have h2:Τ b g.1 f t=[]:=by
  unfold Τ
  rw[List.filter_eq_nil_iff.2 fun u hu hc=>by
   simp only[inP,cZ,beq_iff_eq,decide_eq_true_eq] at hc
   omega]
  rfl
 rw[h1,h2];have h3:XW ([]:List Int)=[]:=rfl;rw[h3];simp
end
section
variable {b:Þ}
def N7 (h:Ċ b) (g:é) {f t u:Int} (h1:f≤t) (h2:t≤u):ii b g f u=ii b g f t+ii b g t u:=by
 obtain⟨n,rfl⟩:∃n:Nat,u=t+n:=⟨(u-t).toNat,by omega⟩;clear h2
 induction n with
 |zero=>simp[zW]
 |succ n ih =>
  have e:t+((n+1:Nat):Int)=(t+n)+1:=by omega
  rw[e,RV h g (show f≤t+(n:Int) by omega),RV h g (show t≤t+(n:Int) by omega),ih];omega
def Ez (h:Ċ b) {g:é} (hg:g∈b.2.1) {f t:Int} (hf:0≤f):0≤ii b g f t:=(kY h hg hf).1
def Ż (b:Þ) (id d:Int):Int:=match jf (Ì b) id d with|some j=>(j:Int)+1|none=>0
def re (h:Ċ b) {i:Nat} {g:é} (hg:b.2.1[i]?=some g) {k:Nat} {d:Int} (hk:(ß b g)[k]?=some d):Ż b g.1 d=(off b i:Int)+k+1:=by
 unfold Ż;rw[agC h hg hk];simp only;omega
structure qR (b:Þ) (p:Int→Int) (g:é):Prop where
 hi:p (Ż b g.1 g.2.1)≤p 0+(g.2.2.1+g.2.2.2.1.2)
 lo:p 0+(g.2.2.1+g.2.2.2.1.1)≤p (Ż b g.1 g.2.1)
 down:∀d e,d∈ß b g→e∈ß b g→d≤e→p (Ż b g.1 e)≤p (Ż b g.1 d)
 loss:∀d e,d∈ß b g→e∈ß b g→d≤e→p (Ż b g.1 d)≤p (Ż b g.1 e)+ii b g d e
def l8 (h:Ċ b) {i:Nat} {g:é} (hg:b.2.1[i]?=some g) {p:Int→Int}:(∀l∈á b g,p l.2.1≤p l.1+l.2.2)↔qR b p g:=by
 have hgm:=dg hg;obtain⟨tl,htl⟩:=SO h hgm
 have h0:Ż b g.1 g.2.1=(off b i:Int)+1:=by
  have:=re h hg (k:=0) (d:=g.2.1) (by rw[htl]; rfl);rw[this];omega
 constructor
 ·intro hl;have e1:=hl _ ((ĸ h hg).2 (.inl rfl));have e2:=hl _ ((ĸ h hg).2 (.inr (.inl rfl)));simp only at e1 e2
  have step:∀(k:Nat) (d e:Int),(ß b g)[k]?=some d→(ß b g)[k+1]?=some e→p (Ż b g.1 e)≤p (Ż b g.1 d)∧p (Ż b g.1 d)≤p (Ż b g.1 e)+ii b g d e:=by
   intro k d e hd he;have a1:=hl _ ((ĸ h hg).2 (.inr (.inr ⟨k,d,e,hd,he,.inl rfl⟩)));have a2:=hl _ ((ĸ h hg).2 (.inr (.inr ⟨k,d,e,hd,he,.inr rfl⟩)));simp only at a1 a2;rw[re h hg hd,re h hg he]
   have e3:(off b i:Int)+((k+1:Nat):Int)+1=(off b i:Int)+k+2:=by omega
   rw[e3];exact⟨by omega,a2⟩
  have pair:∀(n k:Nat) (d e:Int),(ß b g)[k]?=some d→(ß b g)[k+n]?=some e→p (Ż b g.1 e)≤p (Ż b g.1 d)∧p (Ż b g.1 d)≤p (Ż b g.1 e)+ii b g d e:=by
   intro n
   induction n with
   |zero =>
    intro k d e hd he;rw[fN,hd] at he;cases he;rw[zW g (dQ _)];omega
   |succ n ih =>
    intro k d e hd he;have hlt:=(df.1 he).1;have hm:(ß b g)[k+n]?=some ((ß b g)[k+n]'(by omega)):=cX (by omega);obtain⟨a1,a2⟩:=ih k d _ hd hm;obtain⟨a3,a4⟩:=step (k+n) _ e hm he
    have o1:d≤(ß b g)[k+n]'(by omega):=by
     obtain⟨hkl,hkd⟩:=df.1 hd;rcases fE n with rfl|hn
     ·rw[←hkd]; exact Int.le_of_eq (by congr 1)
     ·have:=(dI.1 (tx b g)) k (k+n) hkl (by omega) (by omega);rw[hkd] at this; omega
    have o2:(ß b g)[k+n]'(by omega)≤e:=by
     obtain⟨hel,hee⟩:=df.1 he;have:=(dI.1 (tx b g)) (k+n) (k+(n+1)) (by omega) hel (by omega);rw[hee] at this; omega
    have:=N7 h g o1 o2;omega
  have any:∀d e,d∈ß b g→e∈ß b g→d≤e→p (Ż b g.1 e)≤p (Ż b g.1 d)∧p (Ż b g.1 d)≤p (Ż b g.1 e)+ii b g d e:=by
   intro d e hd he hde;obtain⟨k,hk,rfl⟩:=dl.1 hd;obtain⟨m,hm,rfl⟩:=dl.1 he
   have hkm:k≤m:=by
    rcases dA m k with hlt|hge
    ·have:=(dI.1 (tx b g)) m k hm hk hlt; omega
    ·exact hge
   exact pair (m-k) k _ _ (cX hk) (by rw[show k+(m-k)=m by omega]; exact cX hm)
  exact⟨by rw[h0]; omega,by rw[h0]; omega,fun d e hd he hde=>(any d e hd he hde).1,fun d e hd he hde=>(any d e hd he hde).2⟩
 ·intro hf l hl;rcases(ĸ h hg).1 hl with rfl|rfl|⟨k,d,e,hd,he,rfl|rfl⟩
  ·have:=hf.hi; rw[h0] at this; simp only; omega
  ·have:=hf.lo; rw[h0] at this; simp only; omega
  ·have hde:d≤e:=by
    obtain⟨a1,a2⟩:=df.1 hd;obtain⟨a3,a4⟩:=df.1 he;have:=(dI.1 (tx b g)) k (k+1) a1 a3 (by omega);rw[a2,a4] at this; omega
   have:=hf.down d e (dg hd) (dg he) hde;rw[re h hg hd,re h hg he] at this
   have e3:(off b i:Int)+((k+1:Nat):Int)+1=(off b i:Int)+k+2:=by omega
   rw[e3] at this;simp only;omega
  ·have hde:d≤e:=by
    obtain⟨a1,a2⟩:=df.1 hd;obtain⟨a3,a4⟩:=df.1 he;have:=(dI.1 (tx b g)) k (k+1) a1 a3 (by omega);rw[a2,a4] at this; omega
   have:=hf.loss d e (dg hd) (dg he) hde;rw[re h hg hd,re h hg he] at this
   have e3:(off b i:Int)+((k+1:Nat):Int)+1=(off b i:Int)+k+2:=by omega
   rw[e3] at this;simp only;exact this
def X5 (h:Ċ b) {p:Int→Int}:Pot (Ø b) p↔(∀g∈b.2.1,qR b p g)∧∀c∈b.2.2.2.2.1,p (cx b c)≤p (cy b c)+(Ū b c).2∧p (cy b c)+(Ū b c).1≤p (cx b c):=by
 constructor
 ·intro hp;refine⟨fun g hg=>?_,fun c hc=>?_⟩
  ·obtain⟨i,hi,rfl⟩:=dl.1 hg;exact(l8 h (cX hi)).1 fun l hl=>hp l.1 l.2.1 l.2.2 (pD.2 (.inl ⟨i,_,cX hi,hl⟩))
  ·have a1:=hp _ _ _ (pD.2 (.inr ⟨c,hc,.inl rfl⟩));have a2:=hp _ _ _ (pD.2 (.inr ⟨c,hc,.inr rfl⟩));omega
 ·rintro⟨hg,hc⟩ u v m hl;rcases pD.1 hl with⟨i,g,hig,hl⟩|⟨c,hcm,hl⟩
  ·exact(l8 h hig).2 (hg g (dg hig)) (u,v,m) hl
  ·obtain⟨a1,a2⟩:=hc c hcm;rcases hl with hl|hl
   ·obtain⟨rfl,rfl,rfl⟩:u=cy b c∧v=cx b c∧m=(Ū b c).2:=by simpa using hl
    exact a1
   ·obtain⟨rfl,rfl,rfl⟩:u=cx b c∧v=cy b c∧m = -(Ū b c).1:=by simpa using hl
    omega
end
def arm:List Int→Int
 |[]=>0
 |[a]=>a
 |a::b::t=>max a (arm (b::t))
def ac7:∀{l:List Int},l≠[]→(∀a∈l,a≤arm l)∧arm l∈l
 |[],h=>absurd rfl h
 |[a],_=>⟨fun x hx=>by rw[dk] at hx; rw[hx]; exact dQ _,by simp[arm]⟩
 |a::b::t,_=>by
  obtain⟨h1,h2⟩:=ac7 (l:=b::t) (by simp);have e:arm (a::b::t)=max a (arm (b::t)):=rfl;rw[e];constructor
  ·intro x hx;rcases di.1 hx with rfl|hx
   ·omega
   ·have:=h1 x hx; omega
  ·rcases Int.le_total a (arm (b::t)) with h|h
   ·rw[Int.max_eq_right h]; exact gA _ h2
   ·rw[Int.max_eq_left h]; exact List.mem_cons_self
section
variable {b:Þ}
def OK (b:Þ) (f:Int→Int→Int) (z:Int) (v:Int):Int:=if v=0 then z else match (Ì b)[(v-1).toNat]? with|some n=>f n.1 n.2|none=>0
def pR (f:Int→Int→Int) (z:Int):OK b f z 0=z:=by unfold OK; rw[if_pos rfl]
def EX (h:Ċ b) (f:Int→Int→Int) (z:Int) {g:é} (hg:g∈b.2.1) {d:Int} (hd:d∈ß b g):OK b f z (Ż b g.1 d)=f g.1 d:=by
 obtain⟨i,hi,rfl⟩:=List.mem_iff_getElem.1 hg;obtain⟨k,hk,rfl⟩:=List.mem_iff_getElem.1 hd;have hgi:=List.getElem?_eq_getElem hi;have hdk:=List.getElem?_eq_getElem hk;rw[re h hgi hdk];unfold OK
 have e:((off b i:Int)+k+1-1).toNat=off b i+k:=by omega
 rw[if_neg (by omega),e,NY hgi hdk]
def NI (b:Þ) (l:List Int) (d:Int):Int:=match l with|[]=>0|x::_=>Ż b x d
def ajN (l:List Int) (d:Int):atP (Ì b) l d=NI b l d:=by
 unfold atP NI Ż
 cases l<;>rfl
def K4 (c:Cmp):cx b c=NI b (ç c.2.2.1 c.2.2.2.1) c.2.1:=ajN _ _
def K3 (c:Cmp):cy b c=NI b (ç c.2.2.2.1 c.2.2.1) c.2.1:=ajN _ _
def nw (h:Ċ b) {c:Cmp} (hc:c∈b.2.2.2.2.1) {x:Int} (hx:x∈ç c.2.2.1 c.2.2.2.1∨x∈ç c.2.2.2.1 c.2.2.1):∃g∈b.2.1,g.1=x∧c.2.1∈ß b g:=by
 have hx':(x∈c.2.2.1∧x∉c.2.2.2.1)∨(x∈c.2.2.2.1∧x∉c.2.2.1):=by
  rcases hx with hx|hx
  ·exact .inl (i5.1 hx)
  ·exact .inr (i5.1 hx)
 have hm:x∈c.2.2.1++c.2.2.2.1:=by rw[dh]; exact hx'.imp (·.1) (·.1)
 obtain⟨⟨g,hg,_⟩,_⟩:=h.pile hc hm;obtain⟨hgm,hid⟩:=iD hg;refine⟨g,hgm,hid,iw.2 (.inr (.inl ⟨c,hc,?_,rfl⟩))⟩;rw[hid];intro he;rw[dO,eN,eN] at he;rcases hx' with⟨a,e⟩|⟨a,e⟩
 ·exact e (he.1 a)
 ·exact e (he.2 a)
def fill (b:Þ) (p:Int→Int) (g:é) (d:Int):Int:=arm ((ß b g).map fun e=>if d≤e then p (Ż b g.1 e) else p (Ż b g.1 e)-ii b g e d)
def SA {p:Int→Int} {g:é} (d:Int):(∀e∈ß b g,(if d≤e then p (Ż b g.1 e) else p (Ż b g.1 e)-ii b g e d)≤fill b p g d)∧∃e∈ß b g,fill b p g d=if d≤e then p (Ż b g.1 e) else p (Ż b g.1 e)-ii b g e d:=by
 have hne:((ß b g).map fun e=>if d≤e then p (Ż b g.1 e) else p (Ż b g.1 e)-ii b g e d)≠[]:=by
  intro h;have:=List.map_eq_nil_iff.1 h;have h2:=kK (b:=b) g;rw[this] at h2;cases h2
 obtain⟨h1,h2⟩:=ac7 hne;refine⟨fun e he=>h1 _ (dP.2 ⟨e,he,rfl⟩),?_⟩;obtain⟨e,he,hx⟩:=dP.1 h2;exact⟨e,he,hx.symm⟩
def Ob (h:Ċ b) {p:Int→Int} {g:é} (hg:g∈b.2.1) (hf:qR b p g) {d:Int} (hd:d∈ß b g):fill b p g d=p (Ż b g.1 d):=by
 obtain⟨h1,e,he,h2⟩:=SA (b:=b) (p:=p) (g:=g) d;have h3:=h1 d hd;rw[if_pos (dQ _)] at h3
 have h4:fill b p g d≤p (Ż b g.1 d):=by
  rw[h2]
  split
  ·rename_i hde;exact hf.down d e hd he hde
  ·rename_i hde;have:=hf.loss e d he hd (by omega);omega
 omega
def HN (h:Ċ b) {p:Int→Int} {g:é} (hg:g∈b.2.1) (hf:qR b p g) {d e:Int} (h0:g.2.1≤d) (hde:d≤e):fill b p g e≤fill b p g d∧fill b p g d≤fill b p g e+ii b g d e:=by
 obtain⟨a1,x,hx,a2⟩:=SA (b:=b) (p:=p) (g:=g) d;obtain⟨b1,y,hy,b2⟩:=SA (b:=b) (p:=p) (g:=g) e;have hm:=(h.gaugeR hg).2.2.2.2.1;have hl:=Ez h hg (f:=d) (t:=e) (by omega);have dx:=h.day hg hx;have dy:=h.day hg hy;constructor
 ·have q:=a1 y hy;rw[b2]
  by_cases c1:e≤y
  ·rw[if_pos c1];rw[if_pos (by omega)] at q;exact q
  ·rw[if_neg c1]
   by_cases c2:d≤y
   ·rw[if_pos c2] at q;have:=Ez h hg (f:=y) (t:=e) dy.2.1;omega
   ·rw[if_neg c2] at q;have:=N7 h g (f:=y) (t:=d) (u:=e) (by omega) hde;omega
 ·have q:=b1 x hx;rw[a2]
  by_cases c1:d≤x
  ·rw[if_pos c1]
   by_cases c2:e≤x
   ·rw[if_pos c2] at q;omega
   ·rw[if_neg c2] at q;have:=N7 h g (f:=d) (t:=x) (u:=e) c1 (by omega);have:=Ez h hg (f:=d) (t:=x) (by omega);omega
  ·rw[if_neg c1];rw[if_neg (by omega)] at q;have:=N7 h g (f:=x) (t:=d) (u:=e) (by omega) hde;omega
end
section
variable {b:Þ} {c:Cmp}
def ahD:ö (ì b c)=(ì b c).2.1.flatMap (á (ì b c))++b.2.2.2.2.1.flatMap (ø (ì b c)):=by
 unfold ö
 have e:Ø (ì b c)=((ì b c).2.1.flatMap (á (ì b c))++b.2.2.2.2.1.flatMap (ø (ì b c)))++ø (ì b c) c:=by
  unfold Ø;rw[show(ì b c).2.2.2.2.1=b.2.2.2.2.1++[c] from rfl,List.flatMap_append,List.append_assoc];simp
 rw[e,dc,show(ø (ì b c) c).length=2 from rfl,Nat.add_sub_cancel,List.take_left]
def N9 (h':Ċ (ì b c)) {p:Int→Int}:Pot (ö (ì b c)) p↔(∀g∈b.2.1,qR (ì b c) p g)∧∀d∈b.2.2.2.2.1,p (cx (ì b c) d)≤p (cy (ì b c) d)+(Ū b d).2∧p (cy (ì b c) d)+(Ū b d).1≤p (cx (ì b c) d):=by
 rw[ahD];constructor
 ·intro hp;refine⟨fun g hg=>?_,fun d hd=>?_⟩
  ·obtain⟨i,hi,rfl⟩:=dl.1 hg;exact(l8 h' (i:=i) (cX hi)).1 fun l hl=>hp l.1 l.2.1 l.2.2 (dh.2 (.inl (dC.2 ⟨_,fC hi,hl⟩)))
  ·have a1:=hp (cy (ì b c) d) (cx (ì b c) d) (Ū (ì b c) d).2 (dh.2 (.inr (dC.2 ⟨d,hd,by simp[ø]⟩)));have a2:=hp (cx (ì b c) d) (cy (ì b c) d) (-(Ū (ì b c) d).1) (dh.2 (.inr (dC.2 ⟨d,hd,by simp[ø]⟩)));have e:Ū (ì b c) d=Ū b d:=rfl;rw[e] at a1 a2;omega
 ·rintro⟨hg,hc⟩ u v m hl;rcases dh.1 hl with hl|hl
  ·obtain⟨g,hgm,hl⟩:=dC.1 hl;obtain⟨i,hi,rfl⟩:=dl.1 hgm;exact(l8 h' (i:=i) (cX hi)).2 (hg _ hgm) (u,v,m) hl
  ·obtain⟨d,hd,hl⟩:=dC.1 hl;obtain⟨a1,a2⟩:=hc d hd;have e:Ū (ì b c) d=Ū b d:=rfl;simp only[ø,di,gc,or_false,e] at hl;rcases hl with hl|hl
   ·obtain⟨rfl,rfl,rfl⟩:u=cy (ì b c) d∧v=cx (ì b c) d∧m=(Ū b d).2:=by simpa using hl
    exact a1
   ·obtain⟨rfl,rfl,rfl⟩:u=cx (ì b c) d∧v=cy (ì b c) d∧m = -(Ū b d).1:=by simpa using hl
    omega
def vc {g:é} {d:Int} (hd:d∈ß b g):d∈ß (ì b c) g:=by
 rcases iw.1 hd with e|⟨x,hx,h1,h2⟩|hn
 ·exact iw.2 (.inl e)
 ·exact iw.2 (.inr (.inl ⟨x,dh.2 (.inl hx),h1,h2⟩))
 ·exact iw.2 (.inr (.inr hn))
def amU (g:é) (f t:Int):ii (ì b c) g f t=ii b g f t:=rfl
def Lc {b':Þ} (h':Ċ b') {l:List Int} {day:Int} (f:Int→Int→Int) (z:Int) (hl:∀x∈l,∃g∈b'.2.1,g.1=x∧day∈ß b' g):OK b' f z (NI b' l day)=match l with|[]=>z|x::_=>f x day:=by
 unfold NI
 cases l with
 |nil=>exact pR f z
 |cons x t =>
  obtain⟨g,hg,rfl,hd⟩:=hl x (by simp);exact EX h' f z hg hd
def amu (h:Ċ b) (h':Ċ (ì b c)):(∃p,Pot (Ø b) p)↔∃p,Pot (ö (ì b c)) p:=by
 constructor
 ·rintro⟨p,hp⟩;obtain⟨hg,hc⟩:=(X5 h).1 hp
  let f:Int→Int→Int:=fun id d=>match ł b id with|some g=>fill b p g d|none=>0
  have hfv:∀g∈b.2.1,∀d,f g.1 d=fill b p g d:=fun g hgm d=>by
   show(match ł b g.1 with|some g=>fill b p g d|none=>0)=_;rw[ű h.ids hgm]
  have hq:∀g∈b.2.1,∀d∈ß (ì b c) g,OK (ì b c) f (p 0) (Ż (ì b c) g.1 d)=fill b p g d:=fun g hgm d hd=>by
   rw[EX h' f (p 0) hgm hd,hfv g hgm d]
  refine⟨OK (ì b c) f (p 0),(N9 h').2 ⟨fun g hgm=>?_,fun d hd=>?_⟩⟩
  ·have gf:=hg g hgm;have hmade:g.2.1∈ß b g:=kK g;have e0:=hq g hgm g.2.1 (kK g);rw[Ob h hgm gf hmade] at e0;refine⟨?_,?_,fun x y hx hy hxy=>?_,fun x y hx hy hxy=>?_⟩
   ·rw[e0,pR]; exact gf.hi
   ·rw[e0,pR]; exact gf.lo
   ·rw[hq g hgm x hx,hq g hgm y hy];exact(HN h hgm gf (h'.day hgm hx).1 hxy).1
   ·rw[hq g hgm x hx,hq g hgm y hy,amU];exact(HN h hgm gf (h'.day hgm hx).1 hxy).2
  ·have key:∀l:List Int,(∀x∈l,∃g∈b.2.1,g.1=x∧d.2.1∈ß b g)→OK (ì b c) f (p 0) (NI (ì b c) l d.2.1)=p (NI b l d.2.1):=by
    intro l hl;rw[Lc h' f (p 0) (fun x hx=>by obtain⟨g,q1,q2,q3⟩:=hl x hx; exact⟨g,q1,q2,vc q3⟩)]
    cases l with
    |nil=>rfl
    |cons x t =>
     obtain⟨g,q1,rfl,q3⟩:=hl x (by simp);show f g.1 d.2.1=p (Ż b g.1 d.2.1);rw[hfv g q1,Ob h q1 (hg g q1) q3]
   rw[K4,K3,key _ (fun x hx=>nw h hd (.inl hx)),key _ (fun x hx=>nw h hd (.inr hx)),←K4,←K3];exact hc d hd
 ·rintro⟨p,hp⟩;obtain⟨hg,hc⟩:=(N9 h').1 hp
  let f:Int→Int→Int:=fun id d=>p (Ż (ì b c) id d)
  have hq:∀g∈b.2.1,∀d∈ß b g,OK b f (p 0) (Ż b g.1 d)=p (Ż (ì b c) g.1 d):=fun g hgm d hd=>EX h f (p 0) hgm hd;refine⟨OK b f (p 0),(X5 h).2 ⟨fun g hgm=>?_,fun d hd=>?_⟩⟩
  ·have gf:=hg g hgm;have e0:=hq g hgm g.2.1 (kK g);refine⟨?_,?_,fun x y hx hy hxy=>?_,fun x y hx hy hxy=>?_⟩
   ·rw[e0,pR]; exact gf.hi
   ·rw[e0,pR]; exact gf.lo
   ·rw[hq g hgm x hx,hq g hgm y hy];exact gf.down x y (vc hx) (vc hy) hxy
   ·rw[hq g hgm x hx,hq g hgm y hy];exact gf.loss x y (vc hx) (vc hy) hxy
  ·have key:∀l:List Int,(∀x∈l,∃g∈b.2.1,g.1=x∧d.2.1∈ß b g)→OK b f (p 0) (NI b l d.2.1)=p (NI (ì b c) l d.2.1):=by
    intro l hl;rw[Lc h f (p 0) hl]
    cases l<;>rfl
   rw[K4,K3,key _ (fun x hx=>nw h hd (.inl hx)),key _ (fun x hx=>nw h hd (.inr hx)),←K4,←K3];exact hc d hd
end
section
variable {L:List Lk} {N:Nat}
def Wl.app {u v:Int} {vs:List Int} {d:Int} (h1:Wl L (fun x=>x=u) vs v d) {ws:List Int} {w e:Int} (h2:Wl L (fun x=>x=v) ws w e):∃xs,Wl L (fun x=>x=u) xs w (d+e):=by
 induction h2 with
 |nil h=>subst h; exact⟨vs,by rw[gd]; exact h1⟩
 |step hw hx ih =>
  obtain⟨xs,hi⟩:=ih;have:=Wl.step hi hx;rw[Int.add_assoc] at this;exact⟨_,this⟩
def dst (L:List Lk) (N:Nat) (s t:Int):Int:=gv (tE L N s) t
def anC (h:Ą L N) (ht:BX L N) (ho:Ĕ L N=true) {s t:Int} (hs:0≤s∧s<N) (hv:0≤t∧t<N):dst L N s t≤9007199254740992:=by
 have h2:=h.n60;obtain⟨p,hp⟩:=(ō h.links (by omega)).1 ho;obtain⟨vs,d,hw,hd⟩:=ht.from' s hs.1 hs.2;obtain⟨ws,e,hx,he⟩:=ht.to t hv.1 hv.2;obtain⟨xs,hy⟩:=Wl.app hw hx;have:=(jD h.links (by omega) hp hs).low t xs _ (acZ.2 hy);unfold dst;omega
def ajs (h:Ą L N) (ht:BX L N) (ho:Ĕ L N=true) {s t:Int} (hs:0≤s∧s<N) (hv:0≤t∧t<N):dst L N s t≠ď:=by
 have:=anC h ht ho hs hv;unfold ď;omega
def anB (h:Ą L N) (ht:BX L N) (ho:Ĕ L N=true) {s:Int} (hs:0≤s∧s<N):Pot L (dst L N s):=by
 have h2:=h.n60;obtain⟨p,hp⟩:=(ō h.links (by omega)).1 ho;intro u v m hl;have hr:=h.inr _ hl;exact(jD h.links (by omega) hp hs).pot h.inr hl (ajs h ht ho hs hr.1)
def ajr (h:Ą L N) (ho:Ĕ L N=true) {s:Int} (hs:0≤s∧s<N):dst L N s s=0:=ah6 h ho hs.1 hs.2
def abh (h:Ą L N) (ht:BX L N) (ho:Ĕ L N=true) {s t:Int} (hs:0≤s∧s<N) (hv:0≤t∧t<N) {p:Int→Int} (hp:Pot L p):p t-p s≤dst L N s t:=by
 have h2:=h.n60;obtain⟨vs,hw⟩:=(jD h.links (by omega) hp hs).att t hv.1 hv.2 (ajs h ht ho hs hv);obtain⟨u,hu,hx⟩:=(acZ.1 hw).pot hp;subst hu;exact hx
def ast (h:Ą L N) (ht:BX L N) (ho:Ĕ L N=true) {x y:Int} (hx:0≤x∧x<N) (hy:0≤y∧y<N) {t:Int} (h1 : -(dst L N x y)≤t) (h2:t≤dst L N y x):∃p,Pot L p∧p x-p y=t:=by
 refine⟨fun v=>min (dst L N y v) (dst L N x v+t),fun u v m hl=>?_,?_⟩
 ·have a1:=anB h ht ho hy u v m hl;have a2:=anB h ht ho hx u v m hl;show min _ _≤min _ _+m;omega
 ·have e1:=ajr h ho hx;have e2:=ajr h ho hy;show min (dst L N y x) (dst L N x x+t)-min (dst L N y y) (dst L N x y+t)=t;omega
def afu (h:Ą L N) (ht:BX L N) (ho:Ĕ L N=true) {x y:Int} (hx:0≤x∧x<N) (hy:0≤y∧y<N) : -(dst L N x y)≤dst L N y x:=by
 have h2:=h.n60;obtain⟨p,hp⟩:=(ō h.links (by omega)).1 ho;have a1:=abh h ht ho hx hy hp;have a2:=abh h ht ho hy hx hp;omega
def ajt (h:Ą L N) (ht:BX L N) (ho:Ĕ L N=true) {s t:Int} (hs:0≤s∧s<N) (hv:0≤t∧t<N) : -9007199254740992≤dst L N s t∧dst L N s t≤9007199254740992:=by
 have a1:=anC h ht ho hs hv;have a2:=anC h ht ho hv hs;have a3:=afu h ht ho hv hs;omega
def BC (h:Ą L N) (ht:BX L N) {s t:Int} (hs:0≤s∧s<N) (hv:0≤t∧t<N):ix L N s t=if Ĕ L N then(dst L N s t,0) else(0,9):=by
 unfold ix
 by_cases ho:Ĕ L N=true
 ·have hne:=ajs h ht ho hs hv;unfold dst at hne ⊢;rw[if_neg (by simp[ho]),if_neg hne,if_pos ho]
 ·rw[if_pos (by simpa using ho),if_neg ho]
end
section
variable {b:Þ} {c:Cmp}
def asj (h':Ċ (ì b c)):GL (ì b c) (ö (ì b c)):=by
 intro i g hg l hl;rw[ahD];exact dh.2 (.inl (dC.2 ⟨g,dg hg,hl⟩))
def ki (h':Ċ (ì b c)):BX (ö (ì b c)) ((Ì (ì b c)).length+1):=h'.tiedL (asj h')
def jP (h':Ċ (ì b c)):Ą (ö (ì b c)) ((Ì (ì b c)).length+1) :=
 h'.sys.sub (fun l hl=>List.mem_of_mem_take hl) (by unfold ö; rw[List.length_take]; omega)
def qy (h:Ċ b) (h':Ċ (ì b c)):Ĕ (ö (ì b c)) ((Ì (ì b c)).length+1)=Ĕ (Ø b) ((Ì b).length+1):=by
 have n1:=h.sys.n60;have n2:=(jP h').n60;rw[dO,ō (jP h').links (by omega),ō h.sys.links (by omega)];exact(amu h h').symm
def AP:c∈(ì b c).2.2.2.2.1:=by simp[ì]
def De (h':Ċ (ì b c)):0≤cx (ì b c) c∧cx (ì b c) c<((Ì (ì b c)).length+1:Nat):=(abj h' AP).rng
def Dc (h':Ċ (ì b c)):0≤cy (ì b c) c∧cy (ì b c) c<((Ì (ì b c)).length+1:Nat):=(SP h' AP).rng
def dLo (b:Þ) (c:Cmp):Int:=-(dst (ö (ì b c)) ((Ì (ì b c)).length+1) (cx (ì b c) c) (cy (ì b c) c))
def dHi (b:Þ) (c:Cmp):Int:=dst (ö (ì b c)) ((Ì (ì b c)).length+1) (cy (ì b c) c) (cx (ì b c) c)
def Tu (h:Ċ b) (h':Ċ (ì b (Ê c))):Ķ b c=if Ĕ (Ø b) ((Ì b).length+1) then OE b (Ê c) (dLo b (Ê c),dHi b (Ê c)) else((0,0),9):=by
 have e:AF b (Ê c)=(ì b (Ê c),0):=by
  unfold AF;rw[if_neg (by simp[(ê b).2 h]),if_neg (by simp[(ê _).2 h'])]
 unfold Ķ;rw[e,BC (jP h') (ki h') (Dc h') (De h'),BC (jP h') (ki h') (De h') (Dc h'),qy h h']
 by_cases ho:Ĕ (Ø b) ((Ì b).length+1)=true
 ·rw[if_pos ho,if_pos ho,if_pos ho];rfl
 ·rw[if_neg ho,if_neg ho,if_neg ho];rfl
def pq (hp:(Ķ b c).2=0):Ċ b∧Ċ (ì b (Ê c)):=by
 have hw:(AF b (Ê c)).2=0:=by
  unfold Ķ at hp
  by_cases hw:(AF b (Ê c)).2=0
  ·exact hw
  ·rw[if_pos hw] at hp; exact hp
 unfold AF at hw
 by_cases hb:â b=0
 ·rw[if_neg (by simp[hb])] at hw
  by_cases hm:â (ì b (Ê c))=0
  ·exact⟨(ê b).1 hb,(ê _).1 hm⟩
  ·rw[if_pos hm] at hw; exact absurd hw hm
 ·rw[if_pos hb] at hw; exact absurd hw hb
def agl {s:Int×Int} (h:(OE b c s).2=0):ahx b c≤EC b c∧OE b c s=((s.1+ahx b c,s.2+EC b c),0):=by
 unfold OE at h ⊢
 split at h
 ·simp at h
 ·rename_i hl;rw[if_neg hl];exact⟨by omega,rfl⟩
end
end Go.Proofs.ZzM
end
