/- lemmas -/
import Derived.Test.YtdmegkgjpgcfgaaGreatAmF
import Derived.Test.YtdmegkgjpgcfgaaGreatMdTA
set_option linter.all false
set_option linter.unusedSectionVars false
set_option linter.unusedVariables false
set_option linter.unusedSimpArgs false
noncomputable section
namespace Go.Am
section
variable {ρ:Type}
def Ŋ {α β:Type} (e:Nat→α→Option β):Nat→List α→Option β
 |_,[]=>none
 |i,a::t=>match e i a with
  |some b=>some b
  |none=>Ŋ e (i+1) t
def mu {α β:Type} (l:List α) (e:Nat→α→Option β) (k0:β→Option ρ) (k1:Option ρ) {f:Int→(Int→Option ρ)→Option ρ}
 (h:∀(i:Nat) (a:α),i<l.length→l[i]?=some a→∀kn,f i kn=match e i a with|some b=>k0 b|none=>kn ((i:Int)+1))
 (hn:∀kn,f l.length kn=k1):Ê f 0=match Ŋ e 0 l with|some b=>k0 b|none=>k1:=by
 refine ace l (fun i t=>match Ŋ e i t with|some b=>k0 b|none=>k1) hn fun i a t hd hi ha kn hk=>?_;rw[h i a hi ha kn,hk,Ŋ]
 cases e i a<;>rfl
def ģ {α σ:Type} (l:List α) (g:Nat→σ) (r:Option ρ) {f:Int×σ→(Int×σ→Option ρ)→Option ρ} {s0:σ} (h0:g 0=s0)
 (h:∀(i:Nat) (a:α),i<l.length→l[i]?=some a→∀kn,f (i,g i) kn=kn ((i:Int)+1,g (i+1)))
 (hn:∀kn,f (l.length,g l.length) kn=r):Ê f (0,s0)=r:=by
 subst h0
 have hs:∀s,(s=g 0)→Ê f (0,s)=r:=fun s e=>Ra l (fun _ _ _=>r) (fun i s=>s=g i) (fun s hs kn=>by rw[hs]; exact hn kn) (fun i a t s hd hi ha hI kn hk=>by
  rw[hI,h i a hi ha kn]; exact hk _ rfl) e
 exact hs _ rfl
def K3 {α σ:Type} (l:List α) (g:Nat→σ) (r:Option ρ) {f:Int×σ→(Int×σ→Option ρ)→Option ρ} {s0:σ} (P:Nat→Prop) (h0:g 0=s0) (hP:P 0)
 (h:∀(i:Nat) (a:α),i<l.length→l[i]?=some a→P i→∀kn,f (i,g i) kn=r∨(P (i+1)∧f (i,g i) kn=kn ((i:Int)+1,g (i+1))))
 (hn:P l.length→∀kn,f (l.length,g l.length) kn=r):Ê f (0,s0)=r:=by
 subst h0
 have hs:∀s,(s=g 0∧P 0)→Ê f (0,s)=r:=fun s e=>Ra l (fun _ _ _=>r) (fun i s=>s=g i∧P i) (fun s hs kn=>by rw[hs.1]; exact hn hs.2 kn) (fun i a t s hd hi ha hI kn hk=>by
  rcases h i a hi ha hI.2 kn with h1|⟨h1,h2⟩
  ·rw[hI.1,h1]
  ·rw[hI.1,h2]; exact hk _ ⟨rfl,h1⟩) e
 exact hs _ ⟨rfl,hP⟩
def Ë {i n:Nat} (h:i<n) (hn:n≤1000000000) (f:Int→Option ρ):ck ((i:Int)+1) f=f ((i:Int)+1):=Ó (by omega) (by omega) f
def af8 {i n:Nat} (h:i<n) (x y:Option ρ):ifb (ilt (i:Int) (ZR n)) x y=x:=by simp[Ċ,Ji,h]
def Ý (n:Nat) (x y:Option ρ):ifb (ilt (n:Int) (ZR n)) x y=y:=by simp[Ċ,Ji]
def Ï {α:Type} {l:List α} {i:Nat} (h:i<l.length) (x y:Option ρ):ifb (ilt (i:Int) (Ù l)) x y=x:=af8 h x y
def Lu {α:Type} (p:α→Bool):∀(i:Nat) (l:List α),Ŋ (fun i a=>bif p a then some (i:Int) else none) i l=(l.findIdx? p).map fun j=>((i+j:Nat):Int)
 |_,[]=>rfl
 |i,a::t=>by
  simp only[Ŋ,List.findIdx?_cons]
  cases hp:p a with
  |true=>simp
  |false =>
   simp only[cond_false,cV,if_false];rw[Lu p (i+1) t]
   cases t.findIdx? p with
   |none=>rfl
   |some j=>simp only[dI]; congr 1; omega
def G9 {α β:Type} (e:α→Option β):∀(i:Nat) (l:List α),Ŋ (fun _ a=>e a) i l=l.findSome? e
 |_,[]=>rfl
 |i,a::t=>by
  simp only[Ŋ,fW]
  cases e a with
  |some b=>rfl
  |none=>exact G9 e (i+1) t
def i7 {α β:Type} {e:Nat→α→Option β}:∀{i:Nat} {l:List α},Ŋ e i l=none↔∀j a,l[j]?=some a→e (i+j) a=none
 |_,[]=>by simp[Ŋ]
 |i,a::t=>by
  simp only[Ŋ];constructor
  ·intro h j b hb
   cases he:e i a with
   |some c=>rw[he] at h; cases h
   |none =>
    rw[he] at h
    cases j with
    |zero=>simp at hb; subst hb; simpa using he
    |succ j=>have:=(i7.1 h) j b (by simpa using hb); rw[←this]; congr 1; omega
  ·intro h;have h0:=h 0 a (by simp);simp only[fM] at h0;rw[h0]
   exact i7.2 fun j b hb=>by have:=h (j+1) b (by simpa using hb); rw[←this]; congr 1; omega
def take_succ {α:Type} {l:List α} {i:Nat} {a:α} (h:l[i]?=some a):l.take (i+1)=l.take i++[a]:=by rw[List.take_succ,h]; rfl
end
end Go.Am
end

noncomputable section
namespace Go.Proofs.ZzM
open Go Go.Am
section
variable {ρ:Type}
def ė {τ:Type} {f:τ→(τ→Option ρ)→Option ρ} {r:Option ρ} (I:τ→Prop) (μ:τ→Nat)
 (h:∀x,I x→(∀kn,f x kn=r)∨∃y,I y∧μ y<μ x∧∀kn,f x kn=kn y) {x:τ} (hx:I x):Ê f x=r :=
 tK (F:=fun _=>r) I μ (fun x hx kn hk=>by
  rcases h x hx with h1|⟨y,h1,h2,h3⟩
  ·exact h1 kn
  ·rw[h3,hk y h1 h2]) hx
def i5 {α:Type} (l:List α) (p:α→Bool) (k0:Int→Option ρ) (k1:Option ρ) {f:Int→(Int→Option ρ)→Option ρ}
 (h:∀(i:Nat) (a:α),i<l.length→l[i]?=some a→∀kn,f i kn=if p a then k0 i else kn ((i:Int)+1))
 (hn:∀kn,f l.length kn=k1):Ê f 0=match l.findIdx? p with|some j=>k0 j|none=>k1:=by
 rw[mu l (fun i a=>bif p a then some (i:Int) else none) k0 k1 (fun i a hi ha kn=>by rw[h i a hi ha kn]; cases p a<;>rfl) hn,Lu]
 cases l.findIdx? p with
 |none=>rfl
 |some j=>simp
def ľ {α:Type} (l:List α) (p:α→Bool) (k0:Int→Option ρ) (K k1:Option ρ) {f:Int→(Int→Option ρ)→Option ρ} (hK:∀j:Nat,k0 j=K)
 (h:∀(i:Nat) (a:α),i<l.length→l[i]?=some a→∀kn,f i kn=if p a then k0 i else kn ((i:Int)+1))
 (hn:∀kn,f l.length kn=k1):Ê f 0=if l.any p then K else k1:=by
 rw[i5 l p k0 k1 h hn]
 cases hf:l.findIdx? p with
 |none =>
  have:l.any p=false:=by
   rw[dN];intro x hx;have:=dE.1 hf x hx;simp[this]
  simp[this]
 |some j =>
  have:l.any p=true:=by
   have:=dH.1 hf;obtain⟨hj,hp,_⟩:=this;exact dj.2 ⟨_,fj hj,hp⟩
  simp[this,hK]
end
abbrev Ā:Type:=Int×Int×Int×(Int×Int)×((Int×Int)×Int)
abbrev IH:Type:=Int×((Int×Int)×Int)
abbrev Cmp:Type:=Int×Int×List Int×List Int×Int×(Int×(Int×Int))
abbrev Ĕ:Type:=(Int×Int)×List Ā×List (Int×Int)×List IH×List Cmp×List (Int×Int)
abbrev Sys:Type:=Int×List (Int×Int×Int)
abbrev Maker:Type:=Ĕ×List (Int×Int)×Sys×List (Int×Int)
section
variable {ρ:Type}
def Ú {b:Bool} (h:b=true) (x y:Option ρ):ifb b x y=x:=by rw[h]; rfl
def Ð {b:Bool} (h:b=false) (x y:Option ρ):ifb b x y=y:=by rw[h]; rfl
end
def I64 (n:Int):Prop:=-9223372036854775808≤n∧n≤9223372036854775807
def inP (n lo hi:Int):Bool:=decide (lo≤n)&&decide (n≤hi)
def IE (n:Int):Bool:=inP n 0 20000
def lZ (s:Int×Int) (lo hi:Int):Bool:=decide (lo≤s.1)&&(decide (s.1≤s.2)&&decide (s.2≤hi))
def ι (n lo hi:Int):Ě n lo hi=some (inP n lo hi):=by
 unfold Ě FF inP ile
 cases decide (lo≤n)<;>rfl
def Iq (n:Int):lB n=some (IE n):=by
 unfold lB KP;rw[ι]; rfl
def D5 (s:Int×Int) (lo hi:Int):Ζ s lo hi=some (lZ s lo hi):=by
 unfold Ζ FN lZ ile
 cases decide (lo≤s.1)<;>cases decide (s.1≤s.2)<;>rfl
def Pr {n:Int} (h:I64 n):rI n=some (n.natAbs:Int):=by
 obtain⟨h1,h2⟩:=h;unfold rI Qz
 by_cases hn:n<0
 ·have:ilt n 0=true:=by simpa using hn
  rw[Ú this];congr 1;simp only[IntKind.wrap,IntKind.bits,IntKind.signed];simp;omega
 ·have:ilt n 0=false:=by simpa using hn
  rw[Ð this];congr 1;simp only[IntKind.wrap,IntKind.bits,IntKind.signed];simp;omega
def aga (a b:Nat):Lz a b=some ((Nat.gcd a b:Nat):Int):=by
 unfold Lz Ww;refine ė (fun x:Int×Int=>∃c d:Nat,x=((c:Int),(d:Int))∧Nat.gcd c d=Nat.gcd a b) (fun x=>x.2.toNat) ?_ ⟨a,b,rfl,rfl⟩;rintro x ⟨c,d,rfl,hg⟩
 cases d with
 |zero =>
  refine .inl fun kn=>?_;rw[Nat.gcd_zero_right] at hg;unfold yI;simp[hg,ine]
 |succ d =>
  refine .inr ⟨(((d+1:Nat):Int),((c % (d+1):Nat):Int)),⟨d+1,c % (d+1),rfl,?_⟩,?_,fun kn=>?_⟩
  ·rw[←hg,Nat.gcd_comm c (d+1),Nat.gcd_rec (d+1) c,Nat.gcd_comm]
  ·have:=Nat.mod_lt c (gR d);simp only[cW];omega
  ·unfold yI
   have h1:ine ((d+1:Nat):Int) 0=true:=by simp[ine]; omega
   have h2:yk ((d+1:Nat):Int) 0=false:=by simp[yk]; omega
   simp only[h1,Ú Ð h2];congr 1
def Mn (r:Int×Int):Bool :=
 decide (1≤r.2)&&(decide (r.2≤2147483647)&&(decide ((r.1.natAbs:Int)≤2147483647)&&decide (Nat.gcd r.1.natAbs r.2.natAbs=1)))
def RV {r:Int×Int} (h:I64 r.1):tU r=some (Mn r):=by
 unfold tU Kx Mn
 by_cases h1:1≤r.2
 ·by_cases h2:r.2≤2147483647
  ·have h3:I64 r.2:=⟨by omega,by omega⟩
   have e1:ige r.2 1=true:=by simp[ige,h1]
   have e2:ile r.2 2147483647=true:=by simp[ile,h2]
   rw[Ú e1,Ú e2,Pr h,À]
   by_cases h4:(r.1.natAbs:Int)≤2147483647
   ·have e4:ile (r.1.natAbs:Int) 2147483647=true:=by simp[ile,h4]
    rw[Ú e4,À,Pr h3,À,aga,À];congr 1;rw[gb];simp only[ieq,beq_iff_eq,h1,h2,h4,decide_true,eD,decide_eq_true_eq];omega
   ·have e4:ile (r.1.natAbs:Int) 2147483647=false:=by simp[ile]; omega
    rw[Ð e4];simp[h4]
  ·have e1:ige r.2 1=true:=by simp[ige,h1]
   have e2:ile r.2 2147483647=false:=by simp[ile]; omega
   rw[Ú e1,Ð e2];simp[h2]
 ·have e1:ige r.2 1=false:=by simp[ige]; omega
  rw[Ð e1];simp[h1]
def AO (g:Ā):Bool :=
 Mn g.2.2.2.2.1&&inP g.2.2.2.2.1.1 (-1000) 1000&&decide (g.2.2.2.2.1.2≤100)&&inP g.1 1 1099511627776&&IE g.2.1&&inP g.2.2.1 1 1125899906842624&&lZ g.2.2.2.1 (-1073741824) 1073741824&&inP g.2.2.2.2.2 0 1048576
def Z8 {g:Ā} (h:I64 g.2.2.2.2.1.1):vz g=some (AO g):=by
 unfold vz BM AO;rw[RV h,ι,ι,Iq,ι,D5,ι];generalize Mn g.2.2.2.2.1=x1;generalize inP g.2.2.2.2.1.1 (-1000) 1000=x2;generalize inP g.1 1 1099511627776=x3;generalize IE g.2.1=x4;generalize inP g.2.2.1 1 1125899906842624=x5;generalize lZ g.2.2.2.1 (-1073741824) 1073741824=x6;generalize inP g.2.2.2.2.2 0 1048576=x7;unfold ile;generalize decide (g.2.2.2.2.1.2≤100)=x8
 cases x1<;>cases x2<;>cases x3<;>cases x4<;>cases x5<;>cases x6<;>cases x8<;>rfl
section
variable {ρ:Type}
def UD {α:Type} {l:List α} {i:Nat} {a:α} (h0:0<i) (h:l[i-1]?=some a) (f:α→Option ρ):Ĥ l ((i:Int)-1) f=f a:=by
 have:((i:Int)-1)=((i-1:Nat):Int):=by omega
 rw[this,È h]
def adm {i:Nat} (h:0<i) (hn:i≤1000000000) (f:Int→Option ρ):ck ((i:Int)-1) f=f ((i:Int)-1):=Ó (by omega) (by omega) f
def Ĭ {i n:Nat} (h:i<n) (x:Option ρ):á ((ile 0 (i:Int))&&(ilt (i:Int) (n:Int))) x=x:=by
 have:((ile 0 (i:Int))&&(ilt (i:Int) (n:Int)))=true:=by simp[ile,ilt,h]
 rw[this,Am.iff_true]
def ð {α:Type} {l:List α} {i:Nat} {a:α} (h:l[i]?=some a) (f:α→Option ρ):Ĺ l (Int.toNat (i:Int)) f=f a:=by
 rw[cW]; exact iN h f
end
def t7 {α:Type} (key:α→Int) (l:List α) (i:Nat) (a:α):Bool :=
 decide (0<i)&&(l[i-1]?).any fun q=>decide (key a≤key q)
def SK {α:Type} {l:List α} {i:Nat} (hi:i<l.length) (h0:0<i):∃q,l[i-1]?=some q :=
 ⟨l[i-1],cG (by omega)⟩
def IG {α:Type} (key:α→Int) (l:List α):(∀i a,l[i]?=some a→t7 key l i a=false)↔l.Pairwise (fun a b=>key a<key b):=by
 rw[du];constructor
 ·intro h
  have step:∀i (h1:i+1<l.length),key l[i]<key l[i+1]:=by
   intro i h1;have:=h (i+1) l[i+1] (cG h1);simp only[t7,Nat.add_sub_cancel,gR,decide_true,eD,cG (show i<l.length by omega),Option.any_some,decide_eq_false_iff_not] at this;omega
  intro i j hi hj hij
  induction j with
  |zero=>omega
  |succ j ih =>
   have:=step j hj;rcases dg i j with hlt|hge
   ·have:=ih (by omega) hlt; omega
   ·have:i=j:=by omega
    subst this; assumption
 ·intro h i a ha;obtain⟨hi,rfl⟩:=List.getElem?_eq_some_iff.1 ha;unfold t7
  cases i with
  |zero=>rfl
  |succ i =>
   have:=h i (i+1) (by omega) hi (by omega);simp only[Nat.add_sub_cancel,gR,decide_true,eD,cG (show i<l.length by omega),Option.any_some,decide_eq_false_iff_not];omega
def yc (l:List Ā) (i:Nat) (g:Ā):Option Int :=
 if !AO g then some 1 else if t7 (fun g=>g.1) l i g then some 6 else none
def mB (b:Ĕ):Int:=(Ŋ (yc b.2.1) 0 b.2.1).getD 0
def NN {b:Ĕ} (hr:∀g∈b.2.1,I64 g.2.2.2.2.1.1) (hn:b.2.1.length≤1000):ź b=some (mB b):=by
 unfold ź pO;refine Eq.trans (mu b.2.1 (yc b.2.1) some (some 0) (fun i a hi ha kn=>?_) (fun kn=>?_)) ?_
 ·try dsimp only
  unfold iP;rw[Ï hi,È ha,Z8 (hr a (List.mem_of_getElem? ha)),À];unfold yc
  cases hg:AO a with
  |false=>simp
  |true =>
   simp only[dB,é,cV,if_false];rcases f0 i with h0|h0
   ·subst h0
    have:igt ((0:Nat):Int) 0=false:=by simp[igt]
    rw[Ð this,Ë hi (by omega)];simp[t7]
   ·obtain⟨q,hq⟩:=SK hi h0
    have h1:igt (i:Int) 0=true:=by simp[igt]; omega
    rw[Ú h1,adm h0 (by omega),UD h0 hq];simp only[t7,h0,decide_true,Bool.true_and,hq,Option.any_some];unfold ile
    cases h2:decide (a.1≤q.1) with
    |true=>simp
    |false =>
     rw[é,Ë hi (by omega)];simp
 ·try dsimp only
  unfold iP;rw[Ý]
 ·unfold mB
  cases Ŋ (yc b.2.1) 0 b.2.1<;>rfl
def Sw (l:List Ā):List (Int×Ā):=l.foldl (fun m g=>Jj (k:=tI) (v:=Ö) g.1 g m) []
def œ (b:Ĕ):List (Int×Ā):=Sw b.2.1
def EQ {b:Ĕ} (hn:b.2.1.length≤1000):Ł b=some (œ b):=by
 unfold Ł BJ;refine ģ b.2.1 (fun i=>Sw (b.2.1.take i)) _ rfl (fun i a hi ha kn=>?_) (fun kn=>?_)
 ·try dsimp only
  unfold mN;rw[Ï hi,È ha,Ë hi (by omega),take_succ ha];simp only[Sw,List.foldl_append,List.foldl_cons,List.foldl_nil]
 ·try dsimp only
  unfold mN;rw[Ý,List.take_length];rfl
def Tj (x y:Int) (g:Ā):∀m:List (Int×Ā),lR (k:=tI) (v:=Ö) x (Jj (k:=tI) (v:=Ö) y g m)=if x=y then some g else lR (k:=tI) (v:=Ö) x m
 |[]=>by
  unfold Jj lR Ź lR
  by_cases h:x=y<;>simp[h]
 |e::m=>by
  unfold Jj
  by_cases h:y=e.1
  ·have:Ź tI y e.1=true:=by simp[Ź,h]
   rw[this]
   try dsimp only
   unfold lR Ź
   by_cases h2:x=y
   ·simp[h2]
   ·have:¬x=e.1:=fun h3=>h2 (h3.trans h.symm);simp[h2,this]
  ·have:Ź tI y e.1=false:=by simp[Ź,h]
   rw[this]
   try dsimp only
   have ih:=Tj x y g m;unfold lR
   by_cases h2:x=e.1
   ·have:Ź tI x e.1=true:=by simp[Ź,h2]
    rw[this];have:¬x=y:=fun h3=>h (h3.symm.trans h2);simp[this]
   ·have:Ź tI x e.1=false:=by simp[Ź,h2]
    rw[this];exact ih
def ö (b:Ĕ) (id:Int):Option Ā:=b.2.1.find? fun g=>g.1==id
def VX (x:Int) (l:List Ā):lR (k:=tI) (v:=Ö) x (Sw l)=l.reverse.find? fun g=>g.1==x:=by
 unfold Sw;rw[←List.foldr_reverse]
 induction l.reverse with
 |nil=>rfl
 |cons g t ih =>
  rw[List.foldr_cons,Tj,ih,fw]
  by_cases h:x=g.1
  ·simp[h]
  ·have:(g.1==x)=false:=by simp; exact fun h2=>h h2.symm
   simp[h,this]
def Ha {l:List Ā} (h:l.Pairwise fun a b=>a.1<b.1) (x:Int):l.reverse.find? (fun g=>g.1==x)=l.find? fun g=>g.1==x:=by
 induction l with
 |nil=>rfl
 |cons g t ih =>
  rw[dz] at h;rw[List.reverse_cons,List.find?_append,ih h.2,fw]
  by_cases hx:g.1=x
  ·have:t.find? (fun g=>g.1==x)=none:=eo.2 fun y hy=>by have:g.1<y.1:=h.1 y hy; simp; omega
   rw[this]; simp[hx]
  ·have:(g.1==x)=false:=by simp[hx]
   simp[this]
def yD {b:Ĕ} (h:b.2.1.Pairwise fun a b=>a.1<b.1) (x:Int):lR (k:=tI) (v:=Ö) x (œ b)=ö b x:=by
 unfold œ ö;rw[VX,Ha h]
def mW (s:List (Int×Ā)) (id day:Int):Int :=
 match lR (k:=tI) (v:=Ö) id s with
 |some g=>if day<g.2.1 then 4 else 0
 |none=>5
def VY (s:List (Int×Ā)) (id day:Int):iF s id day=some (mW s id day):=by
 unfold iF se mW
 cases h:lR (k:=tI) (v:=Ö) id s with
 |none=>simp only[Mh,h]
 |some g =>
  simp only[Mh,h];rw[Ċ]
  by_cases h2:day<g.2.1<;>simp[h2]
def Gv (s:List (Int×Ā)) (id day:Int):Int:=if !IE day then 1 else mW s id day
def SP (s:List (Int×Ā)) (id day:Int):ł id day s=some (Gv s id day):=by
 unfold ł BL Gv;rw[Iq,À,VY,À]
 cases IE day<;>rfl
def Rb (b:Ĕ) (s:List (Int×Ā)) (i:Nat) (l:IH):Int :=
 if !lZ l.2.1 0 20000 then 1 else if !inP l.2.2 0 1048576 then 1 else if mW s l.1 l.2.1.1 != 0 then mW s l.1 l.2.1.1 else
 if (b.2.2.2.1.take i).any (fun x=>x.1==l.1&&(decide (x.2.1.1≤l.2.1.2)&&decide (l.2.1.1≤x.2.1.2))) then 9 else
 if b.2.2.1.any (fun u=>u.1==l.1&&inP u.2 l.2.1.1 l.2.1.2) then 9 else 0
def UY {b:Ĕ} (hn:b.2.2.2.1.length≤1000) (hu:b.2.2.1.length≤1000) (s:List (Int×Ā)) {i:Nat} {l:IH} (hl:b.2.2.2.1[i]?=some l):Ν b s i=some (Rb b s i l):=by
 unfold Ν vl Rb;have hi:i<b.2.2.2.1.length:=(List.getElem?_eq_some_iff.1 hl).1;rw[È hl,D5,À,ι,À,VY,À]
 cases lZ l.2.1 0 20000 with
 |false=>rfl
 |true =>
 cases inP l.2.2 0 1048576 with
 |false=>rfl
 |true =>
 cases hm:(mW s l.1 l.2.1.1 != 0) with
 |true =>
  have:ine (mW s l.1 l.2.1.1) 0=true:=hm;simp[this]
 |false =>
 have hm':ine (mW s l.1 l.2.1.1) 0=false:=hm
 have hg:((ile (0:Int) (i:Int))&&(ile (i:Int) (í b.2.2.2.1)))=true:=by simp[ile,í]; omega
 simp only[dB,é,hm',cV,if_false];rw[ý hg,cW]
 have inner:∀(k:Int→Option Int),Ê (fun(v:Int) kk=>Ε b.2.2.1 (Ù b.2.2.1) l.1 l.2.1.1 l.2.1.2 v (fun u=>kk u) (fun z=>ifb (ige z 0) (k 9) (k 0)) (fun _=>k 0)) (0:Int)=if b.2.2.1.any (fun u=>u.1==l.1&&inP u.2 l.2.1.1 l.2.1.2) then k 9 else k 0:=by
  intro k;refine ľ b.2.2.1 _ (fun z=>ifb (ige z 0) (k 9) (k 0)) (k 9) (k 0) (fun j=>?_) (fun j a hj ha kn=>?_) (fun kn=>?_)
  ·have:ige (j:Int) 0=true:=by simp[ige]
   rw[Ú this]
  ·try dsimp only
   unfold Ε;rw[Ï hj,È ha,ι,À,Ë hj (by omega)]
   cases h1:(a.1==l.1) with
   |false =>
    have:ieq a.1 l.1=false:=h1;simp[this]
   |true =>
    have:ieq a.1 l.1=true:=h1;rw[this]
    cases inP a.2 l.2.1.1 l.2.1.2<;>simp
  ·try dsimp only
   unfold Ε;rw[Ý]
 rw[inner];refine eN (ľ (b.2.2.2.1.take i) (fun x=>x.1==l.1&&(decide (x.2.1.1≤l.2.1.2)&&decide (l.2.1.1≤x.2.1.2))) (fun z=>ifb (ige z 0) (some 9) (if b.2.2.1.any (fun u=>u.1==l.1&&inP u.2 l.2.1.1 l.2.1.2) then some 9 else some 0)) (some 9) (if b.2.2.1.any (fun u=>u.1==l.1&&inP u.2 l.2.1.1 l.2.1.2) then some 9 else some 0) (fun j=>?_) (fun j a hj ha kn=>?_) (fun kn=>?_)) ?_
 ·have:ige (j:Int) 0=true:=by simp[ige]
  rw[Ú this]
 ·try dsimp only
  unfold jZ
  have hj':j≤1000:=by rw[dc] at hj; omega
  rw[Ï hj,È ha,Ë hj (by rw[dc]; omega)]
  cases h1:(a.1==l.1) with
  |false =>
   have:ieq a.1 l.1=false:=h1;simp[this]
  |true =>
   have:ieq a.1 l.1=true:=h1;rw[this]
   cases h2:decide (a.2.1.1≤l.2.1.2)<;>cases h3:decide (l.2.1.1≤a.2.1.2)<;>simp[ile,h2,h3,Ċ]<;>simp_all
 ·try dsimp only
  unfold jZ;rw[Ý]
 ·cases List.any (b.2.2.2.1.take i) _<;>cases b.2.2.1.any _<;>rfl
def Vk {l:List Int} (hn:l.length≤1000000) (x:Int):g8 l x=some (match l.findIdx? (·==x) with|some j=>(j:Int)|none=>-1):=by
 unfold g8 ml;refine Eq.trans (i5 l (·==x) some (some (-1)) (fun i a hi ha kn=>?_) (fun kn=>?_)) ?_
 ·try dsimp only
  unfold ζ;rw[Ï hi,È ha,Ë hi (by omega),Ċ]
  by_cases h:x=a
  ·subst h; simp[ieq]
  ·have h2:¬a=x:=fun e=>h e.symm;simp[ieq,h,h2]
 ·try dsimp only
  unfold ζ;rw[Ý]
 ·cases l.findIdx? (·==x)<;>rfl
def Ĩ {l:List Int} (hn:l.length≤1000000) (x:Int):Û l x=some (l.contains x):=by
 unfold Û jD;rw[Vk hn,À];congr 1
 cases h:l.findIdx? (·==x) with
 |none =>
  have:l.contains x=false:=by
   rw[ej];intro hc;have:=dE.1 h x (by simpa using hc);simp at this
  rw[this]; rfl
 |some j =>
  obtain⟨hj,hp,_⟩:=dH.1 h
  have:l.contains x=true:=by
   have h2:l[j]=x:=by simpa using hp
   rw[←h2]; simp
  rw[this];simp[ige]
def ÿ (a b:List Int):List Int:=a.filter fun x=>!b.contains x
def xY {a b:List Int} (ha:a.length≤1000000) (hb:b.length≤1000000):Μ a b=some (ÿ a b):=by
 unfold Μ QQ;rw[Õ (by omega),Am.iff_true]
 have second:∀z:Nat,z<a.length→ÿ (a.take z) b=a.take z→b.contains (a[z]?.getD 0)=true →
  Ê (fun(v13:(Val (.pair tI (.pair tI (.slice tI))))) kk17=>kg b v13.1 v13.2.1 v13.2.2 (fun u14 u15 u16=>kk17 (u14,u15,u16)) (fun z12=>á ((ile (0:Int) z12.1)&&(ile z12.1 (í z12.2))) (á ((ile (0:Int) z12.1)&&(ile z12.1 (í (List.take (Int.toNat z12.1) z12.2++List.replicate (List.length z12.2-(Int.toNat z12.1)) (0:Int)++List.drop ((Int.toNat z12.1)+(List.length z12.2-(Int.toNat z12.1))) z12.2)))) (some (List.take (Int.toNat z12.1) (List.drop 0 (List.take (Int.toNat z12.1) z12.2++List.replicate (List.length z12.2-(Int.toNat z12.1)) (0:Int)++List.drop ((Int.toNat z12.1)+(List.length z12.2-(Int.toNat z12.1))) z12.2))))))) ((z:Int),((z:Int)+1),a)=some (ÿ a b):=by
  intro z hz hp hc
  refine ė (fun x:Int×Int×List Int=>∃i j:Nat,x.1=i∧x.2.1=j∧i<j∧j≤a.length∧x.2.2.length=a.length∧x.2.2.take i=ÿ (a.take j) b∧x.2.2.drop j=a.drop j) (fun x=>a.length-x.2.1.toNat) ?_
   ⟨z,z+1,rfl,by simp,by omega,by omega,rfl,?_,rfl⟩
  ·rintro⟨x1,x2,s⟩ ⟨i,j,h1,h2,hij,hja,hl,ht,hd⟩;simp only at h1 h2 hl ht hd;subst h1 h2;rcases dg j a.length with hj|hj
   ·refine .inr ?_
    have hsj:s[j]?=some a[j]:=by
     have h3:(s.drop j)[0]?=(a.drop j)[0]?:=by rw[hd]
     rw[dW,dW] at h3;simpa[cG hj] using h3
    have hjs:j<s.length:=by omega
    have hta:ÿ (a.take (j+1)) b=ÿ (a.take j) b++if b.contains a[j] then[] else[a[j]]:=by
     rw[take_succ (cG hj),ÿ,ÿ,eF];congr 1
     cases h:b.contains a[j] with
     |true=>simp only[dU,h,dB,cV,if_false,eP,if_true]
     |false=>simp only[dU,h,fc,cV,if_false,eP,if_true]
    cases h:b.contains a[j] with
    |true =>
     refine⟨(i,(j:Int)+1,s),⟨i,j+1,rfl,by simp,by omega,by omega,hl,?_,?_⟩,by simp; omega,fun kn=>?_⟩
     ·rw[hta,h]; simpa using ht
     ·have:=congrArg (List.drop 1) hd;simpa[fm,gX] using this
     ·try dsimp only
      unfold kg;rw[Ï hjs,Ĭ hjs,ð hsj,Ĩ hb,À,h];simp only[Bool.not_true,é];rw[Ë hjs (by omega)]
    |false =>
     have his:i<s.length:=by omega
     refine⟨((i:Int)+1,(j:Int)+1,s.set i a[j]),⟨i+1,j+1,by simp,by simp,by omega,by omega,by simpa using hl,?_,?_⟩,by simp; omega,fun kn=>?_⟩
     ·show List.take (i+1) (s.set i a[j])=_;rw[hta,h,List.take_succ,fB,gB (cH i),ht];simp[his]
     ·show List.drop (j+1) (s.set i a[j])=_;rw[gE (by omega)];have:=congrArg (List.drop 1) hd;simpa[fm,gX] using this
     ·try dsimp only
      unfold kg;rw[Ï hjs,Ĭ hjs,ð hsj,Ĩ hb,À,h];simp only[Bool.not_false,mQ];rw[Ĭ his,ð (List.getElem?_eq_getElem his),Ë his (by omega),Ë hjs (by omega),Int.toNat_natCast]
   ·refine .inl fun kn=>?_
    have hje:j=s.length:=by omega
    try dsimp only
    unfold kg;rw[hje,Ý];dsimp only
    have g1:((ile (0:Int) (i:Int))&&(ile (i:Int) (í s)))=true:=by simp[ile,í]; omega
    rw[ý g1]
    have g2:((ile (0:Int) (i:Int))&&(ile (i:Int) (í (List.take (Int.toNat (i:Int)) s++List.replicate (List.length s-(Int.toNat (i:Int))) (0:Int)++List.drop ((Int.toNat (i:Int))+(List.length s-(Int.toNat (i:Int)))) s))))=true:=by
     simp[ile,í]; omega
    rw[ý g2,cW,gJ,cR,eY (by simp; omega),List.take_take,Nat.min_self,ht];rw[dV (by omega)]
  ·show List.take z a=ÿ (a.take (z+1)) b;have hz':a[z]?=some a[z]:=cG hz;rw[take_succ hz',ÿ,eF];rw[hz'] at hc;simp only[gP] at hc
   have:List.filter (fun x=>!b.contains x) [a[z]]=[]:=by simp only[dU,hc,dB,cV,if_false,eP]
   rw[this,dh];exact hp.symm
 refine eN (i5 a (fun x=>b.contains x) (fun z4=>ifb (ieq z4 (-1:Int)) (some a) (ck (z4+(1:Int)) fun n5=>Ê (fun(v13:(Val (.pair tI (.pair tI (.slice tI))))) kk17=>kg b v13.1 v13.2.1 v13.2.2 (fun u14 u15 u16=>kk17 (u14,u15,u16)) (fun z12=>á ((ile (0:Int) z12.1)&&(ile z12.1 (í z12.2))) (á ((ile (0:Int) z12.1)&&(ile z12.1 (í (List.take (Int.toNat z12.1) z12.2++List.replicate (List.length z12.2-(Int.toNat z12.1)) (0:Int)++List.drop ((Int.toNat z12.1)+(List.length z12.2-(Int.toNat z12.1))) z12.2)))) (some (List.take (Int.toNat z12.1) (List.drop 0 (List.take (Int.toNat z12.1) z12.2++List.replicate (List.length z12.2-(Int.toNat z12.1)) (0:Int)++List.drop ((Int.toNat z12.1)+(List.length z12.2-(Int.toNat z12.1))) z12.2))))))) (z4,n5,a))) (some a) (fun i x hi hx kn=>?_) (fun kn=>?_)) ?_
 ·try dsimp only
  unfold vg;rw[Ï hi,Ĭ hi,ð hx,Ĩ hb,À,Ë hi (by omega),Ċ]
 ·try dsimp only
  unfold vg;rw[Ý]
 ·cases h:a.findIdx? (fun x=>b.contains x) with
  |none =>
   have:ÿ a b=a:=by
    rw[ÿ,fG];intro x hx;have:=dE.1 h x hx;simpa using this
   rw[this]
  |some z =>
   obtain⟨hz,hc,hlt⟩:=dH.1 h
   have h1:ieq (z:Int) (-1)=false:=by simp[ieq]
   try dsimp only
   rw[Ð h1,Ë hz (by omega)];refine second z hz ?_ ?_
   ·rw[ÿ,fG];intro x hx;obtain⟨j,hj,rfl⟩:=cT.1 hx;rw[dc] at hj;rw[eT];have:=hlt j (by omega);simpa using this
   ·rw[cG hz]; exact hc
def Hl (l:List Int) (i:Nat) (a:Int):Option Bool:=if !inP a 1 1099511627776 then some false else if t7 (fun x=>x) l i a then some false else none
def wL (l:List Int):Bool:=match Ŋ (Hl l) 0 l with|some _=>false|none=>decide (l.length≤6)
def D4 {l:List Int} (hn:l.length≤1000000):mD l=some (wL l):=by
 unfold mD FM;refine Eq.trans (mu l (Hl l) some (some (decide (l.length≤6))) (fun i a hi ha kn=>?_) (fun kn=>?_)) ?_
 ·try dsimp only
  unfold oB;rw[Ï hi,È ha,ι,À];unfold Hl
  cases inP a 1 1099511627776 with
  |false=>rfl
  |true =>
   simp only[dB,é,cV,if_false];rcases f0 i with h0|h0
   ·subst h0
    have:igt ((0:Nat):Int) 0=false:=by simp[igt]
    rw[Ð this,Ë hi (by omega)];simp[t7]
   ·obtain⟨q,hq⟩:=SK hi h0
    have h1:igt (i:Int) 0=true:=by simp[igt]; omega
    rw[Ú h1,adm h0 (by omega),UD h0 hq];simp only[t7,h0,decide_true,Bool.true_and,hq,Option.any_some];unfold ile
    cases h2:decide (a≤q) with
    |true=>rfl
    |false =>
     rw[é,Ë hi (by omega)];rfl
 ·try dsimp only
  unfold oB;rw[Ý,Ô];simp[ile];omega
 ·have hb:∀x,Ŋ (Hl l) 0 l=some x→x=false:=by
   have:∀(m:List Int) (j:Nat) (x:Bool),Ŋ (Hl l) j m=some x→x=false:=by
    intro m
    induction m with
    |nil=>intro j x h; cases h
    |cons a m ih =>
     intro j x h;unfold Ŋ at h
     cases hp:Hl l j a with
     |none=>rw[hp] at h; exact ih _ _ h
     |some y =>
      rw[hp] at h;cases h;unfold Hl at hp
      split at hp
      ·cases hp; rfl
      ·split at hp
       ·cases hp; rfl
       ·cases hp
   exact this l 0
  unfold wL
  cases h:Ŋ (Hl l) 0 l with
  |none=>rfl
  |some x=>rw[hb x h]
def I7 (l:List Int):wL l=true↔(∀x∈l,1≤x∧x≤1099511627776)∧l.Pairwise (·<·)∧l.length≤6:=by
 have h0:Ŋ (Hl l) 0 l=none↔(∀x∈l,1≤x∧x≤1099511627776)∧l.Pairwise (·<·):=by
  rw[i7,←IG (fun x=>x) l];constructor
  ·intro h
   have h1:∀(j:Nat) (a:Int),l[j]?=some a→inP a 1 1099511627776=true∧t7 (fun x=>x) l j a=false:=by
    intro j a ha;have:=h j a ha;rw[Nat.zero_add] at this;unfold Hl at this
    split at this
    ·cases this
    ·split at this
     ·cases this
     ·rename_i h1 h2;exact⟨by simpa using h1,by simpa using h2⟩
   refine⟨fun x hx=>?_,fun i a ha=>(h1 i a ha).2⟩;obtain⟨j,hj,rfl⟩:=cT.1 hx;have:=(h1 j l[j] (cG hj)).1;simpa[inP] using this
  ·rintro⟨h1,h2⟩ j a ha;rw[dw];have h3:=h1 a (cP ha)
   have:inP a 1 1099511627776=true:=by simpa[inP] using h3
   simp[Hl,this,h2 j a ha]
 unfold wL
 cases h:Ŋ (Hl l) 0 l with
 |none =>
  obtain⟨h1,h2⟩:=h0.1 h;simp only[decide_eq_true_eq];exact⟨fun h3=>⟨h1,h2,h3⟩,fun h3=>h3.2.2⟩
 |some x =>
  constructor
  ·intro h2; cases h2
  ·rintro⟨h1,h2,h3⟩;rw[h0.2 ⟨h1,h2⟩] at h; cases h
def Me {a b:List Int} (ha:a.length≤1000000) (hb:b.length≤1000000):ħ [a,b]=some (a++b):=by
 have hk:∀n:Nat,n≤4000000→∀(f:Int→Option (List Int)),ck (n:Int) f=f n:=fun n h f=>Ó (by omega) (by omega) f
 have second:Ê (fun(v9:(Val (.pair tI (.slice tI)))) kk12=>Ğ [a,b] (Ù [a,b]) v9.1 v9.2 (fun u10 u11=>kk12 (u10,u11)) (fun z8=>some z8)) ((0:Int),([]:List Int))=some (a++b):=by
  refine ģ [a,b] (fun i=>([a,b].take i).flatten) (some (a++b)) (f:=fun(v9:(Val (.pair tI (.slice tI)))) kk12=>Ğ [a,b] (Ù [a,b]) v9.1 v9.2 (fun u10 u11=>kk12 (u10,u11)) (fun z8=>some z8)) rfl (fun i x hi hx kn=>?_) (fun kn=>?_)
  ·try dsimp only
   unfold Ğ;rw[Ï hi,È hx,Ë hi (by simp),take_succ hx,List.flatten_append]
   have:è ((List.take i [a,b]).flatten.length+x.length)=true:=by
    refine Õ ?_
    have h1:x.length≤1000000:=by
     have:=cP hx;simp at this
     rcases this with rfl|rfl<;>assumption
    have h2:(List.take i [a,b]).flatten.length≤2000000:=by
     have:i=0∨i=1:=by simp at hi; omega
     rcases this with rfl|rfl<;>simp<;>omega
    omega
   rw[ý this];simp
  ·try dsimp only
   unfold Ğ;rw[Ý];simp
 unfold ħ la;refine ė (fun x:Int×Int=>∃i:Nat,i≤2∧x=((([a,b].take i).flatten.length:Int),(i:Int))) (fun x=>2-x.2.toNat) ?_ ⟨0,by omega,rfl⟩;rintro x ⟨i,hi,rfl⟩;rcases Nat.lt_or_ge i 2 with h2|h2
 ·refine .inr ⟨((([a,b].take (i+1)).flatten.length:Int),(i:Int)+1),⟨i+1,h2,by simp⟩,by simp; omega,fun kn=>?_⟩;have hi':i<[a,b].length:=h2;obtain⟨x,hx⟩:∃x,[a,b][i]?=some x:=⟨_,cG hi'⟩
  have hxl:x.length≤1000000:=by
   have:=cP hx;simp at this
   rcases this with rfl|rfl<;>assumption
  have h3:(List.take i [a,b]).flatten.length≤2000000:=by
   have:i=0∨i=1:=by omega
   rcases this with rfl|rfl<;>simp<;>omega
  try dsimp only
  unfold Κ;rw[Ï hi',È hx,Ô]
  have e1:(((List.take i [a,b]).flatten.length:Int)+(x.length:Int))=((List.take i [a,b]).flatten.length+x.length:Nat):=by omega
  rw[e1,hk _ (by omega)]
  have:ilt ((((List.take i [a,b]).flatten.length+x.length:Nat)):Int) 0=false:=by simp[ilt]; omega
  rw[Ð this,Ë hi' (by simp),take_succ hx];simp
 ·refine .inl fun kn=>?_
  obtain rfl:i=2:=by omega
  try dsimp only
  unfold Κ;rw[show((2:Nat):Int)=(([a,b].length:Nat):Int) from rfl,Ý]
  have e1:((List.take 2 [a,b]).flatten.length:Int)=((a.length+b.length:Nat):Int):=by simp
  have e2:ilt (((a.length+b.length:Nat)):Int) 0=false:=by simp[ilt]; omega
  rw[e1];dsimp only;rw[Ð e2,Int.sub_zero,hk _ (by omega)];rcases Nat.eq_zero_or_pos (a.length+b.length) with h0|h0
  ·have:igt (((a.length+b.length:Nat)):Int) 0=false:=by simp[igt]; omega
   rw[Ð this];exact second
  ·have:igt (((a.length+b.length:Nat)):Int) 0=true:=by simp[igt]; omega
   rw[Ú this]
   have:((ilt (0:Int) (((a.length+b.length:Nat)):Int))&&(è (Int.toNat (((a.length+b.length:Nat)):Int))))=true:=by
    rw[cW,Õ (by omega)];simp[ilt]; omega
   rw[ý this]
   have:ile 0 (í (List.replicate (Int.toNat (((a.length+b.length:Nat)):Int)) (0:Int)))=true:=by simp[ile]
   rw[ý this];exact second
def lM (b:Ĕ) (id day:Int):Option IH:=b.2.2.2.1.find? fun l=>l.1==id&&inP day l.2.1.1 l.2.1.2
def Rr {α:Type} (p:α→Bool):∀l:List α,l.find? p=(match l.findIdx? p with|some j=>l[j]?|none=>none)
 |[]=>rfl
 |a::l=>by
  rw[fw,List.findIdx?_cons]
  cases h:p a with
  |true=>simp
  |false =>
   simp only[cV,if_false];rw[Rr p l]
   cases l.findIdx? p<;>simp
def adP {b:Ĕ} (hn:b.2.2.2.1.length≤1000) (id day:Int):vA b id day=some (match lM b id day with|some l=>(l,true)|none=>((0,(0,0),0),false)):=by
 unfold vA Q0;refine Eq.trans (i5 b.2.2.2.1 (fun l=>l.1==id&&inP day l.2.1.1 l.2.1.2) (fun z5=>ifb (ilt z5 (0:Int)) (some (((0:Int),((0:Int),(0:Int)),(0:Int)),false)) (Ĥ b.2.2.2.1 z5 fun e6=>some (e6,true))) (some ((0,(0,0),0),false)) (fun i a hi ha kn=>?_) (fun kn=>?_)) ?_
 ·try dsimp only
  unfold vm;rw[Ï hi,È ha,ι,À,Ë hi (by omega)]
  cases h1:(a.1==id) with
  |false =>
   have:ieq a.1 id=false:=h1;simp[this]
  |true =>
   have:ieq a.1 id=true:=h1;rw[this]
   cases inP day a.2.1.1 a.2.1.2<;>simp
 ·try dsimp only
  unfold vm;rw[Ý]
 ·unfold lM;rw[Rr]
  cases h:b.2.2.2.1.findIdx? (fun l=>l.1==id&&inP day l.2.1.1 l.2.1.2) with
  |none=>rfl
  |some j =>
   obtain⟨hj,_,_⟩:=dH.1 h
   have:ilt (j:Int) 0=false:=by simp[ilt]
   try dsimp only
   rw[Ð this,È (cG hj),cG hj]
section
variable {ρ:Type}
def aaU {α:Type} {all l:List α} (k:Option ρ) (h:l <+: all):yg all l k=k:=by unfold yg; rw[if_pos h]
def Ro {α β:Type} {f:List α→β→(List α→Option ρ)→Option ρ} {g:β→List α} {al:List α}:∀{xs:List β} {v:List α} {K:List α→Option ρ},
 (∀v y kn,y∈xs→(v++g y) <+: al→f v y kn=kn (v++g y))→(v++xs.flatMap g) <+: al→yd f xs v K=K (v++xs.flatMap g)
 |[],v,K,_,_=>by simp[yd]
 |x::xs,v,K,h,hp=>by
  rw[dG,←cR] at hp ⊢;rw[yd,h v x _ (by simp) ((dP _ _).trans hp),Ro (fun v y kn hy=>h v y kn (dl _ hy)) hp]
end
def aa1 {rec:List Int→Option (List Int)} {l xs:List Int} (h:yO l=some xs):jC xs rec l some=some (xs,l):=by
 unfold yO at h
 have hk:è l.length=true:=by cases e:è l.length with|true=>rfl|false=>rw[e] at h; cases h
 rw[ý hk] at h;cases h
 have hk2:l.length≤4294967296:=by simpa[è] using hk
 unfold jC
 refine ģ l (fun i=>l.take i) _ rfl (fun i a hi ha kn=>?_) (fun kn=>?_)<;>(try dsimp only)<;>unfold iu
 ·rw[Ï hi,È ha,←take_succ ha,aaU _ (List.take_prefix _ _),Ó (by omega) (by omega)]
 ·rw[Ý,fI]
def XE:∀(n:Nat) {l y:List Int},l.length=n→y∈Ii n l→y.length=n
 |0,l,y,_,h=>by simp[Ii] at h; simp[h]
 |n+1,l,y,hl,h=>by
  have hne:¬l.length=0:=by omega
  simp only[Ii,if_neg hne,dv,gj,dt] at h;obtain⟨i,hi,z,hz,rfl⟩:=h;have:=XE n (l:=l.take i++l.drop (i+1)) (by simp; omega) hz;simp[this]
def RZ:∀{l:List (Int×List Int)} {y:List (List Int)},y∈jN l→y.length=l.length
 |[],y,h=>by simp[jN] at h; simp[h]
 |m::r,y,h=>by
  simp only[jN,dv,dt] at h;obtain⟨x,_,z,hz,rfl⟩:=h;simp[RZ hz]
def agU {α:Type} {n i:Nat} (h:i<n) (g:Nat→List α):((List.range i).flatMap g++g i) <+: (List.range n).flatMap g:=by
 have:List.range n=List.range i++i::(List.range (n-i-1)).map (i+1+·):=by
  rw[show n=(i+1)+(n-i-1) by omega,List.range_add,fN,cR];simp[show i+1+(n-i-1)-i-1=n-i-1 by omega]
 rw[this,fH,dG,←cR];exact dP _ _
def Vo (n:Nat) (l:List Int):Option (List (List Int)):=á (decide (l.length<n)&&decide (l.length≤9)) (some (Ii l.length l))
def abA {n:Nat} {l:List Int} (h:l.length<n) (h9:l.length≤9):Vo n l=some (Ii l.length l):=by unfold Vo; rw[ý (by simp[h,h9])]
def X5 {n:Nat} {l:List Int} {xs:List (List Int)} (h:Vo n l=some xs):l.length<n∧l.length≤9∧xs=Ii l.length l:=by
 unfold Vo at h
 cases hb:(decide (l.length<n)&&decide (l.length≤9)) with
 |false=>rw[hb] at h; cases h
 |true =>
  rw[hb] at h; cases h;simp only[cI,decide_eq_true_eq] at hb;exact⟨hb.1,hb.2,rfl⟩
def abP {n:Nat} {l:List Int} {xs:List (List Int)} (h:Vo (n+1) l=some xs):xf xs (Vo n) l some=some (xs,l):=by
 obtain⟨h1,h2,rfl⟩:=X5 h;unfold xf
 by_cases h0:l.length=0
 ·obtain rfl:l=[]:=List.eq_nil_of_length_eq_zero h0;rw[show ifb (ieq (Ù ([]:List Int)) (0:Int))=fun(x y:Option (List (List Int)×List Int))=>x from by funext x y; simp[Ô,ieq,Ċ]];exact aaU _ (by simp[Ii])
 ·obtain⟨k,hk⟩:∃k,l.length=k+1:=⟨l.length-1,by omega⟩
  have hF:Ii l.length l=(List.range l.length).flatMap fun i=>(Ii k (l.take i++l.drop (i+1))).map (l.getD i 0::·):=by
   rw[hk];show(if l.length=0 then[[]] else _)=_;rw[if_neg h0,hk]
  have hne:ieq (Ù l) (0:Int)=false:=by rw[Ô]; exact decide_eq_false (by omega)
  rw[Ð hne];rw[hF]
  refine ģ l (fun i=>(List.range i).flatMap fun i=>(Ii k (l.take i++l.drop (i+1))).map (l.getD i 0::·)) _ rfl (fun i a hi ha kn=>?_) (fun kn=>?_)<;>(try dsimp only)<;>unfold pu
  ·have hr:(l.take i++l.drop (i+1)).length=k:=by simp; omega
   rw[Ï hi,È ha,ý (by simp[ile,í]; omega),Ó (by omega) (by omega),ý (by simp[ile,í]; omega),cW,show Int.toNat ((i:Int)+1)=i+1 by omega,
    Me (by simp; omega) (by simp; omega),À,abA (by omega) (by omega),À,hr]
   have hga:l.getD i 0=a:=by rw[eE,ha]; rfl
   have hm:∀xs:List (List Int),xs.map (l.getD i 0::·)=xs.flatMap fun y=>[a::y]:=fun xs=>by
    rw[hga]; induction xs with|nil=>rfl|cons x xs ih=>simp[ih]
   have hp:=agU hi fun i=>(Ii k (l.take i++l.drop (i+1))).map (l.getD i 0::·)
   have hs:(List.range (i+1)).flatMap (fun i=>(Ii k (l.take i++l.drop (i+1))).map (l.getD i 0::·))=(List.range i).flatMap (fun i=>(Ii k (l.take i++l.drop (i+1))).map (l.getD i 0::·))++(Ii k (l.take i++l.drop (i+1))).flatMap fun y=>[a::y]:=by
    rw[fN,fH,dG,List.flatMap_nil,dh,hm]
   rw[hs];rw[hm] at hp;refine(Ro (g:=fun y=>[a::y]) (fun v y kn hy hv=>?_) hp).trans ?_
   ·unfold pr;have:=XE k hr hy;rw[ý (Õ (by simp; omega))];exact aaU _ hv
   ·dsimp only;rw[Ó (by omega) (by omega)]
  ·rw[Ý]
def Vp (n:Nat) (l:List (Int×List Int)):Option (List (List (List Int))):=á (decide (l.length<n)&&(decide (l.length≤9)&&l.all fun m=>decide (m.2.length≤9))) (some (jN l))
def X6 {n:Nat} {l:List (Int×List Int)} {xs:List (List (List Int))} (h:Vp n l=some xs):l.length<n∧l.length≤9∧(∀m∈l,m.2.length≤9)∧xs=jN l:=by
 unfold Vp at h
 cases hb:(decide (l.length<n)&&(decide (l.length≤9)&&l.all fun m=>decide (m.2.length≤9))) with
 |false=>rw[hb] at h; cases h
 |true =>
  rw[hb] at h; cases h;simp only[cI,decide_eq_true_eq,di] at hb;exact⟨hb.1,hb.2.1,hb.2.2,rfl⟩
def abB {n:Nat} {l:List (Int×List Int)} (h:l.length<n) (h9:l.length≤9) (ha:∀m∈l,m.2.length≤9):Vp n l=some (jN l):=by
 unfold Vp; rw[ý (by simp only[Bool.and_eq_true,decide_eq_true_eq,List.all_eq_true]; exact⟨h,h9,ha⟩)]
def Xi {n:Nat} {l:List (Int×List Int)} {xs:List (List (List Int))} (h:Vp (n+1) l=some xs):rV xs (Vp n) l some=some (xs,l):=by
 obtain⟨h1,h2,h3,rfl⟩:=X6 h;unfold rV
 cases l with
 |nil =>
  rw[show ifb (ieq (Ù ([]:List (Int×List Int))) (0:Int))=fun(x y:Option (List (List (List Int))×List (Int×List Int)))=>x from by funext x y; simp[Ô,ieq,Ċ]];exact aaU _ (by simp[jN])
 |cons e r =>
  have hne:ieq (Ù (e::r)) (0:Int)=false:=by rw[Ô]; exact decide_eq_false (by simp only[cX]; omega)
  rw[Ð hne];have he:=h3 e (by simp);rw[show Ĥ (e::r) (0:Int)=fun f=>f e from by funext f; rfl];dsimp only;rw[show yP e.2=some (Ii e.2.length e.2) from by unfold yP; rw[ý (by simp[he])],À];have hF:jN (e::r)=(Ii e.2.length e.2).flatMap fun x=>(jN r).map (x::·):=rfl
  have hm:∀(x:List Int),(jN r).map (x::·)=(jN r).flatMap fun y=>[x::y]:=fun x=>by
   generalize jN r=ys
   induction ys with|nil=>rfl|cons y ys ih=>simp[ih]
  refine(Ro (g:=fun x=>(jN r).map (x::·)) (al:=jN (e::r)) (fun v x kn hx hv=>?_) (by rw[dS,←hF]; exact dM)).trans ?_
  ·unfold mi;simp only[List.length_cons] at h1 h2;rw[ý (by simp[ile,í]; omega),show List.drop 1 (e::r)=r from rfl,abB (by omega) (by omega) (fun m hm=>h3 m (by simp[hm])),À];rw[hm] at hv ⊢;refine Ro (g:=fun y=>[x::y]) (fun v y kn hy hv=>?_) hv;unfold mh;have:=RZ hy;rw[ý (Õ (by simp; omega))];exact aaU _ hv
  ·rw[dS,←hF]
def ZJ {l:List Int} {xs:List (List Int)} (h:yP l=some xs):Vo 10 l=some xs:=by
 unfold yP at h
 cases hb:decide (l.length≤9) with
 |false=>rw[hb] at h; cases h
 |true =>
  rw[hb] at h; cases h;have:=of_decide_eq_true hb;exact abA (by omega) this
def UV {l:List (Int×List Int)} {xs:List (List (List Int))} (h:mz l=some xs):Vp 10 l=some xs:=by
 unfold mz at h
 cases hb:(decide (l.length≤9)&&l.all fun m=>decide (m.2.length≤9)) with
 |false=>rw[hb] at h; cases h
 |true =>
  rw[hb] at h; cases h;simp only[cI,decide_eq_true_eq,di] at hb;exact abB (by omega) hb.1 hb.2
end Go.Proofs.ZzM
end
