/- lemmas -/
import Derived.Test.YtmadligicacpkaaGreatAmG
import Derived.Test.YtmadligicacpkaaGreatMdTA
set_option linter.all false
set_option linter.unusedSectionVars false
set_option linter.unusedVariables false
set_option linter.unusedSimpArgs false
noncomputable section
namespace Go.Am
section
variable {ρ:Type}
def ķ {α β:Type} (e:Nat→α→Option β):Nat→List α→Option β
 |_,[]=>none
 |i,a::t=>match e i a with
  |some b=>some b
  |none=>ķ e (i+1) t
def kF {α β:Type} (l:List α) (e:Nat→α→Option β) (k0:β→Option ρ) (k1:Option ρ) {f:Int→(Int→Option ρ)→Option ρ}
 (h:∀(i:Nat) (a:α),i<l.length→l[i]?=some a→∀kn,f i kn=match e i a with|some b=>k0 b|none=>kn ((i:Int)+1))
 (hn:∀kn,f l.length kn=k1):Ñ f 0=match ķ e 0 l with|some b=>k0 b|none=>k1:=by
 refine ajf l (fun i t=>match ķ e i t with|some b=>k0 b|none=>k1) hn fun i a t hd hi ha kn hk=>?_;rw[h i a hi ha kn,hk,ķ]
 cases e i a<;>rfl
def ñ {α σ:Type} (l:List α) (g:Nat→σ) (r:Option ρ) {f:Int×σ→(Int×σ→Option ρ)→Option ρ} {s0:σ} (h0:g 0=s0)
 (h:∀(i:Nat) (a:α),i<l.length→l[i]?=some a→∀kn,f (i,g i) kn=kn ((i:Int)+1,g (i+1)))
 (hn:∀kn,f (l.length,g l.length) kn=r):Ñ f (0,s0)=r:=by
 subst h0
 have hs:∀s,(s=g 0)→Ñ f (0,s)=r:=fun s e=>Hb l (fun _ _ _=>r) (fun i s=>s=g i) (fun s hs kn=>by rw[hs]; exact hn kn) (fun i a t s hd hi ha hI kn hk=>by
  rw[hI,h i a hi ha kn]; exact hk _ rfl) e
 exact hs _ rfl
def aje {α σ:Type} (l:List α) (g:Nat→σ) (r:Option ρ) {f:Int×σ→(Int×σ→Option ρ)→Option ρ} {s0:σ} (P:Nat→Prop) (h0:g 0=s0) (hP:P 0)
 (h:∀(i:Nat) (a:α),i<l.length→l[i]?=some a→P i→∀kn,f (i,g i) kn=r∨(P (i+1)∧f (i,g i) kn=kn ((i:Int)+1,g (i+1))))
 (hn:P l.length→∀kn,f (l.length,g l.length) kn=r):Ñ f (0,s0)=r:=by
 subst h0
 have hs:∀s,(s=g 0∧P 0)→Ñ f (0,s)=r:=fun s e=>Hb l (fun _ _ _=>r) (fun i s=>s=g i∧P i) (fun s hs kn=>by rw[hs.1]; exact hn hs.2 kn) (fun i a t s hd hi ha hI kn hk=>by
  rcases h i a hi ha hI.2 kn with h1|⟨h1,h2⟩
  ·rw[hI.1,h1]
  ·rw[hI.1,h2]; exact hk _ ⟨rfl,h1⟩) e
 exact hs _ ⟨rfl,hP⟩
def Î {i n:Nat} (h:i<n) (hn:n≤1000000000) (f:Int→Option ρ):ck ((i:Int)+1) f=f ((i:Int)+1):=Ó (by omega) (by omega) f
def ifb_lt {i n:Nat} (h:i<n) (x y:Option ρ):ifb (ilt (i:Int) (ah3 n)) x y=x:=by simp[Ĕ,Oj,h]
def à (n:Nat) (x y:Option ρ):ifb (ilt (n:Int) (ah3 n)) x y=y:=by simp[Ĕ,Oj]
def Ô {α:Type} {l:List α} {i:Nat} (h:i<l.length) (x y:Option ρ):ifb (ilt (i:Int) (Þ l)) x y=x:=ifb_lt h x y
def Q3 {α:Type} (p:α→Bool):∀(i:Nat) (l:List α),ķ (fun i a=>bif p a then some (i:Int) else none) i l=(l.findIdx? p).map fun j=>((i+j:Nat):Int)
 |_,[]=>rfl
 |i,a::t=>by
  simp only[ķ,List.findIdx?_cons]
  cases hp:p a with
  |true=>simp
  |false =>
   simp only[cond_false,dn,if_false];rw[Q3 p (i+1) t]
   cases t.findIdx? p with
   |none=>rfl
   |some j=>simp only[dP]; congr 1; omega
def iJ {α β:Type} {e:Nat→α→Option β}:∀{i:Nat} {l:List α},ķ e i l=none↔∀j a,l[j]?=some a→e (i+j) a=none
 |_,[]=>by simp[ķ]
 |i,a::t=>by
  simp only[ķ];constructor
  ·intro h j b hb
   cases he:e i a with
   |some c=>rw[he] at h; cases h
   |none =>
    rw[he] at h
    cases j with
    |zero=>simp at hb; subst hb; simpa using he
    |succ j=>have:=(iJ.1 h) j b (by simpa using hb); rw[←this]; congr 1; omega
  ·intro h;have h0:=h 0 a (by simp);simp only[fD] at h0;rw[h0]
   exact iJ.2 fun j b hb=>by have:=h (j+1) b (by simpa using hb); rw[←this]; congr 1; omega
def take_succ {α:Type} {l:List α} {i:Nat} {a:α} (h:l[i]?=some a):l.take (i+1)=l.take i++[a]:=by rw[List.take_succ,h]; rfl
end
end Go.Am
end

noncomputable section
namespace Go.Proofs.ZzM
open Go Go.Am
section
variable {ρ:Type}
def ī {τ:Type} {f:τ→(τ→Option ρ)→Option ρ} {r:Option ρ} (I:τ→Prop) (μ:τ→Nat)
 (h:∀x,I x→(∀kn,f x kn=r)∨∃y,I y∧μ y<μ x∧∀kn,f x kn=kn y) {x:τ} (hx:I x):Ñ f x=r :=
 tW (F:=fun _=>r) I μ (fun x hx kn hk=>by
  rcases h x hx with h1|⟨y,h1,h2,h3⟩
  ·exact h1 kn
  ·rw[h3,hk y h1 h2]) hx
def ic {α:Type} (l:List α) (p:α→Bool) (k0:Int→Option ρ) (k1:Option ρ) {f:Int→(Int→Option ρ)→Option ρ}
 (h:∀(i:Nat) (a:α),i<l.length→l[i]?=some a→∀kn,f i kn=if p a then k0 i else kn ((i:Int)+1))
 (hn:∀kn,f l.length kn=k1):Ñ f 0=match l.findIdx? p with|some j=>k0 j|none=>k1:=by
 rw[kF l (fun i a=>bif p a then some (i:Int) else none) k0 k1 (fun i a hi ha kn=>by rw[h i a hi ha kn]; cases p a<;>rfl) hn,Q3]
 cases l.findIdx? p with
 |none=>rfl
 |some j=>simp
def ń {α:Type} (l:List α) (p:α→Bool) (k0:Int→Option ρ) (K k1:Option ρ) {f:Int→(Int→Option ρ)→Option ρ} (hK:∀j:Nat,k0 j=K)
 (h:∀(i:Nat) (a:α),i<l.length→l[i]?=some a→∀kn,f i kn=if p a then k0 i else kn ((i:Int)+1))
 (hn:∀kn,f l.length kn=k1):Ñ f 0=if l.any p then K else k1:=by
 rw[ic l p k0 k1 h hn]
 cases hf:l.findIdx? p with
 |none =>
  have:l.any p=false:=by
   rw[eP];intro x hx;have:=eA.1 hf x hx;simp[this]
  simp[this]
 |some j =>
  have:l.any p=true:=by
   have:=dM.1 hf;obtain⟨hj,hp,_⟩:=this;exact eW.2 ⟨_,fp hj,hp⟩
  simp[this,hK]
end
abbrev î:Type:=Int×Int×Int×(Int×Int)×((Int×Int)×Int)
abbrev Kj:Type:=Int×((Int×Int)×Int)
abbrev Cmp:Type:=Int×Int×List Int×List Int×Int×(Int×(Int×Int))
abbrev ß:Type:=(Int×Int)×List î×List (Int×Int)×List Kj×List Cmp×List (Int×Int)
abbrev Sys:Type:=Int×List (Int×Int×Int)
abbrev Maker:Type:=ß×List (Int×Int)×Sys×List (Int×Int)
section
variable {ρ:Type}
def Õ {b:Bool} (h:b=true) (x y:Option ρ):ifb b x y=x:=by rw[h]; rfl
def Ò {b:Bool} (h:b=false) (x y:Option ρ):ifb b x y=y:=by rw[h]; rfl
end
def I64 (n:Int):Prop:=-9223372036854775808≤n∧n≤9223372036854775807
def inP (n lo hi:Int):Bool:=decide (lo≤n)&&decide (n≤hi)
def H8 (n:Int):Bool:=inP n 0 20000
def jL (s:Int×Int) (lo hi:Int):Bool:=decide (lo≤s.1)&&(decide (s.1≤s.2)&&decide (s.2≤hi))
def gZ (n lo hi:Int):ğ n lo hi=some (inP n lo hi):=by
 unfold ğ Ju inP ile
 cases decide (lo≤n)<;>rfl
def Ym (n:Int):nV n=some (H8 n):=by
 unfold nV QC;rw[gZ]; rfl
def Hf (s:Int×Int) (lo hi:Int):Τ s lo hi=some (jL s lo hi):=by
 unfold Τ JB jL ile
 cases decide (lo≤s.1)<;>cases decide (s.1≤s.2)<;>rfl
def VQ {n:Int} (h:I64 n):rR n=some (n.natAbs:Int):=by
 obtain⟨h1,h2⟩:=h;unfold rR XK
 by_cases hn:n<0
 ·have:ilt n 0=true:=by simpa using hn
  rw[Õ this];congr 1;simp only[IntKind.wrap,IntKind.bits,IntKind.signed];simp;omega
 ·have:ilt n 0=false:=by simpa using hn
  rw[Ò this];congr 1;simp only[IntKind.wrap,IntKind.bits,IntKind.signed];simp;omega
def anh (a b:Nat):Q8 a b=some ((Nat.gcd a b:Nat):Int):=by
 unfold Q8 ad0;refine ī (fun x:Int×Int=>∃c d:Nat,x=((c:Int),(d:Int))∧Nat.gcd c d=Nat.gcd a b) (fun x=>x.2.toNat) ?_ ⟨a,b,rfl,rfl⟩;rintro x ⟨c,d,rfl,hg⟩
 cases d with
 |zero =>
  refine .inl fun kn=>?_;rw[Nat.gcd_zero_right] at hg;unfold Ak;simp[hg,ine]
 |succ d =>
  refine .inr ⟨(((d+1:Nat):Int),((c % (d+1):Nat):Int)),⟨d+1,c % (d+1),rfl,?_⟩,?_,fun kn=>?_⟩
  ·rw[←hg,gO c (d+1),Nat.gcd_rec (d+1) c,gO]
  ·have:=gE c (gy d);simp only[di];omega
  ·unfold Ak
   have h1:ine ((d+1:Nat):Int) 0=true:=by simp[ine]; omega
   have h2:Ŋ ((d+1:Nat):Int) 0=false:=by simp[Ŋ]; omega
   simp only[h1,Õ Ò h2];congr 1
def Kt (r:Int×Int):Bool :=
 decide (1≤r.2)&&(decide (r.2≤2147483647)&&(decide ((r.1.natAbs:Int)≤2147483647)&&decide (Nat.gcd r.1.natAbs r.2.natAbs=1)))
def YY {r:Int×Int} (h:I64 r.1):uA r=some (Kt r):=by
 unfold uA Qj Kt
 by_cases h1:1≤r.2
 ·by_cases h2:r.2≤2147483647
  ·have h3:I64 r.2:=⟨by omega,by omega⟩
   have e1:ige r.2 1=true:=by simp[ige,h1]
   have e2:ile r.2 2147483647=true:=by simp[ile,h2]
   rw[Õ e1,Õ e2,VQ h,À]
   by_cases h4:(r.1.natAbs:Int)≤2147483647
   ·have e4:ile (r.1.natAbs:Int) 2147483647=true:=by simp[ile,h4]
    rw[Õ e4,À,VQ h3,À,anh,À];congr 1;rw[dN];simp only[ieq,beq_iff_eq,h1,h2,h4,decide_true,dU,decide_eq_true_eq];omega
   ·have e4:ile (r.1.natAbs:Int) 2147483647=false:=by simp[ile]; omega
    rw[Ò e4];simp[h4]
  ·have e1:ige r.2 1=true:=by simp[ige,h1]
   have e2:ile r.2 2147483647=false:=by simp[ile]; omega
   rw[Õ e1,Ò e2];simp[h2]
 ·have e1:ige r.2 1=false:=by simp[ige]; omega
  rw[Ò e1];simp[h1]
def qg (g:î):Bool :=
 Kt g.2.2.2.2.1&&inP g.2.2.2.2.1.1 (-1000) 1000&&decide (g.2.2.2.2.1.2≤100)&&inP g.1 1 1099511627776&&H8 g.2.1&&inP g.2.2.1 1 1125899906842624&&jL g.2.2.2.1 (-1073741824) 1073741824&&inP g.2.2.2.2.2 0 1048576
def ahi {g:î} (h:I64 g.2.2.2.2.1.1):wm g=some (qg g):=by
 unfold wm DN qg;rw[YY h,gZ,gZ,Ym,gZ,Hf,gZ];generalize Kt g.2.2.2.2.1=x1;generalize inP g.2.2.2.2.1.1 (-1000) 1000=x2;generalize inP g.1 1 1099511627776=x3;generalize H8 g.2.1=x4;generalize inP g.2.2.1 1 1125899906842624=x5;generalize jL g.2.2.2.1 (-1073741824) 1073741824=x6;generalize inP g.2.2.2.2.2 0 1048576=x7;unfold ile;generalize decide (g.2.2.2.2.1.2≤100)=x8
 cases x1<;>cases x2<;>cases x3<;>cases x4<;>cases x5<;>cases x6<;>cases x8<;>rfl
section
variable {ρ:Type}
def Hk {α:Type} {l:List α} {i:Nat} {a:α} (h0:0<i) (h:l[i-1]?=some a) (f:α→Option ρ):ü l ((i:Int)-1) f=f a:=by
 have:((i:Int)-1)=((i-1:Nat):Int):=by omega
 rw[this,Ë h]
def Rl {i:Nat} (h:0<i) (hn:i≤1000000000) (f:Int→Option ρ):ck ((i:Int)-1) f=f ((i:Int)-1):=Ó (by omega) (by omega) f
def ι {i n:Nat} (h:i<n) (x:Option ρ):ì ((ile 0 (i:Int))&&(ilt (i:Int) (n:Int))) x=x:=by
 have:((ile 0 (i:Int))&&(ilt (i:Int) (n:Int)))=true:=by simp[ile,ilt,h]
 rw[this,Am.iff_true]
def Ĥ {α:Type} {l:List α} {i:Nat} {a:α} (h:l[i]?=some a) (f:α→Option ρ):Ķ l (Int.toNat (i:Int)) f=f a:=by
 rw[di]; exact oD h f
end
def D6 {α:Type} (key:α→Int) (l:List α) (i:Nat) (a:α):Bool :=
 decide (0<i)&&(l[i-1]?).any fun q=>decide (key a≤key q)
def Em {α:Type} {l:List α} {i:Nat} (hi:i<l.length) (h0:0<i):∃q,l[i-1]?=some q :=
 ⟨l[i-1],cN (by omega)⟩
def YR {α:Type} (key:α→Int) (l:List α):(∀i a,l[i]?=some a→D6 key l i a=false)↔l.Pairwise (fun a b=>key a<key b):=by
 rw[dK];constructor
 ·intro h
  have step:∀i (h1:i+1<l.length),key l[i]<key l[i+1]:=by
   intro i h1;have:=h (i+1) l[i+1] (cN h1);simp only[D6,f7,gy,decide_true,dU,cN (show i<l.length by omega),Option.any_some,decide_eq_false_iff_not] at this;omega
  intro i j hi hj hij
  induction j with
  |zero=>omega
  |succ j ih =>
   have:=step j hj;rcases du i j with hlt|hge
   ·have:=ih (by omega) hlt; omega
   ·have:i=j:=by omega
    subst this; assumption
 ·intro h i a ha;obtain⟨hi,rfl⟩:=List.getElem?_eq_some_iff.1 ha;unfold D6
  cases i with
  |zero=>rfl
  |succ i =>
   have:=h i (i+1) (by omega) hi (by omega);simp only[f7,gy,decide_true,dU,cN (show i<l.length by omega),Option.any_some,decide_eq_false_iff_not];omega
def ox (l:List î) (i:Nat) (g:î):Option Int :=
 if !qg g then some 1 else if D6 (fun g=>g.1) l i g then some 6 else none
def jl (b:ß):Int:=(ķ (ox b.2.1) 0 b.2.1).getD 0
def T1 {b:ß} (hr:∀g∈b.2.1,I64 g.2.2.2.2.1.1) (hn:b.2.1.length≤1000):Β b=some (jl b):=by
 unfold Β pZ;refine Eq.trans (kF b.2.1 (ox b.2.1) some (some 0) (fun i a hi ha kn=>?_) (fun kn=>?_)) ?_
 ·try dsimp only
  unfold i9;rw[Ô hi,Ë ha,ahi (hr a (List.mem_of_getElem? ha)),À];unfold ox
  cases hg:qg a with
  |false=>simp
  |true =>
   simp only[eh,ô,dn,if_false];rcases ft i with h0|h0
   ·subst h0
    have:igt ((0:Nat):Int) 0=false:=by simp[igt]
    rw[Ò this,Î hi (by omega)];simp[D6]
   ·obtain⟨q,hq⟩:=Em hi h0
    have h1:igt (i:Int) 0=true:=by simp[igt]; omega
    rw[Õ h1,Rl h0 (by omega),Hk h0 hq];simp only[D6,h0,decide_true,Bool.true_and,hq,Option.any_some];unfold ile
    cases h2:decide (a.1≤q.1) with
    |true=>simp
    |false =>
     rw[ô,Î hi (by omega)];simp
 ·try dsimp only
  unfold i9;rw[à]
 ·unfold jl
  cases ķ (ox b.2.1) 0 b.2.1<;>rfl
def Zt (l:List î):List (Int×î):=l.foldl (fun m g=>Ni (k:=tI) (v:=Ð) g.1 g m) []
def iA (b:ß):List (Int×î):=Zt b.2.1
def Ud {b:ß} (hn:b.2.1.length≤1000):υ b=some (iA b):=by
 unfold υ DK;refine ñ b.2.1 (fun i=>Zt (b.2.1.take i)) _ rfl (fun i a hi ha kn=>?_) (fun kn=>?_)
 ·try dsimp only
  unfold mZ;rw[Ô hi,Ë ha,Î hi (by omega),take_succ ha];simp only[Zt,List.foldl_append,List.foldl_cons,List.foldl_nil]
 ·try dsimp only
  unfold mZ;rw[à,List.take_length];rfl
def aaj (x y:Int) (g:î):∀m:List (Int×î),ta (k:=tI) (v:=Ð) x (Ni (k:=tI) (v:=Ð) y g m)=if x=y then some g else ta (k:=tI) (v:=Ð) x m
 |[]=>by
  unfold Ni ta ks ta
  by_cases h:x=y<;>simp[h]
 |e::m=>by
  unfold Ni
  by_cases h:y=e.1
  ·have:ks tI y e.1=true:=by simp[ks,h]
   rw[this]
   try dsimp only
   unfold ta ks
   by_cases h2:x=y
   ·simp[h2]
   ·have:¬x=e.1:=fun h3=>h2 (h3.trans h.symm);simp[h2,this]
  ·have:ks tI y e.1=false:=by simp[ks,h]
   rw[this]
   try dsimp only
   have ih:=aaj x y g m;unfold ta
   by_cases h2:x=e.1
   ·have:ks tI x e.1=true:=by simp[ks,h2]
    rw[this];have:¬x=y:=fun h3=>h (h3.symm.trans h2);simp[this]
   ·have:ks tI x e.1=false:=by simp[ks,h2]
    rw[this];exact ih
def Ů (b:ß) (id:Int):Option î:=b.2.1.find? fun g=>g.1==id
def adu (x:Int) (l:List î):ta (k:=tI) (v:=Ð) x (Zt l)=l.reverse.find? fun g=>g.1==x:=by
 unfold Zt;rw[←List.foldr_reverse]
 induction l.reverse with
 |nil=>rfl
 |cons g t ih =>
  rw[List.foldr_cons,aaj,ih,gw]
  by_cases h:x=g.1
  ·simp[h]
  ·have:(g.1==x)=false:=by simp; exact fun h2=>h h2.symm
   simp[h,this]
def ab8 {l:List î} (h:l.Pairwise fun a b=>a.1<b.1) (x:Int):l.reverse.find? (fun g=>g.1==x)=l.find? fun g=>g.1==x:=by
 induction l with
 |nil=>rfl
 |cons g t ih =>
  rw[dH] at h;rw[List.reverse_cons,List.find?_append,ih h.2,gw]
  by_cases hx:g.1=x
  ·have:t.find? (fun g=>g.1==x)=none:=ez.2 fun y hy=>by have:g.1<y.1:=h.1 y hy; simp; omega
   rw[this]; simp[hx]
  ·have:(g.1==x)=false:=by simp[hx]
   simp[this]
def Ae {b:ß} (h:b.2.1.Pairwise fun a b=>a.1<b.1) (x:Int):ta (k:=tI) (v:=Ð) x (iA b)=Ů b x:=by
 unfold iA Ů;rw[adu,ab8 h]
def ni (s:List (Int×î)) (id day:Int):Int :=
 match ta (k:=tI) (v:=Ð) id s with
 |some g=>if day<g.2.1 then 4 else 0
 |none=>5
def adw (s:List (Int×î)) (id day:Int):iY s id day=some (ni s id day):=by
 unfold iY sv ni
 cases h:ta (k:=tI) (v:=Ð) id s with
 |none=>simp only[Y7,h]
 |some g =>
  simp only[Y7,h];rw[Ĕ]
  by_cases h2:day<g.2.1<;>simp[h2]
def agE (s:List (Int×î)) (id day:Int):Int:=if !H8 day then 1 else ni s id day
def ZK (s:List (Int×î)) (id day:Int):ņ id day s=some (agE s id day):=by
 unfold ņ DM agE;rw[Ym,À,adw,À]
 cases H8 day<;>rfl
def TY (b:ß) (s:List (Int×î)) (i:Nat) (l:Kj):Int :=
 if !jL l.2.1 0 20000 then 1 else if !inP l.2.2 0 1048576 then 1 else if ni s l.1 l.2.1.1 != 0 then ni s l.1 l.2.1.1 else
 if (b.2.2.2.1.take i).any (fun x=>x.1==l.1&&(decide (x.2.1.1≤l.2.1.2)&&decide (l.2.1.1≤x.2.1.2))) then 9 else
 if b.2.2.1.any (fun u=>u.1==l.1&&inP u.2 l.2.1.1 l.2.1.2) then 9 else 0
def acm {b:ß} (hn:b.2.2.2.1.length≤1000) (hu:b.2.2.1.length≤1000) (s:List (Int×î)) {i:Nat} {l:Kj} (hl:b.2.2.2.1[i]?=some l):Ψ b s i=some (TY b s i l):=by
 unfold Ψ vO TY;have hi:i<b.2.2.2.1.length:=(List.getElem?_eq_some_iff.1 hl).1;rw[Ë hl,Hf,À,gZ,À,adw,À]
 cases jL l.2.1 0 20000 with
 |false=>rfl
 |true =>
 cases inP l.2.2 0 1048576 with
 |false=>rfl
 |true =>
 cases hm:(ni s l.1 l.2.1.1 != 0) with
 |true =>
  have:ine (ni s l.1 l.2.1.1) 0=true:=hm;simp[this]
 |false =>
 have hm':ine (ni s l.1 l.2.1.1) 0=false:=hm
 have hg:((ile (0:Int) (i:Int))&&(ile (i:Int) (ą b.2.2.2.1)))=true:=by simp[ile,ą]; omega
 simp only[eh,ô,hm',dn,if_false];rw[ħ hg,di]
 have inner:∀(k:Int→Option Int),Ñ (fun(v:Int) kk=>Ρ b.2.2.1 (Þ b.2.2.1) l.1 l.2.1.1 l.2.1.2 v (fun u=>kk u) (fun z=>ifb (ige z 0) (k 9) (k 0)) (fun _=>k 0)) (0:Int)=if b.2.2.1.any (fun u=>u.1==l.1&&inP u.2 l.2.1.1 l.2.1.2) then k 9 else k 0:=by
  intro k;refine ń b.2.2.1 _ (fun z=>ifb (ige z 0) (k 9) (k 0)) (k 9) (k 0) (fun j=>?_) (fun j a hj ha kn=>?_) (fun kn=>?_)
  ·have:ige (j:Int) 0=true:=by simp[ige]
   rw[Õ this]
  ·try dsimp only
   unfold Ρ;rw[Ô hj,Ë ha,gZ,À,Î hj (by omega)]
   cases h1:(a.1==l.1) with
   |false =>
    have:ieq a.1 l.1=false:=h1;simp[this]
   |true =>
    have:ieq a.1 l.1=true:=h1;rw[this]
    cases inP a.2 l.2.1.1 l.2.1.2<;>simp
  ·try dsimp only
   unfold Ρ;rw[à]
 rw[inner];refine eR (ń (b.2.2.2.1.take i) (fun x=>x.1==l.1&&(decide (x.2.1.1≤l.2.1.2)&&decide (l.2.1.1≤x.2.1.2))) (fun z=>ifb (ige z 0) (some 9) (if b.2.2.1.any (fun u=>u.1==l.1&&inP u.2 l.2.1.1 l.2.1.2) then some 9 else some 0)) (some 9) (if b.2.2.1.any (fun u=>u.1==l.1&&inP u.2 l.2.1.1 l.2.1.2) then some 9 else some 0) (fun j=>?_) (fun j a hj ha kn=>?_) (fun kn=>?_)) ?_
 ·have:ige (j:Int) 0=true:=by simp[ige]
  rw[Õ this]
 ·try dsimp only
  unfold j8
  have hj':j≤1000:=by rw[dh] at hj; omega
  rw[Ô hj,Ë ha,Î hj (by rw[dh]; omega)]
  cases h1:(a.1==l.1) with
  |false =>
   have:ieq a.1 l.1=false:=h1;simp[this]
  |true =>
   have:ieq a.1 l.1=true:=h1;rw[this]
   cases h2:decide (a.2.1.1≤l.2.1.2)<;>cases h3:decide (l.2.1.1≤a.2.1.2)<;>simp[ile,h2,h3,Ĕ]<;>simp_all
 ·try dsimp only
  unfold j8;rw[à]
 ·cases List.any (b.2.2.2.1.take i) _<;>cases b.2.2.1.any _<;>rfl
def ak8 {l:List Int} (hn:l.length≤1000000) (x:Int):jB l x=some (match l.findIdx? (·==x) with|some j=>(j:Int)|none=>-1):=by
 unfold jB mj;refine Eq.trans (ic l (·==x) some (some (-1)) (fun i a hi ha kn=>?_) (fun kn=>?_)) ?_
 ·try dsimp only
  unfold gX;rw[Ô hi,Ë ha,Î hi (by omega),Ĕ]
  by_cases h:x=a
  ·subst h; simp[ieq]
  ·have h2:¬a=x:=fun e=>h e.symm;simp[ieq,h,h2]
 ·try dsimp only
  unfold gX;rw[à]
 ·cases l.findIdx? (·==x)<;>rfl
def nZ {l:List Int} (hn:l.length≤1000000) (x:Int):ĩ l x=some (l.contains x):=by
 unfold ĩ jI;rw[ak8 hn,À];congr 1
 cases h:l.findIdx? (·==x) with
 |none =>
  have:l.contains x=false:=by
   rw[eE];intro hc;have:=eA.1 h x (by simpa using hc);simp at this
  rw[this]; rfl
 |some j =>
  obtain⟨hj,hp,_⟩:=dM.1 h
  have:l.contains x=true:=by
   have h2:l[j]=x:=by simpa using hp
   rw[←h2]; simp
  rw[this];simp[ige]
def å (a b:List Int):List Int:=a.filter fun x=>!b.contains x
def sF {a b:List Int} (ha:a.length≤1000000) (hb:b.length≤1000000):ů a b=some (å a b):=by
 unfold ů X0;rw[Ö (by omega),Am.iff_true]
 have second:∀z:Nat,z<a.length→å (a.take z) b=a.take z→b.contains (a[z]?.getD 0)=true →
  Ñ (fun(v13:(Val (.pair tI (.pair tI (.slice tI))))) kk17=>kr b v13.1 v13.2.1 v13.2.2 (fun u14 u15 u16=>kk17 (u14,u15,u16)) (fun z12=>ì ((ile (0:Int) z12.1)&&(ile z12.1 (ą z12.2))) (ì ((ile (0:Int) z12.1)&&(ile z12.1 (ą (List.take (Int.toNat z12.1) z12.2++List.replicate (List.length z12.2-(Int.toNat z12.1)) (0:Int)++List.drop ((Int.toNat z12.1)+(List.length z12.2-(Int.toNat z12.1))) z12.2)))) (some (List.take (Int.toNat z12.1) (List.drop 0 (List.take (Int.toNat z12.1) z12.2++List.replicate (List.length z12.2-(Int.toNat z12.1)) (0:Int)++List.drop ((Int.toNat z12.1)+(List.length z12.2-(Int.toNat z12.1))) z12.2))))))) ((z:Int),((z:Int)+1),a)=some (å a b):=by
  intro z hz hp hc
  refine ī (fun x:Int×Int×List Int=>∃i j:Nat,x.1=i∧x.2.1=j∧i<j∧j≤a.length∧x.2.2.length=a.length∧x.2.2.take i=å (a.take j) b∧x.2.2.drop j=a.drop j) (fun x=>a.length-x.2.1.toNat) ?_
   ⟨z,z+1,rfl,by simp,by omega,by omega,rfl,?_,rfl⟩
  ·rintro⟨x1,x2,s⟩ ⟨i,j,h1,h2,hij,hja,hl,ht,hd⟩;simp only at h1 h2 hl ht hd;subst h1 h2;rcases du j a.length with hj|hj
   ·refine .inr ?_
    have hsj:s[j]?=some a[j]:=by
     have h3:(s.drop j)[0]?=(a.drop j)[0]?:=by rw[hd]
     rw[eV,eV] at h3;simpa[cN hj] using h3
    have hjs:j<s.length:=by omega
    have hta:å (a.take (j+1)) b=å (a.take j) b++if b.contains a[j] then[] else[a[j]]:=by
     rw[take_succ (cN hj),å,å,gD];congr 1
     cases h:b.contains a[j] with
     |true=>simp only[dS,h,eh,dn,if_false,dY,if_true]
     |false=>simp only[dS,h,Bool.not_false,dn,if_false,dY,if_true]
    cases h:b.contains a[j] with
    |true =>
     refine⟨(i,(j:Int)+1,s),⟨i,j+1,rfl,by simp,by omega,by omega,hl,?_,?_⟩,by simp; omega,fun kn=>?_⟩
     ·rw[hta,h]; simpa using ht
     ·have:=congrArg (List.drop 1) hd;simpa[gj,Nat.add_comm] using this
     ·try dsimp only
      unfold kr;rw[Ô hjs,ι hjs,Ĥ hsj,nZ hb,À,h];simp only[Bool.not_true,ô];rw[Î hjs (by omega)]
    |false =>
     have his:i<s.length:=by omega
     refine⟨((i:Int)+1,(j:Int)+1,s.set i a[j]),⟨i+1,j+1,by simp,by simp,by omega,by omega,by simpa using hl,?_,?_⟩,by simp; omega,fun kn=>?_⟩
     ·show List.take (i+1) (s.set i a[j])=_;rw[hta,h,List.take_succ,fV,List.take_set_of_le (cO i),ht];simp[his]
     ·show List.drop (j+1) (s.set i a[j])=_;rw[List.drop_set_of_lt (by omega)];have:=congrArg (List.drop 1) hd;simpa[gj,Nat.add_comm] using this
     ·try dsimp only
      unfold kr;rw[Ô hjs,ι hjs,Ĥ hsj,nZ hb,À,h];simp only[Bool.not_false,Ľ];rw[ι his,Ĥ (List.getElem?_eq_getElem his),Î his (by omega),Î hjs (by omega),Int.toNat_natCast]
   ·refine .inl fun kn=>?_
    have hje:j=s.length:=by omega
    try dsimp only
    unfold kr;rw[hje,à];dsimp only
    have g1:((ile (0:Int) (i:Int))&&(ile (i:Int) (ą s)))=true:=by simp[ile,ą]; omega
    rw[ħ g1]
    have g2:((ile (0:Int) (i:Int))&&(ile (i:Int) (ą (List.take (Int.toNat (i:Int)) s++List.replicate (List.length s-(Int.toNat (i:Int))) (0:Int)++List.drop ((Int.toNat (i:Int))+(List.length s-(Int.toNat (i:Int)))) s))))=true:=by
     simp[ile,ą]; omega
    rw[ħ g2,di,List.drop_zero,dk,List.take_append_of_le_length (by simp; omega),List.take_take,Nat.min_self,ht];rw[dV (by omega)]
  ·show List.take z a=å (a.take (z+1)) b;have hz':a[z]?=some a[z]:=cN hz;rw[take_succ hz',å,gD];rw[hz'] at hc;simp only[fK] at hc
   have:List.filter (fun x=>!b.contains x) [a[z]]=[]:=by simp only[dS,hc,eh,dn,if_false,dY]
   rw[this,dI];exact hp.symm
 refine eR (ic a (fun x=>b.contains x) (fun z4=>ifb (ieq z4 (-1:Int)) (some a) (ck (z4+(1:Int)) fun n5=>Ñ (fun(v13:(Val (.pair tI (.pair tI (.slice tI))))) kk17=>kr b v13.1 v13.2.1 v13.2.2 (fun u14 u15 u16=>kk17 (u14,u15,u16)) (fun z12=>ì ((ile (0:Int) z12.1)&&(ile z12.1 (ą z12.2))) (ì ((ile (0:Int) z12.1)&&(ile z12.1 (ą (List.take (Int.toNat z12.1) z12.2++List.replicate (List.length z12.2-(Int.toNat z12.1)) (0:Int)++List.drop ((Int.toNat z12.1)+(List.length z12.2-(Int.toNat z12.1))) z12.2)))) (some (List.take (Int.toNat z12.1) (List.drop 0 (List.take (Int.toNat z12.1) z12.2++List.replicate (List.length z12.2-(Int.toNat z12.1)) (0:Int)++List.drop ((Int.toNat z12.1)+(List.length z12.2-(Int.toNat z12.1))) z12.2))))))) (z4,n5,a))) (some a) (fun i x hi hx kn=>?_) (fun kn=>?_)) ?_
 ·try dsimp only
  unfold vL;rw[Ô hi,ι hi,Ĥ hx,nZ hb,À,Î hi (by omega),Ĕ]
 ·try dsimp only
  unfold vL;rw[à]
 ·cases h:a.findIdx? (fun x=>b.contains x) with
  |none =>
   have:å a b=a:=by
    rw[å,List.filter_eq_self];intro x hx;have:=eA.1 h x hx;simpa using this
   rw[this]
  |some z =>
   obtain⟨hz,hc,hlt⟩:=dM.1 h
   have h1:ieq (z:Int) (-1)=false:=by simp[ieq]
   try dsimp only
   rw[Ò h1,Î hz (by omega)];refine second z hz ?_ ?_
   ·rw[å,List.filter_eq_self];intro x hx;obtain⟨j,hj,rfl⟩:=dj.1 hx;rw[dh] at hj;rw[List.getElem_take];have:=hlt j (by omega);simpa using this
   ·rw[cN hz]; exact hc
def xj (l:List Int) (i:Nat) (a:Int):Option Bool:=if !inP a 1 1099511627776 then some false else if D6 (fun x=>x) l i a then some false else none
def lU (l:List Int):Bool:=match ķ (xj l) 0 l with|some _=>false|none=>decide (l.length≤6)
def He {l:List Int} (hn:l.length≤1000000):mL l=some (lU l):=by
 unfold mL JA;refine Eq.trans (kF l (xj l) some (some (decide (l.length≤6))) (fun i a hi ha kn=>?_) (fun kn=>?_)) ?_
 ·try dsimp only
  unfold oP;rw[Ô hi,Ë ha,gZ,À];unfold xj
  cases inP a 1 1099511627776 with
  |false=>rfl
  |true =>
   simp only[eh,ô,dn,if_false];rcases ft i with h0|h0
   ·subst h0
    have:igt ((0:Nat):Int) 0=false:=by simp[igt]
    rw[Ò this,Î hi (by omega)];simp[D6]
   ·obtain⟨q,hq⟩:=Em hi h0
    have h1:igt (i:Int) 0=true:=by simp[igt]; omega
    rw[Õ h1,Rl h0 (by omega),Hk h0 hq];simp only[D6,h0,decide_true,Bool.true_and,hq,Option.any_some];unfold ile
    cases h2:decide (a≤q) with
    |true=>rfl
    |false =>
     rw[ô,Î hi (by omega)];rfl
 ·try dsimp only
  unfold oP;rw[à,é];simp[ile];omega
 ·have hb:∀x,ķ (xj l) 0 l=some x→x=false:=by
   have:∀(m:List Int) (j:Nat) (x:Bool),ķ (xj l) j m=some x→x=false:=by
    intro m
    induction m with
    |nil=>intro j x h; cases h
    |cons a m ih =>
     intro j x h;unfold ķ at h
     cases hp:xj l j a with
     |none=>rw[hp] at h; exact ih _ _ h
     |some y =>
      rw[hp] at h;cases h;unfold xj at hp
      split at hp
      ·cases hp; rfl
      ·split at hp
       ·cases hp; rfl
       ·cases hp
   exact this l 0
  unfold lU
  cases h:ķ (xj l) 0 l with
  |none=>rfl
  |some x=>rw[hb x h]
def En (l:List Int):lU l=true↔(∀x∈l,1≤x∧x≤1099511627776)∧l.Pairwise (·<·)∧l.length≤6:=by
 have h0:ķ (xj l) 0 l=none↔(∀x∈l,1≤x∧x≤1099511627776)∧l.Pairwise (·<·):=by
  rw[iJ,←YR (fun x=>x) l];constructor
  ·intro h
   have h1:∀(j:Nat) (a:Int),l[j]?=some a→inP a 1 1099511627776=true∧D6 (fun x=>x) l j a=false:=by
    intro j a ha;have:=h j a ha;rw[Nat.zero_add] at this;unfold xj at this
    split at this
    ·cases this
    ·split at this
     ·cases this
     ·rename_i h1 h2;exact⟨by simpa using h1,by simpa using h2⟩
   refine⟨fun x hx=>?_,fun i a ha=>(h1 i a ha).2⟩;obtain⟨j,hj,rfl⟩:=dj.1 hx;have:=(h1 j l[j] (cN hj)).1;simpa[inP] using this
  ·rintro⟨h1,h2⟩ j a ha;rw[dt];have h3:=h1 a (cY ha)
   have:inP a 1 1099511627776=true:=by simpa[inP] using h3
   simp[xj,this,h2 j a ha]
 unfold lU
 cases h:ķ (xj l) 0 l with
 |none =>
  obtain⟨h1,h2⟩:=h0.1 h;simp only[decide_eq_true_eq];exact⟨fun h3=>⟨h1,h2,h3⟩,fun h3=>h3.2.2⟩
 |some x =>
  constructor
  ·intro h2; cases h2
  ·rintro⟨h1,h2,h3⟩;rw[h0.2 ⟨h1,h2⟩] at h; cases h
def ak9 {a b:List Int} (ha:a.length≤1000000) (hb:b.length≤1000000):ò [a,b]=some (a++b):=by
 have hk:∀n:Nat,n≤4000000→∀(f:Int→Option (List Int)),ck (n:Int) f=f n:=fun n h f=>Ó (by omega) (by omega) f
 have second:Ñ (fun(v9:(Val (.pair tI (.slice tI)))) kk12=>õ [a,b] (Þ [a,b]) v9.1 v9.2 (fun u10 u11=>kk12 (u10,u11)) (fun z8=>some z8)) ((0:Int),([]:List Int))=some (a++b):=by
  refine ñ [a,b] (fun i=>([a,b].take i).flatten) (some (a++b)) (f:=fun(v9:(Val (.pair tI (.slice tI)))) kk12=>õ [a,b] (Þ [a,b]) v9.1 v9.2 (fun u10 u11=>kk12 (u10,u11)) (fun z8=>some z8)) rfl (fun i x hi hx kn=>?_) (fun kn=>?_)
  ·try dsimp only
   unfold õ;rw[Ô hi,Ë hx,Î hi (by simp),take_succ hx,List.flatten_append]
   have:ê ((List.take i [a,b]).flatten.length+x.length)=true:=by
    refine Ö ?_
    have h1:x.length≤1000000:=by
     have:=cY hx;simp at this
     rcases this with rfl|rfl<;>assumption
    have h2:(List.take i [a,b]).flatten.length≤2000000:=by
     have:i=0∨i=1:=by simp at hi; omega
     rcases this with rfl|rfl<;>simp<;>omega
    omega
   rw[ħ this];simp
  ·try dsimp only
   unfold õ;rw[à];simp
 unfold ò i7;refine ī (fun x:Int×Int=>∃i:Nat,i≤2∧x=((([a,b].take i).flatten.length:Int),(i:Int))) (fun x=>2-x.2.toNat) ?_ ⟨0,by omega,rfl⟩;rintro x ⟨i,hi,rfl⟩;rcases Nat.lt_or_ge i 2 with h2|h2
 ·refine .inr ⟨((([a,b].take (i+1)).flatten.length:Int),(i:Int)+1),⟨i+1,h2,by simp⟩,by simp; omega,fun kn=>?_⟩;have hi':i<[a,b].length:=h2;obtain⟨x,hx⟩:∃x,[a,b][i]?=some x:=⟨_,cN hi'⟩
  have hxl:x.length≤1000000:=by
   have:=cY hx;simp at this
   rcases this with rfl|rfl<;>assumption
  have h3:(List.take i [a,b]).flatten.length≤2000000:=by
   have:i=0∨i=1:=by omega
   rcases this with rfl|rfl<;>simp<;>omega
  try dsimp only
  unfold Ĺ;rw[Ô hi',Ë hx,é]
  have e1:(((List.take i [a,b]).flatten.length:Int)+(x.length:Int))=((List.take i [a,b]).flatten.length+x.length:Nat):=by omega
  rw[e1,hk _ (by omega)]
  have:ilt ((((List.take i [a,b]).flatten.length+x.length:Nat)):Int) 0=false:=by simp[ilt]; omega
  rw[Ò this,Î hi' (by simp),take_succ hx];simp
 ·refine .inl fun kn=>?_
  obtain rfl:i=2:=by omega
  try dsimp only
  unfold Ĺ;rw[show((2:Nat):Int)=(([a,b].length:Nat):Int) from rfl,à]
  have e1:((List.take 2 [a,b]).flatten.length:Int)=((a.length+b.length:Nat):Int):=by simp
  have e2:ilt (((a.length+b.length:Nat)):Int) 0=false:=by simp[ilt]; omega
  rw[e1];dsimp only;rw[Ò e2,Int.sub_zero,hk _ (by omega)];rcases Nat.eq_zero_or_pos (a.length+b.length) with h0|h0
  ·have:igt (((a.length+b.length:Nat)):Int) 0=false:=by simp[igt]; omega
   rw[Ò this];exact second
  ·have:igt (((a.length+b.length:Nat)):Int) 0=true:=by simp[igt]; omega
   rw[Õ this]
   have:((ilt (0:Int) (((a.length+b.length:Nat)):Int))&&(ê (Int.toNat (((a.length+b.length:Nat)):Int))))=true:=by
    rw[di,Ö (by omega)];simp[ilt]; omega
   rw[ħ this]
   have:ile 0 (ą (List.replicate (Int.toNat (((a.length+b.length:Nat)):Int)) (0:Int)))=true:=by simp[ile]
   rw[ħ this];exact second
def lQ (b:ß) (id day:Int):Option Kj:=b.2.2.2.1.find? fun l=>l.1==id&&inP day l.2.1.1 l.2.1.2
def Yv {α:Type} (p:α→Bool):∀l:List α,l.find? p=(match l.findIdx? p with|some j=>l[j]?|none=>none)
 |[]=>rfl
 |a::l=>by
  rw[gw,List.findIdx?_cons]
  cases h:p a with
  |true=>simp
  |false =>
   simp only[dn,if_false];rw[Yv p l]
   cases l.findIdx? p<;>simp
def aou {b:ß} (hn:b.2.2.2.1.length≤1000) (id day:Int):AH b id day=some (match lQ b id day with|some l=>(l,true)|none=>((0,(0,0),0),false)):=by
 unfold AH X9;refine Eq.trans (ic b.2.2.2.1 (fun l=>l.1==id&&inP day l.2.1.1 l.2.1.2) (fun z5=>ifb (ilt z5 (0:Int)) (some (((0:Int),((0:Int),(0:Int)),(0:Int)),false)) (ü b.2.2.2.1 z5 fun e6=>some (e6,true))) (some ((0,(0,0),0),false)) (fun i a hi ha kn=>?_) (fun kn=>?_)) ?_
 ·try dsimp only
  unfold vP;rw[Ô hi,Ë ha,gZ,À,Î hi (by omega)]
  cases h1:(a.1==id) with
  |false =>
   have:ieq a.1 id=false:=h1;simp[this]
  |true =>
   have:ieq a.1 id=true:=h1;rw[this]
   cases inP day a.2.1.1 a.2.1.2<;>simp
 ·try dsimp only
  unfold vP;rw[à]
 ·unfold lQ;rw[Yv]
  cases h:b.2.2.2.1.findIdx? (fun l=>l.1==id&&inP day l.2.1.1 l.2.1.2) with
  |none=>rfl
  |some j =>
   obtain⟨hj,_,_⟩:=dM.1 h
   have:ilt (j:Int) 0=false:=by simp[ilt]
   try dsimp only
   rw[Ò this,Ë (cN hj),cN hj]
def an3 (a:Int):List Int→List Int
 |[]=>[a]
 |b::t=>if a≤b then a::b::t else b::an3 a t
def U7:List Int→List Int
 |[]=>[]
 |a::t=>an3 a (U7 t)
def xv (p:Option Int):List Int→List Int
 |[]=>[]
 |a::t=>if p=some a then xv (some a) t else a::xv (some a) t
def Zu (l:List Int):List Int:=xv none (U7 l)
def QS (a:Int):∀l,(an3 a l).Perm (a::l)
 |[]=>List.Perm.refl _
 |b::t=>by
  unfold an3
  split
  ·exact List.Perm.refl _
  ·exact((QS a t).cons b).trans (List.Perm.swap a b t)
def vT:∀l,(U7 l).Perm l
 |[]=>List.Perm.refl _
 |a::t=>(QS a _).trans ((vT t).cons a)
def QR (a:Int):∀{l:List Int},l.Pairwise (·≤·)→(an3 a l).Pairwise (·≤·)
 |[],_=>by simp[an3]
 |b::t,h=>by
  rw[List.pairwise_cons] at h;unfold an3
  split
  ·rename_i hab;refine dH.2 ⟨fun x hx=>?_,dH.2 h⟩;rcases cZ.1 hx with rfl|hx
   ·exact hab
   ·have:=h.1 x hx; omega
  ·rename_i hab;refine dH.2 ⟨fun x hx=>?_,QR a h.2⟩;rcases cZ.1 ((QS a t).mem_iff.1 hx) with rfl|hx
   ·omega
   ·exact h.1 x hx
def vS:∀l:List Int,(U7 l).Pairwise (·≤·)
 |[]=>List.Pairwise.nil
 |a::t=>QR a (vS t)
def alz (l:List Int):Ee l=U7 l:=by
 have h1:(Ee l).Pairwise (·≤·):=by
  have:=List.pairwise_mergeSort (le:=fun a b:Int=>decide (a≤b)) (fun a b c h1 h2=>by simp at *; omega) (fun a b=>by simp; omega) l
  exact this.imp fun h=>by simpa using h
 exact List.Perm.eq_of_pairwise (le:=(·≤·)) (fun a b _ _ h1 h2=>by omega) h1 (vS l) ((List.mergeSort_perm l _).trans (vT l).symm)
def T8 (a:Int):∀(l:List Int) (p:Option Int),xv p (l++[a])=xv p l++(if (match l.getLast? with|some b=>some b|none=>p)=some a then[] else[a])
 |[],p=>by simp only[f6,xv,List.getLast?_nil]; rfl
 |b::t,p=>by
  have ih:=T8 a t (some b)
  have e:(match (b::t).getLast? with|some c=>some c|none=>p)=(match t.getLast? with|some c=>some c|none=>some b):=by
   cases t with
   |nil=>rfl
   |cons c t =>
    rw[List.getLast?_cons_cons]
    cases h:(c::t).getLast? with
    |none=>simp at h
    |some x=>rfl
  rw[e];simp only[eM,xv,ih]
  split<;>simp
def CG (l:List Int):∀m,m≤l.length→Lib.compactUpTo l.toArray m=xv none (l.take m)
 |0,_=>by simp[Lib.compactUpTo,xv]
 |m+1,h=>by
  have hm:m<l.length:=h;rw[Lib.compactUpTo_succ,CG l m (by omega),take_succ (cN hm),T8];congr 1
  have e1:l.toArray[m]! = l[m]:=by simp[getElem!_pos,hm]
  rw[e1];unfold Lib.keeps;rw[e1]
  cases m with
  |zero=>simp
  |succ m =>
   have hm':m<l.length:=by omega
   have e2:l.toArray[m+1-1]! = l[m]:=by simp[getElem!_pos,hm']
   rw[e2]
   have e3:(l.take (m+1)).getLast?=some l[m]:=by rw[take_succ (cN hm'),List.getLast?_append]; rfl
   rw[e3]
   by_cases hne:l[m+1]=l[m]
   ·simp[hne]
   ·have:¬l[m]=l[m+1]:=fun h=>hne h.symm;simp[hne,this]
def aeC (l:List Int):AK l=xv none l:=by
 unfold AK Lib.compact;rw[CG l l.length (Nat.le_refl _),List.take_length]
def aip (l:List Int):AK (Ee l)=Zu l:=by rw[alz,aeC]; rfl
def Zg:∀{l:List Int} {p:Option Int} {x:Int},p≠some x→(x∈xv p l↔x∈l)
 |[],_,_,_=>Iff.rfl
 |a::t,p,x,hp=>by
  unfold xv
  by_cases hx:x=a
  ·subst hx;rw[if_neg hp]; simp
  ·have ih:=Zg (l:=t) (p:=some a) (x:=x) (fun e=>hx (by cases e; rfl))
   split<;>simp[ih,hx]
def afa:∀{l:List Int} {p:Option Int},l.Pairwise (·≤·)→(∀q,p=some q→∀x∈l,q≤x)→(xv p l).Pairwise (·<·)∧∀q,p=some q→∀x∈xv p l,q<x
 |[],p,_,_=>⟨List.Pairwise.nil,fun _ _ _ h=>by cases h⟩
 |a::t,p,h,hp=>by
  rw[List.pairwise_cons] at h;obtain⟨i1,i2⟩:=afa (l:=t) (p:=some a) h.2 (fun q hq x hx=>by cases hq; exact h.1 x hx);unfold xv
  split
  ·rename_i e;exact⟨i1,fun q hq x hx=>by rw[e] at hq; cases hq; exact i2 _ rfl x hx⟩
  ·rename_i e;refine⟨dH.2 ⟨fun x hx=>i2 _ rfl x hx,i1⟩,fun q hq x hx=>?_⟩;have:=hp q hq a (by simp);have hne:q≠a:=fun h=>e (by rw[hq,h]);rcases cZ.1 hx with rfl|hx
   ·omega
   ·have:=i2 _ rfl x hx; omega
def qH {l:List Int} {x:Int}:x∈Zu l↔x∈l:=by
 unfold Zu;rw[Zg (by simp),(vT l).mem_iff]
def CT (l:List Int):(Zu l).Pairwise (·<·):=(afa (vS l) (fun q hq=>by cases hq)).1
def Zh:∀(l:List Int) (p:Option Int),(xv p l).length≤l.length
 |[],_=>cO _
 |a::t,p=>by
  have:=Zh t (some a);unfold xv
  split<;>simp<;>omega
def Eg (l:List Int):(Zu l).length≤l.length:=by
 unfold Zu;have:=Zh (U7 l) none
 rwa [(vT l).length_eq] at this
def YS {l m:List Int} (hl:l.Pairwise (·<·)) (hm:m.Pairwise (·<·)) (h:∀x,x∈l↔x∈m):l=m:=by
 induction l generalizing m with
 |nil =>
  cases m with
  |nil=>rfl
  |cons a t=>have:=(h a).2 (by simp); cases this
 |cons a t ih =>
  rw[dH] at hl
  cases m with
  |nil=>have:=(h a).1 (by simp); cases this
  |cons b u =>
   rw[dH] at hm
   have hab:a=b:=by
    rcases cZ.1 ((h a).1 (by simp)) with h1|h1
    ·exact h1
    ·rcases cZ.1 ((h b).2 (by simp)) with h2|h2
     ·exact h2.symm
     ·have:=hm.1 a h1; have:=hl.1 b h2; omega
   subst hab;rw[ih hl.2 hm.2 fun x=>?_];constructor
   ·intro hx;rcases cZ.1 ((h x).1 (by simp[hx])) with h1|h1
    ·have:=hl.1 x hx; omega
    ·exact h1
   ·intro hx;rcases cZ.1 ((h x).2 (by simp[hx])) with h1|h1
    ·have:=hm.1 x hx; omega
    ·exact h1
def Bl (b:ß) (s:List (Int×î)) (c:Cmp):Int :=
 if (c.2.2.1++c.2.2.2.1).any (fun id=>ni s id c.2.1==5) then 5 else
 if (c.2.2.1++c.2.2.2.1).any (fun id=>ni s id c.2.1==4) then 4 else
 if (c.2.2.1++c.2.2.2.1).any (fun id=>(lQ b id c.2.1).isSome) then 9 else
 if 1<(å c.2.2.1 c.2.2.2.1).length then 1 else if 1<(å c.2.2.2.1 c.2.2.1).length then 1 else
 if (å c.2.2.1 c.2.2.2.1).length+(å c.2.2.2.1 c.2.2.1).length=0 then 1 else 0
def L1 (c:Cmp):Bool :=
 inP c.1 1 1099511627776&&(H8 c.2.1&&(inP c.2.2.2.2.1 (-1125899906842624) 1125899906842624&&(inP c.2.2.2.2.2.1 0 1073741824&&(jL c.2.2.2.2.2.2 (-10000) 10000&&(lU c.2.2.1&&lU c.2.2.2.1)))))
def oY (b:ß) (s:List (Int×î)) (i:Nat) (c:Cmp):Int :=
 if !L1 c then 1 else if (b.2.2.2.2.1.take i).any (fun x=>x.1==c.1) then 6 else Bl b s c
def zu (a b:List Int):(å a b).length≤a.length:=dG _ _
set_option maxHeartbeats 1000000 in
def Rn {b:ß} (hn:b.2.2.2.2.1.length≤1000) (hl:b.2.2.2.1.length≤1000) (s:List (Int×î)) {i:Nat} {c:Cmp} (hA:c.2.2.1.length≤1000) (hB:c.2.2.2.1.length≤1000)
 (hc:b.2.2.2.2.1[i]?=some c):ň b s i=some (oY b s i c):=by
 have hi:i<b.2.2.2.2.1.length:=(List.getElem?_eq_some_iff.1 hc).1;unfold ň oj oY L1;rw[Ë hc,gZ,À]
 cases inP c.1 1 1099511627776 with
 |false=>rfl
 |true =>
 rw[Ym,À]
 cases H8 c.2.1 with
 |false=>rfl
 |true =>
 rw[gZ,À]
 cases inP c.2.2.2.2.1 (-1125899906842624) 1125899906842624 with
 |false=>rfl
 |true =>
 rw[gZ,À]
 cases inP c.2.2.2.2.2.1 0 1073741824 with
 |false=>rfl
 |true =>
 rw[Hf,À]
 cases jL c.2.2.2.2.2.2 (-10000) 10000 with
 |false=>rfl
 |true =>
 rw[He (by omega),À]
 cases lU c.2.2.1 with
 |false=>rfl
 |true =>
 rw[He (by omega),À]
 cases lU c.2.2.2.1 with
 |false=>rfl
 |true =>
 have hg:((ile (0:Int) (i:Int))&&(ile (i:Int) (ą b.2.2.2.2.1)))=true:=by simp[ile,ą]; omega
 simp only[eh,ô,Bool.and_self,dn,if_false];rw[ħ hg,di]
 -- what comes behind the IDs
 have rest:(Ä (ò ([c.2.2.1,c.2.2.2.1])) fun r12=>Ñ (fun(v36:Int) kk38=>œ s r12 (Þ ([(5:Int),(4:Int)])) c.2.1 ([(5:Int),(4:Int)]) v36 (fun u37=>kk38 u37) (fun z23=>some z23) (fun _=>Ñ (fun(v33:Int) kk35=>Œ r12 (Þ r12) b.1.1 b.1.2 b.2.1 b.2.2.1 b.2.2.2.1 b.2.2.2.2.1 b.2.2.2.2.2 c.2.1 v33 (fun u34=>kk35 u34) (fun z28=>some z28) (fun _=>Ä (ů c.2.2.1 c.2.2.2.1) fun r30=>Ä (ů c.2.2.2.1 c.2.2.1) fun r31=>ifb (igt (Þ r30) (1:Int)) (some (1:Int)) (ifb (igt (Þ r31) (1:Int)) (some (1:Int)) (ck ((Þ r30)+(Þ r31)) fun n32=>ifb (ieq n32 (0:Int)) (some (1:Int)) (some (0:Int)))))) (0:Int))) (0:Int))=some (Bl b s c):=by
  rw[ak9 (by omega) (by omega),À]
  have hall:(c.2.2.1++c.2.2.2.1).length≤2000:=by simp; omega
  have last:(Ä (ů c.2.2.1 c.2.2.2.1) fun r30=>Ä (ů c.2.2.2.1 c.2.2.1) fun r31=>ifb (igt (Þ r30) (1:Int)) (some (1:Int)) (ifb (igt (Þ r31) (1:Int)) (some (1:Int)) (ck ((Þ r30)+(Þ r31)) fun n32=>ifb (ieq n32 (0:Int)) (some (1:Int)) (some (0:Int))))) =
   some (if 1<(å c.2.2.1 c.2.2.2.1).length then 1 else if 1<(å c.2.2.2.1 c.2.2.1).length then 1 else if (å c.2.2.1 c.2.2.2.1).length+(å c.2.2.2.1 c.2.2.1).length=0 then 1 else 0):=by
   rw[sF (by omega) (by omega),À,sF (by omega) (by omega),À];have l1:=zu c.2.2.1 c.2.2.2.1;have l2:=zu c.2.2.2.1 c.2.2.1;rw[é,é,Ó (by omega) (by omega)]
   by_cases c1:1<(å c.2.2.1 c.2.2.2.1).length
   ·rw[Õ (by simp[igt]; omega),if_pos c1]
   rw[Ò (by simp[igt]; omega),if_neg c1]
   by_cases c2:1<(å c.2.2.2.1 c.2.2.1).length
   ·rw[Õ (by simp[igt]; omega),if_pos c2]
   rw[Ò (by simp[igt]; omega),if_neg c2]
   by_cases c3:(å c.2.2.1 c.2.2.2.1).length+(å c.2.2.2.1 c.2.2.1).length=0
   ·rw[Õ (by simp[ieq]; omega),if_pos c3]
   rw[Ò (by simp[ieq]; omega),if_neg c3]
  refine eR (kF [(5:Int),4] (fun _ want=>if (c.2.2.1++c.2.2.2.1).any (fun id=>ni s id c.2.1==want) then some want else none) some (some (if (c.2.2.1++c.2.2.2.1).any (fun id=>(lQ b id c.2.1).isSome) then 9 else if 1<(å c.2.2.1 c.2.2.2.1).length then 1 else if 1<(å c.2.2.2.1 c.2.2.1).length then 1 else if (å c.2.2.1 c.2.2.2.1).length+(å c.2.2.2.1 c.2.2.1).length=0 then 1 else 0)) (fun j want hj hw kn=>?_) (fun kn=>?_)) ?_
  ·try dsimp only
   unfold œ;rw[Ô hj,ι hj,Ĥ hw];refine Eq.trans (ń (c.2.2.1++c.2.2.2.1) (fun id=>ni s id c.2.1==want) (fun _=>some want) (some want) (kn ((j:Int)+1)) (fun _=>rfl) (fun k a hk ha kn'=>?_) (fun kn'=>?_)) ?_
   ·try dsimp only
    unfold iF;rw[Ô hk,Ë ha,adw,À,Î hk (by omega),Ĕ]
   ·try dsimp only
    unfold iF;rw[à,Î hj (by simp)]
   ·cases List.any (c.2.2.1++c.2.2.2.1) (fun id=>ni s id c.2.1==want)<;>rfl
  ·try dsimp only
   unfold œ;rw[à];refine Eq.trans (ń (c.2.2.1++c.2.2.2.1) (fun id=>(lQ b id c.2.1).isSome) (fun _=>some 9) (some 9) (some (if 1<(å c.2.2.1 c.2.2.2.1).length then 1 else if 1<(å c.2.2.2.1 c.2.2.1).length then 1 else if (å c.2.2.1 c.2.2.2.1).length+(å c.2.2.2.1 c.2.2.1).length=0 then 1 else 0)) (fun _=>rfl) (fun k a hk ha kn'=>?_) (fun kn'=>?_)) ?_
   ·try dsimp only
    unfold Œ;have haw:=aou hl a c.2.1;rw[Ô hk,Ë ha,Î hk (by omega)];rw[show AH ((b.1.1,b.1.2),b.2.1,b.2.2.1,b.2.2.2.1,b.2.2.2.2.1,b.2.2.2.2.2) a c.2.1=AH b a c.2.1 from rfl,haw,À]
    cases lQ b a c.2.1<;>rfl
   ·try dsimp only
    unfold Œ;rw[à,last]
   ·cases List.any (c.2.2.1++c.2.2.2.1) (fun id=>(lQ b id c.2.1).isSome)<;>rfl
  ·unfold Bl ķ ķ ķ
   try dsimp only
   cases List.any (c.2.2.1++c.2.2.2.1) (fun id=>ni s id c.2.1==5) with
   |true=>rfl
   |false =>
   cases List.any (c.2.2.1++c.2.2.2.1) (fun id=>ni s id c.2.1==4)<;>rfl
 refine eR (ń (b.2.2.2.2.1.take i) (fun x=>x.1==c.1) (fun z11=>ifb (ige z11 (0:Int)) (some 6) (some (Bl b s c))) (some 6) (some (Bl b s c)) (fun j=>?_) (fun j a hj ha kn=>?_) (fun kn=>?_)) ?_
 ·have:ige (j:Int) 0=true:=by simp[ige]
  rw[Õ this]
 ·try dsimp only
  unfold iG;rw[rest,Ô hj,Ë ha,Î hj (by rw[List.length_take]; omega),Ĕ]
 ·try dsimp only
  unfold iG;rw[à,rest]
 ·cases List.any (b.2.2.2.2.1.take i) (fun x=>x.1==c.1)<;>rfl
def YB (b:ß) (g:î):List Int :=
 [g.2.1]++(b.2.2.2.2.1.filter fun c=>!(c.2.2.1.contains g.1==c.2.2.2.1.contains g.1)).map (fun c=>c.2.1)++(b.2.2.2.2.2.filter fun n=>n.1==g.1).map (fun n=>n.2)
def Û (b:ß) (g:î):List Int:=Zu (YB b g)
structure Ŵ (b:ß):Prop where
 gauges:b.2.1.length≤1000
 uses:b.2.2.1.length≤1000
 loans:b.2.2.2.1.length≤1000
 compares:b.2.2.2.2.1.length≤1000
 looks:b.2.2.2.2.2.length≤1000
 piles:∀c∈b.2.2.2.2.1,c.2.2.1.length≤1000∧c.2.2.2.1.length≤1000
def Zq (l:List Int):(Ee l).length=l.length:=List.length_mergeSort l
def acg {b:ß} (hs:Ŵ b) (g:î):(YB b g).length≤2001:=by
 have h1:=hs.compares;have h2:=hs.looks;have h3:=dG (fun c:Cmp=>!(c.2.2.1.contains g.1==c.2.2.2.1.contains g.1)) b.2.2.2.2.1;have h4:=dG (fun n:Int×Int=>n.1==g.1) b.2.2.2.2.2;simp only[YB,cR,dW,dz];omega
def ajY {b:ß} (hs:Ŵ b) (g:î):oW b g=some (Û b g):=by
 unfold oW X8;have hr:=acg hs g
 have hd:(Û b g).length≤2001:=by
  unfold Û;have:=Eg (YB b g);omega
 have hcl:=hs.compares;have hll:=hs.looks;refine ñ b.2.2.2.2.1 (fun i=>[g.2.1]++((b.2.2.2.2.1.take i).filter fun c=>!(c.2.2.1.contains g.1==c.2.2.2.1.contains g.1)).map (fun c=>c.2.1)) _ rfl (fun i c hi hc kn=>?_) (fun kn=>?_)
 ·try dsimp only
  unfold vN;obtain⟨p1,p2⟩:=hs.piles c (List.mem_of_getElem? hc);rw[Ô hi,Ë hc,nZ (by omega),À,nZ (by omega),À,Î hi (by omega),Î hi (by omega),take_succ hc,List.filter_append,List.map_append]
  have hlen:([g.2.1]++((b.2.2.2.2.1.take i).filter fun c=>!(c.2.2.1.contains g.1==c.2.2.2.1.contains g.1)).map (fun c=>c.2.1)).length≤1001:=by
   have h3:=dG (fun c:Cmp=>!(c.2.2.1.contains g.1==c.2.2.2.1.contains g.1)) (b.2.2.2.2.1.take i);rw[dh] at h3;simp only[cR,dW,dz];omega
  rw[Ö (by simp only[dz]; omega),Am.iff_true]
  cases h:(c.2.2.1.contains g.1==c.2.2.2.1.contains g.1) with
  |true=>simp only[eh,ô,dS,h,dn,if_false,dY,fm,dI]
  |false=>simp only[Bool.not_false,Ľ,dS,h,if_true,dY,eF,fm,dk]
 ·try dsimp only
  unfold vN;rw[à,List.take_length];refine ñ b.2.2.2.2.2 (fun i=>[g.2.1]++(b.2.2.2.2.1.filter fun c=>!(c.2.2.1.contains g.1==c.2.2.2.1.contains g.1)).map (fun c=>c.2.1)++((b.2.2.2.2.2.take i).filter fun n=>n.1==g.1).map (fun n=>n.2)) _ (by simp) (fun i n hi hn kn=>?_) (fun kn=>?_)
  ·try dsimp only
   unfold vM;rw[Ô hi,Ë hn,Î hi (by omega),Î hi (by omega),take_succ hn,List.filter_append,List.map_append]
   have hlen:([g.2.1]++(b.2.2.2.2.1.filter fun c=>!(c.2.2.1.contains g.1==c.2.2.2.1.contains g.1)).map (fun c=>c.2.1)++((b.2.2.2.2.2.take i).filter fun n=>n.1==g.1).map (fun n=>n.2)).length≤2001:=by
    have h3:=dG (fun c:Cmp=>!(c.2.2.1.contains g.1==c.2.2.2.1.contains g.1)) b.2.2.2.2.1;have h4:=dG (fun n:Int×Int=>n.1==g.1) (b.2.2.2.2.2.take i);rw[dh] at h4;simp only[cR,dW,dz];omega
   rw[Ö (by simp only[dz]; omega),Am.iff_true]
   cases h:(n.1==g.1) with
   |true =>
    have:ieq n.1 g.1=true:=h;simp[h,this]
   |false =>
    have:ieq n.1 g.1=false:=h;simp[h,this]
  ·try dsimp only
   unfold vM;rw[à,List.take_length];rw[show([g.2.1]++(b.2.2.2.2.1.filter fun c=>!(c.2.2.1.contains g.1==c.2.2.2.1.contains g.1)).map (fun c=>c.2.1)++(b.2.2.2.2.2.filter fun n=>n.1==g.1).map (fun n=>n.2))=YB b g from rfl];dsimp only;rw[Ö (by omega),Am.iff_true,Ö (by rw[Zq]; omega),Am.iff_true,aip];rfl
def Ì (b:ß):List (Int×Int):=b.2.1.flatMap fun g=>(Û b g).map fun d=>((g.1,d):Int×Int)
def HM {b:ß} (hs:Ŵ b) (g:î):(Û b g).length≤2001:=by
 unfold Û;have:=Eg (YB b g);have:=acg hs g;omega
def wc {α β:Type} (f:α→List β) (n:Nat) (h:∀a,(f a).length≤n):∀l:List α,(l.flatMap f).length≤l.length*n
 |[]=>by simp
 |a::l=>by
  have:=wc f n h l;have:=h a;simp only[dL,cR,dc,dA,fk];omega
def Wj {b:ß} (hs:Ŵ b):qv b=some (Ì b):=by
 unfold qv Qx;have hg:=hs.gauges
 have hlen:∀l:List î,(l.flatMap fun g=>(Û b g).map fun d=>((g.1,d):Int×Int)).length≤l.length*2001:=fun l =>
  wc _ 2001 (fun g=>by rw[dW]; exact HM hs g) l
 refine ñ b.2.1 (fun i=>(b.2.1.take i).flatMap fun g=>(Û b g).map fun d=>((g.1,d):Int×Int)) _ rfl (fun i g hi hg' kn=>?_) (fun kn=>?_)
 ·try dsimp only
  unfold rJ;rw[Ô hi,Ë hg'];rw[show oW ((b.1.1,b.1.2),b.2.1,b.2.2.1,b.2.2.2.1,b.2.2.2.2.1,b.2.2.2.2.2) g=oW b g from rfl,ajY hs,À];have hd:=HM hs g;have hi2:=hlen (b.2.1.take i)
  have htl:(b.2.1.take i).length≤1000:=by rw[dh]; omega
  refine ñ (Û b g) (fun j=>((b.2.1.take i).flatMap fun g=>(Û b g).map fun d=>((g.1,d):Int×Int))++((Û b g).take j).map fun d=>((g.1,d):Int×Int)) _ (by simp) (fun j d hj hd' kn'=>?_) (fun kn'=>?_)
  ·try dsimp only
   unfold rI;rw[Ô hj,Ë hd',Î hj (by omega),take_succ hd',List.map_append];rw[Ö (by simp only[List.length_append,List.length_map,List.length_take,List.length_singleton]; omega),Am.iff_true];simp
  ·try dsimp only
   unfold rI;rw[à,List.take_length];dsimp only;rw[Î hi (by omega),take_succ hg',List.flatMap_append];simp
 ·try dsimp only
  unfold rJ;rw[à,List.take_length];rfl
def xA (b:ß) (s:List (Int×î)):List Int :=
 b.2.2.1.map (fun u=>agE s u.1 u.2)++(b.2.2.2.1.mapIdx (fun i l=>TY b s i l)++(b.2.2.2.2.1.mapIdx (fun i c=>oY b s i c)++b.2.2.2.2.2.map (fun u=>agE s u.1 u.2)))
def aap {α:Type} {f:Int→Option Int} {g:Nat→α→Int} (l:List α) (h:∀(i:Nat) (a:α),l[i]?=some a→f i=some (g i a)):Oo f (xu l.length)=some (l.mapIdx g):=by
 have h1:∀i,i<l.length→f (i:Int)=some ((l.mapIdx g)[i]?.getD 0):=by
  intro i hi;rw[h i l[i] (cN hi)];simp[hi]
 have h2:∀x∈xu l.length,f x=some ((l.mapIdx g)[x.toNat]?.getD 0):=by
  intro x hx;unfold xu at hx;obtain⟨i,hi,rfl⟩:=List.mem_map.1 hx;rw[h1 i (by simpa using hi)];rfl
 rw[EO h2];congr 1;refine List.ext_getElem (by simp[xu]) fun i h3 h4=>?_
 have h5:i<l.length:=by simpa using h4
 simp[xu,h5]
def alL {b:ß} (hs:Ŵ b) (s:List (Int×î)):nN b s=some (xA b s):=by
 unfold nN xA
 rw[EO (fun u _=>ZK s u.1 u.2),À,aap b.2.2.2.1 (fun i l hl=>acm hs.loans hs.uses s hl),À,
  aap b.2.2.2.2.1 (fun i c hc=>Rn hs.compares hs.loans s (hs.piles c (cY hc)).1 (hs.piles c (cY hc)).2 hc),À,EO (fun u _=>ZK s u.1 u.2),À]
def ä (b:ß):Int :=
 if !jL b.1 0 1000000 then 1 else
 if 12<b.2.1.length then 2 else if 40<b.2.2.1.length then 2 else if 12<b.2.2.2.1.length then 2 else if 40<b.2.2.2.2.1.length then 2 else if 10<b.2.2.2.2.2.length then 2 else
 if jl b != 0 then jl b else
 match (xA b (iA b)).find? (fun e=>e != 0) with
 |some e=>e
 |none=>if 59<(Ì b).length then 2 else if 300<2*b.2.1.length+2*((Ì b).length-b.2.1.length:Int)+2*b.2.2.2.2.1.length then 2 else 0
def Iy {b:ß} (hs:Ŵ b):(Ì b).length≤2001000:=by
 have:=wc (fun g:î=>(Û b g).map fun d=>((g.1,d):Int×Int)) 2001 (fun g=>by rw[List.length_map]; exact HM hs g) b.2.1;have h2:=hs.gauges;unfold Ì;omega
def ja {b:ß} (hs:Ŵ b) (hr:∀g∈b.2.1,I64 g.2.2.2.2.1.1):ÿ b=some (ä b):=by
 unfold ÿ QI ä;rw[Hf,À]
 cases jL b.1 0 1000000 with
 |false=>rfl
 |true =>
 have h1:=hs.gauges;have h2:=hs.compares;have h3:=Iy hs;rw[Ò (show(!true)=false from rfl),if_neg (by simp)];simp only[é]
 by_cases c0:12<b.2.1.length
 ·rw[Õ (by simp[igt]; omega),if_pos c0]
 rw[Ò (by simp[igt]; omega),if_neg c0]
 by_cases c1:40<b.2.2.1.length
 ·rw[Õ (by simp[igt]; omega),if_pos c1]
 rw[Ò (by simp[igt]; omega),if_neg c1]
 by_cases c2:12<b.2.2.2.1.length
 ·rw[Õ (by simp[igt]; omega),if_pos c2]
 rw[Ò (by simp[igt]; omega),if_neg c2]
 by_cases c3:40<b.2.2.2.2.1.length
 ·rw[Õ (by simp[igt]; omega),if_pos c3]
 rw[Ò (by simp[igt]; omega),if_neg c3]
 by_cases c4:10<b.2.2.2.2.2.length
 ·rw[Õ (by simp[igt]; omega),if_pos c4]
 rw[Ò (by simp[igt]; omega),if_neg c4];rw[T1 hr h1,À]
 cases hm:(jl b != 0) with
 |true =>
  have:ine (jl b) 0=true:=hm;rw[Õ this,if_pos rfl]
 |false =>
 have:ine (jl b) 0=false:=hm;rw[Ò this,if_neg (by simp)];rw[Ud h1,À];unfold ZD;rw[alL hs,À]
 cases(xA b (iA b)).find? (fun e=>e != 0) with
 |some e=>rfl
 |none =>
 dsimp only;rw[Wj hs,À]
 by_cases c5:59<(Ì b).length
 ·rw[Õ (by simp[igt]; omega),if_pos c5]
 rw[Ò (by simp[igt]; omega),if_neg c5];rw[Ó (by omega) (by omega),Ó (by omega) (by omega),Ó (by omega) (by omega),Ó (by omega) (by omega),Ó (by omega) (by omega),Ó (by omega) (by omega)]
 by_cases c6:300<2*b.2.1.length+2*((Ì b).length-b.2.1.length:Int)+2*b.2.2.2.2.1.length
 ·rw[Õ (by simp[igt]; omega),if_pos c6]
 rw[Ò (by simp[igt]; omega),if_neg c6]
def wrapU {n:Nat} (h:n<18446744073709551616):IntKind.wrap .u64 (n:Int)=n:=by
 simp only[IntKind.wrap,IntKind.bits,IntKind.signed];simp;omega
def wrapI {n:Nat} (h:n<9223372036854775808):IntKind.wrap .i64 (n:Int)=n:=by
 simp only[IntKind.wrap,IntKind.bits,IntKind.signed];simp;omega
def iB (l:List (Int×Int)) (x d:Int):Option Nat:=l.findIdx? fun n=>decide (x=n.1)&&decide (d=n.2)
def acP {l:List (Int×Int)} (hn:l.length≤100000000) (x d:Int):þ l (x,d)=some (match iB l x d with|some j=>(j:Int)|none=>-1):=by
 unfold þ ż;refine Eq.trans (ic l (fun n=>decide (x=n.1)&&decide (d=n.2)) some (some (-1)) (fun i a hi ha kn=>?_) (fun kn=>?_)) ?_
 ·try dsimp only
  unfold Ī;rw[Ô hi,Ë ha,Î hi (by omega),Ĕ,Bool.and_true]
 ·try dsimp only
  unfold Ī;rw[à]
 ·unfold iB
  cases List.findIdx? (fun n=>decide (x=n.1)&&decide (d=n.2)) l<;>rfl
def atP (l:List (Int×Int)) (p:List Int) (d:Int):Int :=
 match p with
 |[]=>0
 |x::_=>match iB l x d with|some j=>(j:Int)+1|none=>0
def kv {l:List (Int×Int)} {x d:Int} {j:Nat} (h:iB l x d=some j):j<l.length∧l[j]?=some (x,d):=by
 unfold iB at h;obtain⟨hj,hp,_⟩:=List.findIdx?_eq_some_iff_getElem.1 h;refine⟨hj,?_⟩;rw[List.getElem?_eq_getElem hj];simp only[Bool.and_eq_true,decide_eq_true_eq] at hp;congr 1;exact Prod.ext hp.1.symm hp.2.symm
def akG (m:Maker) (p:List Int) (d:Int) (hn:m.2.1.length≤100000000):iy m p d=some (atP m.2.1 p d):=by
 unfold iy zj atP
 cases p with
 |nil=>simp[é,ieq]
 |cons x p =>
  have h:ieq (Þ (x::p)) 0=false:=by
   rw[é];simp only[ieq,dc,beq_eq_false_iff_ne,ne_eq];omega
  rw[h,ô,show(0:Int)=((0:Nat):Int) from rfl,Ë (a:=x) rfl,acP hn,À]
  cases hx:iB m.2.1 x d with
  |none=>dsimp only; rw[Ó (by omega) (by omega)]; simp only[hx]; rfl
  |some j =>
   have:=(kv hx).1;dsimp only;rw[Ó (by omega) (by omega)];simp only[hx]
def Ek (s:List (Int×î)) (p:List Int):Int×Int :=
 match p with
 |[]=>(0,1)
 |x::_=>match ta (k:=tI) (v:=Ð) x s with
  |some g=>g.2.2.2.2.1
  |none=>(0,0)
def ZC (s:List (Int×î)) (p:List Int):iU s p=some (Ek s p):=by
 unfold iU oi Ek
 cases p with
 |nil=>simp[é,ieq]
 |cons x p =>
  have h:ieq (Þ (x::p)) 0=false:=by
   rw[é];simp only[ieq,dc,beq_eq_false_iff_ne,ne_eq];omega
  rw[h,ô,show(0:Int)=((0:Nat):Int) from rfl,Ë (a:=x) rfl]
  cases hx:ta (k:=tI) (v:=Ð) x s with
  |none=>simp only[Y7,hx]
  |some g=>simp only[Y7,hx]
def ae6 {l:List (Int×Int)} (hr:∀r∈l,I64 r.1) (hn:l.length≤1000):jY l=some (if l.any (fun r=>!Kt r) then 1 else 0):=by
 unfold jY Qc;refine Eq.trans (ń l (fun r=>!Kt r) (fun _=>some 1) (some 1) (some 0) (fun _=>rfl) (fun i a hi ha kn=>?_) (fun kn=>?_)) ?_
 ·try dsimp only
  unfold rD;rw[Ô hi,Ë ha,YY (hr a (List.mem_of_getElem? ha)),À,Î hi (by omega),Ĕ]
 ·try dsimp only
  unfold rD;rw[à]
 ·cases l.any (fun r=>!Kt r)<;>rfl
def ob (n d:Int):Int×Int:=(n / (Nat.gcd n.natAbs d.natAbs:Nat),d / (Nat.gcd n.natAbs d.natAbs:Nat))
def j4 (r:Int×Int):Kt r=true↔1≤r.2∧r.2≤2147483647∧(r.1.natAbs:Int)≤2147483647∧Nat.gcd r.1.natAbs r.2.natAbs=1:=by
 simp[Kt]
def zZ {n d:Int} (hd:0<d):∃g:Nat,0<g∧g=Nat.gcd n.natAbs d.natAbs∧n=(ob n d).1*g∧d=(ob n d).2*g:=by
 have hg:0<Nat.gcd n.natAbs d.natAbs:=Nat.gcd_pos_of_pos_right _ (by omega);refine⟨_,hg,rfl,?_,?_⟩
 ·exact(Int.ediv_mul_cancel (Int.ofNat_dvd_left.2 (Nat.gcd_dvd_left _ _))).symm
 ·exact(Int.ediv_mul_cancel (Int.ofNat_dvd_left.2 (Nat.gcd_dvd_right _ _))).symm
def VW {n d:Int} (hd:0<d) (hn:n.natAbs≤2147483647) (hd2:d≤2147483647):Kt (ob n d)=true:=by
 obtain⟨g,h0,hg,h1,h2⟩:=zZ (n:=n) hd;rw[j4]
 have a1:n.natAbs=(ob n d).1.natAbs*g:=by conv=>lhs; rw[h1]; rw[fM,fO]
 have a2:d.natAbs=(ob n d).2.natAbs*g:=by conv=>lhs; rw[h2]; rw[fM,fO]
 have p2:0<(ob n d).2:=by
  rcases Int.lt_trichotomy (ob n d).2 0 with h|h|h
  ·have:=Int.mul_neg_of_neg_of_pos h (show(0:Int)<g by omega); omega
  ·rw[h] at h2; simp at h2; omega
  ·exact h
 have b1:(ob n d).1.natAbs≤n.natAbs:=by rw[a1]; exact f0 _ h0
 have b2:(ob n d).2.natAbs≤d.natAbs:=by rw[a2]; exact f0 _ h0
 refine⟨by omega,by omega,by omega,?_⟩;have:=Nat.gcd_mul_right (ob n d).1.natAbs g (ob n d).2.natAbs;rw[←a1,←a2,←hg] at this
 have h3:(Nat.gcd (ob n d).1.natAbs (ob n d).2.natAbs)*g=1*g:=by omega
 exact Nat.eq_of_mul_eq_mul_right h0 h3
def Ug {n d:Int} (hd:0<d) (hn:n.natAbs≤2147483647) (hd2:d≤2147483647):qu n d=some (ob n d,0):=by
 obtain⟨g,h0,hg,h1,h2⟩:=zZ (n:=n) hd;have hr:=(j4 _).1 (VW hd hn hd2);unfold qu DI;rw[VQ ⟨by omega,by omega⟩,À,VQ ⟨by omega,by omega⟩,À,anh,À,←hg]
 have a1:n.natAbs=(ob n d).1.natAbs*g:=by conv=>lhs; rw[h1]; rw[fM,fO]
 have a2:d.natAbs=(ob n d).2.natAbs*g:=by conv=>lhs; rw[h2]; rw[fM,fO]
 have q1:Int.tdiv (n.natAbs:Int) (g:Int)=((ob n d).1.natAbs:Int):=by
  rw[a1,gP]; exact gr _ (by omega)
 have q2:Int.tdiv (d.natAbs:Int) (g:Int)=((ob n d).2.natAbs:Int):=by
  rw[a2,gP]; exact gr _ (by omega)
 have z:Ŋ (g:Int) 0=false:=by simp[Ŋ]; omega
 have g1:igt ((ob n d).1.natAbs:Int) 2147483647=false:=by simp[igt]; omega
 have g2:igt ((ob n d).2.natAbs:Int) 2147483647=false:=by simp[igt]; omega
 rw[Ò z,Ò z,q1,q2,wrapU (by omega),wrapU (by omega),wrapI (by omega),wrapI (by omega),Ò g1,Ò g2]
 have hd0:ilt d 0=false:=by simp[ilt]; omega
 rw[hd0]
 have e2:((ob n d).2.natAbs:Int)=(ob n d).2:=by omega
 rw[e2]
 by_cases hneg:n<0
 ·have hn0:ilt n 0=true:=by simp[ilt,hneg]
  have:(ob n d).1≤0:=by
   rcases gA 0 (ob n d).1 with h|h
   ·have:=Int.mul_pos h (show(0:Int)<g by omega); omega
   ·exact h
  rw[hn0];rw[show(!true==false)=true from rfl,Ľ,Ó (by omega) (by omega)]
  have:0-((ob n d).1.natAbs:Int)=(ob n d).1:=by omega
  rw[this]
 ·have hn0:ilt n 0=false:=by simp[ilt]; omega
  have:0≤(ob n d).1:=by
   rcases gA (ob n d).1 0 with h|h
   ·have:=Int.mul_neg_of_neg_of_pos h (show(0:Int)<g by omega); omega
   ·exact h
  rw[hn0];rw[show(!false==false)=false from rfl,ô]
  have:((ob n d).1.natAbs:Int)=(ob n d).1:=by omega
  rw[this]
structure qD (r:Int×Int) (n d:Int):Prop where
 rat:Kt r=true
 num : -n≤r.1∧r.1≤n
 den:r.2≤d
def qD.pos {r:Int×Int} {n d:Int} (h:qD r n d):1≤r.2:=((j4 r).1 h.rat).1
def qD.i64 {r:Int×Int} {n d:Int} (h:qD r n d):I64 r.1:=by
 have:=((j4 r).1 h.rat).2.2.1;exact⟨by omega,by omega⟩
def aib {x y:Int×Int} (hx:Kt x=true) (hy:Kt y=true):jY [x,y]=some 0:=by
 rw[ae6]
 ·simp[hx,hy]
 ·intro r hr
  have:Kt r=true:=by simp at hr; rcases hr with rfl|rfl<;>assumption
  have:=((j4 r).1 this).2.2.1;exact⟨by omega,by omega⟩
 ·simp
def mT {a b m n:Int} (h1 : -m≤a∧a≤m) (h2 : -n≤b∧b≤n) : -(m*n)≤a*b∧a*b≤m*n:=by
 have hm:0≤m:=by omega
 have hn:0≤n:=by omega
 have h3:(a*b).natAbs≤(m*n).natAbs:=by
  rw[fM,fM];exact gg (by omega) (by omega)
 have h4:0≤m*n:=fA hm hn;omega
def subP (x y:Int×Int):Int×Int:=ob (x.1*y.2-y.1*x.2) (x.2*y.2)
def Ic {x y:Int×Int} (hx:qD x 1000 100) (hy:qD y 1000 100):(x.1*y.2-y.1*x.2).natAbs≤200000∧0<x.2*y.2∧x.2*y.2≤10000:=by
 have h1:=mT hx.num (show -100≤y.2∧y.2≤100 from⟨by have:=hy.pos; omega,hy.den⟩);have h2:=mT hy.num (show -100≤x.2∧x.2≤100 from⟨by have:=hx.pos; omega,hx.den⟩);have h3:=mT (show -100≤x.2∧x.2≤100 from⟨by have:=hx.pos; omega,hx.den⟩) (show -100≤y.2∧y.2≤100 from⟨by have:=hy.pos; omega,hy.den⟩);have h4:=Int.mul_pos (show 0<x.2 by have:=hx.pos; omega) (show 0<y.2 by have:=hy.pos; omega);refine⟨by omega,h4,by omega⟩
def Sub_ok {x y:Int×Int} (hx:qD x 1000 100) (hy:qD y 1000 100):Yz x y=some (subP x y,0):=by
 obtain⟨b1,b2,b3⟩:=Ic hx hy;have h1:=mT hx.num (show -100≤y.2∧y.2≤100 from⟨by have:=hy.pos; omega,hy.den⟩);have h2:=mT hy.num (show -100≤x.2∧x.2≤100 from⟨by have:=hx.pos; omega,hx.den⟩);unfold Yz ad4;rw[aib hx.rat hy.rat,À];rw[show ine (0:Int) 0=false from rfl,ô,Ó (by omega) (by omega),Ó (by omega) (by omega),Ó (by omega) (by omega),Ó (by omega) (by omega),Ug b2 (by omega) (by omega),À];rfl
def aiz {n d:Int} (hd:0<d):(ob n d).1.natAbs≤n.natAbs∧(ob n d).2≤d:=by
 obtain⟨g,h0,hg,h1,h2⟩:=zZ (n:=n) hd
 have a1:n.natAbs=(ob n d).1.natAbs*g:=by conv=>lhs; rw[h1]; rw[fM,fO]
 have a2:d.natAbs=(ob n d).2.natAbs*g:=by conv=>lhs; rw[h2]; rw[fM,fO]
 have b1:(ob n d).1.natAbs≤n.natAbs:=by rw[a1]; exact f0 _ h0
 have b2:(ob n d).2.natAbs≤d.natAbs:=by rw[a2]; exact f0 _ h0
 exact⟨b1,by omega⟩
def NJ {x y:Int×Int} (hx:qD x 1000 100) (hy:qD y 1000 100):qD (subP x y) 200000 10000:=by
 obtain⟨b1,b2,b3⟩:=Ic hx hy;obtain⟨c1,c2⟩:=aiz (n:=x.1*y.2-y.1*x.2) b2;exact⟨VW b2 (by omega) (by omega),by unfold subP; omega,by unfold subP; omega⟩
def EJ (k:Int×Int) (n:Int):Int×Int:=ob (k.1*n) k.2
def Iz {k:Int×Int} (hk:qD k 200000 10000) {n:Int} (hn : -10000≤n∧n≤10000):(k.1*n).natAbs≤2000000000:=by
 have:=mT hk.num hn;omega
def aei {n:Int} (hn : -10000≤n∧n≤10000):Kt (n,1)=true:=by
 rw[j4];exact⟨by simp,by simp,by simp; omega,by simp⟩
def anx {k:Int×Int} (hk:qD k 200000 10000) {n:Int} (hn : -10000≤n∧n≤10000):Rb k (n,1)=some (EJ k n,0):=by
 have b:=Iz hk hn;have p:=hk.pos;have q:=hk.den;unfold Rb ad6;rw[aib hk.rat (aei hn),À];rw[show ine (0:Int) 0=false from rfl,ô,Ó (by simp only; omega) (by simp only; omega),Int.mul_one,Ó (by omega) (by omega),Ug (by omega) (by simp only; omega) (by omega),À];rfl
def Wo {k:Int×Int} (hk:qD k 200000 10000) {n:Int} (hn : -10000≤n∧n≤10000):qD (EJ k n) 2000000000 10000:=by
 have b:=Iz hk hn;have p:=hk.pos;have q:=hk.den;obtain⟨c1,c2⟩:=aiz (n:=k.1*n) (show 0<k.2 by omega);exact⟨VW (by omega) (by omega) (by omega),by unfold EJ; omega,by unfold EJ; omega⟩
def ano (x y:Int×Int):Int:=if x=y then 0 else if x.1*y.2<y.1*x.2 then -1 else if y.1*x.2<x.1*y.2 then 1 else 0
def ann {x y:Int×Int} {m d:Int} (hx:qD x m d) (hy:qD y m d) (hm:m≤2000000000) (hd:d≤10000):Q9 x y=some (ano x y):=by
 have h1:=mT hx.num (show -d≤y.2∧y.2≤d from⟨by have:=hy.pos; have:=hy.den; omega,hy.den⟩);have h2:=mT hy.num (show -d≤x.2∧x.2≤d from⟨by have:=hx.pos; have:=hx.den; omega,hx.den⟩);have h0:0≤m∧0≤d:=⟨by have:=hx.num; omega,by have:=hx.pos; have:=hx.den; omega⟩;have h3:m*d≤2000000000*10000:=Int.mul_le_mul hm hd h0.2 (by omega);unfold Q9 ad2 ano;rw[Ó (by omega) (by omega),Ó (by omega) (by omega)];simp only[Ĕ,Bool.and_true,Bool.and_eq_true,decide_eq_true_eq,Ŋ,ilt,igt,gt_iff_lt];have:(x.1=y.1∧x.2=y.2)↔x=y:=⟨fun h=>Prod.ext h.1 h.2,fun h=>by rw[h]; exact⟨rfl,rfl⟩⟩;simp only[this]
 (repeat' split)<;>rfl
def Wf (k:Int×Int) (heat:Int×Int):(Int×Int)×(Int×Int) :=
 if 0<ano (EJ k heat.1) (EJ k heat.2) then(EJ k heat.2,EJ k heat.1) else(EJ k heat.1,EJ k heat.2)
def anU {k heat:Int×Int} (hk:qD k 200000 10000) (hh:jL heat (-10000) 10000=true):oV k heat=some (Wf k heat):=by
 simp only[jL,Bool.and_eq_true,decide_eq_true_eq] at hh;obtain⟨h1,h2,h3⟩:=hh;have n1 : -10000≤heat.1∧heat.1≤10000:=⟨by omega,by omega⟩;have n2 : -10000≤heat.2∧heat.2≤10000:=⟨by omega,by omega⟩;have r1:qD (heat.1,1) 10000 10000:=⟨aei n1,n1,by simp⟩;have r2:qD (heat.2,1) 10000 10000:=⟨aei n2,n2,by simp⟩;unfold oV vD Ra Ql sK su;rw[aib r1.rat r2.rat,À];have:ieq 0 0=true:=rfl;rw[Õ this,ann r1 r2 (by omega) (by omega),À]
 have hc:ile (ano (heat.1,1) (heat.2,1)) 0=true:=by
  unfold ano;simp only[ile,decide_eq_true_eq,Int.mul_one]
  split
  ·omega
  ·split
   ·omega
   ·rw[if_neg (by omega)]; omega
 rw[hc,À];simp only[Bool.not_true,ô];rw[YY hk.i64,hk.rat,À];simp only[Bool.not_true,ô];rw[anx hk n1,À,anx hk n2,À];simp only[show ine (0:Int) 0=false from rfl,ô];rw[ann (Wo hk n1) (Wo hk n2) (by omega) (by omega),À];unfold Wf;rw[Ĕ]
 by_cases h:0<ano (EJ k heat.1) (EJ k heat.2)
 ·rw[if_pos h,if_pos (by simpa[igt] using h)]; rfl
 ·rw[if_neg h,if_neg (by simpa[igt] using h)]; rfl
def rateK (s:List (Int×î)) (c:Cmp):Int×Int:=subP (Ek s (å c.2.2.1 c.2.2.2.1)) (Ek s (å c.2.2.2.1 c.2.2.1))
def Ĝ (b:ß) (c:Cmp):(Int×Int)×(Int×Int):=Wf (rateK (iA b) c) c.2.2.2.2.2.2
def abY {b:ß} (hs:Ŵ b) {c:Cmp} (hA:c.2.2.1.length≤1000) (hB:c.2.2.2.1.length≤1000)
 (h1:qD (Ek (iA b) (å c.2.2.1 c.2.2.2.1)) 1000 100) (h2:qD (Ek (iA b) (å c.2.2.2.1 c.2.2.1)) 1000 100) (hh:jL c.2.2.2.2.2.2 (-10000) 10000=true):pu b c=some (Ĝ b c):=by
 unfold pu JC;rw[Ud hs.gauges,À,sF (by omega) (by omega),À,ZC,À,sF (by omega) (by omega),À,ZC,À];unfold wj vE;rw[Sub_ok h1 h2,À,À]
 try dsimp only
 rw[anU (NJ h1 h2) hh,À];rfl
def ik (b:ß) (c:Cmp):Int×Int :=
 (((c.2.2.1.length-1:Nat):Int)*b.1.1-((c.2.2.2.1.length-1:Nat):Int)*b.1.2,((c.2.2.1.length-1:Nat):Int)*b.1.2-((c.2.2.2.1.length-1:Nat):Int)*b.1.1)
def afZ {b:ß} {c:Cmp} (hA:c.2.2.1.length≤1000) (hB:c.2.2.2.1.length≤1000) (h1:0≤b.1.1) (h2:b.1.1≤1000000) (h3:0≤b.1.2) (h4:b.1.2≤1000000):uC b c=some (ik b c):=by
 unfold uC QE ik
 have e:∀n:Nat,lT 0 ((n:Int)-1)=((n-1:Nat):Int):=by
  intro n;unfold lT
  split<;>omega
 have bd:∀(n:Nat) (x:Int),n≤1000→0≤x→x≤1000000→0≤((n-1:Nat):Int)*x∧((n-1:Nat):Int)*x≤1000000000:=by
  intro n x hn h0 hx;refine⟨fA (by omega) h0,?_⟩;have:=eY (show((n-1:Nat):Int)≤1000 by omega) hx h0 (by omega);omega
 have b1:=bd _ _ hA h1 h2;have b2:=bd _ _ hA h3 h4;have b3:=bd _ _ hB h1 h2;have b4:=bd _ _ hB h3 h4;simp only[é];rw[Ó (by omega) (by omega),Ó (by omega) (by omega)];simp only[e];rw[Ó (by omega) (by omega),Ó (by omega) (by omega),Ó (by omega) (by omega),Ó (by omega) (by omega),Ó (by omega) (by omega),Ó (by omega) (by omega)]
def Yu {n d:Int} (hd:1≤d) (hn : -4000000000≤n∧n≤4000000000):uz n d=some (n / d):=by
 unfold uz Gy
 have z:Ŋ d 0=false:=by simp[Ŋ]; omega
 rw[Ò z];have t:=Int.mul_tdiv_add_tmod n d
 have b1 : -4000000000≤Int.tdiv n d∧Int.tdiv n d≤4000000000:=by
  have:=Int.natAbs_tdiv_le_natAbs n d;omega
 rw[Ó (by omega) (by omega),Ò z,Ĕ]
 by_cases h:Int.tmod n d<0
 ·rw[if_pos (by simpa[ilt] using h),Ó (by omega) (by omega)];congr 1
  have h5 : -d<Int.tmod n d:=by
   have h6:=gN n d;have h7:=gE n.natAbs (show 0<d.natAbs by omega);omega
  refine(gd (by omega)).2 ⟨?_,?_⟩ |>.symm
  ·rw[Int.sub_mul,fQ]; omega
  ·rw[Int.sub_mul,fQ (Int.tdiv n d)]; omega
 ·rw[if_neg (by simpa[ilt] using h)];congr 1
  have h5:Int.tmod n d<d:=by
   have h6:=gN n d;have h7:=gE n.natAbs (show 0<d.natAbs by omega);omega
  refine(gd (by omega)).2 ⟨?_,?_⟩ |>.symm
  ·rw[fQ]; omega
  ·rw[fQ (Int.tdiv n d)]; omega
def am9 {x:Int×Int} (hx:Kt x=true):jY [x]=some 0:=by
 rw[ae6]
 ·simp[hx]
 ·intro r hr
  have:Kt r=true:=by simp at hr; subst hr; assumption
  have:=((j4 r).1 this).2.2.1;exact⟨by omega,by omega⟩
 ·simp
def D3 (r:Int×Int):Int:=-(-r.1 / r.2)
def agA {r:Int×Int} (h:Kt r=true):zG r=some (r.1 / r.2,0):=by
 unfold zG Qo;have:=(j4 r).1 h;rw[am9 h,À];rw[show ine (0:Int) 0=false from rfl,ô,Yu (by omega) (by omega),À]
def J2 {n d:Int} (hd:1≤d):(n / d).natAbs≤n.natAbs:=by
 exact Int.natAbs_ediv_le_natAbs n d
def ala {r:Int×Int} (h:Kt r=true):HF r=some (D3 r,0):=by
 unfold HF XQ D3;have:=(j4 r).1 h;rw[am9 h,À];rw[show ine (0:Int) 0=false from rfl,ô,Ó (by omega) (by omega),Yu (by omega) (by omega),À];have hb:=J2 (n:=0-r.1) (show 1≤r.2 by omega);rw[Ó (by omega) (by omega),Int.zero_sub,Int.zero_sub]
def Ŗ (b:ß) (c:Cmp):Int×Int :=
 (c.2.2.2.2.1-c.2.2.2.2.2.1-(ik b c).2-(Ĝ b c).2.1 / (Ĝ b c).2.2,c.2.2.2.2.1+c.2.2.2.2.2.1-(ik b c).1-D3 (Ĝ b c).1)
structure Ď (b:ß):Prop where
 film:0≤b.1.1∧b.1.1≤b.1.2∧b.1.2≤1000000
 nG:b.2.1.length≤12
 nU:b.2.2.1.length≤40
 nL:b.2.2.2.1.length≤12
 nC:b.2.2.2.2.1.length≤40
 nK:b.2.2.2.2.2.length≤10
 gauge:∀g∈b.2.1,qg g=true
 ids:b.2.1.Pairwise fun a b=>a.1<b.1
 uses:∀u∈b.2.2.1,agE (iA b) u.1 u.2=0
 loans:∀i l,b.2.2.2.1[i]?=some l→TY b (iA b) i l=0
 compares:∀i c,b.2.2.2.2.1[i]?=some c→oY b (iA b) i c=0
 looks:∀u∈b.2.2.2.2.2,agE (iA b) u.1 u.2=0
 nodes:(Ì b).length≤59
 links:2*(Ì b).length+2*b.2.2.2.2.1.length≤300
def vY (b:ß):jl b=0↔(∀g∈b.2.1,qg g=true)∧b.2.1.Pairwise fun a b=>a.1<b.1:=by
 have h0:ķ (ox b.2.1) 0 b.2.1=none↔(∀g∈b.2.1,qg g=true)∧b.2.1.Pairwise fun a b=>a.1<b.1:=by
  rw[iJ,←YR (fun g:î=>g.1) b.2.1];constructor
  ·intro h
   have h1:∀(j:Nat) (a:î),b.2.1[j]?=some a→qg a=true∧D6 (fun g:î=>g.1) b.2.1 j a=false:=by
    intro j a ha;have:=h j a ha;rw[Nat.zero_add] at this;unfold ox at this
    split at this
    ·cases this
    ·split at this
     ·cases this
     ·rename_i h1 h2;exact⟨by simpa using h1,by simpa using h2⟩
   refine⟨fun x hx=>?_,fun i a ha=>(h1 i a ha).2⟩;obtain⟨j,hj,rfl⟩:=dj.1 hx;exact(h1 j _ (cN hj)).1
  ·rintro⟨h1,h2⟩ j a ha;rw[dt];simp[ox,h1 a (cY ha),h2 j a ha]
 rw[←h0];unfold jl
 cases h:ķ (ox b.2.1) 0 b.2.1 with
 |none=>simp
 |some e =>
  have:∀(m:List î) (j:Nat) (x:Int),ķ (ox b.2.1) j m=some x→x≠0:=by
   intro m
   induction m with
   |nil=>intro j x h; cases h
   |cons a m ih =>
    intro j x h;unfold ķ at h
    cases hp:ox b.2.1 j a with
    |none=>rw[hp] at h; exact ih _ _ h
    |some y =>
     rw[hp] at h;cases h;unfold ox at hp
     split at hp
     ·cases hp; omega
     ·split at hp
      ·cases hp; omega
      ·cases hp
  simp[this _ _ _ h]
def ð (b:ß):ä b=0↔Ď b:=by
 unfold ä;constructor
 ·intro h
  split at h
  ·omega
  rename_i h1
  (repeat' split at h)<;>try omega
  ·rename_i hg
   have hg':jl b≠0:=by simpa using hg
   exact(hg' h).elim
  ·rename_i hf;have:=f9 hf;rename_i e;simp at this;exact(this h).elim
  ·rename_i hn1 hn2 hn3 hn4 hn5 hg e hf hn6 hn7
   have hg0:jl b=0:=by simpa using hg
   obtain⟨g1,g2⟩:=(vY b).1 hg0
   have hall:∀x∈xA b (iA b),x=0:=fun x hx=>by
    have:=ez.1 hf x hx;simpa using this
   simp only[xA,cW] at hall
   have hs:jL b.1 0 1000000=true:=by simpa using h1
   simp only[jL,cQ,decide_eq_true_eq] at hs;refine⟨⟨hs.1,hs.2.1,hs.2.2⟩,by omega,by omega,by omega,by omega,by omega,g1,g2,fun u hu=>hall _ (.inl (dR.2 ⟨u,hu,rfl⟩)),fun i l hl=>?_,fun i c hc=>?_,fun u hu=>hall _ (.inr (.inr (.inr (dR.2 ⟨u,hu,rfl⟩)))),by omega,by omega⟩
   ·obtain⟨hi,rfl⟩:=cX.1 hl;exact hall _ (.inr (.inl (gQ.2 ⟨i,hi,rfl⟩)))
   ·obtain⟨hi,rfl⟩:=cX.1 hc;exact hall _ (.inr (.inr (.inl (gQ.2 ⟨i,hi,rfl⟩))))
 ·intro h
  have hs:jL b.1 0 1000000=true:=by simp[jL,h.film.1,h.film.2.1,h.film.2.2]
  have hg:jl b=0:=(vY b).2 ⟨h.gauge,h.ids⟩
  have hall:(xA b (iA b)).find? (fun e=>e != 0)=none:=by
   rw[ez];intro x hx;simp only[xA,cW,dR,gQ] at hx
   have:x=0:=by
    rcases hx with⟨u,hu,rfl⟩|⟨i,hi,rfl⟩|⟨i,hi,rfl⟩|⟨u,hu,rfl⟩
    ·exact h.uses u hu
    ·exact h.loans i _ (cN hi)
    ·exact h.compares i _ (cN hi)
    ·exact h.looks u hu
   simp[this]
  have:=h.nG; have:=h.nU; have:=h.nL; have:=h.nC; have:=h.nK; have:=h.nodes; have:=h.links;rw[hs,hg,hall];simp only[eh,dn,if_false,bne_self_eq_false];rw[if_neg (by omega),if_neg (by omega),if_neg (by omega),if_neg (by omega),if_neg (by omega),if_neg (by omega),if_neg (by omega)]
section
variable {b:ß}
def ė {l:List Int} (h:lU l=true):l.length≤6:=((En l).1 h).2.2
def Ď.nums (h:Ď b) {c:Cmp} (hc:c∈b.2.2.2.2.1):L1 c=true:=by
 obtain⟨i,hi,rfl⟩:=List.mem_iff_getElem.1 hc;have:=h.compares i _ (List.getElem?_eq_getElem hi);unfold oY at this
 split at this
 ·omega
 ·rename_i h; simpa using h
def Ď.pilesOf (h:Ď b) {c:Cmp} (hc:c∈b.2.2.2.2.1):Bl b (iA b) c=0:=by
 obtain⟨i,hi,rfl⟩:=List.mem_iff_getElem.1 hc;have:=h.compares i _ (List.getElem?_eq_getElem hi);unfold oY at this
 split at this
 ·omega
 ·split at this
  ·omega
  ·exact this
def Ũ (c:Cmp):L1 c=true↔(1≤c.1∧c.1≤1099511627776)∧(0≤c.2.1∧c.2.1≤20000)∧(-1125899906842624≤c.2.2.2.2.1∧c.2.2.2.2.1≤1125899906842624)∧(0≤c.2.2.2.2.2.1∧c.2.2.2.2.2.1≤1073741824)∧jL c.2.2.2.2.2.2 (-10000) 10000=true∧lU c.2.2.1=true∧lU c.2.2.2.1=true:=by
 simp[L1,inP,H8,and_assoc]
def Ď.size (h:Ď b):Ŵ b:=by
 have h1:=h.nG; have h2:=h.nU; have h3:=h.nL; have h4:=h.nC; have h5:=h.nK;refine⟨by omega,by omega,by omega,by omega,by omega,fun c hc=>?_⟩;have:=(Ũ c).1 (h.nums hc);have a:=ė this.2.2.2.2.2.1;have b:=ė this.2.2.2.2.2.2;omega
def uf (g:î):qg g=true↔Kt g.2.2.2.2.1=true∧(-1000≤g.2.2.2.2.1.1∧g.2.2.2.2.1.1≤1000)∧g.2.2.2.2.1.2≤100∧(1≤g.1∧g.1≤1099511627776)∧(0≤g.2.1∧g.2.1≤20000)∧(1≤g.2.2.1∧g.2.2.1≤1125899906842624)∧(-1073741824≤g.2.2.2.1.1∧g.2.2.2.1.1≤g.2.2.2.1.2∧g.2.2.2.1.2≤1073741824)∧(0≤g.2.2.2.2.2∧g.2.2.2.2.2≤1048576):=by
 simp[qg,inP,H8,jL,and_assoc]
def nO {id:Int} {g:î} (h:Ů b id=some g):g∈b.2.1∧g.1=id:=by
 unfold Ů at h;exact⟨List.mem_of_find?_eq_some h,by simpa using List.find?_some h⟩
def vZ (hi:b.2.1.Pairwise fun a b=>a.1<b.1) {g:î} (hg:g∈b.2.1):Ů b g.1=some g:=by
 unfold Ů
 induction hl:b.2.1 generalizing b with
 |nil=>rw[hl] at hg; cases hg
 |cons a t ih =>
  rw[hl] at hg hi;rw[dH] at hi;rw[gw];rcases cZ.1 hg with rfl|hg
  ·simp
  ·have h1:=hi.1 g hg
   have:(a.1==g.1)=false:=by simp; omega
   rw[this];have:=ih (b:=(b.1,t,b.2.2)) hi.2 hg rfl;exact this
def IA (h:Ď b) {id day:Int} (hm:ni (iA b) id day=0):∃g,Ů b id=some g∧g.2.1≤day:=by
 unfold ni at hm;rw[Ae h.ids] at hm
 split at hm
 ·rename_i g hg
  split at hm
  ·omega
  ·exact⟨g,hg,by omega⟩
 ·omega
def Oq (s:List (Int×î)) (id day:Int):ni s id day=0∨ni s id day=4∨ni s id day=5:=by
 unfold ni
 split
 ·split<;>simp
 ·simp
def Ď.pile (h:Ď b) {c:Cmp} (hc:c∈b.2.2.2.2.1) {x:Int} (hx:x∈c.2.2.1++c.2.2.2.1):(∃g,Ů b x=some g∧g.2.1≤c.2.1)∧lQ b x c.2.1=none:=by
 have hp:=h.pilesOf hc;unfold Bl at hp
 split at hp
 ·omega
 rename_i h5
 split at hp
 ·omega
 rename_i h4
 split at hp
 ·omega
 rename_i h9;have a5:=(eP.1 (eE.2 h5)) x hx;have a4:=(eP.1 (eE.2 h4)) x hx;have a9:=(eP.1 (eE.2 h9)) x hx;simp at a5 a4 a9;refine⟨IA h ?_,a9⟩;rcases Oq (iA b) x c.2.1 with h0|h0|h0
 ·exact h0
 ·exact(a4 h0).elim
 ·exact(a5 h0).elim
def Ď.lefts (h:Ď b) {c:Cmp} (hc:c∈b.2.2.2.2.1):(å c.2.2.1 c.2.2.2.1).length≤1∧(å c.2.2.2.1 c.2.2.1).length≤1∧(å c.2.2.1 c.2.2.2.1).length+(å c.2.2.2.1 c.2.2.1).length≠0:=by
 have hp:=h.pilesOf hc;unfold Bl at hp
 (repeat' split at hp)<;>first|omega|exact⟨by omega,by omega,by omega⟩
def jU {a c:List Int} {x:Int}:x∈å a c↔x∈a∧x∉c:=by
 simp[å]
def Ď.rate (h:Ď b) {p:List Int} (hp:∀x∈p,∃g,Ů b x=some g):qD (Ek (iA b) p) 1000 100:=by
 unfold Ek
 cases p with
 |nil =>
  have:qD (0,1) 1000 100:=⟨by decide,by decide,by decide⟩;exact this
 |cons x t =>
  obtain⟨g,hg⟩:=hp x (by simp)
  try dsimp only
  rw[Ae h.ids,hg];have:=(uf g).1 (h.gauge g (nO hg).1);exact⟨this.1,this.2.1,this.2.2.1⟩
def Ď.rates (h:Ď b) {c:Cmp} (hc:c∈b.2.2.2.2.1):qD (Ek (iA b) (å c.2.2.1 c.2.2.2.1)) 1000 100∧qD (Ek (iA b) (å c.2.2.2.1 c.2.2.1)) 1000 100:=by
 constructor
 ·exact h.rate fun x hx=>by
   obtain⟨⟨g,hg,_⟩,_⟩:=h.pile hc (d8 _ (jU.1 hx).1);exact⟨g,hg⟩
 ·exact h.rate fun x hx=>by
   obtain⟨⟨g,hg,_⟩,_⟩:=h.pile hc (dQ _ (jU.1 hx).1);exact⟨g,hg⟩
def Ď.growth (h:Ď b) {c:Cmp} (hc:c∈b.2.2.2.2.1):pu b c=some (Ĝ b c):=by
 obtain⟨r1,r2⟩:=h.rates hc;have hn:=(Ũ c).1 (h.nums hc);have a:=ė hn.2.2.2.2.2.1;have b:=ė hn.2.2.2.2.2.2;exact abY h.size (by omega) (by omega) r1 r2 hn.2.2.2.2.1
def Ď.films (h:Ď b) {c:Cmp} (hA:c.2.2.1.length≤1000) (hB:c.2.2.2.1.length≤1000):uC b c=some (ik b c):=by
 have:=h.film;exact afZ hA hB (by omega) (by omega) (by omega) (by omega)
def We {k heat:Int×Int} (hk:qD k 200000 10000) (hh:jL heat (-10000) 10000=true):qD (Wf k heat).1 2000000000 10000∧qD (Wf k heat).2 2000000000 10000:=by
 simp only[jL,Bool.and_eq_true,decide_eq_true_eq] at hh;have r1:=Wo hk (n:=heat.1) ⟨by omega,by omega⟩;have r2:=Wo hk (n:=heat.2) ⟨by omega,by omega⟩;unfold Wf
 split
 ·exact⟨r2,r1⟩
 ·exact⟨r1,r2⟩
def ql {c:Cmp} (hA:c.2.2.1.length≤1000) (hB:c.2.2.2.1.length≤1000) (h1:0≤b.1.1) (h2:b.1.1≤1000000) (h3:0≤b.1.2) (h4:b.1.2≤1000000) :
 (-1000000000≤(ik b c).1∧(ik b c).1≤1000000000)∧(-1000000000≤(ik b c).2∧(ik b c).2≤1000000000):=by
 have bd:∀(n:Nat) (x:Int),n≤1000→0≤x→x≤1000000→0≤((n-1:Nat):Int)*x∧((n-1:Nat):Int)*x≤1000000000:=by
  intro n x hn h0 hx;refine⟨fA (by omega) h0,?_⟩;have:=eY (show((n-1:Nat):Int)≤1000 by omega) hx h0 (by omega);omega
 have b1:=bd _ _ hA h1 h2;have b2:=bd _ _ hA h3 h4;have b3:=bd _ _ hB h1 h2;have b4:=bd _ _ hB h3 h4;unfold ik
 try dsimp only
 omega
def qj {r:Int×Int} (h:qD r 2000000000 10000) : -2000000000≤r.1 / r.2∧r.1 / r.2≤2000000000:=by
 have:=J2 (n:=r.1) h.pos;have:=h.num;omega
def uF {r:Int×Int} (h:qD r 2000000000 10000) : -2000000000≤D3 r∧D3 r≤2000000000:=by
 have:=J2 (n:=-r.1) h.pos;have:=h.num;unfold D3;omega
def Ď.says (h:Ď b) {c:Cmp} (hc:c∈b.2.2.2.2.1):wi b c=some (Ŗ b c):=by
 obtain⟨r1,r2⟩:=h.rates hc;have hn:=(Ũ c).1 (h.nums hc);have ha:=ė hn.2.2.2.2.2.1;have hb:=ė hn.2.2.2.2.2.2;have hf:=h.film;obtain⟨g1,g2⟩:=We (NJ r1 r2) hn.2.2.2.2.1;have fb:=ql (b:=b) (c:=c) (by omega) (by omega) (by omega) (by omega) (by omega) (by omega);have q1:qD (Ĝ b c).1 2000000000 10000:=g1;have q2:qD (Ĝ b c).2 2000000000 10000:=g2;have c1:=uF q1;have c2:=qj q2;unfold wi XU Ŗ;rw[h.growth hc,À,h.films (by omega) (by omega),À,agA q2.rat,À,ala q1.rat,À]
 try dsimp only
 have n3:=hn.2.2.1;have n4:=hn.2.2.2.1;rw[Ó (by omega) (by omega),Ó (by omega) (by omega),Ó (by omega) (by omega),Ó (by omega) (by omega),Ó (by omega) (by omega),Ó (by omega) (by omega)]
end
def ę (l:Kj) (f t:Int):Int:=min l.2.1.2 (t-1)-max l.2.1.1 f+1
def ļ (id f t:Int):List Kj→Int
 |[]=>0
 |l::r=>(if l.1=id∧0<ę l f t then ę l f t*l.2.2 else 0)+ļ id f t r
def zq (id f t:Int):∀(x y:List Kj),ļ id f t (x++y)=ļ id f t x+ļ id f t y
 |[],y=>by simp[ļ]
 |l::r,y=>by
  simp only[eM,ļ,zq id f t r y];omega
def iZ (b:ß) (id f t:Int):List Int:=(b.2.2.1.filter fun u=>u.1==id&&inP u.2 f (t-1)).map fun u=>u.2
def iT (b:ß) (g:î) (f t:Int):Int:=ļ g.1 f t b.2.2.2.1+(Zu (iZ b g.1 f t)).length*g.2.2.2.2.2
def vV (a c:Int):mG a c=min a c:=by unfold mG; split<;>omega
def Yo (a c:Int):lT a c=max a c:=by unfold lT; split<;>omega
def JJ {b:ß} (h:Ď b) {l:Kj} (hl:l∈b.2.2.2.1):(0≤l.2.1.1∧l.2.1.1≤l.2.1.2∧l.2.1.2≤20000)∧(0≤l.2.2∧l.2.2≤1048576):=by
 obtain⟨i,hi,rfl⟩:=List.mem_iff_getElem.1 hl;have:=h.loans i _ (List.getElem?_eq_getElem hi);unfold TY at this
 split at this
 ·omega
 rename_i h1
 split at this
 ·omega
 rename_i h2;simp only[eN,Bool.not_eq_false,jL,inP,cQ,decide_eq_true_eq] at h1 h2;exact⟨h1,h2⟩
def U0 {l:Kj} (h:(0≤l.2.1.1∧l.2.1.1≤l.2.1.2∧l.2.1.2≤20000)∧(0≤l.2.2∧l.2.2≤1048576)) {f t:Int} (hf:0≤f) (hd:0<ę l f t):0≤ę l f t*l.2.2∧ę l f t*l.2.2≤20001*1048576:=by
 refine⟨Int.mul_nonneg (by omega) h.2.1,Int.mul_le_mul ?_ h.2.2 h.2.1 (by omega)⟩;unfold ę;omega
def sw {id f t:Int} (hf:0≤f):∀{x:List Kj},(∀l∈x,(0≤l.2.1.1∧l.2.1.1≤l.2.1.2∧l.2.1.2≤20000)∧(0≤l.2.2∧l.2.2≤1048576))→0≤ļ id f t x∧ļ id f t x≤x.length*(20001*1048576)
 |[],_=>by simp[ļ]
 |l::r,h=>by
  have ih:=sw (id:=id) (t:=t) hf (x:=r) fun l hl=>h l (by simp[hl]);simp only[ļ,dc,fJ,fN,fW]
  split
  ·rename_i hc;have:=U0 (h l (by simp)) hf hc.2;omega
  ·omega
def an1 {b:ß} (h:Ď b) {g:î} (hg:0≤g.2.2.2.2.2∧g.2.2.2.2.2≤1048576) {f t:Int} (hf:0≤f∧f≤100000) (ht:0≤t∧t≤100000):AG b g f t=some (iT b g f t):=by
 have hL:=h.nL;have hU:=h.nU
 have hlb:∀i,0≤ļ g.1 f t (b.2.2.2.1.take i)∧ļ g.1 f t (b.2.2.2.1.take i)≤12*(20001*1048576):=by
  intro i;have h1:=sw (id:=g.1) (t:=t) hf.1 (x:=b.2.2.2.1.take i) fun l hl=>JJ h (fE hl);have h2:((b.2.2.2.1.take i).length:Int)*(20001*1048576)≤12*(20001*1048576):=fG (by rw[dh]; omega) (by omega);omega
 unfold AG XX;refine ī (fun x:Int×Int=>∃i:Nat,i≤b.2.2.2.1.length∧x=(ļ g.1 f t (b.2.2.2.1.take i),(i:Int))) (fun x=>b.2.2.2.1.length-x.2.toNat) ?_ ⟨0,by omega,rfl⟩;rintro x ⟨i,hi,rfl⟩;rcases Nat.lt_or_ge i b.2.2.2.1.length with hlt|hge
 ·have hl:b.2.2.2.1[i]?=some b.2.2.2.1[i]:=cN hlt;have hz:=JJ h (cY hl);refine .inr ⟨(ļ g.1 f t (b.2.2.2.1.take (i+1)),(i:Int)+1),⟨i+1,hlt,by simp⟩,by simp; omega,fun kn=>?_⟩
  try dsimp only
  unfold vK;have b1:=hlb i;have b2:=hlb (i+1)
  have e1:ļ g.1 f t (b.2.2.2.1.take (i+1))=ļ g.1 f t (b.2.2.2.1.take i)+(if b.2.2.2.1[i].1=g.1∧0<ę b.2.2.2.1[i] f t then ę b.2.2.2.1[i] f t*b.2.2.2.1[i].2.2 else 0):=by
   rw[take_succ hl,zq]; simp[ļ]
  rw[Ô hlt,Ë hl,Ó (by omega) (by omega),vV,Yo,Ó (by omega) (by omega),Ó (by omega) (by omega)];rw[show min b.2.2.2.1[i].2.1.2 (t-1)-max b.2.2.2.1[i].2.1.1 f+1=ę b.2.2.2.1[i] f t from rfl,Ĕ]
  by_cases hid:b.2.2.2.1[i].1=g.1
  ·rw[if_pos (by simpa[ieq] using hid),Ĕ]
   by_cases hd:0<ę b.2.2.2.1[i] f t
   ·have lb:=U0 hz hf.1 hd;rw[if_pos ⟨hid,hd⟩] at e1;rw[if_pos (by simpa[igt] using hd),Ó (by omega) (by omega),Ó (by omega) (by omega),Î hlt (by omega),e1]
   ·rw[if_neg (fun hc=>hd hc.2)] at e1;rw[if_neg (by simpa[igt] using hd),Î hlt (by omega),e1,gh]
  ·rw[if_neg (fun hc=>hid hc.1)] at e1;rw[if_neg (by simpa[ieq] using hid),Î hlt (by omega),e1,gh]
 ·refine .inl fun kn=>?_
  have:i=b.2.2.2.1.length:=by omega
  subst this
  try dsimp only
  unfold vK;rw[à,List.take_length]
  have hud:∀x:List (Int×Int),x.length≤40→((x.filter fun u=>u.1==g.1&&inP u.2 f (t-1)).map fun u=>u.2).length≤40:=by
   intro x hx;rw[dW];exact dC (dG _ _) hx
  refine ñ b.2.2.1 (fun i=>((b.2.2.1.take i).filter fun u=>u.1==g.1&&inP u.2 f (t-1)).map fun u=>u.2) _ rfl (fun i u hi hu kn'=>?_) (fun kn'=>?_)
  ·try dsimp only
   unfold vJ;have hx:=hud (b.2.2.1.take i) (by rw[List.length_take]; omega);rw[Ô hi,Ë hu,Ó (by omega) (by omega),gZ,À,Ö (by simp only[List.length_singleton]; omega),Am.iff_true,Î hi (by omega),Î hi (by omega),take_succ hu,List.filter_append,List.map_append]
   cases h1:(u.1==g.1) with
   |false =>
    have:ieq u.1 g.1=false:=h1;simp only[this,ô,dS,h1,Bool.false_and,dn,if_false,dY,fm,dI]
   |true =>
    have:ieq u.1 g.1=true:=h1;rw[this]
    cases h2:inP u.2 f (t-1) with
    |false=>simp only[Ľ,ô,dS,h1,h2,dU,dn,if_false,dY,fm,dI]
    |true=>simp only[Ľ,dS,h1,h2,dU,if_true,dY,fm,eF]
  ·try dsimp only
   unfold vJ;rw[à,List.take_length];rw[show((b.2.2.1.filter fun u=>u.1==g.1&&inP u.2 f (t-1)).map fun u=>u.2)=iZ b g.1 f t from rfl];have h40:(iZ b g.1 f t).length≤40:=hud _ hU
   have hc40:(Zu (iZ b g.1 f t)).length≤40:=by
    have:=Eg (iZ b g.1 f t);omega
   have hm:0≤((Zu (iZ b g.1 f t)).length:Int)*g.2.2.2.2.2∧((Zu (iZ b g.1 f t)).length:Int)*g.2.2.2.2.2≤40*1048576 :=
    ⟨fA (by omega) hg.1,eY (by omega) hg.2 hg.1 (by omega)⟩
   have b1:=hlb b.2.2.2.1.length;rw[List.take_length] at b1;dsimp only;rw[Ö (by omega),Am.iff_true,Ö (by rw[Zq]; omega),Am.iff_true,aip,é,Ó (by omega) (by omega),Ó (by omega) (by omega)];rfl
abbrev Lk:Type:=Int×Int×Int
inductive Wl (L:List Lk) (S:Int→Prop):List Int→Int→Int→Prop
 |nil {v:Int}:S v→Wl L S [] v 0
 |step {vs:List Int} {u v m d:Int}:Wl L S vs u d→(u,v,m)∈L→Wl L S (u::vs) v (d+m)
def Pot (L:List Lk) (p:Int→Int):Prop:=∀u v m,(u,v,m)∈L→p v≤p u+m
def InR (L:List Lk) (N:Nat):Prop:=∀l∈L,(0≤l.1∧l.1<N)∧(0≤l.2.1∧l.2.1<N)
section
variable {L:List Lk} {S:Int→Prop} {N:Nat} {p:Int→Int}
def Wl.cut (hp:Pot L p) {vs:List Int} {v d:Int} (h:Wl L S vs v d):∀x∈vs,∃vs1 d1,Wl L S vs1 x d1∧(x::vs1) <:+ vs∧d1+(p v-p x)≤d:=by
 induction h with
 |nil h=>intro x hx; cases hx
 | @step vs u v m d hw hl ih =>
  intro x hx;have h1:=hp u v m hl;rcases cZ.1 hx with rfl|hx
  ·exact⟨vs,d,hw,List.suffix_refl _,by omega⟩
  ·obtain⟨vs1,d1,g1,g2,g3⟩:=ih x hx;exact⟨vs1,d1,g1,g2.trans (List.suffix_cons _ _),by omega⟩
def Wl.simple (hp:Pot L p) {vs:List Int} {v d:Int} (h:Wl L S vs v d):∃vs' d',Wl L S vs' v d'∧d'≤d∧(v::vs').Nodup:=by
 induction h with
 |nil h=>exact⟨[],0,.nil h,dJ _,by simp⟩
 | @step vs u v m d hw hl ih =>
  obtain⟨vs1,d1,g1,g2,g3⟩:=ih;have hw1:=Wl.step g1 hl
  by_cases hv:v∈u::vs1
  ·obtain⟨vs2,d2,k1,k2,k3⟩:=hw1.cut hp v hv;exact⟨vs2,d2,k1,by omega,g3.sublist k2.sublist⟩
  ·exact⟨u::vs1,d1+m,hw1,by omega,fS.2 ⟨hv,g3⟩⟩
def Wl.range (hL:InR L N) (hS:∀v,S v→0≤v∧v<N) {vs:List Int} {v d:Int} (h:Wl L S vs v d):(0≤v∧v<N)∧∀u∈vs,0≤u∧u<N:=by
 induction h with
 |nil h=>exact⟨hS _ h,fun u hu=>by cases hu⟩
 | @step vs u v m d hw hl ih =>
  refine⟨(hL _ hl).2,fun w hw'=>?_⟩;rcases cZ.1 hw' with rfl|h
  ·exact ih.1
  ·exact ih.2 w h
def afr:∀(N:Nat) (l:List Int),l.Nodup→(∀x∈l,0≤x∧x<N)→l.length≤N
 |0,l,_,h=>by
  cases l with
  |nil=>simp
  |cons a l=>have:=h a (by simp); omega
 |N+1,l,hn,h=>by
  have h1:(l.erase (N:Int)).length≤N:=afr N _ (hn.erase _) fun x hx=>by
   have h2:=(hn.mem_erase_iff).1 hx;have:=h x h2.2;have:=h2.1;omega
  have:=List.length_erase (a:=(N:Int)) (l:=l)
  split at this<;>omega
def Wl.short (hL:InR L N) (hS:∀v,S v→0≤v∧v<N) {vs:List Int} {v d:Int} (h:Wl L S vs v d) (hn:(v::vs).Nodup):vs.length+1≤N:=by
 have:=h.range hL hS
 exact afr N (v::vs) hn fun x hx=>by
  rcases cZ.1 hx with rfl|hx
  ·exact this.1
  ·exact this.2 x hx
def A2 (f:Lk→Bool):List Lk→Int
 |[]=>0
 |l::t=>(if f l then min l.2.2 0 else 0)+A2 f t
def ai0 (f:Lk→Bool):∀L:List Lk,A2 (fun _=>true) L≤A2 f L
 |[]=>dJ _
 |l::t=>by
  have:=ai0 f t;simp only[A2,if_true]
  split<;>omega
def mh (f:Lk→Bool):∀L:List Lk,A2 f L≤0
 |[]=>dJ _
 |l::t=>by
  have:=mh f t;simp only[A2]
  split<;>omega
def afH {f:Lk→Bool} {l:Lk} (hf:f l=true):∀{L:List Lk},l∈L→A2 f L≤l.2.2
 |a::t,h=>by
  simp only[A2];rcases cZ.1 h with rfl|h
  ·have:=mh f t;rw[if_pos hf]; omega
  ·have:=afH hf h
   split<;>omega
def aiZ {f g:Lk→Bool} (h:∀l,f l=true→g l=false):∀L:List Lk,A2 (fun l=>f l||g l) L=A2 f L+A2 g L
 |[]=>rfl
 |l::t=>by
  have ih:=aiZ h t;simp only[A2,ih]
  by_cases hf:f l=true
  ·simp[hf,h l hf]; omega
  ·have hf':f l=false:=by simpa using hf
   by_cases hg:g l=true
   ·simp[hf',hg]; omega
   ·simp[hf',hg]
def Wl.low {vs:List Int} {v d:Int} (h:Wl L S vs v d):vs.Nodup→A2 (fun l=>vs.contains l.1) L≤d:=by
 induction h with
 |nil h=>intro _; exact mh _ _
 | @step vs u v m d hw hl ih =>
  intro hn;rw[fS] at hn;have h1:=ih hn.2;have h2:A2 (fun l=>l.1==u) L≤m:=afH (f:=fun l=>l.1==u) (l:=(u,v,m)) (by simp) hl
  have h3:=aiZ (f:=fun l:Lk=>l.1==u) (g:=fun l=>vs.contains l.1) (fun l hf=>by
   simp only[beq_iff_eq] at hf;rw[hf]
   simpa using hn.1) L
  have h4:(fun l:Lk=>(u::vs).contains l.1)=fun l=>(l.1==u)||vs.contains l.1:=by funext l; rw[List.contains_cons]
  rw[h4,h3];omega
def kw (L:List Lk):Int:=A2 (fun _=>true) L
def Wl.low' (hp:Pot L p) {vs:List Int} {v d:Int} (h:Wl L S vs v d):kw L≤d:=by
 obtain⟨vs',d',h1,h2,h3⟩:=h.simple hp;have:=h1.low (List.nodup_cons.1 h3).2;have:=ai0 (fun l=>vs'.contains l.1) L;unfold kw;omega
def Wl.high {M:Int} (hM:∀l∈L,l.2.2≤M) {vs:List Int} {v d:Int} (h:Wl L S vs v d):d≤vs.length*M:=by
 induction h with
 |nil h=>simp
 | @step vs u v m d hw hl ih =>
  have:=hM _ hl;simp only[dc,fJ,fN,fW];simp only at this;omega
def Wl.lowM {M:Int} (hM:∀l∈L,-M≤l.2.2) {vs:List Int} {v d:Int} (h:Wl L S vs v d) : -(vs.length*M)≤d:=by
 induction h with
 |nil h=>simp
 | @step vs u v m d hw hl ih =>
  have:=hM _ hl;simp only[dc,fJ,fN,fW];simp only at this;omega
def Wl.mono {S':Int→Prop} (hS:∀v,S v→S' v) {vs:List Int} {v d:Int} (h:Wl L S vs v d):Wl L S' vs v d:=by
 induction h with
 |nil h=>exact .nil (hS _ h)
 |step hw hl ih=>exact .step ih hl
def Wl.pot (hp:Pot L p) {vs:List Int} {v d:Int} (h:Wl L S vs v d):∃s,S s∧p v-p s≤d:=by
 induction h with
 | @nil v h=>exact⟨v,h,by omega⟩
 | @step vs u v m d hw hl ih =>
  obtain⟨s,h1,h2⟩:=ih;have:=hp u v m hl;exact⟨s,h1,by omega⟩
end
abbrev ĭ:Int:=1152921504606846976
structure ah5 (L:List Lk) (S:Int→Prop) (N:Nat) (x:Int→Int):Prop where
 att:∀v:Int,0≤v→v<N→x v≠ĭ→∃vs,Wl L S vs v (x v)
 low:∀v vs d,Wl L S vs v d→x v≤d
 bd:∀v:Int,0≤v→v<N→x v≤ĭ
def ah5.uniq {L:List Lk} {S:Int→Prop} {N:Nat} {x y:Int→Int} (hx:ah5 L S N x) (hy:ah5 L S N y) {v:Int} (h0:0≤v) (h1:v<N):x v=y v:=by
 have key:∀{x y:Int→Int},ah5 L S N x→ah5 L S N y→x v≤y v:=by
  intro x y hx hy
  by_cases h:y v=ĭ
  ·rw[h]; exact hx.bd v h0 h1
  ·obtain⟨vs,hw⟩:=hy.att v h0 h1 h;exact hx.low v vs _ hw
 exact Int.le_antisymm (key hx hy) (key hy hx)
def gv (x:List Int) (v:Int):Int:=x[v.toNat]?.getD 0
def Va {x:List Int} {v:Int} (h:v.toNat<x.length):x[v.toNat]?=some (gv x v):=by
 unfold gv; rw[List.getElem?_eq_getElem h]; rfl
def t8 {x:List Int} {u v:Int} (hu:0≤u) (hv:0≤v) (h:u.toNat<x.length) (y:Int):gv (x.set u.toNat y) v=if v=u then y else gv x v:=by
 unfold gv;rw[List.getElem?_set]
 by_cases hvu:v=u
 ·subst hvu; simp[h]
 ·have:¬u.toNat=v.toNat:=by omega
  simp[hvu,this]
def Vb {x y:List Int} (hl:x.length=y.length) (h:∀v:Int,0≤v→v<x.length→gv x v=gv y v):x=y:=by
 refine List.ext_getElem hl fun i h1 h2=>?_;have:=h i (by omega) (by omega);unfold gv at this;simpa[h1,h2] using this
def Ŧ (x:List Int) (l:Lk):List Int:=if gv x l.1<ĭ∧gv x l.1+l.2.2<gv x l.2.1 then x.set l.2.1.toNat (gv x l.1+l.2.2) else x
def Ĭ (L:List Lk) (x:List Int):List Int:=L.foldl Ŧ x
def Ā (L:List Lk):Nat→List Int→List Int
 |0,x=>x
 |n+1,x=>Ā L n (Ĭ L x)
def kS (x:List Int) (l:Lk):(Ŧ x l).length=x.length:=by unfold Ŧ; split<;>simp
def nf (L:List Lk):∀x:List Int,(Ĭ L x).length=x.length:=by
 induction L with
 |nil=>intro x; rfl
 |cons l t ih=>intro x; show(Ĭ t (Ŧ x l)).length=_; rw[ih,kS]
def ù (L:List Lk):∀(n:Nat) (x:List Int),(Ā L n x).length=x.length
 |0,x=>rfl
 |n+1,x=>by rw[Ā,ù L n,nf]
def ł (L:List Lk):∀(n:Nat) (x:List Int),Ā L (n+1) x=Ĭ L (Ā L n x)
 |0,x=>rfl
 |n+1,x=>by rw[Ā,ł L n]; rfl
section
variable {L0:List Lk} {S:Int→Prop} {N:Nat}
def ZB {x:List Int} {l:Lk} (hl:(0≤l.1∧l.1<N)∧(0≤l.2.1∧l.2.1<N)) (hx:x.length=N) (v:Int) (hv:0≤v):gv (Ŧ x l) v≤gv x v:=by
 unfold Ŧ
 split
 ·rename_i h;rw[t8 hl.2.1 hv (by omega)]
  split
  ·rename_i h2; subst h2; omega
  ·exact dJ _
 ·exact dJ _
def qJ:∀{L:List Lk},InR L N→∀{x:List Int},x.length=N→∀v,0≤v→gv (Ĭ L x) v≤gv x v
 |[],_,x,_,v,_=>dJ _
 |l::t,hL,x,hx,v,hv=>by
  have h1:=ZB (hL l (by simp)) hx v hv;have h2:=qJ (L:=t) (fun l hl=>hL l (by simp[hl])) (x:=Ŧ x l) (by rw[kS,hx]) v hv;show gv (Ĭ t (Ŧ x l)) v≤_;omega
def Il:∀{L:List Lk},InR L N→∀{x:List Int},x.length=N→∀u v m,(u,v,m)∈L→gv x u<ĭ→gv (Ĭ L x) v≤gv x u+m
 |l::t,hL,x,hx,u,v,m,hm,hf=>by
  have ht:InR t N:=fun l hl=>hL l (by simp[hl])
  have hx':(Ŧ x l).length=N:=by rw[kS,hx]
  show gv (Ĭ t (Ŧ x l)) v≤_;rcases cZ.1 hm with rfl|hm
  ·have hl:=hL (u,v,m) (by simp);have h2:=qJ ht hx' v hl.2.1
   have h3:gv (Ŧ x (u,v,m)) v≤gv x u+m:=by
    unfold Ŧ
    split
    ·rw[t8 hl.2.1 hl.2.1 (by simp only at hl; simp only; omega),if_pos rfl]; exact dJ _
    ·rename_i h; simp only[not_and,Int.not_lt] at h; exact h hf
   omega
  ·have hl:=hL (u,v,m) (by simp[hm]);have h1:=ZB (hL l (by simp)) hx u hl.1.1;have:=Il ht hx' u v m hm (by omega);omega
def Att (L0:List Lk) (S:Int→Prop) (N:Nat) (x:List Int):Prop:=∀v:Int,0≤v→v<N→gv x v<ĭ→∃vs,Wl L0 S vs v (gv x v)
def agR {x:List Int} {l:Lk} (hl:(0≤l.1∧l.1<N)∧(0≤l.2.1∧l.2.1<N)) (hm:l∈L0) (hx:x.length=N) (h:Att L0 S N x):Att L0 S N (Ŧ x l):=by
 unfold Ŧ
 split
 ·rename_i hc;intro v h0 h1 hf;rw[t8 hl.2.1 h0 (by omega)] at hf ⊢
  split
  ·rename_i h2;obtain⟨vs,hw⟩:=h l.1 hl.1.1 hl.1.2 hc.1;exact⟨_,h2▸Wl.step hw hm⟩
  ·rename_i h2;rw[if_neg h2] at hf;exact h v h0 h1 hf
 ·exact h
def NY:∀{L:List Lk},InR L N→(∀l∈L,l∈L0)→∀{x:List Int},x.length=N→Att L0 S N x→Att L0 S N (Ĭ L x)
 |[],_,_,_,_,h=>h
 |l::t,hL,hsub,x,hx,h=>NY (L:=t) (fun l hl=>hL l (by simp[hl])) (fun l hl=>hsub l (by simp[hl])) (x:=Ŧ x l) (by rw[kS,hx]) (agR (hL l (by simp)) (hsub l (by simp)) hx h)
def Ik (hL:InR L0 N):∀(n:Nat) {x:List Int},x.length=N→Att L0 S N x→Att L0 S N (Ā L0 n x)
 |0,_,_,h=>h
 |n+1,x,hx,h=>Ik hL n (by rw[nf,hx]) (NY hL (fun _ h=>h) hx h)
def xz (hL:InR L0 N):∀(n:Nat) {x:List Int},x.length=N→∀v,0≤v→gv (Ā L0 n x) v≤gv x v
 |0,_,_,_,_=>dJ _
 |n+1,x,hx,v,hv=>Int.le_trans (xz hL n (by rw[nf,hx]) v hv) (qJ hL hx v hv)
def Ł (S:Int→Bool) (N:Nat):List Int:=(List.range N).map fun(i:Nat)=>if S i then 0 else ĭ
def ū (S:Int→Bool) {N:Nat} {v:Int} (h0:0≤v) (h1:v<N):gv (Ł S N) v=if S v then 0 else ĭ:=by
 unfold gv Ł
 have:v.toNat<N:=by omega
 rw[fH,fj this];simp only[dP,fK];rw[Int.toNat_of_nonneg h0]
def æ (S:Int→Bool) (N:Nat):(Ł S N).length=N:=by simp[Ł]
end
def Ij {L:List Lk} {S:Int→Bool} {N:Nat} {M:Int} (hL:InR L N) (hS:∀v,S v=true→0≤v∧v<N) (hM:∀l∈L,l.2.2≤M):∀(n:Nat),n*M<ĭ→0≤M→∀vs v d,Wl L (fun v=>S v=true) vs v d→vs.length≤n→gv (Ā L n (Ł S N)) v≤d
 |0,_,_,vs,v,d,hw,hl=>by
  cases hw with
  |nil h =>
   have:=hS v h;rw[Ā,ū S this.1 this.2,if_pos h]; exact dJ _
  |step=>simp at hl
 |n+1,hn,hM0,vs,v,d,hw,hl=>by
  have hn':n*M<ĭ:=by rw[fJ,fN,fW] at hn; omega
  have hlen:(Ā L n (Ł S N)).length=N:=by rw[ù,æ]
  rw[ł]
  cases hw with
  |nil h =>
   have h1:=qJ hL hlen v (hS v h).1;have h2:=Ij hL hS hM n hn' hM0 [] v 0 (.nil h) (by simp);omega
  | @step vs u _ m d hw hlk =>
   have h2:=Ij hL hS hM n hn' hM0 vs u d hw (by simpa using hl);have h3:=hw.high hM;have h4:(vs.length:Int)*M≤n*M:=fG (by simp at hl; omega) hM0;have:=Il hL hlen u v m hlk (by omega);omega
def CX {L:List Lk} {S:Int→Bool} {N:Nat} {M:Int} {p:Int→Int} (hp:Pot L p) (hL:InR L N) (hS:∀v,S v=true→0≤v∧v<N) (hM:∀l∈L,l.2.2≤M) (hM0:0≤M) (hN:N*M<ĭ) (n:Nat) (hn:N≤n+1):ah5 L (fun v=>S v=true) N (gv (Ā L n (Ł S N))):=by
 have hatt:Att L (fun v=>S v=true) N (Ł S N):=fun v h0 h1 hf=>by
  rw[ū S h0 h1] at hf ⊢
  split
  ·rename_i h; exact⟨[],.nil h⟩
  ·rename_i h; rw[if_neg h] at hf; omega
 have hbd:∀v:Int,0≤v→v<N→gv (Ā L n (Ł S N)) v≤ĭ:=fun v h0 h1=>by
  have:=xz hL n (æ S N) v h0;rw[ū S h0 h1] at this
  have hF:(0:Int)≤ĭ:=by decide
  split at this<;>omega
 have hlow:∀(n:Nat),N≤n+1→∀v vs d,Wl L (fun v=>S v=true) vs v d→gv (Ā L n (Ł S N)) v≤d:=by
  intro n hn v vs d hw;obtain⟨vs',d',h1,h2,h3⟩:=hw.simple hp;have h4:=h1.short hL hS h3
  have hpos:0<N:=by omega
  obtain⟨k,rfl⟩:∃k,N=k+1:=⟨N-1,by omega⟩
  have hk:(k:Int)*M<ĭ:=by rw[fJ,fN,fW] at hN; omega
  have h5:=Ij hL hS hM k hk hM0 vs' v d' h1 (by omega);obtain⟨j,rfl⟩:∃j,n=k+j:=⟨n-k,by omega⟩
  have h6:∀(j:Nat),gv (Ā L (k+j) (Ł S (k+1))) v≤gv (Ā L k (Ł S (k+1))) v:=by
   intro j
   induction j with
   |zero=>exact dJ _
   |succ j ih =>
    rw[←eX,ł];have:=qJ hL (x:=Ā L (k+j) (Ł S (k+1))) (by rw[ù,æ]) v (h1.range hL hS).1.1;omega
  have:=h6 j;omega
 exact⟨fun v h0 h1 hne=>Ik hL n (æ S N) hatt v h0 h1 (by have:=hbd v h0 h1; omega),hlow n hn,hbd⟩
def ah5.pot {L:List Lk} {S:Int→Prop} {N:Nat} {x:Int→Int} (h:ah5 L S N x) (hL:InR L N) {u v m:Int} (hl:(u,v,m)∈L) (hf:x u≠ĭ):x v≤x u+m:=by
 obtain⟨vs,hw⟩:=h.att u (hL _ hl).1.1 (hL _ hl).1.2 hf;exact h.low v _ _ (.step hw hl)
def ë (b:ß) (g:î):List Lk :=
 [(0,atP (Ì b) [g.1] g.2.1,g.2.2.1+g.2.2.2.1.2),(atP (Ì b) [g.1] g.2.1,0,-(g.2.2.1+g.2.2.2.1.1))] ++
 (List.range ((Û b g).length-1)).flatMap fun(k:Nat)=>[(atP (Ì b) [g.1] g.2.1+k,atP (Ì b) [g.1] g.2.1+k+1,0),(atP (Ì b) [g.1] g.2.1+k+1,atP (Ì b) [g.1] g.2.1+k,iT b g ((Û b g)[k]?.getD 0) ((Û b g)[k+1]?.getD 0))]
def cx (b:ß) (c:Cmp):Int:=atP (Ì b) (å c.2.2.1 c.2.2.2.1) c.2.1
def cy (b:ß) (c:Cmp):Int:=atP (Ì b) (å c.2.2.2.1 c.2.2.1) c.2.1
def ï (b:ß) (c:Cmp):List Lk:=[(cy b c,cx b c,(Ŗ b c).2),(cx b c,cy b c,-(Ŗ b c).1)]
def á (b:ß):List Lk:=b.2.1.flatMap (ë b)++b.2.2.2.2.1.flatMap (ï b)
def í (b:ß) (i:Nat) (g:î):List (Int×Int):=[(1,(i:Int)),(1,(i:Int))]++(List.range ((Û b g).length-1)).flatMap fun _=>[(2,(i:Int)),(2,(i:Int))]
def Ŭ (b:ß):List (Int×Int):=(b.2.1.mapIdx (í b)).flatten++(b.2.2.2.2.1.mapIdx fun i _=>[(3,(i:Int)),(3,(i:Int))]).flatten
section
variable {b:ß}
def Zb (h:Ď b) {id day:Int} (hu:agE (iA b) id day=0):(0≤day∧day≤20000)∧∃g,Ů b id=some g∧g.2.1≤day:=by
 unfold agE at hu
 split at hu
 ·omega
 ·rename_i hd;simp only[eN,Bool.not_eq_false,H8,inP,cQ,decide_eq_true_eq] at hd;exact⟨hd,IA h hu⟩
def iV {g:î} {d:Int}:d∈Û b g↔d=g.2.1∨(∃c∈b.2.2.2.2.1,(c.2.2.1.contains g.1)≠(c.2.2.2.1.contains g.1)∧c.2.1=d)∨(∃n∈b.2.2.2.2.2,n.1=g.1∧n.2=d):=by
 unfold Û;rw[qH,YB];simp only[List.mem_append,List.mem_singleton,List.mem_map,List.mem_filter];constructor
 ·rintro((h|⟨c,⟨h1,h2⟩,h3⟩)|⟨n,⟨h1,h2⟩,h3⟩)
  ·exact .inl h
  ·exact .inr (.inl ⟨c,h1,by simpa using h2,h3⟩)
  ·exact .inr (.inr ⟨n,h1,by simpa using h2,h3⟩)
 ·rintro(h|⟨c,h1,h2,h3⟩|⟨n,h1,h2,h3⟩)
  ·exact .inl (.inl h)
  ·exact .inl (.inr ⟨c,⟨h1,by simpa using h2⟩,h3⟩)
  ·exact .inr ⟨n,⟨h1,by simpa using h2⟩,h3⟩
def Ď.gaugeR (h:Ď b) {g:î} (hg:g∈b.2.1):Kt g.2.2.2.2.1=true∧(-1000≤g.2.2.2.2.1.1∧g.2.2.2.2.1.1≤1000)∧g.2.2.2.2.1.2≤100∧(1≤g.1∧g.1≤1099511627776)∧(0≤g.2.1∧g.2.1≤20000)∧(1≤g.2.2.1∧g.2.2.1≤1125899906842624)∧(-1073741824≤g.2.2.2.1.1∧g.2.2.2.1.1≤g.2.2.2.1.2∧g.2.2.2.1.2≤1073741824)∧(0≤g.2.2.2.2.2∧g.2.2.2.2.2≤1048576):=(uf g).1 (h.gauge g hg)
def Ď.day (h:Ď b) {g:î} (hg:g∈b.2.1) {d:Int} (hd:d∈Û b g):g.2.1≤d∧0≤d∧d≤20000:=by
 have hr:=h.gaugeR hg;have hgo:=vZ h.ids hg;rcases iV.1 hd with rfl|⟨c,hc,h1,rfl⟩|⟨n,hn,h1,rfl⟩
 ·have:=hr.2.2.2.2.1; omega
 ·have hn:=(Ũ c).1 (h.nums hc)
  have hx:g.1∈c.2.2.1++c.2.2.2.1:=by
   rw[cW]
   by_cases h2:g.1∈c.2.2.1
   ·exact .inl h2
   ·refine .inr ?_
    have e1:c.2.2.1.contains g.1=false:=by simpa using h2
    rw[e1] at h1
    have:c.2.2.2.1.contains g.1=true:=by cases hh:c.2.2.2.1.contains g.1<;>simp_all
    simpa using this
  obtain⟨⟨g',h3,h4⟩,_⟩:=h.pile hc hx;rw[hgo] at h3; cases h3;have:=hn.2.1;omega
 ·obtain⟨h2,g',h3,h4⟩:=Zb h (h.looks n hn);rw[h1,hgo] at h3; cases h3;omega
def ka (g:î):g.2.1∈Û b g:=iV.2 (.inl rfl)
def HL (h:Ď b) {g:î} (hg:g∈b.2.1):(Û b g).length≤59:=by
 have h1:∀l:List î,g∈l→(Û b g).length≤(l.flatMap fun g=>(Û b g).map fun d=>((g.1,d):Int×Int)).length:=by
  intro l
  induction l with
  |nil=>intro hg; cases hg
  |cons a t ih =>
   intro hg;rw[dL,cR,dW];rcases cZ.1 hg with rfl|hg
   ·omega
   ·have:=ih hg; omega
 have:=h1 b.2.1 hg;have:=h.nodes;unfold Ì at this;omega
def akH {p:List Int} {d:Int}:0≤atP (Ì b) p d∧atP (Ì b) p d≤(Ì b).length:=by
 unfold atP
 cases p with
 |nil=>simp
 |cons x t =>
  try dsimp only
  cases h:iB (Ì b) x d with
  |none=>simp
  |some j=>have:=(kv h).1; dsimp only; omega
def pE (h:Ď b) {c:Cmp} (hc:c∈b.2.2.2.2.1):(-1125904000000000≤(Ŗ b c).1∧(Ŗ b c).1≤1125904000000000)∧(-1125904000000000≤(Ŗ b c).2∧(Ŗ b c).2≤1125904000000000):=by
 obtain⟨r1,r2⟩:=h.rates hc;have hn:=(Ũ c).1 (h.nums hc);have ha:=ė hn.2.2.2.2.2.1;have hb:=ė hn.2.2.2.2.2.2;have hf:=h.film;obtain⟨g1,g2⟩:=We (NJ r1 r2) hn.2.2.2.2.1;have fb:=ql (b:=b) (c:=c) (by omega) (by omega) (by omega) (by omega) (by omega) (by omega);have q1:qD (Ĝ b c).1 2000000000 10000:=g1;have q2:qD (Ĝ b c).2 2000000000 10000:=g2;have c1:=uF q1;have c2:=qj q2;have n3:=hn.2.2.1;have n4:=hn.2.2.2.1;unfold Ŗ
 try dsimp only
 omega
def ji (h:Ď b) {g:î} (hg:g∈b.2.1) {f t:Int} (hf:0≤f):0≤iT b g f t∧iT b g f t≤12*(20001*1048576)+40*1048576:=by
 have hr:=(h.gaugeR hg).2.2.2.2.2.2.2;have h1:=sw (id:=g.1) (t:=t) hf (x:=b.2.2.2.1) fun l hl=>JJ h hl;have h2:(b.2.2.2.1.length:Int)*(20001*1048576)≤12*(20001*1048576):=fG (by have:=h.nL; omega) (by omega)
 have h3:(iZ b g.1 f t).length≤40:=by
  unfold iZ;rw[List.length_map];exact Nat.le_trans (List.length_filter_le _ _) h.nU
 have h4:=Eg (iZ b g.1 f t)
 have hm:0≤((Zu (iZ b g.1 f t)).length:Int)*g.2.2.2.2.2∧((Zu (iZ b g.1 f t)).length:Int)*g.2.2.2.2.2≤40*1048576 :=
  ⟨fA (by omega) hr.1,eY (by omega) hr.2 hr.1 (by omega)⟩
 unfold iT;omega
end
def ζ {α β:Type} (f:Nat→α→β) {l:List α} {i:Nat} {a:α} (h:l[i]?=some a):(l.take (i+1)).mapIdx f=(l.take i).mapIdx f++[f i a]:=by
 have hi:i<l.length:=(cX.1 h).1
 have:(l.take i).length=i:=by rw[dh]; omega
 rw[take_succ h,List.mapIdx_append];simp[this]
def pl {α:Type} (f:Nat→List α) (j:Nat):(List.range (j+1)).flatMap f=(List.range j).flatMap f++f j:=by
 rw[List.range_succ,eS]; simp
def Š {α:Type} (f:Nat→List α) (n:Nat) (h:∀k,(f k).length=2):((List.range n).flatMap f).length=2*n:=by
 induction n with
 |zero=>rfl
 |succ n ih=>rw[pl,cR,ih,h]; omega
set_option maxHeartbeats 2000000 in
def afM {b:ß} (h:Ď b):HH b=some (b,Ì b,(((Ì b).length:Int)+1,á b),Ŭ b):=by
 unfold HH XW;have hN:=h.nodes;have hG:=h.nG;have hC:=h.nC;rw[Wj h.size,À,é,Ó (by omega) (by omega)]
 -- lengths of what comes
 have gl:∀g∈b.2.1,(ë b g).length≤120∧∀i,(í b i g).length≤120:=by
  intro g hg;have:=HL h hg;constructor
  ·unfold ë;rw[List.length_append,Š _ _ (fun _=>rfl)];simp only[List.length_cons,List.length_nil]; omega
  ·intro i;unfold í;rw[List.length_append,Š _ _ (fun _=>rfl)];simp only[List.length_cons,List.length_nil]; omega
 have gls:∀i,((b.2.1.take i).flatMap (ë b)).length≤1440∧(((b.2.1.take i).mapIdx (í b)).flatten).length≤1440:=by
  intro i
  induction i with
  |zero=>simp
  |succ i ih =>
   have key:∀i,i≤b.2.1.length→((b.2.1.take i).flatMap (ë b)).length≤i*120∧(((b.2.1.take i).mapIdx (í b)).flatten).length≤i*120:=by
    intro i
    induction i with
    |zero=>intro _; simp
    |succ i ih =>
     intro hi;have ih:=ih (by omega);have hg:b.2.1[i]?=some b.2.1[i]:=cN hi;have h2:=gl _ (cY hg);have h3:=h2.2 i;rw[ζ _ hg,take_succ hg,eS,fg,cR,cR];simp only[dL,gL,dI,fI,fY];omega
   rcases du b.2.1.length (i+1) with h1|h1
   ·rw[dV (by omega)];have:=key b.2.1.length (cO _);rw[List.take_length] at this;omega
   ·have:=key (i+1) h1;omega
 refine ñ b.2.1 (fun i=>((b.2.1.take i).flatMap (ë b),((b.2.1.take i).mapIdx (í b)).flatten)) _ rfl (fun i g hi hg kn=>?_) (fun kn=>?_)
 ·try dsimp only
  unfold vI;have hgm:=List.mem_of_getElem? hg;have hr:=h.gaugeR hgm;have hd:=HL h hgm;have hls:=gls i;have hat:=akH (b:=b) (p:=[g.1]) (d:=g.2.1);rw[Ô hi,Ë hg];rw[show oW ((b.1.1,b.1.2),b.2.1,b.2.2.1,b.2.2.2.1,b.2.2.2.2.1,b.2.2.2.2.2) g=oW b g from rfl,ajY h.size,À];rw[akG _ _ _ (by dsimp only; omega),À]
  try dsimp only
  have r1:=hr.2.2.2.2.2.1;have r2:=hr.2.2.2.2.2.2.1;rw[Ó (by omega) (by omega),Ó (by omega) (by omega),Ó (by omega) (by omega),Ö (by simp only[dc,dm]; omega),Am.iff_true,Ö (by simp only[dc,dm]; omega),Am.iff_true]
  refine ī (fun x:Int×List Lk×List (Int×Int)=>∃j:Nat,j+1≤(Û b g).length∧x.1=(j:Int)+1 ∧
   x.2.1=(b.2.1.take i).flatMap (ë b)++([(0,atP (Ì b) [g.1] g.2.1,g.2.2.1+g.2.2.2.1.2),(atP (Ì b) [g.1] g.2.1,0,-(g.2.2.1+g.2.2.2.1.1))] ++
    (List.range j).flatMap fun(k:Nat)=>[(atP (Ì b) [g.1] g.2.1+k,atP (Ì b) [g.1] g.2.1+k+1,0),(atP (Ì b) [g.1] g.2.1+k+1,atP (Ì b) [g.1] g.2.1+k,iT b g ((Û b g)[k]?.getD 0) ((Û b g)[k+1]?.getD 0))]) ∧
   x.2.2=((b.2.1.take i).mapIdx (í b)).flatten++([(1,(i:Int)),(1,(i:Int))]++(List.range j).flatMap fun _=>[(2,(i:Int)),(2,(i:Int))])) (fun x=>(Û b g).length-x.1.toNat) ?_
   ⟨0,gc (ka g),rfl,by simp,by simp⟩
  rintro⟨x1,ls,ss⟩ ⟨j,hj,e1,e2,e3⟩;dsimp only at e1 e2 e3 ⊢;subst e1
  have hlls:ls.length≤1562:=by
   rw[e2,cR,cR,Š _ _ (fun _=>rfl)];simp only[dc,dm]; omega
  have hlss:ss.length≤1562:=by
   rw[e3,cR,cR,Š _ _ (fun _=>rfl)];simp only[dc,dm]; omega
  rcases du (j+1) (Û b g).length with hlt|hge
  ·refine .inr ⟨((j:Int)+1+1,_,_),⟨j+1,hlt,by push_cast; rfl,rfl,rfl⟩,by dsimp only; omega,fun kn'=>?_⟩
   try dsimp only
   unfold vH
   have g1:(Û b g)[j]?=some ((Û b g)[j]?.getD 0):=by rw[cN (by omega)]; rfl
   have g2:(Û b g)[j+1]?=some ((Û b g)[j+1]?.getD 0):=by rw[cN hlt]; rfl
   have d1:=h.day hgm (cY g1);have d2:=h.day hgm (cY g2);have lb:=ji h hgm (t:=(Û b g)[j+1]?.getD 0) d1.2.1
   have ec:((j:Int)+1)=((j+1:Nat):Int):=by push_cast; rfl
   rw[ec,Ô hlt,Ó (by omega) (by omega),Ó (by omega) (by omega),Ó (by omega) (by omega),Ó (by omega) (by omega)];rw[show(((j+1:Nat):Int)-1)=((j:Nat):Int) by omega,Ë g1,Ë g2];rw[show AG ((b.1.1,b.1.2),b.2.1,b.2.2.1,b.2.2.2.1,b.2.2.2.2.1,b.2.2.2.2.2) (g.1,g.2.1,g.2.2.1,(g.2.2.2.1.1,g.2.2.2.1.2),(g.2.2.2.2.1.1,g.2.2.2.2.1.2),g.2.2.2.2.2) ((Û b g)[j]?.getD 0) ((Û b g)[j+1]?.getD 0)=AG b g ((Û b g)[j]?.getD 0) ((Û b g)[j+1]?.getD 0) from rfl];rw[an1 h hr.2.2.2.2.2.2.2 ⟨by omega,by omega⟩ ⟨by omega,by omega⟩,À,Ó (by omega) (by omega),Ó (by omega) (by omega),Ö (by simp only[dc,dm]; omega),Am.iff_true,Ö (by simp only[dc,dm]; omega),Am.iff_true,Î hlt (by omega)];rw[pl,pl,e2,e3]
   have a1:atP (Ì b) [g.1] g.2.1+((j+1:Nat):Int)-1=atP (Ì b) [g.1] g.2.1+(j:Int):=by push_cast; omega
   have a2:atP (Ì b) [g.1] g.2.1+((j+1:Nat):Int)=atP (Ì b) [g.1] g.2.1+(j:Int)+1:=by push_cast; omega
   have a3:0-(0-iT b g ((Û b g)[j]?.getD 0) ((Û b g)[j+1]?.getD 0))=iT b g ((Û b g)[j]?.getD 0) ((Û b g)[j+1]?.getD 0):=by omega
   rw[a1,a2,a3];simp only[dk]
  ·refine .inl fun kn'=>?_
   have hje:j+1=(Û b g).length:=by omega
   unfold vH;rw[show((j:Int)+1)=(((Û b g).length:Nat):Int) by rw[←hje]; push_cast; rfl,à];dsimp only;rw[Î hi (by omega)];rw[ζ _ hg,take_succ hg,List.flatMap_append,List.flatten_append,e2,e3,show j=(Û b g).length-1 by omega];simp only[List.flatMap_cons,List.flatMap_nil,List.append_nil,List.flatten_cons,List.flatten_nil];rfl
 ·try dsimp only
  unfold vI;rw[à,List.take_length];have hls:=gls b.2.1.length;rw[List.take_length] at hls
  have cl:∀i,i≤b.2.2.2.2.1.length→((b.2.2.2.2.1.take i).flatMap (ï b)).length=2*i∧(((b.2.2.2.2.1.take i).mapIdx fun i _=>[((3:Int),(i:Int)),((3:Int),(i:Int))]).flatten).length=2*i:=by
   intro i
   induction i with
   |zero=>intro _; simp
   |succ i ih =>
    intro hi;have ih:=ih (by omega);have hg:b.2.2.2.2.1[i]?=some b.2.2.2.2.1[i]:=cN hi;rw[ζ _ hg,take_succ hg,eS,fg,cR,cR];simp only[dL,gL,dI,fI,fY,ï,dc,dm];omega
  refine ñ b.2.2.2.2.1 (fun i=>(b.2.1.flatMap (ë b)++(b.2.2.2.2.1.take i).flatMap (ï b),(b.2.1.mapIdx (í b)).flatten++((b.2.2.2.2.1.take i).mapIdx fun i _=>[((3:Int),(i:Int)),((3:Int),(i:Int))]).flatten)) _ (by simp) (fun i c hi hc kn'=>?_) (fun kn'=>?_)
  ·try dsimp only
   unfold vG;have hcm:=List.mem_of_getElem? hc;have hn:=(Ũ c).1 (h.nums hcm);have ha:=ė hn.2.2.2.2.2.1;have hb:=ė hn.2.2.2.2.2.2;have sb:=pE h hcm;have c1:=cl i (by omega);rw[Ô hi,Ë hc,sF (by omega) (by omega),À,akG _ _ _ (by dsimp only; omega),À,sF (by omega) (by omega),À,akG _ _ _ (by dsimp only; omega),À];rw[show wi ((b.1.1,b.1.2),b.2.1,b.2.2.1,b.2.2.2.1,b.2.2.2.2.1,b.2.2.2.2.2) c=wi b c from rfl,h.says hcm,À];rw[Ó (by omega) (by omega),Ö (by simp only[List.length_append,List.length_cons,List.length_nil]; omega),Am.iff_true,Ö (by simp only[List.length_append,List.length_cons,List.length_nil]; omega),Am.iff_true,Î hi (by omega),ζ _ hc,take_succ hc,List.flatMap_append,List.flatten_append];simp only[List.flatMap_cons,List.flatMap_nil,List.append_nil,List.flatten_cons,List.flatten_nil,List.append_assoc,Int.zero_sub];rfl
  ·try dsimp only
   unfold vG;rw[à,List.take_length];rfl
section
variable {ρ:Type}
def wv (w:List Bool) (v:Int):Bool:=w[v.toNat]?.getD false
def ae1 {w:List Bool} {u v:Int} (hu:0≤u) (hv:0≤v) (h:u.toNat<w.length) (y:Bool):wv (w.set u.toNat y) v=if v=u then y else wv w v:=by
 unfold wv;rw[List.getElem?_set]
 by_cases hvu:v=u
 ·subst hvu; simp[h]
 ·have:¬u.toNat=v.toNat:=by omega
  simp[hvu,this]
def jH {x:List Int} {v:Int} (h:v.toNat<x.length) (f:Int→Option ρ):Ķ x v.toNat f=f (gv x v):=oD (Va h) f
def Wn {w:List Bool} {v:Int} (h:v.toNat<w.length) (f:Bool→Option ρ):Ķ w v.toNat f=f (wv w v):=by
 refine oD ?_ f;unfold wv; rw[List.getElem?_eq_getElem h]; rfl
def Ĩ {v:Int} {n:Nat} (h0:0≤v) (h1:v<n) (x:Option ρ):ì ((ile 0 v)&&(ilt v (n:Int))) x=x:=by
 have:((ile 0 v)&&(ilt v (n:Int)))=true:=by simp[ile,ilt,h0,h1]
 rw[this,Am.iff_true]
end
def qd (n least:Int):List Lk→List Int→List Bool→List Int→Bool×List Int×List Bool×List Int
 |[],x,w,q=>(true,x,w,q)
 |l::t,x,w,q =>
  if l.1≠n then qd n least t x w q else
  if gv x l.2.1≤gv x n+l.2.2 then qd n least t x w q else
  if gv x n+l.2.2<least then(false,x.set l.2.1.toNat (gv x n+l.2.2),w,q) else
  if wv w l.2.1 then qd n least t (x.set l.2.1.toNat (gv x n+l.2.2)) w q else qd n least t (x.set l.2.1.toNat (gv x n+l.2.2)) (w.set l.2.1.toNat true) (q++[l.2.1])
structure iN (L:List Lk) (N:Nat) (M:Int):Prop where
 inr:InR L N
 noloop:∀l∈L,l.1≠l.2.1
 most:∀l∈L,-M≤l.2.2∧l.2.2≤M
 len:L.length≤400
 nodes:N≤1000
 m0:0≤M
 m1:M≤4503599627370496
set_option maxHeartbeats 1000000 in
def al7 {ρ:Type} {L:List Lk} {N:Nat} {M:Int} (hL:iN L N M) {n least:Int} (hn:0≤n∧n<N) {x:List Int} {w:List Bool} {q:List Int} (hx:x.length=N) (hw:w.length=N) (hq:q.length≤1000000)
 (hb : -2305843009213693952≤gv x n∧gv x n≤2305843009213693952) (K0:(Val (.pair .bool (.pair (.slice tI) (.pair (.slice .bool) (.slice tI)))))→Option ρ) (K1:(Val (.pair (.slice tI) (.pair (.slice .bool) (.slice tI))))→Option ρ) :
 Ñ (fun(v47:(Val (.pair tI (.pair (.slice tI) (.pair (.slice .bool) (.slice tI)))))) kk52=>jg [] least n L (Þ L) v47.1 v47.2.1 v47.2.2.1 v47.2.2.2 (fun u48 u49 u50 u51=>kk52 (u48,u49,u50,u51)) K0 K1) ((0:Int),x,w,q) =
  match qd n least L x w q with
  |(true,r)=>K1 r
  |(false,r)=>K0 (false,r):=by
 have hlen:=hL.len
 refine Hb L (fun i (s:List Int×List Bool×List Int) t=>match qd n least t s.1 s.2.1 s.2.2 with|(true,r)=>K1 r|(false,r)=>K0 (false,r))
  (fun i s=>s.1.length=N∧s.2.1.length=N∧gv s.1 n=gv x n∧s.2.2.length≤1000000+i) (fun s hs kn=>?_) (fun i l t s hd hi hl hI kn hk=>?_) (s:=(x,w,q)) ⟨hx,hw,rfl,by simpa using hq⟩
 ·try dsimp only
  unfold jg;rw[à];rfl
 ·obtain⟨y,u,p⟩:=s;obtain⟨h1,h2,h3,h4⟩:=hI;dsimp only at h1 h2 h3 h4 hk ⊢;have hmem:l∈L:=List.mem_of_getElem? hl;have hr:=hL.inr l hmem;have hm:=hL.most l hmem;have hm1:=hL.m1;have hnl:=hL.noloop l hmem;unfold jg;rw[Ô hi,Ë hl];unfold qd
  by_cases hln:l.1=n
  ·have e0:ine l.1 n=false:=by simp[ine,hln]
   rw[Ò e0];have e1:∀(f:Bool→Option ρ) (g:Option ρ),Y7 (k:=tI) (v:=.bool) (i:Int) [] f g=g:=fun f g=>rfl;rw[e1,if_neg (by simp[hln])]
   have tn:n.toNat<y.length:=by omega
   have tt:l.2.1.toNat<y.length:=by omega
   have tu:l.2.1.toNat<u.length:=by omega
   rw[Ĩ hn.1 (by omega),jH tn,Ó (by omega) (by omega),Ĩ hr.2.1 (by omega),jH tt,Ĕ]
   by_cases hge:gv y l.2.1≤gv y n+l.2.2
   ·rw[if_pos (by simpa[ige] using hge),if_pos hge,Î hi (by omega)];exact hk (y,u,p) ⟨h1,h2,h3,by dsimp only; omega⟩
   ·rw[if_neg (by simpa[ige] using hge),if_neg hge]
    have hset:gv (y.set l.2.1.toNat (gv y n+l.2.2)) n=gv x n:=by
     rw[t8 hr.2.1 hn.1 tt,if_neg (fun h=>hnl (hln.trans h)),h3]
    have hself:gv (y.set l.2.1.toNat (gv y n+l.2.2)) l.2.1=gv y n+l.2.2:=by
     rw[t8 hr.2.1 hr.2.1 tt,if_pos rfl]
    rw[Ĩ hn.1 (by omega),jH tn,Ó (by omega) (by omega),Ĩ hr.2.1 (by omega),jH tt];rw[show(ą (List.set y l.2.1.toNat (gv y n+l.2.2)))=((y.length:Nat):Int) by simp[ą]];rw[Ĩ hr.2.1 (by omega),jH (by simpa using tt),hself,Ĕ]
    by_cases hlt:gv y n+l.2.2<least
    ·rw[if_pos (by simpa[ilt] using hlt),if_pos hlt]
    ·rw[if_neg (by simpa[ilt] using hlt),if_neg hlt,Ĩ hr.2.1 (by omega),Wn tu,Ĕ]
     cases hwv:wv u l.2.1 with
     |true =>
      rw[if_neg (by simp),if_pos rfl,Î hi (by omega)];exact hk (y.set l.2.1.toNat (gv y n+l.2.2),u,p) ⟨by simpa using h1,h2,hset,by dsimp only; omega⟩
     |false =>
      rw[if_pos (by simp),if_neg (by simp),Ö (by simp only[dz]; omega),Am.iff_true,Ĩ hr.2.1 (by omega),Wn tu,Î hi (by omega)];exact hk (y.set l.2.1.toNat (gv y n+l.2.2),u.set l.2.1.toNat true,p++[l.2.1]) ⟨by simpa using h1,by simpa using h2,hset,by simp only[cR,dz]; omega⟩
  ·have e0:ine l.1 n=true:=by simp[ine,hln]
   rw[Õ e0,if_pos hln,Î hi (by omega)];exact hk (y,u,p) ⟨h1,h2,h3,by dsimp only; omega⟩
structure am8 (N:Nat) (n least:Int) (L:List Lk) (x:List Int) (q:List Int) (x':List Int) (w':List Bool) (q':List Int):Prop where
 lx:x'.length=N
 lw:w'.length=N
 same:gv x' n=gv x n
 le:∀v:Int,0≤v→v<N→gv x' v≤gv x v
 link:∀v m,(n,v,m)∈L→gv x' v≤gv x n+m
 chg:∀v:Int,0≤v→v<N→gv x' v=gv x v∨(v∈q'∧gv x' v<gv x v∧∃m,(n,v,m)∈L∧gv x' v=gv x n+m∧least≤gv x' v)
 new:∃l,q'=q++l∧∀v∈l,(0≤v∧v<N)∧gv x' v<gv x v
 nodup:q'.Nodup
 waits:∀v:Int,0≤v→v<N→(wv w' v=true↔v∈q')
def kG {N:Nat} {n least:Int} (hn:0≤n∧n<N):∀{L:List Lk},InR L N→(∀l∈L,l.1≠l.2.1)→∀{x:List Int} {w:List Bool} {q:List Int},x.length=N→w.length=N→q.Nodup→(∀v:Int,0≤v→v<N→(wv w v=true↔v∈q)) →
 ∀{x':List Int} {w':List Bool} {q':List Int},qd n least L x w q=(true,x',w',q')→am8 N n least L x q x' w' q'
 |[],_,_,x,w,q,hx,hw,hq,hwq,x',w',q',h=>by
  cases h;exact⟨hx,hw,rfl,fun _ _ _=>dJ _,fun _ _ h=>(by cases h),fun _ _ _=>.inl rfl,⟨[],by simp,fun _ h=>by cases h⟩,hq,hwq⟩
 |l::t,hL,hnl,x,w,q,hx,hw,hq,hwq,x',w',q',h=>by
  have hLt:InR t N:=fun l hl=>hL l (by simp[hl]);have hnt:∀l∈t,l.1≠l.2.1:=fun l hl=>hnl l (by simp[hl]);have hr:=hL l (by simp);have hl0:=hnl l (by simp);unfold qd at h
  split at h
  ·rename_i hne;have a:=kG hn hLt hnt hx hw hq hwq h
   exact⟨a.lx,a.lw,a.same,a.le,fun v m hm=>by
    rcases cZ.1 hm with rfl|hm
    ·exact(hne rfl).elim
    ·exact a.link v m hm,fun v h0 h1=>(a.chg v h0 h1).imp id fun⟨g1,g2,m,g3,g4⟩=>⟨g1,g2,m,by simp[g3],g4⟩,a.new,a.nodup,a.waits⟩
  ·rename_i hne
   have hln:l.1=n:=by simpa using hne
   split at h
   ·rename_i hle;have a:=kG hn hLt hnt hx hw hq hwq h
    exact⟨a.lx,a.lw,a.same,a.le,fun v m hm=>by
     rcases cZ.1 hm with rfl|hm
     ·have:=a.le v hr.2.1 hr.2.2; simp only at hle; omega
     ·exact a.link v m hm,fun v h0 h1=>(a.chg v h0 h1).imp id fun⟨g1,g2,m,g3,g4⟩=>⟨g1,g2,m,by simp[g3],g4⟩,a.new,a.nodup,a.waits⟩
   ·rename_i hgt
    split at h
    ·cases h
    ·rename_i hls
     have tt:l.2.1.toNat<x.length:=by omega
     have tw:l.2.1.toNat<w.length:=by omega
     have hy:(x.set l.2.1.toNat (gv x n+l.2.2)).length=N:=by simpa using hx
     have hyn:gv (x.set l.2.1.toNat (gv x n+l.2.2)) n=gv x n:=by
      rw[t8 hr.2.1 hn.1 tt,if_neg (fun h=>hl0 (hln.trans h))]
     have hyv:∀v,0≤v→gv (x.set l.2.1.toNat (gv x n+l.2.2)) v=if v=l.2.1 then gv x n+l.2.2 else gv x v:=fun v h0=>t8 hr.2.1 h0 tt _
     have hlm:(n,l.2.1,l.2.2)∈l::t:=by rw[←hln]; simp
     -- what both ways have in common
     have fin:∀{w1:List Bool} {q1:List Int},am8 N n least t (x.set l.2.1.toNat (gv x n+l.2.2)) q1 x' w' q'→l.2.1∈q1→(∃l',q1=q++l'∧∀v∈l',v=l.2.1)→am8 N n least (l::t) x q x' w' q':=by
      intro w1 q1 a hmem hq1;obtain⟨new,hnew,hnv⟩:=a.new;obtain⟨l',hl',hlv⟩:=hq1
      have hto:gv x' l.2.1≤gv x n+l.2.2:=by
       have:=a.le l.2.1 hr.2.1 hr.2.2;rw[hyv _ hr.2.1,if_pos rfl] at this;exact this
      refine⟨a.lx,a.lw,a.same.trans hyn,fun v h0 h1=>?_,fun v m hm=>?_,fun v h0 h1=>?_,⟨l'++new,by rw[hnew,hl',dk],fun v hv=>?_⟩,a.nodup,a.waits⟩
      ·have:=a.le v h0 h1;rw[hyv v h0] at this
       split at this
       ·rename_i e; subst e; omega
       ·exact this
      ·rcases cZ.1 hm with rfl|hm
       ·exact hto
       ·have:=a.link v m hm
        rwa [hyn] at this
      ·rcases a.chg v h0 h1 with g|⟨g1,g2,m,g3,g4,g5⟩
       ·rw[hyv v h0] at g
        split at g
        ·rename_i e;subst e;exact .inr ⟨by rw[hnew]; exact d8 _ hmem,by omega,l.2.2,hlm,g,by omega⟩
        ·exact .inl g
       ·rw[hyv v h0] at g2;rw[hyn] at g4;refine .inr ⟨g1,?_,m,by simp[g3],g4,g5⟩
        split at g2
        ·rename_i e; subst e; omega
        ·exact g2
      ·rcases cW.1 hv with hv|hv
       ·rw[hlv v hv]; exact⟨hr.2,by omega⟩
       ·obtain⟨g1,g2⟩:=hnv v hv;rw[hyv v g1.1] at g2;refine⟨g1,?_⟩
        split at g2
        ·rename_i e; subst e; omega
        ·exact g2
     split at h
     ·rename_i hwt;exact fin (w1:=w) (kG hn hLt hnt hy hw hq hwq h) ((hwq _ hr.2.1 hr.2.2).1 hwt) ⟨[],by simp,fun _ h=>by cases h⟩
     ·rename_i hwt;have hnq:l.2.1∉q:=fun hc=>hwt ((hwq _ hr.2.1 hr.2.2).2 hc);refine fin (w1:=w.set l.2.1.toNat true) (kG hn hLt hnt hy (by simpa using hw) ?_ ?_ h) (by simp) ⟨[l.2.1],rfl,fun v hv=>by simpa using hv⟩
      ·rw[List.nodup_append];exact⟨hq,by simp,fun a ha b hb=>by simp at hb; subst hb; exact fun e=>hnq (e▸ha)⟩
      ·intro v h0 h1;rw[ae1 hr.2.1 h0 tw]
       by_cases hv:v=l.2.1
       ·simp[hv]
       ·simp only[hv,if_false,cW,df,or_false];exact hwq v h0 h1
def nM {n least:Int}:∀{L:List Lk},(∀l∈L,l.1≠l.2.1)→(∀l∈L,0≤l.2.1)→0≤n→∀{x:List Int} {w:List Bool} {q:List Int} {r},qd n least L x w q=(false,r)→∃v m,(n,v,m)∈L∧gv x n+m<least
 |[],_,_,_,x,w,q,r,h=>by cases h
 |l::t,hnl,h0,hn,x,w,q,r,h=>by
  have hnt:∀l∈t,l.1≠l.2.1:=fun l hl=>hnl l (by simp[hl]);have h0t:∀l∈t,0≤l.2.1:=fun l hl=>h0 l (by simp[hl]);have up:(∃v m,(n,v,m)∈t∧gv x n+m<least)→∃v m,(n,v,m)∈l::t∧gv x n+m<least:=fun⟨v,m,g1,g2⟩=>⟨v,m,by simp[g1],g2⟩;unfold qd at h
  split at h
  ·exact up (nM hnt h0t hn h)
  ·rename_i hne
   have hln:l.1=n:=by simpa using hne
   split at h
   ·exact up (nM hnt h0t hn h)
   ·split at h
    ·rename_i hlt;exact⟨l.2.1,l.2.2,by rw[←hln]; simp,hlt⟩
    ·have hyn:gv (x.set l.2.1.toNat (gv x n+l.2.2)) n=gv x n:=by
      unfold gv;rw[List.getElem?_set];have h1:=hnl l (by simp);have h2:=h0 l (by simp)
      have:¬l.2.1.toNat=n.toNat:=by omega
      simp[this]
     split at h
     ·have:=nM hnt h0t hn h;rw[hyn] at this;exact up this
     ·have:=nM hnt h0t hn h;rw[hyn] at this;exact up this
def afF {ρ:Type} {L:List Lk} {N:Nat} {M:Int} (hL:iN L N M) {n least:Int} (hn:0≤n∧n<N) {x:List Int} {w:List Bool} {t rest:List Int} (hx:x.length=N) (hw:w.length=N) (ht:t.length=N) (hq:rest.length≤1000000)
 (hb : -2305843009213693952≤gv x n∧gv x n≤2305843009213693952) (htn:0≤gv t n∧gv t n≤1000000) (kn:List Int→List Bool→List Int→List Int→Option ρ) (k0:(Val (.pair .bool (.pair (.slice tI) (.pair (.slice .bool) (.pair (.slice tI) (.slice tI))))))→Option ρ) :
 į [] least (N:Int) L x w t (n::rest) kn k0 =
  if (N:Int)+1<gv t n+1 then k0 (false,x,w.set n.toNat false,t.set n.toNat (gv t n+1),rest) else
  match qd n least L x (w.set n.toNat false) rest with
  |(true,x',w',q')=>kn x' w' (t.set n.toNat (gv t n+1)) q'
  |(false,x',w',q')=>k0 (false,x',w',t.set n.toNat (gv t n+1),q'):=by
 have hN:=hL.nodes
 have tn:n.toNat<x.length:=by omega
 have tw:n.toNat<w.length:=by omega
 have tt:n.toNat<t.length:=by omega
 unfold į
 have e0:ieq (Þ (n::rest)) 0=false:=by
  rw[é];simp only[ieq,dc,beq_eq_false_iff_ne,ne_eq];omega
 have e1:ilt (0:Int) (ą (n::rest))=true:=by simp[ilt,ą]
 have e2:ile (1:Int) (ą (n::rest))=true:=by simp[ile,ą]; omega
 have e3:decide (1+(List.length (n::rest)-1)=List.length (n::rest))=true:=by simp; omega
 rw[Ò e0,ħ e1];rw[show Ķ (n::rest) 0=fun(f:Int→Option ρ)=>f n from rfl]
 try dsimp only
 rw[ħ e2,ħ e3,Ĩ hn.1 (by omega),Wn tw,Ĩ hn.1 (by omega),jH tt,Ó (by omega) (by omega),Ĩ hn.1 (by omega),jH tt];rw[show(ą (List.set t n.toNat (gv t n+1)))=((t.length:Nat):Int) by simp[ą]];rw[Ĩ hn.1 (by omega),jH (by simpa using tt),t8 hn.1 hn.1 tt,if_pos rfl,Ó (by omega) (by omega),Ĕ];rw[show List.drop 1 (n::rest)=rest from rfl]
 by_cases hlt:(N:Int)+1<gv t n+1
 ·rw[if_pos (by simpa[igt] using hlt),if_pos hlt]
 ·rw[if_neg (by simpa[igt] using hlt),if_neg hlt];rw[al7 hL hn hx (w:=w.set n.toNat false) (by simpa using hw) hq hb];generalize qd n least L x (w.set n.toNat false) rest=r;obtain⟨b,x',w',q'⟩:=r
  cases b<;>rfl
def aiD {ρ:Type} {L:List Lk} {N:Int} {least:Int} {x:List Int} {w:List Bool} {t:List Int} (kn:List Int→List Bool→List Int→List Int→Option ρ) (k0:(Val (.pair .bool (.pair (.slice tI) (.pair (.slice .bool) (.pair (.slice tI) (.slice tI))))))→Option ρ) :
 į [] least N L x w t [] kn k0=k0 (true,x,w,t,[]):=by
 unfold į
 have e0:ieq (Þ ([]:List Int)) 0=true:=by rw[é]; rfl
 rw[Õ e0]
def Yj (N:Nat) (t:List Int):Nat:=(t.map fun a=>((N:Int)+2-a).toNat).sum
def afQ (N:Nat):∀(t:List Int) (i:Nat) (a b:Int),t[i]?=some a→a<b→a<(N:Int)+2→Yj N (t.set i b)<Yj N t
 |a0::t,0,a,b,h,h1,h2=>by
  simp at h; subst h;simp only[Yj,List.set_cons_zero,eF,List.sum_cons];omega
 |a0::t,i+1,a,b,h,h1,h2=>by
  have:=afQ N t i a b (by simpa using h) h1 h2;simp only[Yj] at this;simp only[Yj,List.set_cons_succ,eF,List.sum_cons];omega
def abO {N:Nat} {t:List Int} {n:Int} (hn:n.toNat<t.length) (h:gv t n≤(N:Int)+1):Yj N (t.set n.toNat (gv t n+1))<Yj N t :=
 afQ N t n.toNat (gv t n) _ (Va hn) (by omega) (by omega)
structure ah4 (L:List Lk) (S:Int→Prop) (N:Nat) (M:Int) (k:Nat) (A B:List Int) (x:List Int) (w:List Bool) (t q:List Int):Prop where
 q_eq:q=A++B
 lx:x.length=N
 lw:w.length=N
 lt:t.length=N
 nodup:q.Nodup
 rng:∀v∈q,0≤v∧v<N
 waits:∀v:Int,0≤v→v<N→(wv w v=true↔v∈q)
 t0:∀v:Int,0≤v→v<N→0≤gv t v∧gv t v≤(k:Int)+1
 tA:∀v∈A,gv t v≤k
 low:∀vs v d,Wl L S vs v d→vs.length≤k→gv x v≤d
 nxt:∀vs u d,Wl L S vs u d→vs.length≤k→u∉A→∀v m,(u,v,m)∈L→gv x v≤d+m
 rel:∀u:Int,0≤u→u<N→u∉q→gv x u≠ĭ→∀v m,(u,v,m)∈L→gv x v≤gv x u+m
 att:∀v:Int,0≤v→v<N→gv x v≠ĭ→∃vs,Wl L S vs v (gv x v)
 bd:∀v:Int,0≤v→v<N→gv x v=ĭ∨gv x v≤((k:Int)+1)*M
 bA:∀v∈A,gv x v≤(k:Int)*M
 fin:∀v∈q,gv x v<ĭ
 kN:k+1≤N
 last:k+1=N→B=[]
section
variable {L:List Lk} {S:Int→Prop} {N:Nat} {M:Int} {p:Int→Int} {k:Nat} {A B x:List Int} {w:List Bool} {t q:List Int}
def Nh {a b:Nat} {M:Int} (h:a≤b) (hM:0≤M):(a:Int)*M≤(b:Int)*M:=fG (by omega) hM
def Wl.lt_free (hL:iN L N M) (hNM:N*M<ĭ) {vs:List Int} {v d:Int} (hw:Wl L S vs v d) (h:vs.length≤N):d<ĭ:=by
 have h1:=hw.high fun l hl=>(hL.most l hl).2;have h2:=Nh h hL.m0;omega
def ah4.next (hL:iN L N M) (hNM:N*M<ĭ) (hS:∀v,S v→0≤v∧v<N) (h:ah4 L S N M k [] B x w t q) (hB:B≠[]):ah4 L S N M (k+1) B [] x w t q:=by
 have hM:=hL.m0
 have hq:q=B:=by simpa using h.q_eq
 have hk:k+1≠N:=fun e=>hB (h.last e);have hkN:=h.kN
 have low':∀vs v d,Wl L S vs v d→vs.length≤k+1→gv x v≤d:=by
  intro vs v d hw hl
  cases hw with
  |nil hs=>exact h.low [] v 0 (.nil hs) (by simp)
  | @step vs u _ m d hw hlk=>exact h.nxt vs u d hw (by simpa using hl) (by simp) v m hlk
 refine⟨by simp[hq],h.lx,h.lw,h.lt,h.nodup,h.rng,h.waits,fun v h0 h1=>⟨(h.t0 v h0 h1).1,by have:=(h.t0 v h0 h1).2; push_cast; omega⟩,fun v hv=>?_,low',fun vs u d hw hl hu v m hlk=>?_,h.rel,h.att,fun v h0 h1=>?_,fun v hv=>?_,h.fin,by omega,fun _=>rfl⟩
 ·have:=h.rng v (by rw[hq]; exact hv);have:=(h.t0 v this.1 this.2).2;push_cast; omega
 ·have h1:=low' vs u d hw hl;have h2:=hw.lt_free hL hNM (by omega);have h3:=(hw.range hL.inr hS).1;have:=h.rel u h3.1 h3.2 (by rw[hq]; exact hu) (by omega) v m hlk;omega
 ·rcases h.bd v h0 h1 with h2|h2
  ·exact .inl h2
  ·refine .inr ?_;have:=Nh (show k+1≤k+1+1 by omega) hM;push_cast at this ⊢;omega
 ·have h1:=h.rng v (by rw[hq]; exact hv);have h2:=h.fin v (by rw[hq]; exact hv);rcases h.bd v h1.1 h1.2 with h3|h3
  ·omega
  ·push_cast; exact h3
def ah4.step {n:Int} {A':List Int} {least:Int} {x':List Int} {w':List Bool} {q':List Int} (hL:iN L N M) (hNM:N*M<ĭ) (hp:Pot L p) (hS:∀v,S v→0≤v∧v<N) (h:ah4 L S N M k (n::A') B x w t q)
 (ha:am8 N n least L x (A'++B) x' w' q'):∃B',ah4 L S N M k A' B' x' w' (t.set n.toNat (gv t n+1)) q':=by
 have hM:=hL.m0
 have hq:q=n::(A'++B):=by simpa using h.q_eq
 have hkN:=h.kN;have hnr:=h.rng n (by rw[hq]; simp);have hnf:=h.fin n (by rw[hq]; simp)
 have hnd:n∉A'++B:=by have:=h.nodup; rw[hq,fS] at this; exact this.1
 have htn:n.toNat<t.length:=by have:=h.lt; omega
 have tset:∀v,0≤v→gv (t.set n.toNat (gv t n+1)) v=if v=n then gv t n+1 else gv t v:=fun v h0=>t8 hnr.1 h0 htn _
 have hkM:((k:Int)+1)*M<ĭ:=by
  have:=Nh hkN hM;push_cast at this;omega
 have xle:∀v:Int,0≤v→v<N→gv x v≤ĭ:=fun v h0 h1=>by rcases h.bd v h0 h1 with h2|h2<;>omega
 obtain⟨l,hl,hlv⟩:=ha.new
 have att':∀v:Int,0≤v→v<N→gv x' v≠ĭ→∃vs,Wl L S vs v (gv x' v):=by
  intro v h0 h1 hne;rcases ha.chg v h0 h1 with g|⟨_,_,m,g3,g4,_⟩
  ·rw[g] at hne ⊢; exact h.att v h0 h1 hne
  ·obtain⟨vs,hw⟩:=h.att n hnr.1 hnr.2 (by omega);rw[g4]; exact⟨_,hw.step g3⟩
 refine⟨B++l,by rw[hl,dk],ha.lx,ha.lw,by rw[ff]; exact h.lt,ha.nodup,fun v hv=>?_,ha.waits,fun v h0 h1=>?_,fun v hv=>?_,fun vs v d hw hlen=>?_,fun vs u d hw hlen hu v m hlk=>?_,
  fun u h0 h1 hu hf v m hlk=>?_,att',fun v h0 h1=>?_,fun v hv=>?_,fun v hv=>?_,hkN,fun hk=>?_⟩
 ·rw[hl] at hv;rcases cW.1 hv with hv|hv
  ·exact h.rng v (by rw[hq]; simp only[cZ]; exact .inr hv)
  ·exact(hlv v hv).1
 ·rw[tset v h0];have h2:=h.t0 v h0 h1
  split
  ·have h3:=h.tA n (by simp);have h4:=h.t0 n hnr.1 hnr.2;omega
  ·exact h2
 ·have h1:=h.rng v (by rw[hq]; simp[hv]);rw[tset v h1.1,if_neg (fun e=>hnd (by rw[←e]; simp[hv]))];exact h.tA v (by simp[hv])
 ·have h1:=h.low vs v d hw hlen;have h2:=(hw.range hL.inr hS).1;have:=ha.le v h2.1 h2.2;omega
 ·have hvr:=(hL.inr _ hlk).2
  by_cases hun:u=n
  ·subst hun;have h1:=ha.link v m hlk;have h2:=h.low vs u d hw hlen;omega
  ·have h1:=h.nxt vs u d hw hlen (by simp[hun,hu]) v m hlk;have:=ha.le v hvr.1 hvr.2;omega
 ·have hvr:=(hL.inr _ hlk).2
  have heq:gv x' u=gv x u:=by
   rcases ha.chg u h0 h1 with g|⟨g,_⟩
   ·exact g
   ·exact(hu g).elim
  by_cases hun:u=n
  ·subst hun;have h1:=ha.link v m hlk;omega
  ·have hur:u∉q:=by
    rw[hq];intro hc;rcases cZ.1 hc with e|hc
    ·exact hun e
    ·exact hu (by rw[hl]; exact d8 _ hc)
   have h2:=h.rel u h0 h1 hur (by rw[←heq]; exact hf) v m hlk;have:=ha.le v hvr.1 hvr.2;omega
 ·rcases ha.chg v h0 h1 with g|⟨_,_,m,g3,g4,_⟩
  ·rw[g]; exact h.bd v h0 h1
  ·have h2:=h.bA n (by simp);have h3:=(hL.most _ g3).2;simp only at h3;refine .inr ?_;rw[g4,fN,fW];omega
 ·have h1:=h.rng v (by rw[hq]; simp[hv]);have h2:=h.bA v (by simp[hv]);have:=ha.le v h1.1 h1.2;omega
 ·rw[hl] at hv;rcases cW.1 hv with hv|hv
  ·have h1:=h.rng v (by rw[hq]; simp only[cZ]; exact .inr hv);have h2:=h.fin v (by rw[hq]; simp only[cZ]; exact .inr hv);have:=ha.le v h1.1 h1.2;omega
  ·obtain⟨g1,g2⟩:=hlv v hv;have:=xle v g1.1 g1.2;omega
 ·rw[h.last hk]
  cases l with
  |nil=>rfl
  |cons v l =>
   exfalso;obtain⟨g1,g2⟩:=hlv v (by simp);have:=xle v g1.1 g1.2;obtain⟨vs,hw⟩:=att' v g1.1 g1.2 (by omega);obtain⟨vs',d',k1,k2,k3⟩:=hw.simple hp;have k4:=k1.short hL.inr hS k3;have:=h.low vs' v d' k1 (by omega);omega
def ah4.done (hL:iN L N M) (hNM:N*M<ĭ) (hp:Pot L p) (hS:∀v,S v→0≤v∧v<N) (h:ah4 L S N M k A B x w t []):ah5 L S N (gv x):=by
 have hkN:=h.kN;have hM:=hL.m0
 have hkM:((k:Int)+1)*M<ĭ:=by
  have:=Nh hkN hM;push_cast at this;omega
 have key:∀vs v d,Wl L S vs v d→vs.length+1≤N→gv x v≤d:=by
  intro vs v d hw
  induction hw with
  |nil hs=>intro _; exact h.low [] _ 0 (.nil hs) (by simp)
  | @step vs u v m d hw hlk ih =>
   intro hlen;simp only[dc] at hlen;have h1:=ih (by omega);have h2:=hw.lt_free hL hNM (by omega);have h3:=(hw.range hL.inr hS).1;have:=h.rel u h3.1 h3.2 (by simp) (by omega) v m hlk;omega
 refine⟨h.att,fun v vs d hw=>?_,fun v h0 h1=>?_⟩
 ·obtain⟨vs',d',k1,k2,k3⟩:=hw.simple hp;have:=key vs' v d' k1 (k1.short hL.inr hS k3);omega
 ·rcases h.bd v h0 h1 with h2|h2<;>omega
def Zp {ρ:Type} {r:Option ρ} (hL:iN L N M) (hNM:N*M<ĭ) (hp:Pot L p) (hS:∀v,S v→0≤v∧v<N) (k0:(Val (.pair .bool (.pair (.slice tI) (.pair (.slice .bool) (.pair (.slice tI) (.slice tI))))))→Option ρ)
 (hK:∀x w t q,x.length=N→ah5 L S N (gv x)→k0 (true,x,w,t,q)=r) (h:ah4 L S N M k A B x w t q) :
 Ñ (fun(v64:(Val (.pair (.slice tI) (.pair (.slice .bool) (.pair (.slice tI) (.slice tI)))))) kk69=>į [] (kw L) (N:Int) L v64.1 v64.2.1 v64.2.2.1 v64.2.2.2 (fun u65 u66 u67 u68=>kk69 (u65,u66,u67,u68)) k0) (x,w,t,q)=r:=by
 refine ī (fun s:List Int×List Bool×List Int×List Int=>∃k A B,ah4 L S N M k A B s.1 s.2.1 s.2.2.1 s.2.2.2) (fun s=>Yj N s.2.2.1) ?_ ⟨k,A,B,h⟩;rintro⟨x,w,t,q⟩ ⟨k,A,B,h⟩;dsimp only at h ⊢;have hN:=hL.nodes
 cases q with
 |nil=>exact .inl fun kn=>by rw[aiD]; exact hK x w t [] h.lx (h.done hL hNM hp hS)
 |cons n rest =>
  -- the phase in which the first one is
  have hph:∃k A' B,ah4 L S N M k (n::A') B x w t (n::rest):=by
   cases A with
   |nil =>
    have hB:B=n::rest:=by simpa using h.q_eq.symm
    subst hB;exact⟨k+1,rest,[],h.next hL hNM hS (by simp)⟩
   |cons a A' =>
    have:=h.q_eq;simp only[eM,List.cons.injEq] at this;obtain⟨rfl,_⟩:=this;exact⟨k,A',B,h⟩
  clear h k A B;obtain⟨k,A',B,h⟩:=hph
  have hrest:rest=A'++B:=by have:=h.q_eq; simpa using this
  have hnr:=h.rng n (by simp);have hnf:=h.fin n (by simp);have hkN:=h.kN;have h1:=h.tA n (by simp);have h2:=h.t0 n hnr.1 hnr.2;obtain⟨vs,hw⟩:=h.att n hnr.1 hnr.2 (by omega);have hlow:=hw.low' hp
  have hneg : -(400*4503599627370496)≤kw L:=by
   have:∀L':List Lk,(∀l∈L',-M≤l.2.2)→-((L'.length:Int)*M)≤kw L':=by
    intro L'
    induction L' with
    |nil=>intro _; simp[kw,A2]
    |cons l t ih =>
     intro hh;have i1:=ih fun l hl=>hh l (by simp[hl]);have i2:=hh l (by simp);have i3:=hL.m0;unfold kw at i1 ⊢;simp only[A2,if_true,List.length_cons,Int.natCast_succ,Int.add_mul,Int.one_mul];omega
   have h3:=this L fun l hl=>(hL.most l hl).1;have h4:(L.length:Int)*M≤400*4503599627370496:=eY (by have:=hL.len; omega) hL.m1 hL.m0 (by omega);omega
  have hrl:rest.length≤1000000:=by
   have:=afr N (n::rest) h.nodup h.rng;simp only[dc] at this;omega
  refine .inr ?_
  have hw':(w.set n.toNat false).length=N:=by rw[ff]; exact h.lw
  cases hr:qd n (kw L) L x (w.set n.toNat false) rest with
  |mk b r' =>
  obtain⟨x',w',q'⟩:=r'
  cases b with
  |false =>
   exfalso;obtain⟨v,m,g1,g2⟩:=nM hL.noloop (fun l hl=>(hL.inr l hl).2.1) hnr.1 hr;have:=(hw.step g1).low' hp;omega
  |true =>
   have hnd:=h.nodup;rw[fS] at hnd
   have ha:=kG hnr hL.inr hL.noloop h.lx hw' hnd.2 (fun v h0 h1=>by
    rw[ae1 hnr.1 h0 (by have:=h.lw; omega)]
    by_cases hv:v=n
    ·subst hv; simp[hnd.1]
    ·rw[if_neg hv,h.waits v h0 h1]
     simp[hv]) hr
   rw[hrest] at ha;obtain⟨B',hB'⟩:=h.step hL hNM hp hS ha;refine⟨(x',w',t.set n.toNat (gv t n+1),q'),⟨k,A',B',hB'⟩,abO (by have:=h.lt; omega) (by omega),fun kn=>?_⟩;have hF:ĭ=1152921504606846976:=rfl
   rw[afF hL hnr h.lx h.lw h.lt hrl (by constructor<;>omega) (by constructor<;>omega),if_neg (by omega),hr]
end
def Oi (f:Lk→Bool):∀(L L':List Lk),A2 f (L++L')=A2 f L+A2 f L'
 |[],L'=>by simp[A2]
 |l::t,L'=>by
  simp only[eM,A2,Oi f t L'];omega
def aaf {L:List Lk} {i:Nat} {l:Lk} (h:L[i]?=some l):kw (L.take (i+1))=kw (L.take i)+min l.2.2 0:=by
 rw[take_succ h,kw,kw,Oi];simp[A2]
def imin0 (e:Int):mG e 0=min e 0:=by
 unfold mG
 split<;>omega
def Og {L:List Lk} {M:Int} (h:∀l∈L,-M≤l.2.2) (hM:0≤M) : -((L.length:Int)*M)≤kw L:=by
 induction L with
 |nil=>simp[kw,A2]
 |cons l t ih =>
  have i1:=ih fun l hl=>h l (by simp[hl]);have i2:=h l (by simp);unfold kw at i1 ⊢;simp only[A2,if_true,List.length_cons,Int.natCast_succ,Int.add_mul,Int.one_mul];omega
def anY (L:List Lk):kw L≤0:=mh _ L
section
variable {ρ:Type} {L:List Lk} {N:Nat} {M:Int}
def afR (hL:iN L N M) (k0:Int→Option ρ):Ñ (fun(v75:Val Ã) kk78=>hZ L (Þ L) v75.1 v75.2 (fun u76 u77=>kk78 (u76,u77)) k0) ((0:Int),(0:Int))=k0 (kw L):=by
 refine ī (fun x:Int×Int=>∃i:Nat,i≤L.length∧x=(kw (L.take i),(i:Int))) (fun x=>L.length-x.2.toNat) ?_ ⟨0,by omega,rfl⟩;rintro x ⟨i,hi,rfl⟩;have hlen:=hL.len;rcases du i L.length with h|h
 ·have hl:L[i]?=some L[i]:=cN h;refine .inr ⟨(kw (L.take (i+1)),(i:Int)+1),⟨i+1,h,by simp⟩,by simp; omega,fun kn=>?_⟩
  try dsimp only
  unfold hZ
  have hb:∀j,j≤L.length→-(400*4503599627370496)≤kw (L.take j):=by
   intro j hj;have h1:=Og (L:=L.take j) (fun l hl=>(hL.most l (fE hl)).1) hL.m0;have h2:((L.take j).length:Int)*M≤400*4503599627370496:=eY (by rw[dh]; omega) hL.m1 hL.m0 (by omega);omega
  have h1:=hb i hi;have h2:=hb (i+1) h;have h3:=anY (L.take i);rw[aaf hl] at h2;rw[Ô h,Ë hl,imin0,Ó (by omega) (by omega),Î h (by omega),aaf hl]
 ·refine .inl fun kn=>?_
  have:i=L.length:=by omega
  subst this
  try dsimp only
  unfold hZ;rw[à,List.take_length]
def aij {x:List Int} (hx:x.length=N) (hN:N≤1000) {r:Option ρ} (k0:(Val (.pair (.slice .bool) (.slice tI)))→Option ρ)
 (hK:∀(w:List Bool) (q:List Int),w.length=N→q.Nodup→(∀v∈q,0≤v∧v<N)→(∀v:Int,0≤v→v<N→(wv w v=true↔v∈q))→(∀v:Int,0≤v→v<N→(v∈q↔gv x v≠ĭ))→k0 (w,q)=r) :
 Ñ (fun(v70:(Val (.pair tI (.pair (.slice .bool) (.slice tI))))) kk74=>Ř (N:Int) x v70.1 v70.2.1 v70.2.2 (fun u71 u72 u73=>kk74 (u71,u72,u73)) k0) ((0:Int),(List.replicate N false),([]:List Int))=r:=by
 refine ī (fun s:Int×List Bool×List Int=>∃i:Nat,i≤N∧s.1=i∧s.2.1.length=N∧s.2.2.Nodup∧s.2.2.length≤i∧(∀v∈s.2.2,0≤v∧v<i)∧(∀v:Int,0≤v→v<N→(wv s.2.1 v=true↔v∈s.2.2))∧(∀v:Int,0≤v→v<i→(v∈s.2.2↔gv x v≠ĭ))) (fun s=>N-s.1.toNat) ?_
  ⟨0,by omega,rfl,by simp,by simp,by simp,by simp,fun v h0 h1=>?_,fun v h0 h1=>by omega⟩
 ·rintro⟨s,w,q⟩ ⟨i,hi,h1,h2,h3,h4,h5,h6,h7⟩;simp only at h1 h2 h3 h4 h5 h6 h7;subst h1;rcases du i N with h|h
  ·refine .inr ?_
   have hix:i<x.length:=by omega
   have hiw:i<w.length:=by omega
   have hnq:((i:Int))∉q:=fun hc=>by have:=(h5 _ hc).2; omega
   by_cases hf:gv x i=ĭ
   ·refine⟨((i:Int)+1,w,q),⟨i+1,h,by simp,h2,h3,by simp only; omega,fun v hv=>⟨(h5 v hv).1,by have:=(h5 v hv).2; push_cast; omega⟩,h6,fun v h0 h1=>?_⟩,by simp; omega,fun kn=>?_⟩
    ·by_cases hv:v=i
     ·subst hv; simp[hf,hnq]
     ·exact h7 v h0 (by push_cast at h1; omega)
    ·try dsimp only
     unfold Ř
     have e:ilt (i:Int) (N:Int)=true:=by simp[ilt,h]
     rw[Õ e,ι hix,jH (by simpa using hix)]
     have e2:ine (gv x i) 1152921504606846976=false:=by simp[ine,hf]
     rw[Ò e2,Î h (by omega)]
   ·refine⟨((i:Int)+1,w.set i true,q++[(i:Int)]),⟨i+1,h,by simp,by simpa using h2,?_,by simp; omega,fun v hv=>?_,fun v h0 h1=>?_,fun v h0 h1=>?_⟩,by simp; omega,fun kn=>?_⟩
    ·rw[List.nodup_append];exact⟨h3,by simp,fun a ha b hb=>by simp at hb; subst hb; exact fun e=>hnq (e▸ha)⟩
    ·rcases cW.1 hv with hv|hv
     ·exact⟨(h5 v hv).1,by have:=(h5 v hv).2; push_cast; omega⟩
     ·simp at hv; subst hv; push_cast; omega
    ·have:=ae1 (w:=w) (u:=(i:Int)) (by omega) h0 (by simpa using hiw) true;rw[di] at this;show wv (w.set i true) v=true↔v∈q++[(i:Int)];rw[this]
     by_cases hv:v=i
     ·simp[hv]
     ·simp only[hv,if_false,cW,df,or_false];exact h6 v h0 h1
    ·show v∈q++[(i:Int)]↔_
     by_cases hv:v=i
     ·subst hv; simp[hf]
     ·simp only[cW,df,hv,or_false];exact h7 v h0 (by push_cast at h1; omega)
    ·try dsimp only
     unfold Ř
     have e:ilt (i:Int) (N:Int)=true:=by simp[ilt,h]
     rw[Õ e,ι hix,jH (by simpa using hix)]
     have e2:ine (gv x i) 1152921504606846976=true:=by simp[ine,hf]
     rw[Õ e2,Ö (by simp only[dz]; omega),Am.iff_true,ι hiw,Wn (by simpa using hiw),Î h (by omega),di]
  ·refine .inl fun kn=>?_
   have:i=N:=by omega
   subst this
   try dsimp only
   unfold Ř
   have e:ilt (i:Int) (i:Int)=false:=by simp[ilt]
   rw[Ò e];exact hK w q h2 h3 h5 h6 h7
 ·have:wv (List.replicate N false) v=false:=by
   unfold wv;rw[List.getElem?_replicate]
   split<;>rfl
  simp[this]
def Ub (hL:iN L N M) (hN:1≤N) {S:Int→Bool} (hS:∀v,S v=true→0≤v∧v<N) {w:List Bool} {q:List Int} (hw:w.length=N) (hq:q.Nodup) (hr:∀v∈q,0≤v∧v<N) (hwq:∀v:Int,0≤v→v<N→(wv w v=true↔v∈q)) (hqs:∀v:Int,0≤v→v<N→(v∈q↔gv (Ł S N) v≠ĭ)) :
 ah4 L (fun v=>S v=true) N M 0 q [] (Ł S N) w (List.replicate N 0) q:=by
 have ht:∀v:Int,0≤v→v<N→gv (List.replicate N (0:Int)) v=0:=by
  intro v h0 h1;unfold gv;rw[List.getElem?_replicate]
  split<;>rfl
 have hg:∀v:Int,0≤v→v<N→(v∈q↔S v=true):=by
  intro v h0 h1;rw[hqs v h0 h1,ū S h0 h1]
  cases S v<;>simp[ĭ]
 have hM:=hL.m0;refine⟨by simp,æ S N,hw,by simp,hq,hr,hwq,fun v h0 h1=>?_,fun v hv=>?_,fun vs v d hw hl=>?_,fun vs u d hw hl hu v m hlk=>?_,fun u h0 h1 hu hf v m hlk=>?_,fun v h0 h1 hf=>?_,fun v h0 h1=>?_,fun v hv=>?_,fun v hv=>?_,by omega,fun _=>rfl⟩
 ·rw[ht v h0 h1]; omega
 ·have:=hr v hv;rw[ht v this.1 this.2]; omega
 ·cases hw with
  |nil hs =>
   have:=hS v hs;rw[ū S this.1 this.2,if_pos hs]; omega
  |step=>simp at hl
 ·cases hw with
  |nil hs =>
   have:=hS u hs;exact(hu ((hg u this.1 this.2).2 hs)).elim
  |step=>simp at hl
 ·rw[ū S h0 h1] at hf;have:=mt (hg u h0 h1).2 hu;rw[if_neg this] at hf;exact(hf rfl).elim
 ·rw[ū S h0 h1] at hf ⊢
  split at hf
  ·rename_i hs;rw[if_pos hs]; exact⟨[],.nil hs⟩
  ·exact(hf rfl).elim
 ·rw[ū S h0 h1]
  split
  ·exact .inr (by simp[hM])
  ·exact .inl rfl
 ·have h1:=hr v hv;rw[ū S h1.1 h1.2,if_pos ((hg v h1.1 h1.2).1 hv)]; simp
 ·have h1:=hr v hv;rw[ū S h1.1 h1.2,if_pos ((hg v h1.1 h1.2).1 hv)]; simp[ĭ]
structure Bad (L:List Lk) (N:Nat) (x:List Int) (w:List Bool) (t q:List Int):Prop where
 lx:x.length=N
 lw:w.length=N
 lt:t.length=N
 nodup:q.Nodup
 rng:∀v∈q,0≤v∧v<N
 waits:∀v:Int,0≤v→v<N→(wv w v=true↔v∈q)
 t0:∀v:Int,0≤v→v<N→0≤gv t v∧gv t v≤(N:Int)+1
 bd:∀v:Int,0≤v→v<N→-2305843009213693952≤gv x v∧gv x v≤0
 rel:∀u:Int,0≤u→u<N→u∉q→∀v m,(u,v,m)∈L→gv x v≤gv x u+m
def aly {r:Option ρ} {x:List Int} {w:List Bool} {t q:List Int} (hL:iN L N M) (hp:¬∃p,Pot L p) (k0:(Val (.pair .bool (.pair (.slice tI) (.pair (.slice .bool) (.pair (.slice tI) (.slice tI))))))→Option ρ)
 (hK:∀x w t q,k0 (false,x,w,t,q)=r) (h:Bad L N x w t q) :
 Ñ (fun(v64:(Val (.pair (.slice tI) (.pair (.slice .bool) (.pair (.slice tI) (.slice tI)))))) kk69=>į [] (kw L) (N:Int) L v64.1 v64.2.1 v64.2.2.1 v64.2.2.2 (fun u65 u66 u67 u68=>kk69 (u65,u66,u67,u68)) k0) (x,w,t,q)=r:=by
 refine ī (fun s:List Int×List Bool×List Int×List Int=>Bad L N s.1 s.2.1 s.2.2.1 s.2.2.2) (fun s=>Yj N s.2.2.1) ?_ h;rintro⟨x,w,t,q⟩ h;dsimp only at h ⊢;have hN:=hL.nodes
 cases q with
 |nil =>
  exfalso;exact hp ⟨gv x,fun u v m hl=>h.rel u (hL.inr _ hl).1.1 (hL.inr _ hl).1.2 (by simp) v m hl⟩
 |cons n rest =>
  have hnr:=h.rng n (by simp);have hb:=h.bd n hnr.1 hnr.2;have ht:=h.t0 n hnr.1 hnr.2
  have hrl:rest.length≤1000000:=by
   have:=afr N (n::rest) h.nodup h.rng;simp only[dc] at this;omega
  have hout:=fun(kn:List Int→List Bool→List Int→List Int→Option ρ)=>afF (ρ:=ρ) hL (least:=kw L) hnr h.lx h.lw h.lt hrl ⟨hb.1,by omega⟩ ⟨ht.1,by omega⟩ kn k0
  by_cases hlt:(N:Int)+1<gv t n+1
  ·exact .inl fun kn=>by rw[hout,if_pos hlt]; exact hK _ _ _ _
  ·have hw':(w.set n.toNat false).length=N:=by rw[ff]; exact h.lw
   cases hr:qd n (kw L) L x (w.set n.toNat false) rest with
   |mk b r' =>
   obtain⟨x',w',q'⟩:=r'
   cases b with
   |false=>exact .inl fun kn=>by rw[hout,if_neg hlt,hr]; exact hK _ _ _ _
   |true =>
    have hnd:=h.nodup;rw[fS] at hnd
    have htl:n.toNat<t.length:=by have:=h.lt; omega
    have ha:=kG hnr hL.inr hL.noloop h.lx hw' hnd.2 (fun v h0 h1=>by
     rw[ae1 hnr.1 h0 (by have:=h.lw; omega)]
     by_cases hv:v=n
     ·subst hv; simp[hnd.1]
     ·rw[if_neg hv,h.waits v h0 h1]
      simp[hv]) hr
    obtain⟨l,hl,hlv⟩:=ha.new;refine .inr ⟨(x',w',t.set n.toNat (gv t n+1),q'),⟨ha.lx,ha.lw,by rw[ff]; exact h.lt,ha.nodup,fun v hv=>?_,ha.waits,fun v h0 h1=>?_,fun v h0 h1=>?_,fun u h0 h1 hu v m hlk=>?_⟩,abO htl (by omega),fun kn=>by rw[hout,if_neg hlt,hr]⟩
    ·dsimp only at hv;rw[hl] at hv;rcases List.mem_append.1 hv with hv|hv
     ·exact h.rng v (by simp[hv])
     ·exact(hlv v hv).1
    ·try dsimp only
     rw[t8 hnr.1 h0 htl];have:=h.t0 v h0 h1
     split<;>omega
    ·try dsimp only
     have h2:=h.bd v h0 h1;rcases ha.chg v h0 h1 with g|⟨_,g2,m,g3,g4,g5⟩
     ·rw[g]; exact h2
     ·have h3:=Og (L:=L) (fun l hl=>(hL.most l hl).1) hL.m0;have h4:(L.length:Int)*M≤400*4503599627370496:=eY (by have:=hL.len; omega) hL.m1 hL.m0 (by omega);omega
    ·dsimp only at hu ⊢;have hvr:=(hL.inr _ hlk).2
     have heq:gv x' u=gv x u:=by
      rcases ha.chg u h0 h1 with g|⟨g,_⟩
      ·exact g
      ·exact(hu g).elim
     by_cases hun:u=n
     ·subst hun;have h1:=ha.link v m hlk;omega
     ·have hur:u∉n::rest:=by
       intro hc;rcases cZ.1 hc with e|hc
       ·exact hun e
       ·exact hu (by rw[hl]; exact d8 _ hc)
      have h2:=h.rel u h0 h1 hur v m hlk;have:=ha.le v hvr.1 hvr.2;omega
end
def xr (N:Nat) (v:Int):Bool:=decide (0≤v)&&decide (v<(N:Int))
def A1 (s:Int) (v:Int):Bool:=v==s
def Zo (N:Nat):Ł (xr N) N=List.replicate N 0:=by
 refine Vb (by simp[æ]) fun v h0 h1=>?_;rw[æ] at h1;rw[ū _ h0 h1]
 have:xr N v=true:=by simp[xr,h0,h1]
 rw[if_pos this];unfold gv;rw[List.getElem?_replicate]
 split<;>rfl
def Ħ (L:List Lk) (N:Nat):List Int:=Ā L N (Ł (xr N) N)
def ě (L:List Lk) (N:Nat):Bool:=decide (Ĭ L (Ħ L N)=Ħ L N)
def jJ (L:List Lk) (N:Nat) (s:Int):List Int:=Ā L N (Ł (A1 s) N)
section
variable {L:List Lk} {N:Nat} {M:Int}
def aiW (hL:iN L N M) (hN:N≤200):N*M<ĭ:=by
 have:(N:Int)*M≤200*4503599627370496:=Int.mul_le_mul (by omega) hL.m1 hL.m0 (by omega);unfold ĭ;omega
def zX {p:Int→Int} (hL:iN L N M) (hN:N≤200) (hp:Pot L p):ah5 L (fun v=>xr N v=true) N (gv (Ħ L N)) :=
 CX hp hL.inr (fun v h=>by simpa[xr] using h) (fun l hl=>(hL.most l hl).2) hL.m0 (aiW hL hN) N (by omega)
def jp {p:Int→Int} (hL:iN L N M) (hN:N≤200) (hp:Pot L p) {s:Int} (hs:0≤s∧s<N):ah5 L (fun v=>A1 s v=true) N (gv (jJ L N s)) :=
 CX hp hL.inr (fun v h=>by simp[A1] at h; subst h; exact hs) (fun l hl=>(hL.most l hl).2) hL.m0 (aiW hL hN) N (by omega)
def ZJ:∀{L:List Lk} {x:List Int},(∀u v m,(u,v,m)∈L→gv x u<ĭ→gv x v≤gv x u+m)→Ĭ L x=x
 |[],x,_=>rfl
 |l::t,x,h=>by
  have h1:Ŧ x l=x:=by
   unfold Ŧ
   split
   ·rename_i hc;have:=h l.1 l.2.1 l.2.2 (by simp) hc.1;omega
   ·rfl
  show Ĭ t (Ŧ x l)=x;rw[h1];exact ZJ fun u v m hm=>h u v m (by simp[hm])
def Ŏ (hL:iN L N M) (hN:N≤200):ě L N=true↔∃p,Pot L p:=by
 unfold ě;rw[decide_eq_true_eq]
 have hle:∀v:Int,0≤v→v<N→gv (Ħ L N) v≤0:=by
  intro v h0 h1;have:=xz hL.inr N (æ (xr N) N) v h0;rw[ū _ h0 h1,if_pos (by simp[xr,h0,h1])] at this;exact this
 constructor
 ·intro h;refine⟨gv (Ħ L N),fun u v m hl=>?_⟩;have hr:=(hL.inr _ hl).1;have:=Il hL.inr (x:=Ħ L N) (by unfold Ħ; rw[ù,æ]) u v m hl (by have:=hle u hr.1 hr.2; unfold ĭ; omega)
  rwa [h] at this
 ·rintro⟨p,hp⟩;have hd:=zX hL hN hp;exact ZJ fun u v m hl hf=>hd.pot hL.inr hl (by omega)
end
section
variable {ρ:Type} {L:List Lk} {N:Nat} {M:Int}
def vW (hN:N≤1000) (x:Option ρ):ì ((ile (0:Int) (N:Int))&&(ê (Int.toNat (N:Int)))) x=x:=by
 rw[di,Ö (by omega)]
 have:((ile (0:Int) (N:Int))&&true)=true:=by simp[ile]
 rw[this,Am.iff_true]
def adk (hL:iN L N M) (h1:1≤N) (hN:N≤200) (k0:(Val (.pair .bool (.pair (.slice tI) (.pair (.slice .bool) (.pair (.slice tI) (.slice tI))))))→Option ρ) {rT rF:Option ρ}
 (hT:ě L N=true→∀w t q,k0 (true,Ħ L N,w,t,q)=rT) (hF:∀x w t q,k0 (false,x,w,t,q)=rF) :
 (Ñ (fun(v70:(Val (.pair tI (.pair (.slice .bool) (.slice tI))))) kk74=>Ř (N:Int) (List.replicate N (0:Int)) v70.1 v70.2.1 v70.2.2 (fun u71 u72 u73=>kk74 (u71,u72,u73)) (fun z9=>Ñ (fun(v64:(Val (.pair (.slice tI) (.pair (.slice .bool) (.pair (.slice tI) (.slice tI)))))) kk69=>į [] (kw L) (N:Int) L v64.1 v64.2.1 v64.2.2.1 v64.2.2.2 (fun u65 u66 u67 u68=>kk69 (u65,u66,u67,u68)) k0) ((List.replicate N (0:Int)),z9.1,(List.replicate N (0:Int)),z9.2))) ((0:Int),(List.replicate N false),([]:List Int)))=if ě L N then rT else rF:=by
 refine aij (by simp) (by omega) _ fun w q hw hq hr hwq hqs=>?_
 try dsimp only
 have hS:∀v,xr N v=true→0≤v∧v<N:=fun v h=>by simpa[xr] using h
 by_cases ho:ě L N=true
 ·rw[if_pos ho];obtain⟨p,hp⟩:=(Ŏ hL hN).1 ho;have hs:=Ub hL h1 hS hw hq hr hwq (fun v a b=>by rw[Zo]; exact hqs v a b);rw[Zo] at hs;refine Zp hL (aiW hL hN) hp hS k0 (fun x w t q hx hd=>?_) hs
  have:x=Ħ L N:=by
   refine Vb (by rw[hx]; unfold Ħ; rw[ù,æ]) fun v a b=>?_;exact hd.uniq (zX hL hN hp) a (by omega)
  rw[this]; exact hT ho w t q
 ·rw[if_neg ho];refine aly hL (fun hp=>ho ((Ŏ hL hN).2 hp)) k0 hF ?_
  have hg:∀v,gv (List.replicate N (0:Int)) v=0:=by
   intro v;unfold gv;rw[List.getElem?_replicate]
   split<;>rfl
  refine⟨by simp,hw,by simp,hq,hr,hwq,fun v a b=>?_,fun v a b=>?_,fun u a b hu v m hl=>?_⟩
  ·rw[hg]; omega
  ·rw[hg]; omega
  ·exact(hu ((hqs u a b).2 (by rw[hg]; unfold ĭ; omega))).elim
end
def shift_ok {ρ:Type} {x:List Int} (f:Int) (hx:x.length≤1000) (hf : -2305843009213693952≤f∧f≤2305843009213693952) (hb:∀a∈x,-2305843009213693952≤a∧a≤2305843009213693952) (k0:List Int→Option ρ) :
 Ñ (fun(v60:(Val (.pair tI (.slice tI)))) kk63=>jf f (Þ x) v60.1 v60.2 (fun u61 u62=>kk63 (u61,u62)) k0) ((0:Int),x)=k0 (x.map fun a=>a-f):=by
 refine ñ x (fun i=>(x.take i).map (fun a=>a-f)++x.drop i) _ (by simp) (fun i a hi ha kn=>?_) (fun kn=>?_)
 ·try dsimp only
  unfold jf
  have hlen:((x.take i).map (fun a=>a-f)++x.drop i).length=x.length:=by simp; omega
  have hget:((x.take i).map (fun a=>a-f)++x.drop i)[i]?=some a:=by
   rw[fo (by simp; omega)];simp only[dW,dh,eV];rw[←ha]; congr 1; omega
  have hi':i<((x.take i).map (fun a=>a-f)++x.drop i).length:=by omega
  have ha':=hb a (cY ha);rw[Ô hi,ι hi',Ĥ hget,Ó (by omega) (by omega),ι hi',Ĥ hget,Î hi (by omega),di,take_succ ha];congr 2;rw[fC hi,gS,dk,gM _ _ (by simp; omega)]
  have:i-(List.map (fun a=>a-f) (List.take i x)).length=0:=by simp; omega
  rw[this]
  have h1:x[i]=a:=by rw[cN hi] at ha; simpa using ha
  simp[h1]
 ·try dsimp only
  unfold jf;rw[à];simp
section
variable {L:List Lk} {N:Nat} {M:Int}
def VP (hL:iN L N M) (hN:N≤200) (ho:ě L N=true):∀a∈Ħ L N,-2305843009213693952≤a∧a≤0:=by
 obtain⟨p,hp⟩:=(Ŏ hL hN).1 ho;have hd:=zX hL hN hp;intro a ha;obtain⟨i,hi,rfl⟩:=dj.1 ha
 have hlen:(Ħ L N).length=N:=by unfold Ħ; rw[ù,æ]
 have h0:gv (Ħ L N) i=(Ħ L N)[i]:=by unfold gv; simp[hi]
 have hle:=xz hL.inr N (æ (xr N) N) (i:Int) (by omega);rw[ū _ (by omega) (by omega),if_pos (by simp[xr]; omega)] at hle;have hle':gv (Ħ L N) i≤0:=hle;obtain⟨vs,hw⟩:=hd.att i (by omega) (by omega) (by unfold ĭ; omega);have h1:=hw.low' hp;have h3:=Og (L:=L) (fun l hl=>(hL.most l hl).1) hL.m0;have h4:(L.length:Int)*M≤400*4503599627370496:=Int.mul_le_mul (by have:=hL.len; omega) hL.m1 hL.m0 (by omega);omega
def solP (L:List Lk) (N:Nat):List Int:=(Ħ L N).map fun a=>a-gv (Ħ L N) 0
def CQ (hL:iN L N M) (h1:1≤N) (hN:N≤200):kJ ((N:Int),L) []=some (if ě L N then(solP L N,true) else([],false)):=by
 unfold kJ yS
 try dsimp only
 rw[vW (by omega),vW (by omega),vW (by omega),di];refine eR (afR hL _) ?_;refine eR (adk hL h1 hN _ (rT:=some (solP L N,true)) (rF:=some ([],false)) (fun ho w t q=>?_) (fun x w t q=>?_)) ?_
 ·try dsimp only
  have hlen:(Ħ L N).length=N:=by unfold Ħ; rw[ù,æ]
  have hb:=VP hL hN ho;have h0:ilt (0:Int) (ą (Ħ L N))=true:=decide_eq_true (show(0:Int)<((Ħ L N).length:Int) by omega);have hg:(Ħ L N)[0]?=some (gv (Ħ L N) 0):=Va (v:=0) (show 0<_ by omega);have hm:=hb _ (cY hg);rw[show(!true)=false from rfl,ô,ħ h0,oD hg];exact shift_ok _ (by omega) ⟨hm.1,by omega⟩ (fun a ha=>⟨(hb a ha).1,by have:=(hb a ha).2; omega⟩) _
 ·rfl
 ·cases ě L N<;>rfl
structure ĺ (L:List Lk) (N:Nat):Prop where
 n1:1≤N
 n60:N≤60
 len:L.length≤300
 inr:InR L N
 noloop:∀l∈L,l.1≠l.2.1
 most:∀l∈L,-4503599627370496≤l.2.2∧l.2.2≤4503599627370496
def ĺ.links (h:ĺ L N):iN L N 4503599627370496 :=
 ⟨h.inr,h.noloop,h.most,by have:=h.len; omega,by have:=h.n60; omega,by omega,by omega⟩
def ĺ.sub {L':List Lk} (h:ĺ L N) (hs:∀l∈L',l∈L) (hl:L'.length≤L.length):ĺ L' N :=
 ⟨h.n1,h.n60,by have:=h.len; omega,fun l hm=>h.inr l (hs l hm),fun l hm=>h.noloop l (hs l hm),fun l hm=>h.most l (hs l hm)⟩
def Od (n:Int) (L:List Lk) (v:Int):rQ (n,L) v=some (decide (0≤v)&&decide (v<n)):=by
 unfold rQ XB ige
 by_cases h:0≤v
 ·have:decide (v≥0)=true:=by simpa using h
  rw[Õ this]; simp[h]
 ·have:decide (v≥0)=false:=by simpa using h
  rw[Ò this]; simp[h]
def lS (h:ĺ L N):nT ((N:Int),L)=some (0,-1):=by
 have h1:=h.n1;have h2:=h.n60;have h3:=h.len;unfold nT P4
 try dsimp only
 rw[Ò (by simp[ilt]; omega),Ò (by simp[igt]; omega),Ò (by rw[é]; simp[igt]; omega)];refine eR (ic L (fun _=>false) (fun i=>some (1,i)) (some (0,-1)) (fun i l hi hl kn=>?_) (fun kn=>?_)) ?_
 ·try dsimp only
  unfold ru;have hm:=List.mem_of_getElem? hl;have a:=h.inr l hm;have b:=h.noloop l hm;have c:=h.most l hm
  have e1:(decide (0≤l.1)&&decide (l.1<(N:Int)))=true:=by simp[a.1.1,a.1.2]
  have e2:(decide (0≤l.2.1)&&decide (l.2.1<(N:Int)))=true:=by simp[a.2.1,a.2.2]
  rw[Ô hi,Ë hl,Od,À,e1,Od,À,e2];simp only[eh,ô,dn,if_false];rw[Ò (by simp[ieq,b]),Ò (by simp[ilt]; omega),Ò (by simp[igt]; omega),Î hi (by omega)]
 ·try dsimp only
  unfold ru;rw[à]
 ·rw[eA.2 (by simp)]
def sH {ρ:Type} {x:List Int} {v:Int} (h0:0≤v) (h:v.toNat<x.length) (f:Int→Option ρ):ü x v f=f (gv x v):=by
 obtain⟨i,rfl⟩:=gG h0;exact Ë (Va h) f
end
section
variable {b:ß}
def qx (b:ß) (g:î):(Û b g).Pairwise (·<·):=CT _
def Rh (h:Ď b) {g:î} (hg:g∈b.2.1):∃t,Û b g=g.2.1::t:=by
 have h1:=qx b g;have h2:=ka (b:=b) g;have h3:∀d∈Û b g,g.2.1≤d:=fun d hd=>(h.day hg hd).1
 cases hd:Û b g with
 |nil=>rw[hd] at h2; cases h2
 |cons a t =>
  rw[hd] at h1 h2 h3;rw[dH] at h1;rcases cZ.1 h2 with e|e
  ·exact⟨t,by rw[e]⟩
  ·have:=h1.1 _ e;have:=h3 a (by simp);omega
def off (b:ß) (i:Nat):Nat:=((b.2.1.take i).flatMap fun g=>(Û b g).map fun d=>((g.1,d):Int×Int)).length
def C6 {i:Nat} {g:î} (hg:b.2.1[i]?=some g):Ì b=((b.2.1.take i).flatMap fun g=>(Û b g).map fun d=>((g.1,d):Int×Int))++(((Û b g).map fun d=>((g.1,d):Int×Int))++((b.2.1.drop (i+1)).flatMap fun g=>(Û b g).map fun d=>((g.1,d):Int×Int))):=by
 obtain⟨hi,rfl⟩:=cX.1 hg
 have h1:b.2.1=b.2.1.take i++(b.2.1[i]::b.2.1.drop (i+1)):=by
  rw[←fC hi,List.take_append_drop]
 unfold Ì
 conv=>lhs; rw[h1]
 rw[eS,dL]
def Wm (h:Ď b) {i:Nat} {g:î} (hg:b.2.1[i]?=some g) {k:Nat} {d:Int} (hk:(Û b g)[k]?=some d):iB (Ì b) g.1 d=some (off b i+k):=by
 obtain⟨hi,hgi⟩:=List.getElem?_eq_some_iff.1 hg;obtain⟨hkl,hkd⟩:=List.getElem?_eq_some_iff.1 hk;unfold iB;rw[C6 hg,List.findIdx?_append,List.findIdx?_append]
 have h1:List.findIdx? (fun n:Int×Int=>decide (g.1=n.1)&&decide (d=n.2)) ((b.2.1.take i).flatMap fun g=>(Û b g).map fun d=>((g.1,d):Int×Int))=none:=by
  rw[eA];intro x hx;obtain⟨g',hg',hx⟩:=dv.1 hx;obtain⟨d',_,rfl⟩:=dR.1 hx;obtain⟨j,hj,rfl⟩:=dj.1 hg';rw[dh] at hj;rw[List.getElem_take];have:=(dK.1 h.ids) j i (by omega) hi (by omega);rw[hgi] at this;simp only[Bool.and_eq_false_iff,decide_eq_false_iff_not];exact .inl (by omega)
 have h2:List.findIdx? (fun n:Int×Int=>decide (g.1=n.1)&&decide (d=n.2)) ((Û b g).map fun d=>((g.1,d):Int×Int))=some k:=by
  rw[dM];refine⟨by simpa using hkl,by simp[hkd],fun j hj=>?_⟩;have:=(dK.1 (qx b g)) j k (by omega) hkl hj;rw[hkd] at this;simp only[List.getElem_map,cQ,decide_eq_true_eq,not_and];intro _;omega
 rw[h1,h2];simp only[Option.map_some,Option.some_or,Option.none_or];unfold off;congr 1;omega
def Ng {i:Nat} {g:î} (hg:b.2.1[i]?=some g) {k:Nat} {d:Int} (hk:(Û b g)[k]?=some d):(Ì b)[off b i+k]?=some (g.1,d):=by
 obtain⟨hkl,hkd⟩:=List.getElem?_eq_some_iff.1 hk;rw[C6 hg,List.getElem?_append_right (by unfold off; omega),List.getElem?_append_left (by unfold off; simp; omega)];unfold off;simp[hk]
def agm (h:Ď b) {i:Nat} {g:î} (hg:b.2.1[i]?=some g):atP (Ì b) [g.1] g.2.1=(off b i:Int)+1:=by
 obtain⟨t,ht⟩:=Rh h (List.mem_of_getElem? hg);have:=Wm h hg (k:=0) (d:=g.2.1) (by rw[ht]; rfl);unfold atP;simp only[this];rfl
def aiO (h:Ď b) {i:Nat} {g:î} (hg:b.2.1[i]?=some g):off b i+(Û b g).length≤(Ì b).length:=by
 rw[C6 hg];unfold off;simp only[List.length_append,List.length_map];omega
def alQ {i:Nat} {g:î} (hg:b.2.1[i]?=some g):off b (i+1)=off b i+(Û b g).length:=by
 unfold off;rw[take_succ hg,List.flatMap_append];simp
def aae (h:Ď b) {c:Cmp} (hc:c∈b.2.2.2.2.1) {x:Int} (hx:(x∈c.2.2.1∧x∉c.2.2.2.1)∨(x∈c.2.2.2.1∧x∉c.2.2.1)):∃j,iB (Ì b) x c.2.1=some j:=by
 have hm:x∈c.2.2.1++c.2.2.2.1:=by rw[cW]; exact hx.imp (·.1) (·.1)
 obtain⟨⟨g,hg,_⟩,_⟩:=h.pile hc hm;obtain⟨hgm,hgx⟩:=nO hg;obtain⟨i,hi,hgi⟩:=dj.1 hgm
 have hd:c.2.1∈Û b g:=iV.2 (.inr (.inl ⟨c,hc,by
  rw[hgx];rcases hx with⟨h1,h2⟩|⟨h1,h2⟩
  ·have e1:c.2.2.1.contains x=true:=by simpa using h1
   have e2:c.2.2.2.1.contains x=false:=by simpa using h2
   rw[e1,e2]; simp
  ·have e1:c.2.2.2.1.contains x=true:=by simpa using h1
   have e2:c.2.2.1.contains x=false:=by simpa using h2
   rw[e1,e2]; simp,rfl⟩))
 obtain⟨k,hk,hkd⟩:=dj.1 hd;have:=Wm h (g:=g) (i:=i) (by rw[cN hi,hgi]) (k:=k) (d:=c.2.1) (by rw[cN hk,hkd]);rw[hgx] at this;exact⟨_,this⟩
inductive ahX (b:ß) (p:List Int) (d:Int) (n:Int):Prop
 |none:p=[]→n=0→ahX b p d n
 |one (x:Int) (j:Nat):p=[x]→iB (Ì b) x d=some j→n=(j:Int)+1→ahX b p d n
def YD (h:Ď b) {c:Cmp} (hc:c∈b.2.2.2.2.1):ahX b (å c.2.2.1 c.2.2.2.1) c.2.1 (cx b c):=by
 have hl:=(h.lefts hc).1
 cases hp:å c.2.2.1 c.2.2.2.1 with
 |nil=>exact .none rfl (by unfold cx atP; rw[hp])
 |cons x t =>
  rw[hp] at hl
  have:t=[]:=by cases t with|nil=>rfl|cons=>simp at hl
  subst this;obtain⟨j,hj⟩:=aae h hc (x:=x) (.inl (jU.1 (by rw[hp]; simp)));exact .one x j rfl hj (by unfold cx atP; rw[hp]; simp only[hj])
def Ri (h:Ď b) {c:Cmp} (hc:c∈b.2.2.2.2.1):ahX b (å c.2.2.2.1 c.2.2.1) c.2.1 (cy b c):=by
 have hl:=(h.lefts hc).2.1
 cases hp:å c.2.2.2.1 c.2.2.1 with
 |nil=>exact .none rfl (by unfold cy atP; rw[hp])
 |cons x t =>
  rw[hp] at hl
  have:t=[]:=by cases t with|nil=>rfl|cons=>simp at hl
  subst this;obtain⟨j,hj⟩:=aae h hc (x:=x) (.inr (jU.1 (by rw[hp]; simp)));exact .one x j rfl hj (by unfold cy atP; rw[hp]; simp only[hj])
def ahX.rng {p:List Int} {d n:Int} (h:ahX b p d n):0≤n∧n<((Ì b).length+1:Nat):=by
 rcases h with⟨_,h⟩|⟨x,j,_,h1,h2⟩
 ·omega
 ·have:=(kv h1).1;omega
def amr (h:Ď b) {c:Cmp} (hc:c∈b.2.2.2.2.1):cx b c≠cy b c:=by
 have hl:=(h.lefts hc).2.2;rcases YD h hc with⟨h1,h2⟩|⟨x,j,h1,h2,h3⟩
 ·rcases Ri h hc with⟨g1,g2⟩|⟨y,k,g1,g2,g3⟩
  ·rw[h1,g1] at hl; simp at hl
  ·omega
 ·rcases Ri h hc with⟨g1,g2⟩|⟨y,k,g1,g2,g3⟩
  ·omega
  ·intro e
   have:j=k:=by omega
   subst this;have e1:=(kv h2).2;have e2:=(kv g2).2;rw[e1] at e2;simp only[Option.some.injEq,Prod.mk.injEq] at e2
   have m1:x∈å c.2.2.1 c.2.2.2.1:=by rw[h1]; simp
   have m2:y∈å c.2.2.2.1 c.2.2.1:=by rw[g1]; simp
   rw[e2.1] at m1;exact(jU.1 m1).2 (jU.1 m2).1
def QL (h:Ď b):(á b).length=2*(Ì b).length+2*b.2.2.2.2.1.length:=by
 have h1:∀l:List î,(∀g∈l,g∈b.2.1)→(l.flatMap (ë b)).length=2*(l.flatMap fun g=>(Û b g).map fun d=>((g.1,d):Int×Int)).length:=by
  intro l
  induction l with
  |nil=>intro _; rfl
  |cons g t ih =>
   intro hm;have:=ih fun g hg=>hm g (by simp[hg]);have hp:=List.length_pos_of_mem (ka (b:=b) g);simp only[List.flatMap_cons,List.length_append,List.length_map,this];unfold ë;rw[List.length_append,Š _ _ (fun _=>rfl)];simp only[List.length_cons,List.length_nil];omega
 have h2:∀l:List Cmp,(l.flatMap (ï b)).length=2*l.length:=by
  intro l
  induction l with
  |nil=>rfl
  |cons c t ih =>
   simp only[dL,cR,ih,ï,dc,dm];omega
 unfold á;rw[List.length_append,h1 _ fun _ h=>h,h2];rfl
def ľ (h:Ď b) {i:Nat} {g:î} (hg:b.2.1[i]?=some g) {l:Lk}:l∈ë b g ↔
 l=(0,(off b i:Int)+1,g.2.2.1+g.2.2.2.1.2)∨l=((off b i:Int)+1,0,-(g.2.2.1+g.2.2.2.1.1)) ∨
 ∃(k:Nat) (d e:Int),(Û b g)[k]?=some d∧(Û b g)[k+1]?=some e∧(l=((off b i:Int)+k+1,(off b i:Int)+k+2,0)∨l=((off b i:Int)+k+2,(off b i:Int)+k+1,iT b g d e)):=by
 unfold ë;rw[agm h hg];simp only[List.mem_append,List.mem_cons,List.not_mem_nil,or_false,List.mem_flatMap,List.mem_range];constructor
 ·rintro((h1|h1)|⟨k,hk,h1⟩)
  ·exact .inl h1
  ·exact .inr (.inl h1)
  ·refine .inr (.inr ⟨k,(Û b g)[k],(Û b g)[k+1],cN (by omega),cN (by omega),?_⟩);rw[cN (show k<(Û b g).length by omega),cN (show k+1<(Û b g).length by omega)] at h1;simp only[fK] at h1
   have e1:(off b i:Int)+1+k=(off b i:Int)+k+1:=by omega
   have e2:(off b i:Int)+k+1+1=(off b i:Int)+k+2:=by omega
   rw[e1,e2] at h1;exact h1
 ·rintro(h1|h1|⟨k,d,e,hd,he,h1⟩)
  ·exact .inl (.inl h1)
  ·exact .inl (.inr h1)
  ·obtain⟨h2,rfl⟩:=cX.1 hd;obtain⟨h3,rfl⟩:=cX.1 he;refine .inr ⟨k,by omega,?_⟩;rw[hd,he];simp only[fK]
   have e1:(off b i:Int)+1+k=(off b i:Int)+k+1:=by omega
   have e2:(off b i:Int)+k+1+1=(off b i:Int)+k+2:=by omega
   rw[e1,e2];exact h1
def pn {l:Lk}:l∈á b↔(∃(i:Nat) (g:î),b.2.1[i]?=some g∧l∈ë b g)∨∃c∈b.2.2.2.2.1,l=(cy b c,cx b c,(Ŗ b c).2)∨l=(cx b c,cy b c,-(Ŗ b c).1):=by
 unfold á;simp only[List.mem_append,List.mem_flatMap,ï,List.mem_cons,List.not_mem_nil,or_false];constructor
 ·rintro(⟨g,hg,h⟩|h)
  ·obtain⟨i,hi,rfl⟩:=dj.1 hg;exact .inl ⟨i,_,cN hi,h⟩
  ·exact .inr h
 ·rintro(⟨i,g,hg,h⟩|h)
  ·exact .inl ⟨g,cY hg,h⟩
  ·exact .inr h
def Ď.sys (h:Ď b):ĺ (á b) ((Ì b).length+1):=by
 have hN:=h.nodes;have hL:=h.links
 have key:∀l∈á b,((0≤l.1∧l.1<((Ì b).length+1:Nat))∧(0≤l.2.1∧l.2.1<((Ì b).length+1:Nat)))∧l.1≠l.2.1∧(-4503599627370496≤l.2.2∧l.2.2≤4503599627370496):=by
  intro l hl;rcases pn.1 hl with⟨i,g,hg,hl⟩|⟨c,hc,hl⟩
  ·have hgm:=cY hg;have hr:=h.gaugeR hgm;have ho:=aiO h hg;have hp:=gc (ka (b:=b) g);have r1:=hr.2.2.2.2.2.1;have r2:=hr.2.2.2.2.2.2.1;rcases(ľ h hg).1 hl with rfl|rfl|⟨k,d,e,hd,he,h1⟩
   ·dsimp only; omega
   ·dsimp only; omega
   ·obtain⟨h2,_⟩:=cX.1 he;have d1:=h.day hgm (cY hd);have lb:=ji h hgm (t:=e) d1.2.1;rcases h1 with rfl|rfl
    ·dsimp only; omega
    ·dsimp only; omega
  ·have a:=(YD h hc).rng;have b':=(Ri h hc).rng;have ne:=amr h hc;have sb:=pE h hc;rcases hl with rfl|rfl
   ·dsimp only; omega
   ·dsimp only; omega
 exact⟨by omega,by omega,by rw[QL h]; omega,fun l hl=>(key l hl).1,fun l hl=>(key l hl).2.1,fun l hl=>(key l hl).2.2⟩
end
def akD {ρ:Type}:@vA ρ=@hZ ρ:=rfl
def akC {ρ:Type}:@vz ρ=@Ř ρ:=rfl
def akB {ρ:Type}:@vy ρ=@į ρ:=rfl
def abV {ρ:Type} {N:Nat} (hN:N≤1000) (x:Option ρ):ì ((ile (0:Int) (N:Int))&&(ê N)) x=x:=by
 have:=vW hN x
 rwa [di] at this
section
variable {L:List Lk} {N:Nat} {M:Int}
def Zn {s:Int} (hs:0≤s∧s<N):(List.replicate N ĭ).set s.toNat 0=Ł (A1 s) N:=by
 refine Vb (by simp[æ]) fun v h0 h1=>?_
 have hv:v<N:=by simpa using h1
 rw[ū _ h0 hv,t8 hs.1 h0 (by simp; omega)];unfold A1
 by_cases h:v=s
 ·simp[h]
 ·simp only[h,if_false,beq_iff_eq];unfold gv;rw[List.getElem?_replicate]
  have:v.toNat<N:=by omega
  simp[this]
def akA (hL:iN L N M) (h1:1≤N) (hN:N≤200) (ho:ě L N=true) {s:Int} (hs:0≤s∧s<N):AF ((N:Int),L) [] s=some (jJ L N s):=by
 obtain⟨p,hp⟩:=(Ŏ hL hN).1 ho;unfold AF Jp;rw[akD,akC,akB];dsimp only;rw[vW (by omega),Int.toNat_natCast];refine ñ (List.replicate N (0:Int)) (fun i=>List.replicate i ĭ++List.replicate (N-i) 0) _ (by simp) (fun i a hi ha kn=>?_) (fun kn=>?_)
 ·dsimp only;unfold oO
  have hiN:i<N:=by simpa using hi
  have hl:i<(List.replicate i ĭ++List.replicate (N-i) (0:Int)).length:=by simp; omega
  rw[Ô hi,ι hl,Ĥ (cN hl),Î hiN (by omega),di];congr 2;rw[gM _ _ (by simp)]
  have:N-i=(N-(i+1))+1:=by omega
  rw[this,fu,gB,gu,List.set_cons_zero,List.replicate_succ'];simp
 ·try dsimp only
  unfold oO;rw[à];dsimp only
  have e0:List.replicate (List.replicate N (0:Int)).length ĭ++List.replicate (N-(List.replicate N (0:Int)).length) 0=List.replicate N ĭ:=by simp
  rw[e0]
  have hlen:s.toNat<(List.replicate N ĭ).length:=by simp; omega
  rw[show ą (List.replicate N ĭ)=((N:Nat):Int) by simp[ą],Ĩ hs.1 hs.2,jH hlen,abV (by omega),abV (by omega),Zn hs];refine eR (afR hL _) ?_
  have hS:∀v,A1 s v=true→0≤v∧v<N:=fun v h=>by simp[A1] at h; subst h; exact hs
  refine aij (æ _ _) (by omega) _ fun w q hw hq hr hwq hqs=>?_;have hs0:=Ub hL h1 hS hw hq hr hwq hqs;refine Zp hL (aiW hL hN) hp hS _ (fun x w t q hx hd=>?_) hs0
  have:x=jJ L N s:=by
   refine Vb (by rw[hx]; unfold jJ; rw[ù,æ]) fun v a b=>?_;exact hd.uniq (jp hL hN hp hs) a (by omega)
  dsimp only;rw[this]
def ip (L:List Lk) (N:Nat) (s t:Int):Int×Int :=
 if !ě L N then(0,9) else if gv (jJ L N s) t=ĭ then(0,5) else(gv (jJ L N s) t,0)
def amS (h:ĺ L N) {ns:List Int} (hn:∀n∈ns,0≤n∧n<N) (hl:ns.length≤1000):HE ((N:Int),L) ns=some (if ě L N then 0 else 9):=by
 have h2:=h.n60;unfold HE PW;rw[lS h,À];dsimp only;rw[Ò (by rfl)];refine Eq.trans (ic ns (fun _=>false) (fun _=>some 1) (some (if ě L N then 0 else 9)) (fun i n hi hm kn=>?_) (fun kn=>?_)) ?_
 ·try dsimp only
  unfold rr;have a:=hn n (List.mem_of_getElem? hm)
  have e:(decide (0≤n)&&decide (n<(N:Int)))=true:=by simp[a.1,a.2]
  rw[Ô hi,Ë hm,Od,À,e,Î hi (by omega)];simp
 ·try dsimp only
  unfold rr;rw[à,CQ h.links h.n1 (by omega),À]
  cases ě L N<;>rfl
 ·rw[eA.2 (by simp)]
def NF (h:ĺ L N) {s t:Int} (hs:0≤s∧s<N) (ht:0≤t∧t<N):qt ((N:Int),L) s t=some (ip L N s t):=by
 have h2:=h.n60;unfold qt Qa ip
 rw[amS h (fun n hn=>by simp at hn; rcases hn with rfl|rfl<;>assumption) (by simp),À]
 by_cases ho:ě L N=true
 ·rw[if_pos ho,Ò (by rfl),akA h.links h.n1 (by omega) ho hs,À,sH ht.1 (by unfold jJ; rw[ù,æ]; omega),Ĕ,if_neg (show ¬(!ě L N)=true by simp[ho])]
  by_cases hf:gv (jJ L N s) t=ĭ
  ·rw[if_pos (by simpa[ieq] using hf),if_pos hf]
  ·rw[if_neg (by simpa[ieq] using hf),if_neg hf]
 ·rw[if_neg ho,Õ (by rfl),if_pos (show(!ě L N)=true by simpa using ho)]
end
def Ø (b:ß) (c:Cmp):ß:=(b.1,b.2.1,b.2.2.1,b.2.2.2.1,b.2.2.2.2.1++[c],b.2.2.2.2.2)
def kQ:ß:=((0,0),[],[],[],[],[])
def wx (b:ß) (c:Cmp):ß×Int:=if ä b≠0 then(kQ,ä b) else if ä (Ø b c)≠0 then(kQ,ä (Ø b c)) else(Ø b c,0)
def aah {b:ß} (h:Ď b) {c:Cmp} (hA:c.2.2.1.length≤1000) (hB:c.2.2.2.1.length≤1000):Ŵ (Ø b c):=by
 have hs:=h.size;have:=h.nC;refine⟨hs.gauges,hs.uses,hs.loans,by simp[Ø]; omega,hs.looks,fun d hd=>?_⟩;rcases cW.1 (show d∈b.2.2.2.2.1++[c] from hd) with hd|hd
 ·exact hs.piles d hd
 ·simp at hd; subst hd; exact⟨hA,hB⟩
def akM {b:ß} (hs:Ŵ b) (hr:∀g∈b.2.1,I64 g.2.2.2.2.1.1) {c:Cmp} (hA:c.2.2.1.length≤1000) (hB:c.2.2.2.1.length≤1000):oX b c=some (wx b c):=by
 unfold oX Ya wx;have h1:=hs.gauges; have h2:=hs.uses; have h3:=hs.loans; have h4:=hs.compares; have h5:=hs.looks;rw[Ö (by omega),Am.iff_true,Ö (by omega),Am.iff_true,ja hs hr,À]
 by_cases hc:ä b=0
 ·have h:=(ð b).1 hc;rw[Ò (by simp[ine,hc]),Ö (by omega),Am.iff_true,Ö (by omega),Am.iff_true,Ö (by omega),Am.iff_true,Ö (by omega),Am.iff_true,Ö (by omega),Am.iff_true,if_neg (show ¬(ä b≠0) from fun h=>h hc)];refine ñ b.2.2.2.2.1 (fun _=>b.2.2.2.2.1) _ rfl (fun i d hi hd kn=>?_) (fun kn=>?_)
  ·dsimp only;unfold vQ;obtain⟨p1,p2⟩:=hs.piles d (List.mem_of_getElem? hd)
   have e1:b.2.2.2.2.1.set i d=b.2.2.2.2.1:=by
    obtain⟨h,rfl⟩:=cX.1 hd;exact List.set_getElem_self h
   rw[Ô hi,ι hi,Ĥ hd,Ö (by omega),Am.iff_true,Ö (by omega),Am.iff_true,ι hi,Ĥ hd,di];rw[show(d.1,d.2.1,d.2.2.1,d.2.2.2)=d from rfl,e1,ι hi,oD hd,Î hi (by omega)];rw[show(d.1,d.2.1,d.2.2.1,d.2.2.2.1,d.2.2.2.2)=d from rfl,e1]
  ·try dsimp only
   unfold vQ;rw[à];dsimp only;rw[Ö (by simp only[List.length_singleton]; omega),Am.iff_true];rw[show ÿ (b.1,b.2.1,b.2.2.1,b.2.2.2.1,b.2.2.2.2.1++[c],b.2.2.2.2.2)=ÿ (Ø b c) from rfl,ja (aah h hA hB) hr,À]
   by_cases hc2:ä (Ø b c)=0
   ·rw[Ò (by simp[ine,hc2]),if_neg (show ¬(ä (Ø b c)≠0) from fun h=>h hc2)];rfl
   ·rw[Õ (by simp[ine,hc2]),if_pos hc2];rfl
 ·rw[Õ (by simp[ine,hc]),if_pos hc];rfl
def Â (c:Cmp):Cmp:=(c.1,c.2.1,c.2.2.1,c.2.2.2.1,0,c.2.2.2.2.2)
def TW (b:ß) (c:Cmp):Int:=D3 (Ĝ b c).1+(ik b c).1-c.2.2.2.2.2.1
def sI (b:ß) (c:Cmp):Int:=(Ĝ b c).2.1 / (Ĝ b c).2.2+(ik b c).2+c.2.2.2.2.2.1
def Kr (b:ß) (c:Cmp) (s:Int×Int):(Int×Int)×Int:=if sI b c<TW b c then((0,0),5) else((s.1+TW b c,s.2+sI b c),0)
structure aeZ (b:ß) (c:Cmp):Prop where
 nums:L1 c=true
 r1:qD (Ek (iA b) (å c.2.2.1 c.2.2.2.1)) 1000 100
 r2:qD (Ek (iA b) (å c.2.2.2.1 c.2.2.1)) 1000 100
def Ď.cmp {b:ß} (h:Ď b) {c:Cmp} (hc:c∈b.2.2.2.2.1):aeZ b c:=⟨h.nums hc,(h.rates hc).1,(h.rates hc).2⟩
def nc {b:ß} (hf:0≤b.1.1∧b.1.1≤b.1.2∧b.1.2≤1000000) {c:Cmp} (h:aeZ b c):qD (Ĝ b c).1 2000000000 10000∧qD (Ĝ b c).2 2000000000 10000∧(-3000000000≤D3 (Ĝ b c).1+(ik b c).1∧D3 (Ĝ b c).1+(ik b c).1≤3000000000) ∧
 (-3000000000≤(Ĝ b c).2.1 / (Ĝ b c).2.2+(ik b c).2∧(Ĝ b c).2.1 / (Ĝ b c).2.2+(ik b c).2≤3000000000)∧(0≤c.2.2.2.2.2.1∧c.2.2.2.2.2.1≤1073741824):=by
 have hn:=(Ũ c).1 h.nums;have ha:=ė hn.2.2.2.2.2.1;have hb:=ė hn.2.2.2.2.2.2;obtain⟨g1,g2⟩:=We (NJ h.r1 h.r2) hn.2.2.2.2.1;have fb:=ql (b:=b) (c:=c) (by omega) (by omega) (by omega) (by omega) (by omega) (by omega);have q1:qD (Ĝ b c).1 2000000000 10000:=g1;have q2:qD (Ĝ b c).2 2000000000 10000:=g2;have c1:=uF q1;have c2:=qj q2;exact⟨q1,q2,by omega,by omega,hn.2.2.2.1⟩
def alC {b:ß} (hs:Ŵ b) (hf:0≤b.1.1∧b.1.1≤b.1.2∧b.1.2≤1000000) {c:Cmp} (h:aeZ b c) {s:Int×Int} (h1 : -2305843009213693952≤s.1∧s.1≤2305843009213693952) (h2 : -2305843009213693952≤s.2∧s.2≤2305843009213693952):uB b c s=some (Kr b c s):=by
 have hn:=(Ũ c).1 h.nums;have ha:=ė hn.2.2.2.2.2.1;have hb:=ė hn.2.2.2.2.2.2;obtain⟨q1,q2,b1,b2,b3⟩:=nc hf h;unfold uB Qs Kr TW sI;rw[abY hs (by omega) (by omega) h.r1 h.r2 hn.2.2.2.2.1,À,afZ (by omega) (by omega) (by omega) (by omega) (by omega) (by omega),À,ala q1.rat,À,agA q2.rat,À];dsimp only;rw[Ó (by omega) (by omega),Ó (by omega) (by omega),Ó (by omega) (by omega),Ó (by omega) (by omega),Ĕ]
 by_cases hlt:(Ĝ b c).2.1 / (Ĝ b c).2.2+(ik b c).2+c.2.2.2.2.2.1<D3 (Ĝ b c).1+(ik b c).1-c.2.2.2.2.2.1
 ·rw[if_pos (by simpa[igt] using hlt),if_pos hlt]
 ·rw[if_neg (by simpa[igt] using hlt),if_neg hlt,Ó (by omega) (by omega),Ó (by omega) (by omega)]
def â (b:ß):List Lk:=(á b).take ((á b).length-2)
def û (b:ß) (c:Cmp):(Int×Int)×Int :=
 if (wx b (Â c)).2≠0 then((0,0),(wx b (Â c)).2) else
 if (ip (â (Ø b (Â c))) ((Ì (Ø b (Â c))).length+1) (cy (Ø b (Â c)) (Â c)) (cx (Ø b (Â c)) (Â c))).2≠0 then
  ((0,0),(ip (â (Ø b (Â c))) ((Ì (Ø b (Â c))).length+1) (cy (Ø b (Â c)) (Â c)) (cx (Ø b (Â c)) (Â c))).2) else
 if (ip (â (Ø b (Â c))) ((Ì (Ø b (Â c))).length+1) (cx (Ø b (Â c)) (Â c)) (cy (Ø b (Â c)) (Â c))).2≠0 then
  ((0,0),(ip (â (Ø b (Â c))) ((Ì (Ø b (Â c))).length+1) (cx (Ø b (Â c)) (Â c)) (cy (Ø b (Â c)) (Â c))).2) else
 Kr b (Â c) (-(ip (â (Ø b (Â c))) ((Ì (Ø b (Â c))).length+1) (cx (Ø b (Â c)) (Â c)) (cy (Ø b (Â c)) (Â c))).1,
  (ip (â (Ø b (Â c))) ((Ì (Ø b (Â c))).length+1) (cy (Ø b (Â c)) (Â c)) (cx (Ø b (Â c)) (Â c))).1)
def acU {L:List Lk} {N:Nat} (h:ĺ L N) {s t:Int} (hs:0≤s∧s<N) (ht:0≤t∧t<N) : -2305843009213693952≤(ip L N s t).1∧(ip L N s t).1≤2305843009213693952:=by
 unfold ip;have h2:=h.n60
 split
 ·simp
 ·rename_i ho
  have ho':ě L N=true:=by simpa using ho
  obtain⟨p,hp⟩:=(Ŏ h.links (by omega)).1 ho';have hd:=jp h.links (by omega) hp hs
  split
  ·simp
  ·rename_i hne;dsimp only;have hb:=hd.bd t ht.1 ht.2;obtain⟨vs,hw⟩:=hd.att t ht.1 ht.2 hne;have h3:=hw.low' hp;have h4:=Og (L:=L) (fun l hl=>(h.most l hl).1) (M:=4503599627370496) (by omega);have h5:=h.len;unfold ĭ at hb
   constructor<;>omega
def ahV {b:ß} (hs:Ŵ b) (hr:∀g∈b.2.1,I64 g.2.2.2.2.1.1) {c:Cmp} (hA:c.2.2.1.length≤1000) (hB:c.2.2.2.1.length≤1000):wn b c=some (û b c):=by
 unfold wn DT û;rw[show oX b (c.1,c.2.1,c.2.2.1,c.2.2.2.1,0,c.2.2.2.2.2)=oX b (Â c) from rfl,akM hs hr (c:=Â c) hA hB,À]
 by_cases hw:(wx b (Â c)).2=0
 ·rw[Ò (by simp[ine,hw]),if_neg (show ¬((wx b (Â c)).2≠0) from fun h=>h hw)]
  -- the book is valid, and so is the greater one
  have hb:ä b=0:=by
   unfold wx at hw
   split at hw
   ·rename_i h; exact(h hw).elim
   ·rename_i h; simpa using h
  have hm:ä (Ø b (Â c))=0:=by
   unfold wx at hw;rw[if_neg (by simp[hb])] at hw
   split at hw
   ·rename_i h; exact(h hw).elim
   ·rename_i h; simpa using h
  have he:wx b (Â c)=(Ø b (Â c),0):=by
   unfold wx;rw[if_neg (by simp[hb]),if_neg (by simp[hm])]
  have g:=(ð b).1 hb;have gm:=(ð _).1 hm
  have hmem:Â c∈(Ø b (Â c)).2.2.2.2.1:=by simp[Ø]
  have hN:=gm.nodes;have hll:=QL gm
  have hcl:(Ø b (Â c)).2.2.2.2.1.length=b.2.2.2.2.1.length+1:=by simp[Ø]
  have hlk:=gm.links;have hsys:ĺ (â (Ø b (Â c))) ((Ì (Ø b (Â c))).length+1):=gm.sys.sub (fun l hl=>List.mem_of_mem_take hl) (by unfold â; rw[List.length_take]; omega);have hx:=(YD gm hmem).rng;have hy:=(Ri gm hmem).rng;have lA:c.2.2.1.length≤1000:=hA;rw[he];dsimp only;rw[afM gm,À];dsimp only;rw[é,Ó (by omega) (by omega)]
  have e1:((ile (0:Int) (((á (Ø b (Â c))).length:Int)-2))&&(ile (((á (Ø b (Â c))).length:Int)-2) (ą (á (Ø b (Â c))))))=true:=by
   simp[ile,ą]; omega
  have e2:(((á (Ø b (Â c))).length:Int)-2).toNat=(á (Ø b (Â c))).length-2:=by omega
  rw[ħ e1,sF (by omega) (by omega),À,akG _ _ _ (by dsimp only; omega),À,sF (by omega) (by omega),À,akG _ _ _ (by dsimp only; omega),À,e2]
  have e3:(((Ì (Ø b (Â c))).length:Int)+1)=(((Ì (Ø b (Â c))).length+1:Nat):Int):=by push_cast; rfl
  rw[e3];rw[show List.take ((á (Ø b (Â c))).length-2) (á (Ø b (Â c)))=â (Ø b (Â c)) from rfl];dsimp only;rw[show atP (Ì (Ø b (Â c))) (å c.2.2.1 c.2.2.2.1) c.2.1=cx (Ø b (Â c)) (Â c) from rfl,show atP (Ì (Ø b (Â c))) (å c.2.2.2.1 c.2.2.1) c.2.1=cy (Ø b (Â c)) (Â c) from rfl];rw[NF hsys hy hx,À,NF hsys hx hy];have b1:=acU hsys hy hx;have b2:=acU hsys hx hy;generalize hB1:ip (â (Ø b (Â c))) ((Ì (Ø b (Â c))).length+1) (cy (Ø b (Â c)) (Â c)) (cx (Ø b (Â c)) (Â c))=B1 at b1 ⊢;generalize hB2:ip (â (Ø b (Â c))) ((Ì (Ø b (Â c))).length+1) (cx (Ø b (Â c)) (Â c)) (cy (Ø b (Â c)) (Â c))=B2 at b2 ⊢
  by_cases h1:B1.2=0
  ·rw[Ò (by simp[ine,h1]),if_neg (show ¬(B1.2≠0) from fun h=>h h1),À]
   by_cases h2:B2.2=0
   ·rw[Ò (by simp[ine,h2]),if_neg (show ¬(B2.2≠0) from fun h=>h h2),Ó (by omega) (by omega)];have hck:aeZ b (Â c):=⟨(gm.cmp hmem).nums,(gm.cmp hmem).r1,(gm.cmp hmem).r2⟩;rw[show uB b (c.1,c.2.1,c.2.2.1,c.2.2.2.1,0,c.2.2.2.2.2) (0-B2.1,B1.1)=uB b (Â c) (0-B2.1,B1.1) from rfl,alC g.size g.film hck (by dsimp only; omega) (by dsimp only; omega),À,Int.zero_sub]
   ·rw[Õ (by simp[ine,h2]),if_pos h2]
  ·rw[Õ (by simp[ine,h1]),if_pos h1]
 ·rw[Õ (by simp[ine,hw]),if_pos hw]
structure In (b:ß):Prop where
 size:Ŵ b
 num:∀g∈b.2.1,I64 g.2.2.2.2.1.1
def YZ (b:ß):Sys×List (Int×Int)×Int:=if ä b≠0 then((0,[]),[],ä b) else((((Ì b).length:Int)+1,á b),Ŭ b,0)
def qA {b:ß} (h:In b):Į b=some (YZ b):=by
 unfold Į JG YZ;rw[ja h.size h.num,À]
 by_cases hc:ä b=0
 ·rw[Ò (by simp[ine,hc]),afM ((ð b).1 hc),À,if_neg (show ¬(ä b≠0) from fun h=>h hc)]
 ·rw[Õ (by simp[ine,hc]),if_pos hc]
def cmp0:Cmp:=(0,0,[],[],0,0,0,0)
def sQ (b:ß) (i:Int):Cmp×Int:=if ä b≠0 then(cmp0,ä b) else if i<0∨(b.2.2.2.2.1.length:Int)≤i then(cmp0,1) else(b.2.2.2.2.1[i.toNat]?.getD cmp0,0)
def alj {b:ß} (h:In b) (i:Int):HG b i=some (sQ b i):=by
 unfold HG Qq sQ;rw[ja h.size h.num,À]
 by_cases hc:ä b=0
 ·rw[Ò (by simp[ine,hc]),if_neg (show ¬(ä b≠0) from fun h=>h hc),é]
  by_cases h1:i<0
  ·rw[Õ (by simp[ilt,h1]),if_pos (.inl h1)]; rfl
  ·rw[Ò (by simp[ilt]; omega)]
   by_cases h2:(b.2.2.2.2.1.length:Int)≤i
   ·rw[Õ (by simp[ige,h2]),if_pos (.inr h2)]; rfl
   ·rw[Ò (by simp[ige]; omega),if_neg (by omega)];obtain⟨j,rfl⟩:=gG (show 0≤i by omega)
    have hj:j<b.2.2.2.2.1.length:=by omega
    rw[Ë (cN hj),di,cN hj];rfl
 ·rw[Õ (by simp[ine,hc]),if_pos hc]; rfl
def acZ {b:ß} {i:Int} (h:(sQ b i).2=0):Ď b∧(sQ b i).1∈b.2.2.2.2.1∧b.2.2.2.2.1[i.toNat]?=some (sQ b i).1∧0≤i:=by
 unfold sQ at h ⊢
 split at h
 ·rename_i hc; exact(hc h).elim
 ·rename_i hc
  have hc0:ä b=0:=by simpa using hc
  split at h
  ·simp at h
  ·rename_i hi
   have hj:i.toNat<b.2.2.2.2.1.length:=by omega
   rw[if_neg hc,if_neg hi,cN hj];exact⟨(ð b).1 hc0,fp hj,rfl,by omega⟩
def amW (b:ß) (i:Int):(Int×Int)×Int:=if (sQ b i).2≠0 then((0,0),(sQ b i).2) else(Ŗ b (sQ b i).1,0)
def aow {b:ß} (h:In b) (i:Int):Nz b i=some (amW b i):=by
 unfold Nz Yc amW;rw[alj h,À]
 by_cases hw:(sQ b i).2=0
 ·obtain⟨g,hm,_,_⟩:=acZ hw;rw[Ò (by simp[ine,hw]),g.says hm,À,if_neg (show ¬((sQ b i).2≠0) from fun h=>h hw)]
 ·rw[Õ (by simp[ine,hw]),if_pos hw]
def exB:ß:=((0,2),[(1,0,1000,(-5,5),(1,10),1),(2,0,1000,(-50,50),(1,4),0)],[(1,10)],[(1,(20,29),3)],[(7,10,[1],[2],-20,1,100,200)],[])
def zH:In exB:=⟨⟨by decide,by decide,by decide,by decide,by decide,by decide⟩,by
 intro g hg;simp[exB] at hg
 rcases hg with rfl|rfl<;>exact⟨by decide,by decide⟩⟩
def exC:Cmp:=(8,10,[1],[2],0,0,0,0)
def vX (b:ß) (x d:Int):Int:=match iB (Ì b) x d with|some j=>(j:Int)+1|none=>0
def agz (b:ß) (n:Int×Int):Int×Int:=if ä b≠0 then(0,ä b) else if vX b n.1 n.2=0 then(0,5) else(vX b n.1 n.2,0)
def RT {b:ß} (h:In b) (n:Int×Int):ũ b n=some (agz b n):=by
 have hl:=Iy h.size;unfold ũ QH agz;rw[ja h.size h.num,À]
 by_cases hc:ä b=0
 ·rw[Ò (by simp[ine,hc]),if_neg (show ¬(ä b≠0) from fun h=>h hc),Wj h.size,À,show þ (Ì b) n=þ (Ì b) (n.1,n.2) from rfl,acP (by omega),À];unfold vX
  cases hx:iB (Ì b) n.1 n.2 with
  |none=>rfl
  |some j =>
   have:=(kv hx).1;simp only;rw[Ò (by simp[ilt]),Ó (by omega) (by omega),if_neg (by omega)]
 ·rw[Õ (by simp[ine,hc]),if_pos hc]
def jj (b:ß) (n:Int×Int):ß:=(b.1,b.2.1,b.2.2.1,b.2.2.2.1,b.2.2.2.2.1,b.2.2.2.2.2++[n])
def abM {b:ß} (h:Ď b) (n:Int×Int):Ŵ (jj b n):=by
 have hs:=h.size;have:=h.nK;exact⟨hs.gauges,hs.uses,hs.loans,hs.compares,by simp[jj]; omega,hs.piles⟩
def ahW (b:ß) (n:Int×Int):ß×Int:=if ä b≠0 then(kQ,ä b) else if ä (jj b n)≠0 then(kQ,ä (jj b n)) else(jj b n,0)
def aoB {b:ß} (h:In b) (n:Int×Int):j9 b n=some (ahW b n):=by
 have hs:=h.size;have h1:=hs.gauges; have h2:=hs.uses; have h3:=hs.loans; have h4:=hs.compares; have h5:=hs.looks;unfold j9 Yd ahW;rw[ja hs h.num,À]
 by_cases hc:ä b=0
 ·have hg:=(ð b).1 hc;rw[Ò (by simp[ine,hc]),Ö (by omega),Am.iff_true,Ö (by omega),Am.iff_true,Ö (by omega),Am.iff_true,Ö (by omega),Am.iff_true,Ö (by omega),Am.iff_true,if_neg (show ¬(ä b≠0) from fun h=>h hc)];refine ñ b.2.2.2.2.1 (fun _=>b.2.2.2.2.1) _ rfl (fun i d hi hd kn=>?_) (fun kn=>?_)
  ·dsimp only;unfold vR;obtain⟨p1,p2⟩:=hs.piles d (List.mem_of_getElem? hd)
   have e1:b.2.2.2.2.1.set i d=b.2.2.2.2.1:=by
    obtain⟨h,rfl⟩:=cX.1 hd;exact List.set_getElem_self h
   rw[Ô hi,ι hi,Ĥ hd,Ö (by omega),Am.iff_true,Ö (by omega),Am.iff_true,ι hi,Ĥ hd,di];rw[show(d.1,d.2.1,d.2.2.1,d.2.2.2)=d from rfl,e1,ι hi,oD hd,Î hi (by omega)];rw[show(d.1,d.2.1,d.2.2.1,d.2.2.2.1,d.2.2.2.2)=d from rfl,e1]
  ·try dsimp only
   unfold vR;rw[à];dsimp only;rw[Ö (by simp only[List.length_singleton]; omega),Am.iff_true];rw[show ÿ (b.1,b.2.1,b.2.2.1,b.2.2.2.1,b.2.2.2.2.1,b.2.2.2.2.2++[n])=ÿ (jj b n) from rfl,ja (abM hg n) h.num,À]
   by_cases hc2:ä (jj b n)=0
   ·rw[Ò (by simp[ine,hc2]),if_neg (show ¬(ä (jj b n)≠0) from fun h=>h hc2)];rfl
   ·rw[Õ (by simp[ine,hc2]),if_pos hc2];rfl
 ·rw[Õ (by simp[ine,hc]),if_pos hc];rfl
section
variable {b:ß}
def aiP:off b b.2.1.length=(Ì b).length:=by unfold off Ì; rw[List.take_length]
def afG:∀n,n≤b.2.1.length→∀j,j<off b n→∃(i:Nat) (g:î) (k:Nat),b.2.1[i]?=some g∧k<(Û b g).length∧j=off b i+k:=by
 intro n
 induction n with
 |zero=>intro _ j hj; simp[off] at hj
 |succ n ih =>
  intro hn j hj;have hg:b.2.1[n]?=some b.2.1[n]:=cN (by omega);rw[alQ hg] at hj
  by_cases h:j<off b n
  ·exact ih (by omega) j h
  ·exact⟨n,_,j-off b n,hg,by omega,by omega⟩
def Uw {v:Int} (h0:1≤v) (h1:v<((Ì b).length+1:Nat)):∃(i:Nat) (g:î) (k:Nat),b.2.1[i]?=some g∧k<(Û b g).length∧v=(off b i:Int)+k+1:=by
 obtain⟨i,g,k,h2,h3,h4⟩:=afG (b:=b) b.2.1.length (cO _) (v-1).toNat (by rw[aiP]; omega);exact⟨i,g,k,h2,h3,by omega⟩
def GL (b:ß) (L:List Lk):Prop:=∀(i:Nat) (g:î),b.2.1[i]?=some g→∀l∈ë b g,l∈L
def afU:GL b (á b):=fun i g hg l hl=>pn.2 (.inl ⟨i,g,hg,hl⟩)
def aif {L:List Lk} (h:Ď b) (hL:GL b L) {v:Int} (h0:0≤v) (h1:v<((Ì b).length+1:Nat)):∃vs d,Wl L (fun u=>u=0) vs v d∧d≤4503599627370496:=by
 by_cases hv:v=0
 ·exact⟨[],0,.nil hv,by omega⟩
 obtain⟨i,g,k,hg,hk,rfl⟩:=Uw (by omega) h1;have hr:=h.gaugeR (cY hg);have r1:=hr.2.2.2.2.2.1;have r2:=hr.2.2.2.2.2.2.1
 have key:∀k:Nat,k<(Û b g).length→∃vs,Wl L (fun u=>u=0) vs ((off b i:Int)+k+1) (g.2.2.1+g.2.2.2.1.2):=by
  intro k
  induction k with
  |zero =>
   intro _;have hw:Wl L (fun u=>u=0) [0] ((off b i:Int)+1) (0+(g.2.2.1+g.2.2.2.1.2)):=Wl.step (.nil rfl) (hL i g hg _ ((ľ h hg).2 (.inl rfl)));rw[Int.zero_add] at hw;exact⟨[0],by simpa using hw⟩
  |succ k ih =>
   intro hk;obtain⟨vs,hw⟩:=ih (by omega);have hw':=Wl.step hw (hL i g hg _ ((ľ h hg).2 (.inr (.inr ⟨k,_,_,cN (show k<_ by omega),cN hk,.inl rfl⟩))));rw[gh] at hw'
   have e:(off b i:Int)+((k+1:Nat):Int)+1=(off b i:Int)+k+2:=by push_cast; omega
   exact⟨_,by rw[e]; exact hw'⟩
 obtain⟨vs,hw⟩:=key k hk;exact⟨vs,_,hw,by omega⟩
def Zi {L:List Lk} (h:Ď b) (hL:GL b L) {v:Int} (h0:0≤v) (h1:v<((Ì b).length+1:Nat)):∃vs d,Wl L (fun u=>u=v) vs 0 d∧d≤4503599627370496:=by
 by_cases hv:v=0
 ·exact⟨[],0,.nil hv.symm,by omega⟩
 obtain⟨i,g,k,hg,hk,rfl⟩:=Uw (by omega) h1;have hgm:=cY hg;have hr:=h.gaugeR hgm;have r1:=hr.2.2.2.2.2.1;have r2:=hr.2.2.2.2.2.2.1;have hd:=HL h hgm
 have key:∀m:Nat,m≤k→∃vs d,Wl L (fun u=>u=(off b i:Int)+k+1) vs ((off b i:Int)+(k-m:Nat)+1) d∧d≤m*(12*(20001*1048576)+40*1048576):=by
  intro m
  induction m with
  |zero=>intro _; exact⟨[],0,.nil (by simp),by simp⟩
  |succ m ih =>
   intro hm;obtain⟨vs,d,hw,hd⟩:=ih (by omega)
   have e1:((k-m:Nat):Int)=((k-(m+1):Nat):Int)+1:=by omega
   have hl:(((off b i:Int)+(k-(m+1):Nat)+2,(off b i:Int)+(k-(m+1):Nat)+1,iT b g ((Û b g)[k-(m+1)]'(by omega)) ((Û b g)[k-(m+1)+1]'(by omega))):Lk)∈L :=
    hL i g hg _ ((ľ h hg).2 (.inr (.inr ⟨k-(m+1),_,_,cN (by omega),cN (by omega),.inr rfl⟩)))
   have hb:=ji h hgm (f:=(Û b g)[k-(m+1)]'(by omega)) (t:=(Û b g)[k-(m+1)+1]'(by omega)) (h.day hgm (fp _)).2.1
   have e2:(off b i:Int)+(k-m:Nat)+1=(off b i:Int)+(k-(m+1):Nat)+2:=by omega
   rw[e2] at hw;exact⟨_,_,.step hw hl,by push_cast; omega⟩
 obtain⟨vs,d,hw,hdb⟩:=key k (cO _)
 have e:(off b i:Int)+(k-k:Nat)+1=(off b i:Int)+1:=by omega
 rw[e] at hw;have hw':=Wl.step hw (hL i g hg _ ((ľ h hg).2 (.inr (.inl rfl))));exact⟨_,_,hw',by omega⟩
end
structure HZ (L:List Lk) (N:Nat):Prop where
 to:∀v:Int,0≤v→v<N→∃vs d,Wl L (fun u=>u=0) vs v d∧d≤4503599627370496
 from':∀v:Int,0≤v→v<N→∃vs d,Wl L (fun u=>u=v) vs 0 d∧d≤4503599627370496
def Ď.tied {b:ß} (h:Ď b):HZ (á b) ((Ì b).length+1):=⟨fun v h0 h1=>aif h afU h0 h1,fun v h0 h1=>Zi h afU h0 h1⟩
def Ď.tiedL {b:ß} {L:List Lk} (h:Ď b) (hL:GL b L):HZ L ((Ì b).length+1):=⟨fun v h0 h1=>aif h hL h0 h1,fun v h0 h1=>Zi h hL h0 h1⟩
section
variable {L:List Lk} {N:Nat}
def aac {L:List Lk} {s:Int} {vs:List Int} {v d:Int}:Wl L (fun v=>A1 s v=true) vs v d↔Wl L (fun u=>u=s) vs v d :=
 ⟨fun h=>h.mono fun u hu=>by simpa[A1] using hu,fun h=>h.mono fun u hu=>by simpa[A1] using hu⟩
def RE (s:Int):(jJ L N s).length=N:=by unfold jJ; rw[ù,æ]
def aeP (h:ĺ L N) (ho:ě L N=true) {v:Int} (h0:0≤v) (h1:v<N):gv (jJ L N v) v=0:=by
 have h2:=h.n60;obtain⟨p,hp⟩:=(Ŏ h.links (by omega)).1 ho;have hd:=jp h.links (by omega) hp (s:=v) ⟨h0,h1⟩;have h3:=hd.low v [] 0 (.nil (by simp[A1]));obtain⟨vs,hw⟩:=hd.att v h0 h1 (by unfold ĭ; omega);obtain⟨s,hs,hx⟩:=(aac.1 hw).pot hp;subst hs;omega
end
def Vy {b:ß}:∀i,i≤b.2.2.2.2.1.length→((b.2.2.2.2.1.take i).flatMap (ï b)).length=2*i∧(((b.2.2.2.2.1.take i).mapIdx fun i _=>[((3:Int),(i:Int)),((3:Int),(i:Int))]).flatten).length=2*i:=by
 intro i
 induction i with
 |zero=>intro _; simp
 |succ i ih =>
  intro hi;have ih:=ih (by omega);have hg:b.2.2.2.2.1[i]?=some b.2.2.2.2.1[i]:=cN hi;rw[ζ _ hg,take_succ hg,eS,fg,cR,cR];simp only[dL,gL,dI,fI,fY,ï,dc,dm];omega
section
variable {L:List Lk} {N:Nat}
def H6 (h:ĺ L N):ģ ((N:Int),L)=some (ě L N,0):=by
 have h2:=h.n60;unfold ģ sn;rw[lS h,À];dsimp only;rw[Ò (by rfl),CQ h.links h.n1 (by omega),À]
 cases ě L N<;>rfl
end
def jK (b:ß) (n:Int×Int):ß×Int:=if vX b n.1 n.2≠0 then(b,0) else if ä (jj b n)≠0 then(kQ,ä (jj b n)) else(jj b n,0)
def Ő:ß→List (Int×Int)→ß×Int
 |b,[]=>(b,0)
 |b,n::t=>if (jK b n).2≠0 then(kQ,(jK b n).2) else Ő (jK b n).1 t
def Ą (b:ß) (ns:List (Int×Int)):ß×Int :=
 if ä b≠0 then(kQ,ä b) else if (Ő b ns).2≠0 then(kQ,(Ő b ns).2) else
 if ě (á (Ő b ns).1) ((Ì (Ő b ns).1).length+1) then((Ő b ns).1,0) else(kQ,9)
def Zl {b:ß} (h:Ď b) {n:Int×Int} (e:(jK b n).2=0):Ď (jK b n).1:=by
 unfold jK at e ⊢
 split
 ·exact h
 ·rename_i h1;rw[if_neg h1] at e
  split
  ·rename_i h2;rw[if_pos h2] at e;exact absurd e h2
  ·rename_i h2;exact(ð _).1 (by simpa using h2)
def ac3 {b:ß} {n:Int×Int} (e:(jK b n).2=0):(jK b n).1.2.1=b.2.1:=by
 unfold jK at e ⊢
 split
 ·rfl
 ·rename_i h1;rw[if_neg h1] at e
  split
  ·rename_i h2;rw[if_pos h2] at e;exact absurd e h2
  ·rfl
def Ej:∀{ns:List (Int×Int)} {b:ß},Ď b→(Ő b ns).2=0→Ď (Ő b ns).1
 |[],b,h,_=>h
 |n::t,b,h,e=>by
  unfold Ő at e ⊢
  split
  ·rename_i h1; rw[if_pos h1] at e; exact absurd e h1
  ·rename_i h1;rw[if_neg h1] at e;exact Ej (Zl h (by simpa using h1)) e
def uM:∀{ns:List (Int×Int)} {b:ß},(Ő b ns).2=0→(Ő b ns).1.2.1=b.2.1
 |[],b,_=>rfl
 |n::t,b,e=>by
  unfold Ő at e ⊢
  split
  ·rename_i h1; rw[if_pos h1] at e; exact absurd e h1
  ·rename_i h1;rw[if_neg h1] at e;rw[uM e,ac3 (by simpa using h1)]
def Ď.inn {b:ß} (h:Ď b) (hn:∀g∈b.2.1,I64 g.2.2.2.2.1.1):In b:=⟨h.size,hn⟩
def jq {b:ß} (h:Ď b):YZ b=((((Ì b).length:Int)+1,á b),Ŭ b,0):=by
 unfold YZ;rw[if_neg (by simp[(ð b).2 h])]
def D9 {b:ß} (h:Ď b) (n:Int×Int):agz b n=if vX b n.1 n.2=0 then(0,5) else(vX b n.1 n.2,0):=by
 unfold agz;rw[if_neg (by simp[(ð b).2 h])]
abbrev Flat:Type:=Int×Int×List î×List (Int×Int)×List Kj×List Cmp×List (Int×Int)
def flat (b:ß):Flat:=(b.1.1,b.1.2,b.2.1,b.2.2.1,b.2.2.2.1,b.2.2.2.2.1,b.2.2.2.2.2)
def zx (b:ß):(((flat b).1,(flat b).2.1),(flat b).2.2)=b:=rfl
section
variable {ρ:Type}
def anJ (ns:List (Int×Int)) (E1:Int×Flat→Option ρ) (K1:Flat→Option ρ) (b:ß):Option ρ :=
 Ñ (fun(v:Int×Flat) kk=>Ē (Þ ns) ns v.1 v.2.1 v.2.2.1 v.2.2.2.1 v.2.2.2.2.1 v.2.2.2.2.2.1 v.2.2.2.2.2.2.1 v.2.2.2.2.2.2.2 (fun u1 u2 u3 u4 u5 u6 u7 u8=>kk (u1,u2,u3,u4,u5,u6,u7,u8)) (fun z=>E1 z) (fun z=>K1 z)) ((0:Int),b.1.1,b.1.2,b.2.1,b.2.2.1,b.2.2.2.1,b.2.2.2.2.1,b.2.2.2.2.2)
def aiw {ns:List (Int×Int)} (hl:ns.length≤1000) {E1:Int×Flat→Option ρ} {K1:Flat→Option ρ} (R:Int→Option ρ) (h1:∀z,z.1≠0→E1 z=R z.1) {b:ß} (hg:Ď b) (hn:∀g∈b.2.1,I64 g.2.2.2.2.1.1) :
 anJ ns E1 K1 b=if (Ő b ns).2≠0 then R (Ő b ns).2 else K1 (flat (Ő b ns).1):=by
 unfold anJ
 refine Hb ns (fun(i:Nat) (s:Flat) (t:List (Int×Int))=>if (Ő ((s.1,s.2.1),s.2.2) t).2≠0 then R (Ő ((s.1,s.2.1),s.2.2) t).2 else K1 (flat (Ő ((s.1,s.2.1),s.2.2) t).1))
  (fun i s=>Ď ((s.1,s.2.1),s.2.2)∧∀g∈s.2.2.1,I64 g.2.2.2.2.1.1) (fun s hs kn=>?_) (fun i n t s hd hi ha hs kn hk=>?_) (s:=flat b) ⟨hg,hn⟩
 ·dsimp only;unfold Ē;rw[à];rfl
 ·dsimp only;unfold Ē;obtain⟨hs1,hs2⟩:=hs;have hin:In ((s.1,s.2.1),s.2.2):=hs1.inn hs2;rw[Ô hi,ι hi,Ĥ ha];rw[show ũ ((s.1,s.2.1),s.2.2.1,s.2.2.2.1,s.2.2.2.2.1,s.2.2.2.2.2.1,s.2.2.2.2.2.2) n=ũ ((s.1,s.2.1),s.2.2) n from rfl,RT hin,À];rw[show j9 ((s.1,s.2.1),s.2.2.1,s.2.2.2.1,s.2.2.2.2.1,s.2.2.2.2.2.1,s.2.2.2.2.2.2) n=j9 ((s.1,s.2.1),s.2.2) n from rfl,aoB hin,À];rw[D9 hs1];generalize hB:(((s.1,s.2.1),s.2.2):ß)=B at hs1 hin ⊢
  have hu:Ő B (n::t)=if (jK B n).2≠0 then(kQ,(jK B n).2) else Ő (jK B n).1 t:=rfl
  rw[hu]
  by_cases h0:vX B n.1 n.2=0
  ·rw[if_pos h0,Ò (by rfl)]
   by_cases h2:ä (jj B n)=0
   ·have e:jK B n=(jj B n,0):=by unfold jK; rw[if_neg (by simp[h0]),if_neg (by simp[h2])]
    have e2:ahW B n=(jj B n,0):=by unfold ahW; rw[if_neg (by simp[(ð B).2 hs1]),if_neg (by simp[h2])]
    rw[e2,e,Ò (by rfl),Î hi (by omega),if_neg (show ¬((0:Int)≠0) by simp)];subst hB;exact hk (s.1,s.2.1,s.2.2.1,s.2.2.2.1,s.2.2.2.2.1,s.2.2.2.2.2.1,s.2.2.2.2.2.2++[n]) ⟨(ð _).1 h2,hs2⟩
   ·have e:jK B n=(kQ,ä (jj B n)):=by unfold jK; rw[if_neg (by simp[h0]),if_pos h2]
    have e2:ahW B n=(kQ,ä (jj B n)):=by unfold ahW; rw[if_neg (by simp[(ð B).2 hs1]),if_pos h2]
    rw[e2,e,Õ (by simp[ine,h2]),if_pos h2,if_pos h2];exact h1 _ h2
  ·have e:jK B n=(B,0):=by unfold jK; rw[if_pos h0]
   rw[if_neg h0,Õ (by rfl),Î hi (by omega),e,if_neg (show ¬((0:Int)≠0) by simp)];subst hB;exact hk s ⟨hs1,hs2⟩
def uQ {b:ß} (hI:In b) {ns:List (Int×Int)} (hl:ns.length≤1000) {E0:Int→Option ρ} {E1:Int×Flat→Option ρ} {E2:Flat→Sys×List (Int×Int)×Int→Option ρ} {E3:Flat→Sys×List (Int×Int)×Int→Bool×Int→Option ρ}
 {K:Flat→Sys×List (Int×Int)×Int→Bool×Int→Option ρ} (R:Int→Option ρ) (h0:∀e,e≠0→E0 e=R e) (h1:∀z,z.1≠0→E1 z=R z.1) (h3:∀z s r,E3 z s r=R 9) :
 Ä (ÿ b) (fun r1=>ifb (ine r1 (0:Int)) (E0 r1) (anJ ns E1 (fun z8=>Ä (Į ((z8.1,z8.2.1),z8.2.2)) fun r9=>ifb (ine r9.2.2 (0:Int)) (E2 z8 r9) (Ä (ģ r9.1) fun r10=>ifb (!r10.1) (E3 z8 r9 r10) (K z8 r9 r10))) b)) =
 if (Ą b ns).2≠0 then R (Ą b ns).2 else K (flat (Ą b ns).1) ((((Ì (Ą b ns).1).length:Int)+1,á (Ą b ns).1),Ŭ (Ą b ns).1,0) (true,0):=by
 rw[ja hI.size hI.num,À];unfold Ą
 by_cases hc:ä b=0
 ·have hg:=(ð b).1 hc;rw[Ò (by simp[ine,hc]),if_neg (show ¬(ä b≠0) from fun h=>h hc),aiw hl R h1 hg hI.num]
  by_cases hr:(Ő b ns).2=0
  ·rw[if_neg (show ¬((Ő b ns).2≠0) from fun h=>h hr),if_neg (show ¬((Ő b ns).2≠0) from fun h=>h hr)];have hB:=Ej hg hr
   have hBn:∀g∈(Ő b ns).1.2.1,I64 g.2.2.2.2.1.1:=by rw[uM hr]; exact hI.num
   generalize (Ő b ns).1=B at hB hBn ⊢;rw[zx,qA (hB.inn hBn),À,jq hB,Ò (by rfl)];dsimp only;rw[show(((Ì B).length:Int)+1)=(((Ì B).length+1:Nat):Int) by push_cast; rfl,H6 hB.sys,À]
   cases ho:ě (á B) ((Ì B).length+1) with
   |true =>
    rw[if_neg (by simp)];simp only[eh,ô];push_cast;rfl
   |false =>
    rw[if_pos (by simp)];simp only[Bool.not_false,Ľ];rw[h3];rfl
  ·rw[if_pos hr,if_pos hr,if_pos hr]
 ·rw[Õ (by simp[ine,hc]),h0 _ hc,if_pos hc,if_pos hc]
end
def LV (b:ß) (id day:Int):Bool:=b.2.2.1.any fun u=>u.1==id&&u.2==day
def aey (b:ß) (g:î) (d:Int):Int:=match lQ b g.1 d with|some l=>l.2.2|none=>if LV b g.1 d then g.2.2.2.2.2 else 0
def ajj (l:Kj) (id:Int) {f t:Int} (hft:f≤t):(if l.1=id∧0<ę l f (t+1) then ę l f (t+1)*l.2.2 else 0)=(if l.1=id∧0<ę l f t then ę l f t*l.2.2 else 0)+(if l.1=id∧l.2.1.1≤t∧t≤l.2.1.2 then l.2.2 else 0):=by
 by_cases hid:l.1=id
 ·by_cases h1:l.2.1.1≤t∧t≤l.2.1.2
  ·have e:ę l f (t+1)=ę l f t+1:=by unfold ę; omega
   have p:0≤ę l f t:=by unfold ę; omega
   rw[e,if_pos ⟨hid,by omega⟩,if_pos (show l.1=id∧l.2.1.1≤t∧t≤l.2.1.2 from⟨hid,h1⟩),fN,fW]
   by_cases hp:0<ę l f t
   ·rw[if_pos ⟨hid,hp⟩]
   ·rw[if_neg (fun h=>hp h.2)]
    have:ę l f t=0:=by omega
    rw[this];omega
  ·rw[if_neg (show ¬(l.1=id∧l.2.1.1≤t∧t≤l.2.1.2) from fun h=>h1 h.2),gh]
   by_cases hlo:l.2.1.1≤t
   ·have e:ę l f (t+1)=ę l f t:=by unfold ę; omega
    rw[e]
   ·have p1:¬0<ę l f (t+1):=by unfold ę; omega
    have p2:¬0<ę l f t:=by unfold ę; omega
    rw[if_neg (fun h=>p1 h.2),if_neg (fun h=>p2 h.2)]
 ·rw[if_neg (fun h=>hid h.1),if_neg (fun h=>hid h.1),if_neg (fun h=>hid h.1)];rfl
def UZ (id:Int) {f t:Int} (hft:f≤t):∀{x:List Kj},x.Pairwise (fun a c=>¬(a.1=c.1∧a.2.1.1≤c.2.1.2∧c.2.1.1≤a.2.1.2)) →
 ļ id f (t+1) x=ļ id f t x+(match x.find? (fun l=>l.1==id&&inP t l.2.1.1 l.2.1.2) with|some l=>l.2.2|none=>0)
 |[],_=>rfl
 |l::r,hp=>by
  rw[dH] at hp;have ih:=UZ id hft hp.2;simp only[ļ];rw[ih,ajj l id hft,gw]
  by_cases hm:l.1=id∧l.2.1.1≤t∧t≤l.2.1.2
  ·have e:(l.1==id&&inP t l.2.1.1 l.2.1.2)=true:=by simp[inP,hm.1,hm.2.1,hm.2.2]
   have hn:r.find? (fun l=>l.1==id&&inP t l.2.1.1 l.2.1.2)=none:=by
    rw[ez];intro c hc hcm;simp only[inP,cQ,beq_iff_eq,decide_eq_true_eq] at hcm;exact hp.1 c hc ⟨by rw[hm.1,hcm.1],by omega,by omega⟩
   rw[if_pos hm,e,hn];simp only;omega
  ·have e:(l.1==id&&inP t l.2.1.1 l.2.1.2)=false:=by
    rw[eE];intro h;simp only[inP,cQ,beq_iff_eq,decide_eq_true_eq] at h;exact hm h
   rw[if_neg hm,e];simp only;omega
section
variable {b:ß}
def Ď.apart (h:Ď b):b.2.2.2.1.Pairwise (fun a c=>¬(a.1=c.1∧a.2.1.1≤c.2.1.2∧c.2.1.1≤a.2.1.2)):=by
 rw[List.pairwise_iff_getElem];intro i j hi hj hij ⟨h1,h2,h3⟩;have hz:=h.loans j _ (List.getElem?_eq_getElem hj);unfold TY at hz
 have hany:(b.2.2.2.1.take j).any (fun x=>x.1==b.2.2.2.1[j].1&&(decide (x.2.1.1≤b.2.2.2.1[j].2.1.2)&&decide (b.2.2.2.1[j].2.1.1≤x.2.1.2)))=true:=by
  rw[eW];exact⟨b.2.2.2.1[i],dj.2 ⟨i,by rw[dh]; omega,by rw[List.getElem_take]⟩,by simp[h1,h2,h3]⟩
 rw[hany] at hz
 (repeat' split at hz)<;>first|omega|simp_all
def Ď.notUsed (h:Ď b) {id d:Int} {l:Kj} (hl:lQ b id d=some l):LV b id d=false:=by
 have hm:=gx hl;have hp:=f9 hl;simp only[inP,cQ,beq_iff_eq,decide_eq_true_eq] at hp;obtain⟨j,hj,rfl⟩:=dj.1 hm;have hz:=h.loans j _ (cN hj);rw[eE];intro hu;obtain⟨u,hu,hue⟩:=eW.1 hu;simp only[cQ,beq_iff_eq] at hue
 have hany:b.2.2.1.any (fun u=>u.1==b.2.2.2.1[j].1&&inP u.2 b.2.2.2.1[j].2.1.1 b.2.2.2.1[j].2.1.2)=true:=by
  rw[eW];exact⟨u,hu,by simp only[inP,cQ,beq_iff_eq,decide_eq_true_eq]; exact⟨by rw[hue.1,hp.1],by omega,by omega⟩⟩
 unfold TY at hz;rw[hany] at hz
 (repeat' split at hz)<;>first|omega|simp_all
def Zc {id f t:Int} (hft:f≤t):Zu (iZ b id f (t+1))=Zu (iZ b id f t)++if LV b id t then[t] else[]:=by
 have hm:∀t x,x∈iZ b id f t↔LV b id x=true∧f≤x∧x<t:=by
  intro t x;unfold iZ LV;simp only[List.mem_map,List.mem_filter,List.any_eq_true,inP,Bool.and_eq_true,beq_iff_eq,decide_eq_true_eq];constructor
  ·rintro⟨u,⟨h1,h2,h3,h4⟩,rfl⟩;exact⟨⟨u,h1,h2,rfl⟩,h3,by omega⟩
  ·rintro⟨⟨u,h1,h2,rfl⟩,h3,h4⟩;exact⟨u,⟨h1,h2,h3,by omega⟩,rfl⟩
 refine YS (CT _) ?_ fun x=>?_
 ·rw[List.pairwise_append]
  refine⟨CT _,by split<;>simp,fun a ha c hc=>?_⟩
  rw[qH,hm] at ha
  split at hc
  ·rw[df] at hc; omega
  ·cases hc
 ·rw[qH,hm,cW,qH,hm]
  by_cases hu:LV b id t=true
  ·rw[if_pos hu,df];constructor
   ·rintro⟨h1,h2,h3⟩
    by_cases he:x=t
    ·exact .inr he
    ·exact .inl ⟨h1,h2,by omega⟩
   ·rintro(⟨h1,h2,h3⟩|rfl)
    ·exact⟨h1,h2,by omega⟩
    ·exact⟨hu,hft,by omega⟩
  ·rw[if_neg hu];constructor
   ·rintro⟨h1,h2,h3⟩;refine .inl ⟨h1,h2,?_⟩
    by_cases he:x=t
    ·rw[he] at h1; exact absurd h1 hu
    ·omega
   ·rintro(⟨h1,h2,h3⟩|h)
    ·exact⟨h1,h2,by omega⟩
    ·cases h
def QJ (h:Ď b) (g:î) {f t:Int} (hft:f≤t):iT b g f (t+1)=iT b g f t+aey b g t:=by
 unfold iT aey;rw[UZ g.1 hft h.apart,Zc hft];show ļ g.1 f t b.2.2.2.1+(match lQ b g.1 t with|some l=>l.2.2|none=>0)+_=_
 cases ha:lQ b g.1 t with
 |some l =>
  rw[h.notUsed ha];simp only[dn,if_false,dI];omega
 |none =>
  simp only
  cases LV b g.1 t with
  |true=>simp only[if_true,cR,dz,Int.natCast_add,fN]; omega
  |false=>simp only[dn,if_false,dI]; omega
def zp (g:î) {f t:Int} (hft:t≤f):iT b g f t=0:=by
 unfold iT
 have h1:∀x:List Kj,ļ g.1 f t x=0:=by
  intro x
  induction x with
  |nil=>rfl
  |cons l r ih =>
   simp only[ļ];rw[ih,if_neg (by unfold ę; omega)];rfl
 have h2:iZ b g.1 f t=[]:=by
  unfold iZ
  rw[List.filter_eq_nil_iff.2 fun u hu hc=>by
   simp only[inP,cQ,beq_iff_eq,decide_eq_true_eq] at hc
   omega]
  rfl
 rw[h1,h2];have h3:Zu ([]:List Int)=[]:=rfl;rw[h3];simp
end
section
variable {b:ß}
def Np (h:Ď b) (g:î) {f t u:Int} (h1:f≤t) (h2:t≤u):iT b g f u=iT b g f t+iT b g t u:=by
 obtain⟨n,rfl⟩:∃n:Nat,u=t+n:=⟨(u-t).toNat,by omega⟩;clear h2
 induction n with
 |zero=>simp[zp]
 |succ n ih =>
  have e:t+((n+1:Nat):Int)=(t+n)+1:=by omega
  rw[e,QJ h g (show f≤t+(n:Int) by omega),QJ h g (show t≤t+(n:Int) by omega),ih];omega
def DU (h:Ď b) {g:î} (hg:g∈b.2.1) {f t:Int} (hf:0≤f):0≤iT b g f t:=(ji h hg hf).1
def Ι (b:ß) (id d:Int):Int:=match iB (Ì b) id d with|some j=>(j:Int)+1|none=>0
def qN (h:Ď b) {i:Nat} {g:î} (hg:b.2.1[i]?=some g) {k:Nat} {d:Int} (hk:(Û b g)[k]?=some d):Ι b g.1 d=(off b i:Int)+k+1:=by
 unfold Ι;rw[Wm h hg hk];simp only;omega
structure qB (b:ß) (p:Int→Int) (g:î):Prop where
 hi:p (Ι b g.1 g.2.1)≤p 0+(g.2.2.1+g.2.2.2.1.2)
 lo:p 0+(g.2.2.1+g.2.2.2.1.1)≤p (Ι b g.1 g.2.1)
 down:∀d e,d∈Û b g→e∈Û b g→d≤e→p (Ι b g.1 e)≤p (Ι b g.1 d)
 loss:∀d e,d∈Û b g→e∈Û b g→d≤e→p (Ι b g.1 d)≤p (Ι b g.1 e)+iT b g d e
def oS (h:Ď b) {i:Nat} {g:î} (hg:b.2.1[i]?=some g) {p:Int→Int}:(∀l∈ë b g,p l.2.1≤p l.1+l.2.2)↔qB b p g:=by
 have hgm:=cY hg;obtain⟨tl,htl⟩:=Rh h hgm
 have h0:Ι b g.1 g.2.1=(off b i:Int)+1:=by
  have:=qN h hg (k:=0) (d:=g.2.1) (by rw[htl]; rfl);rw[this];omega
 constructor
 ·intro hl;have e1:=hl _ ((ľ h hg).2 (.inl rfl));have e2:=hl _ ((ľ h hg).2 (.inr (.inl rfl)));simp only at e1 e2
  have step:∀(k:Nat) (d e:Int),(Û b g)[k]?=some d→(Û b g)[k+1]?=some e→p (Ι b g.1 e)≤p (Ι b g.1 d)∧p (Ι b g.1 d)≤p (Ι b g.1 e)+iT b g d e:=by
   intro k d e hd he;have a1:=hl _ ((ľ h hg).2 (.inr (.inr ⟨k,d,e,hd,he,.inl rfl⟩)));have a2:=hl _ ((ľ h hg).2 (.inr (.inr ⟨k,d,e,hd,he,.inr rfl⟩)));simp only at a1 a2;rw[qN h hg hd,qN h hg he]
   have e3:(off b i:Int)+((k+1:Nat):Int)+1=(off b i:Int)+k+2:=by omega
   rw[e3];exact⟨by omega,a2⟩
  have pair:∀(n k:Nat) (d e:Int),(Û b g)[k]?=some d→(Û b g)[k+n]?=some e→p (Ι b g.1 e)≤p (Ι b g.1 d)∧p (Ι b g.1 d)≤p (Ι b g.1 e)+iT b g d e:=by
   intro n
   induction n with
   |zero =>
    intro k d e hd he;rw[fD,hd] at he;cases he;rw[zp g (dJ _)];omega
   |succ n ih =>
    intro k d e hd he;have hlt:=(cX.1 he).1;have hm:(Û b g)[k+n]?=some ((Û b g)[k+n]'(by omega)):=cN (by omega);obtain⟨a1,a2⟩:=ih k d _ hd hm;obtain⟨a3,a4⟩:=step (k+n) _ e hm he
    have o1:d≤(Û b g)[k+n]'(by omega):=by
     obtain⟨hkl,hkd⟩:=cX.1 hd;rcases ft n with rfl|hn
     ·rw[←hkd]; exact Int.le_of_eq (by congr 1)
     ·have:=(dK.1 (qx b g)) k (k+n) hkl (by omega) (by omega);rw[hkd] at this; omega
    have o2:(Û b g)[k+n]'(by omega)≤e:=by
     obtain⟨hel,hee⟩:=cX.1 he;have:=(dK.1 (qx b g)) (k+n) (k+(n+1)) (by omega) hel (by omega);rw[hee] at this; omega
    have:=Np h g o1 o2;omega
  have any:∀d e,d∈Û b g→e∈Û b g→d≤e→p (Ι b g.1 e)≤p (Ι b g.1 d)∧p (Ι b g.1 d)≤p (Ι b g.1 e)+iT b g d e:=by
   intro d e hd he hde;obtain⟨k,hk,rfl⟩:=dj.1 hd;obtain⟨m,hm,rfl⟩:=dj.1 he
   have hkm:k≤m:=by
    rcases du m k with hlt|hge
    ·have:=(dK.1 (qx b g)) m k hm hk hlt; omega
    ·exact hge
   exact pair (m-k) k _ _ (cN hk) (by rw[show k+(m-k)=m by omega]; exact cN hm)
  exact⟨by rw[h0]; omega,by rw[h0]; omega,fun d e hd he hde=>(any d e hd he hde).1,fun d e hd he hde=>(any d e hd he hde).2⟩
 ·intro hf l hl;rcases(ľ h hg).1 hl with rfl|rfl|⟨k,d,e,hd,he,rfl|rfl⟩
  ·have:=hf.hi; rw[h0] at this; simp only; omega
  ·have:=hf.lo; rw[h0] at this; simp only; omega
  ·have hde:d≤e:=by
    obtain⟨a1,a2⟩:=cX.1 hd;obtain⟨a3,a4⟩:=cX.1 he;have:=(dK.1 (qx b g)) k (k+1) a1 a3 (by omega);rw[a2,a4] at this; omega
   have:=hf.down d e (cY hd) (cY he) hde;rw[qN h hg hd,qN h hg he] at this
   have e3:(off b i:Int)+((k+1:Nat):Int)+1=(off b i:Int)+k+2:=by omega
   rw[e3] at this;simp only;omega
  ·have hde:d≤e:=by
    obtain⟨a1,a2⟩:=cX.1 hd;obtain⟨a3,a4⟩:=cX.1 he;have:=(dK.1 (qx b g)) k (k+1) a1 a3 (by omega);rw[a2,a4] at this; omega
   have:=hf.loss d e (cY hd) (cY he) hde;rw[qN h hg hd,qN h hg he] at this
   have e3:(off b i:Int)+((k+1:Nat):Int)+1=(off b i:Int)+k+2:=by omega
   rw[e3] at this;simp only;exact this
def V0 (h:Ď b) {p:Int→Int}:Pot (á b) p↔(∀g∈b.2.1,qB b p g)∧∀c∈b.2.2.2.2.1,p (cx b c)≤p (cy b c)+(Ŗ b c).2∧p (cy b c)+(Ŗ b c).1≤p (cx b c):=by
 constructor
 ·intro hp;refine⟨fun g hg=>?_,fun c hc=>?_⟩
  ·obtain⟨i,hi,rfl⟩:=dj.1 hg;exact(oS h (cN hi)).1 fun l hl=>hp l.1 l.2.1 l.2.2 (pn.2 (.inl ⟨i,_,cN hi,hl⟩))
  ·have a1:=hp _ _ _ (pn.2 (.inr ⟨c,hc,.inl rfl⟩));have a2:=hp _ _ _ (pn.2 (.inr ⟨c,hc,.inr rfl⟩));omega
 ·rintro⟨hg,hc⟩ u v m hl;rcases pn.1 hl with⟨i,g,hig,hl⟩|⟨c,hcm,hl⟩
  ·exact(oS h hig).2 (hg g (cY hig)) (u,v,m) hl
  ·obtain⟨a1,a2⟩:=hc c hcm;rcases hl with hl|hl
   ·obtain⟨rfl,rfl,rfl⟩:u=cy b c∧v=cx b c∧m=(Ŗ b c).2:=by simpa using hl
    exact a1
   ·obtain⟨rfl,rfl,rfl⟩:u=cx b c∧v=cy b c∧m = -(Ŗ b c).1:=by simpa using hl
    omega
end
def ang:List Int→Int
 |[]=>0
 |[a]=>a
 |a::b::t=>max a (ang (b::t))
def aal:∀{l:List Int},l≠[]→(∀a∈l,a≤ang l)∧ang l∈l
 |[],h=>absurd rfl h
 |[a],_=>⟨fun x hx=>by rw[df] at hx; rw[hx]; exact dJ _,by simp[ang]⟩
 |a::b::t,_=>by
  obtain⟨h1,h2⟩:=aal (l:=b::t) (by simp);have e:ang (a::b::t)=max a (ang (b::t)):=rfl;rw[e];constructor
  ·intro x hx;rcases cZ.1 hx with rfl|hx
   ·omega
   ·have:=h1 x hx; omega
  ·rcases Int.le_total a (ang (b::t)) with h|h
   ·rw[Int.max_eq_right h]; exact gk _ h2
   ·rw[Int.max_eq_left h]; exact List.mem_cons_self
section
variable {b:ß}
def Uj (b:ß) (f:Int→Int→Int) (z:Int) (v:Int):Int:=if v=0 then z else match (Ì b)[(v-1).toNat]? with|some n=>f n.1 n.2|none=>0
def pH (f:Int→Int→Int) (z:Int):Uj b f z 0=z:=by unfold Uj; rw[if_pos rfl]
def El (h:Ď b) (f:Int→Int→Int) (z:Int) {g:î} (hg:g∈b.2.1) {d:Int} (hd:d∈Û b g):Uj b f z (Ι b g.1 d)=f g.1 d:=by
 obtain⟨i,hi,rfl⟩:=List.mem_iff_getElem.1 hg;obtain⟨k,hk,rfl⟩:=List.mem_iff_getElem.1 hd;have hgi:=List.getElem?_eq_getElem hi;have hdk:=List.getElem?_eq_getElem hk;rw[qN h hgi hdk];unfold Uj
 have e:((off b i:Int)+k+1-1).toNat=off b i+k:=by omega
 rw[if_neg (by omega),e,Ng hgi hdk]
def M4 (b:ß) (l:List Int) (d:Int):Int:=match l with|[]=>0|x::_=>Ι b x d
def agn (l:List Int) (d:Int):atP (Ì b) l d=M4 b l d:=by
 unfold atP M4 Ι
 cases l<;>rfl
def J5 (c:Cmp):cx b c=M4 b (å c.2.2.1 c.2.2.2.1) c.2.1:=agn _ _
def J4 (c:Cmp):cy b c=M4 b (å c.2.2.2.1 c.2.2.1) c.2.1:=agn _ _
def oR (h:Ď b) {c:Cmp} (hc:c∈b.2.2.2.2.1) {x:Int} (hx:x∈å c.2.2.1 c.2.2.2.1∨x∈å c.2.2.2.1 c.2.2.1):∃g∈b.2.1,g.1=x∧c.2.1∈Û b g:=by
 have hx':(x∈c.2.2.1∧x∉c.2.2.2.1)∨(x∈c.2.2.2.1∧x∉c.2.2.1):=by
  rcases hx with hx|hx
  ·exact .inl (jU.1 hx)
  ·exact .inr (jU.1 hx)
 have hm:x∈c.2.2.1++c.2.2.2.1:=by rw[cW]; exact hx'.imp (·.1) (·.1)
 obtain⟨⟨g,hg,_⟩,_⟩:=h.pile hc hm;obtain⟨hgm,hid⟩:=nO hg;refine⟨g,hgm,hid,iV.2 (.inr (.inl ⟨c,hc,?_,rfl⟩))⟩;rw[hid];intro he;rw[dN,ej,ej] at he;rcases hx' with⟨a,e⟩|⟨a,e⟩
 ·exact e (he.1 a)
 ·exact e (he.2 a)
def fill (b:ß) (p:Int→Int) (g:î) (d:Int):Int:=ang ((Û b g).map fun e=>if d≤e then p (Ι b g.1 e) else p (Ι b g.1 e)-iT b g e d)
def Q4 {p:Int→Int} {g:î} (d:Int):(∀e∈Û b g,(if d≤e then p (Ι b g.1 e) else p (Ι b g.1 e)-iT b g e d)≤fill b p g d)∧∃e∈Û b g,fill b p g d=if d≤e then p (Ι b g.1 e) else p (Ι b g.1 e)-iT b g e d:=by
 have hne:((Û b g).map fun e=>if d≤e then p (Ι b g.1 e) else p (Ι b g.1 e)-iT b g e d)≠[]:=by
  intro h;have:=List.map_eq_nil_iff.1 h;have h2:=ka (b:=b) g;rw[this] at h2;cases h2
 obtain⟨h1,h2⟩:=aal hne;refine⟨fun e he=>h1 _ (dR.2 ⟨e,he,rfl⟩),?_⟩;obtain⟨e,he,hx⟩:=dR.1 h2;exact⟨e,he,hx.symm⟩
def Nt (h:Ď b) {p:Int→Int} {g:î} (hg:g∈b.2.1) (hf:qB b p g) {d:Int} (hd:d∈Û b g):fill b p g d=p (Ι b g.1 d):=by
 obtain⟨h1,e,he,h2⟩:=Q4 (b:=b) (p:=p) (g:=g) d;have h3:=h1 d hd;rw[if_pos (dJ _)] at h3
 have h4:fill b p g d≤p (Ι b g.1 d):=by
  rw[h2]
  split
  ·rename_i hde;exact hf.down d e hd he hde
  ·rename_i hde;have:=hf.loss e d he hd (by omega);omega
 omega
def Ho (h:Ď b) {p:Int→Int} {g:î} (hg:g∈b.2.1) (hf:qB b p g) {d e:Int} (h0:g.2.1≤d) (hde:d≤e):fill b p g e≤fill b p g d∧fill b p g d≤fill b p g e+iT b g d e:=by
 obtain⟨a1,x,hx,a2⟩:=Q4 (b:=b) (p:=p) (g:=g) d;obtain⟨b1,y,hy,b2⟩:=Q4 (b:=b) (p:=p) (g:=g) e;have hm:=(h.gaugeR hg).2.2.2.2.1;have hl:=DU h hg (f:=d) (t:=e) (by omega);have dx:=h.day hg hx;have dy:=h.day hg hy;constructor
 ·have q:=a1 y hy;rw[b2]
  by_cases c1:e≤y
  ·rw[if_pos c1];rw[if_pos (by omega)] at q;exact q
  ·rw[if_neg c1]
   by_cases c2:d≤y
   ·rw[if_pos c2] at q;have:=DU h hg (f:=y) (t:=e) dy.2.1;omega
   ·rw[if_neg c2] at q;have:=Np h g (f:=y) (t:=d) (u:=e) (by omega) hde;omega
 ·have q:=b1 x hx;rw[a2]
  by_cases c1:d≤x
  ·rw[if_pos c1]
   by_cases c2:e≤x
   ·rw[if_pos c2] at q;omega
   ·rw[if_neg c2] at q;have:=Np h g (f:=d) (t:=x) (u:=e) c1 (by omega);have:=DU h hg (f:=d) (t:=x) (by omega);omega
  ·rw[if_neg c1];rw[if_neg (by omega)] at q;have:=Np h g (f:=x) (t:=d) (u:=e) (by omega) hde;omega
end
section
variable {b:ß} {c:Cmp}
def Yp:â (Ø b c)=(Ø b c).2.1.flatMap (ë (Ø b c))++b.2.2.2.2.1.flatMap (ï (Ø b c)):=by
 unfold â
 have e:á (Ø b c)=((Ø b c).2.1.flatMap (ë (Ø b c))++b.2.2.2.2.1.flatMap (ï (Ø b c)))++ï (Ø b c) c:=by
  unfold á;rw[show(Ø b c).2.2.2.2.1=b.2.2.2.2.1++[c] from rfl,List.flatMap_append,List.append_assoc];simp
 rw[e,cR,show(ï (Ø b c) c).length=2 from rfl,f7,List.take_left]
def Ns (h':Ď (Ø b c)) {p:Int→Int}:Pot (â (Ø b c)) p↔(∀g∈b.2.1,qB (Ø b c) p g)∧∀d∈b.2.2.2.2.1,p (cx (Ø b c) d)≤p (cy (Ø b c) d)+(Ŗ b d).2∧p (cy (Ø b c) d)+(Ŗ b d).1≤p (cx (Ø b c) d):=by
 rw[Yp];constructor
 ·intro hp;refine⟨fun g hg=>?_,fun d hd=>?_⟩
  ·obtain⟨i,hi,rfl⟩:=dj.1 hg;exact(oS h' (i:=i) (cN hi)).1 fun l hl=>hp l.1 l.2.1 l.2.2 (cW.2 (.inl (dv.2 ⟨_,fp hi,hl⟩)))
  ·have a1:=hp (cy (Ø b c) d) (cx (Ø b c) d) (Ŗ (Ø b c) d).2 (cW.2 (.inr (dv.2 ⟨d,hd,by simp[ï]⟩)));have a2:=hp (cx (Ø b c) d) (cy (Ø b c) d) (-(Ŗ (Ø b c) d).1) (cW.2 (.inr (dv.2 ⟨d,hd,by simp[ï]⟩)));have e:Ŗ (Ø b c) d=Ŗ b d:=rfl;rw[e] at a1 a2;omega
 ·rintro⟨hg,hc⟩ u v m hl;rcases cW.1 hl with hl|hl
  ·obtain⟨g,hgm,hl⟩:=dv.1 hl;obtain⟨i,hi,rfl⟩:=dj.1 hgm;exact(oS h' (i:=i) (cN hi)).2 (hg _ hgm) (u,v,m) hl
  ·obtain⟨d,hd,hl⟩:=dv.1 hl;obtain⟨a1,a2⟩:=hc d hd;have e:Ŗ (Ø b c) d=Ŗ b d:=rfl;simp only[ï,cZ,fL,or_false,e] at hl;rcases hl with hl|hl
   ·obtain⟨rfl,rfl,rfl⟩:u=cy (Ø b c) d∧v=cx (Ø b c) d∧m=(Ŗ b d).2:=by simpa using hl
    exact a1
   ·obtain⟨rfl,rfl,rfl⟩:u=cx (Ø b c) d∧v=cy (Ø b c) d∧m = -(Ŗ b d).1:=by simpa using hl
    omega
def uE {g:î} {d:Int} (hd:d∈Û b g):d∈Û (Ø b c) g:=by
 rcases iV.1 hd with e|⟨x,hx,h1,h2⟩|hn
 ·exact iV.2 (.inl e)
 ·exact iV.2 (.inr (.inl ⟨x,cW.2 (.inl hx),h1,h2⟩))
 ·exact iV.2 (.inr (.inr hn))
def ajc (g:î) (f t:Int):iT (Ø b c) g f t=iT b g f t:=rfl
def Kc {b':ß} (h':Ď b') {l:List Int} {day:Int} (f:Int→Int→Int) (z:Int) (hl:∀x∈l,∃g∈b'.2.1,g.1=x∧day∈Û b' g):Uj b' f z (M4 b' l day)=match l with|[]=>z|x::_=>f x day:=by
 unfold M4
 cases l with
 |nil=>exact pH f z
 |cons x t =>
  obtain⟨g,hg,rfl,hd⟩:=hl x (by simp);exact El h' f z hg hd
def aiK (h:Ď b) (h':Ď (Ø b c)):(∃p,Pot (á b) p)↔∃p,Pot (â (Ø b c)) p:=by
 constructor
 ·rintro⟨p,hp⟩;obtain⟨hg,hc⟩:=(V0 h).1 hp
  let f:Int→Int→Int:=fun id d=>match Ů b id with|some g=>fill b p g d|none=>0
  have hfv:∀g∈b.2.1,∀d,f g.1 d=fill b p g d:=fun g hgm d=>by
   show(match Ů b g.1 with|some g=>fill b p g d|none=>0)=_;rw[vZ h.ids hgm]
  have hq:∀g∈b.2.1,∀d∈Û (Ø b c) g,Uj (Ø b c) f (p 0) (Ι (Ø b c) g.1 d)=fill b p g d:=fun g hgm d hd=>by
   rw[El h' f (p 0) hgm hd,hfv g hgm d]
  refine⟨Uj (Ø b c) f (p 0),(Ns h').2 ⟨fun g hgm=>?_,fun d hd=>?_⟩⟩
  ·have gf:=hg g hgm;have hmade:g.2.1∈Û b g:=ka g;have e0:=hq g hgm g.2.1 (ka g);rw[Nt h hgm gf hmade] at e0;refine⟨?_,?_,fun x y hx hy hxy=>?_,fun x y hx hy hxy=>?_⟩
   ·rw[e0,pH]; exact gf.hi
   ·rw[e0,pH]; exact gf.lo
   ·rw[hq g hgm x hx,hq g hgm y hy];exact(Ho h hgm gf (h'.day hgm hx).1 hxy).1
   ·rw[hq g hgm x hx,hq g hgm y hy,ajc];exact(Ho h hgm gf (h'.day hgm hx).1 hxy).2
  ·have key:∀l:List Int,(∀x∈l,∃g∈b.2.1,g.1=x∧d.2.1∈Û b g)→Uj (Ø b c) f (p 0) (M4 (Ø b c) l d.2.1)=p (M4 b l d.2.1):=by
    intro l hl;rw[Kc h' f (p 0) (fun x hx=>by obtain⟨g,q1,q2,q3⟩:=hl x hx; exact⟨g,q1,q2,uE q3⟩)]
    cases l with
    |nil=>rfl
    |cons x t =>
     obtain⟨g,q1,rfl,q3⟩:=hl x (by simp);show f g.1 d.2.1=p (Ι b g.1 d.2.1);rw[hfv g q1,Nt h q1 (hg g q1) q3]
   rw[J5,J4,key _ (fun x hx=>oR h hd (.inl hx)),key _ (fun x hx=>oR h hd (.inr hx)),←J5,←J4];exact hc d hd
 ·rintro⟨p,hp⟩;obtain⟨hg,hc⟩:=(Ns h').1 hp
  let f:Int→Int→Int:=fun id d=>p (Ι (Ø b c) id d)
  have hq:∀g∈b.2.1,∀d∈Û b g,Uj b f (p 0) (Ι b g.1 d)=p (Ι (Ø b c) g.1 d):=fun g hgm d hd=>El h f (p 0) hgm hd;refine⟨Uj b f (p 0),(V0 h).2 ⟨fun g hgm=>?_,fun d hd=>?_⟩⟩
  ·have gf:=hg g hgm;have e0:=hq g hgm g.2.1 (ka g);refine⟨?_,?_,fun x y hx hy hxy=>?_,fun x y hx hy hxy=>?_⟩
   ·rw[e0,pH]; exact gf.hi
   ·rw[e0,pH]; exact gf.lo
   ·rw[hq g hgm x hx,hq g hgm y hy];exact gf.down x y (uE hx) (uE hy) hxy
   ·rw[hq g hgm x hx,hq g hgm y hy];exact gf.loss x y (uE hx) (uE hy) hxy
  ·have key:∀l:List Int,(∀x∈l,∃g∈b.2.1,g.1=x∧d.2.1∈Û b g)→Uj b f (p 0) (M4 b l d.2.1)=p (M4 (Ø b c) l d.2.1):=by
    intro l hl;rw[Kc h f (p 0) hl]
    cases l<;>rfl
   rw[J5,J4,key _ (fun x hx=>oR h hd (.inl hx)),key _ (fun x hx=>oR h hd (.inr hx)),←J5,←J4];exact hc d hd
end
end Go.Proofs.ZzM
end
