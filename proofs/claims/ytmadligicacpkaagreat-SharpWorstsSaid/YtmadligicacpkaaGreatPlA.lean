/- lemmas -/
import Derived.Test.YtmadligicacpkaaGreatAmG
import Derived.Test.YtmadligicacpkaaGreatMdTA
set_option linter.all false
set_option linter.unusedSectionVars false
set_option linter.unusedVariables false
set_option linter.unusedSimpArgs false
noncomputable section
namespace Go.Am
section
variable {ρ:Type}
def Ľ {α β:Type} (e:Nat→α→Option β):Nat→List α→Option β
 |_,[]=>none
 |i,a::t=>match e i a with
  |some b=>some b
  |none=>Ľ e (i+1) t
def kZ {α β:Type} (l:List α) (e:Nat→α→Option β) (k0:β→Option ρ) (k1:Option ρ) {f:Int→(Int→Option ρ)→Option ρ}
 (h:∀(i:Nat) (a:α),i<l.length→l[i]?=some a→∀kn,f i kn=match e i a with|some b=>k0 b|none=>kn ((i:Int)+1))
 (hn:∀kn,f l.length kn=k1):Î f 0=match Ľ e 0 l with|some b=>k0 b|none=>k1:=by
 refine akI l (fun i t=>match Ľ e i t with|some b=>k0 b|none=>k1) hn fun i a t hd hi ha kn hk=>?_;rw[h i a hi ha kn,hk,Ľ]
 cases e i a<;>rfl
def ô {α σ:Type} (l:List α) (g:Nat→σ) (r:Option ρ) {f:Int×σ→(Int×σ→Option ρ)→Option ρ} {s0:σ} (h0:g 0=s0)
 (h:∀(i:Nat) (a:α),i<l.length→l[i]?=some a→∀kn,f (i,g i) kn=kn ((i:Int)+1,g (i+1)))
 (hn:∀kn,f (l.length,g l.length) kn=r):Î f (0,s0)=r:=by
 subst h0
 have hs:∀s,(s=g 0)→Î f (0,s)=r:=fun s e=>Ih l (fun _ _ _=>r) (fun i s=>s=g i) (fun s hs kn=>by rw[hs]; exact hn kn) (fun i a t s hd hi ha hI kn hk=>by
  rw[hI,h i a hi ha kn]; exact hk _ rfl) e
 exact hs _ rfl
def akH {α σ:Type} (l:List α) (g:Nat→σ) (r:Option ρ) {f:Int×σ→(Int×σ→Option ρ)→Option ρ} {s0:σ} (P:Nat→Prop) (h0:g 0=s0) (hP:P 0)
 (h:∀(i:Nat) (a:α),i<l.length→l[i]?=some a→P i→∀kn,f (i,g i) kn=r∨(P (i+1)∧f (i,g i) kn=kn ((i:Int)+1,g (i+1))))
 (hn:P l.length→∀kn,f (l.length,g l.length) kn=r):Î f (0,s0)=r:=by
 subst h0
 have hs:∀s,(s=g 0∧P 0)→Î f (0,s)=r:=fun s e=>Ih l (fun _ _ _=>r) (fun i s=>s=g i∧P i) (fun s hs kn=>by rw[hs.1]; exact hn hs.2 kn) (fun i a t s hd hi ha hI kn hk=>by
  rcases h i a hi ha hI.2 kn with h1|⟨h1,h2⟩
  ·rw[hI.1,h1]
  ·rw[hI.1,h2]; exact hk _ ⟨rfl,h1⟩) e
 exact hs _ ⟨rfl,hP⟩
def Ï {i n:Nat} (h:i<n) (hn:n≤1000000000) (f:Int→Option ρ):ck ((i:Int)+1) f=f ((i:Int)+1):=Õ (by omega) (by omega) f
def ifb_lt {i n:Nat} (h:i<n) (x y:Option ρ):ifb (ilt (i:Int) (ajt n)) x y=x:=by simp[Ě,Px,h]
def ã (n:Nat) (x y:Option ρ):ifb (ilt (n:Int) (ajt n)) x y=y:=by simp[Ě,Px]
def Ö {α:Type} {l:List α} {i:Nat} (h:i<l.length) (x y:Option ρ):ifb (ilt (i:Int) (Û l)) x y=x:=ifb_lt h x y
def Sl {α:Type} (p:α→Bool):∀(i:Nat) (l:List α),Ľ (fun i a=>bif p a then some (i:Int) else none) i l=(l.findIdx? p).map fun j=>((i+j:Nat):Int)
 |_,[]=>rfl
 |i,a::t=>by
  simp only[Ľ,List.findIdx?_cons]
  cases hp:p a with
  |true=>simp
  |false =>
   simp only[cond_false,dv,if_false];rw[Sl p (i+1) t]
   cases t.findIdx? p with
   |none=>rfl
   |some j=>simp only[dQ]; congr 1; omega
def iX {α β:Type} {e:Nat→α→Option β}:∀{i:Nat} {l:List α},Ľ e i l=none↔∀j a,l[j]?=some a→e (i+j) a=none
 |_,[]=>by simp[Ľ]
 |i,a::t=>by
  simp only[Ľ];constructor
  ·intro h j b hb
   cases he:e i a with
   |some c=>rw[he] at h; cases h
   |none =>
    rw[he] at h
    cases j with
    |zero=>simp at hb; subst hb; simpa using he
    |succ j=>have:=(iX.1 h) j b (by simpa using hb); rw[←this]; congr 1; omega
  ·intro h;have h0:=h 0 a (by simp);simp only[fJ] at h0;rw[h0]
   exact iX.2 fun j b hb=>by have:=h (j+1) b (by simpa using hb); rw[←this]; congr 1; omega
def take_succ {α:Type} {l:List α} {i:Nat} {a:α} (h:l[i]?=some a):l.take (i+1)=l.take i++[a]:=by rw[List.take_succ,h]; rfl
end
end Go.Am
end

noncomputable section
namespace Go.Proofs.ZzM
open Go Go.Am
section
variable {ρ:Type}
def Ĕ {τ:Type} {f:τ→(τ→Option ρ)→Option ρ} {r:Option ρ} (I:τ→Prop) (μ:τ→Nat)
 (h:∀x,I x→(∀kn,f x kn=r)∨∃y,I y∧μ y<μ x∧∀kn,f x kn=kn y) {x:τ} (hx:I x):Î f x=r :=
 uT (F:=fun _=>r) I μ (fun x hx kn hk=>by
  rcases h x hx with h1|⟨y,h1,h2,h3⟩
  ·exact h1 kn
  ·rw[h3,hk y h1 h2]) hx
def iA {α:Type} (l:List α) (p:α→Bool) (k0:Int→Option ρ) (k1:Option ρ) {f:Int→(Int→Option ρ)→Option ρ}
 (h:∀(i:Nat) (a:α),i<l.length→l[i]?=some a→∀kn,f i kn=if p a then k0 i else kn ((i:Int)+1))
 (hn:∀kn,f l.length kn=k1):Î f 0=match l.findIdx? p with|some j=>k0 j|none=>k1:=by
 rw[kZ l (fun i a=>bif p a then some (i:Int) else none) k0 k1 (fun i a hi ha kn=>by rw[h i a hi ha kn]; cases p a<;>rfl) hn,Sl]
 cases l.findIdx? p with
 |none=>rfl
 |some j=>simp
def Ń {α:Type} (l:List α) (p:α→Bool) (k0:Int→Option ρ) (K k1:Option ρ) {f:Int→(Int→Option ρ)→Option ρ} (hK:∀j:Nat,k0 j=K)
 (h:∀(i:Nat) (a:α),i<l.length→l[i]?=some a→∀kn,f i kn=if p a then k0 i else kn ((i:Int)+1))
 (hn:∀kn,f l.length kn=k1):Î f 0=if l.any p then K else k1:=by
 rw[iA l p k0 k1 h hn]
 cases hf:l.findIdx? p with
 |none =>
  have:l.any p=false:=by
   rw[eG];intro x hx;have:=dT.1 hf x hx;simp[this]
  simp[this]
 |some j =>
  have:l.any p=true:=by
   have:=dA.1 hf;obtain⟨hj,hp,_⟩:=this;exact fc.2 ⟨_,eO hj,hp⟩
  simp[this,hK]
end
abbrev ñ:Type:=Int×Int×Int×(Int×Int)×((Int×Int)×Int)
abbrev Lp:Type:=Int×((Int×Int)×Int)
abbrev Cmp:Type:=Int×Int×List Int×List Int×Int×(Int×(Int×Int))
abbrev â:Type:=(Int×Int)×List ñ×List (Int×Int)×List Lp×List Cmp×List (Int×Int)
abbrev Sys:Type:=Int×List (Int×Int×Int)
abbrev Maker:Type:=â×List (Int×Int)×Sys×List (Int×Int)
section
variable {ρ:Type}
def Ø {b:Bool} (h:b=true) (x y:Option ρ):ifb b x y=x:=by rw[h]; rfl
def Ô {b:Bool} (h:b=false) (x y:Option ρ):ifb b x y=y:=by rw[h]; rfl
end
def I64 (n:Int):Prop:=-9223372036854775808≤n∧n≤9223372036854775807
def inP (n lo hi:Int):Bool:=decide (lo≤n)&&decide (n≤hi)
def Jd (n:Int):Bool:=inP n 0 20000
def j7 (s:Int×Int) (lo hi:Int):Bool:=decide (lo≤s.1)&&(decide (s.1≤s.2)&&decide (s.2≤hi))
def iv (n lo hi:Int):ĥ n lo hi=some (inP n lo hi):=by
 unfold ĥ Ku inP ile
 cases decide (lo≤n)<;>rfl
def Zw (n:Int):oy n=some (Jd n):=by
 unfold oy RI;rw[iv]; rfl
def Il (s:Int×Int) (lo hi:Int):ε s lo hi=some (j7 s lo hi):=by
 unfold ε KA j7 ile
 cases decide (lo≤s.1)<;>cases decide (s.1≤s.2)<;>rfl
def W8 {n:Int} (h:I64 n):sO n=some (n.natAbs:Int):=by
 obtain⟨h1,h2⟩:=h;unfold sO YV
 by_cases hn:n<0
 ·have:ilt n 0=true:=by simpa using hn
  rw[Ø this];congr 1;simp only[IntKind.wrap,IntKind.bits,IntKind.signed];simp;omega
 ·have:ilt n 0=false:=by simpa using hn
  rw[Ô this];congr 1;simp only[IntKind.wrap,IntKind.bits,IntKind.signed];simp;omega
def aoI (a b:Nat):Su a b=some ((Nat.gcd a b:Nat):Int):=by
 unfold Su afh;refine Ĕ (fun x:Int×Int=>∃c d:Nat,x=((c:Int),(d:Int))∧Nat.gcd c d=Nat.gcd a b) (fun x=>x.2.toNat) ?_ ⟨a,b,rfl,rfl⟩;rintro x ⟨c,d,rfl,hg⟩
 cases d with
 |zero =>
  refine .inl fun kn=>?_;rw[Nat.gcd_zero_right] at hg;unfold Bb;simp[hg,ine]
 |succ d =>
  refine .inr ⟨(((d+1:Nat):Int),((c % (d+1):Nat):Int)),⟨d+1,c % (d+1),rfl,?_⟩,?_,fun kn=>?_⟩
  ·rw[←hg,gX c (d+1),Nat.gcd_rec (d+1) c,gX]
  ·have:=gJ c (gI d);simp only[dk];omega
  ·unfold Bb
   have h1:ine ((d+1:Nat):Int) 0=true:=by simp[ine]; omega
   have h2:Ŏ ((d+1:Nat):Int) 0=false:=by simp[Ŏ]; omega
   simp only[h1,Ø Ô h2];congr 1
def Ly (r:Int×Int):Bool :=
 decide (1≤r.2)&&(decide (r.2≤2147483647)&&(decide ((r.1.natAbs:Int)≤2147483647)&&decide (Nat.gcd r.1.natAbs r.2.natAbs=1)))
def Z8 {r:Int×Int} (h:I64 r.1):vp r=some (Ly r):=by
 unfold vp Rp Ly
 by_cases h1:1≤r.2
 ·by_cases h2:r.2≤2147483647
  ·have h3:I64 r.2:=⟨by omega,by omega⟩
   have e1:ige r.2 1=true:=by simp[ige,h1]
   have e2:ile r.2 2147483647=true:=by simp[ile,h2]
   rw[Ø e1,Ø e2,W8 h,À]
   by_cases h4:(r.1.natAbs:Int)≤2147483647
   ·have e4:ile (r.1.natAbs:Int) 2147483647=true:=by simp[ile,h4]
    rw[Ø e4,À,W8 h3,À,aoI,À];congr 1;rw[dO];simp only[ieq,beq_iff_eq,h1,h2,h4,decide_true,dW,decide_eq_true_eq];omega
   ·have e4:ile (r.1.natAbs:Int) 2147483647=false:=by simp[ile]; omega
    rw[Ô e4];simp[h4]
  ·have e1:ige r.2 1=true:=by simp[ige,h1]
   have e2:ile r.2 2147483647=false:=by simp[ile]; omega
   rw[Ø e1,Ô e2];simp[h2]
 ·have e1:ige r.2 1=false:=by simp[ige]; omega
  rw[Ô e1];simp[h1]
def qN (g:ñ):Bool :=
 Ly g.2.2.2.2.1&&inP g.2.2.2.2.1.1 (-1000) 1000&&decide (g.2.2.2.2.1.2≤100)&&inP g.1 1 1099511627776&&Jd g.2.1&&inP g.2.2.1 1 1125899906842624&&j7 g.2.2.2.1 (-1073741824) 1073741824&&inP g.2.2.2.2.2 0 1048576
def aiG {g:ñ} (h:I64 g.2.2.2.2.1.1):w9 g=some (qN g):=by
 unfold w9 EH qN;rw[Z8 h,iv,iv,Zw,iv,Il,iv];generalize Ly g.2.2.2.2.1=x1;generalize inP g.2.2.2.2.1.1 (-1000) 1000=x2;generalize inP g.1 1 1099511627776=x3;generalize Jd g.2.1=x4;generalize inP g.2.2.1 1 1125899906842624=x5;generalize j7 g.2.2.2.1 (-1073741824) 1073741824=x6;generalize inP g.2.2.2.2.2 0 1048576=x7;unfold ile;generalize decide (g.2.2.2.2.1.2≤100)=x8
 cases x1<;>cases x2<;>cases x3<;>cases x4<;>cases x5<;>cases x6<;>cases x8<;>rfl
section
variable {ρ:Type}
def Ip {α:Type} {l:List α} {i:Nat} {a:α} (h0:0<i) (h:l[i-1]?=some a) (f:α→Option ρ):ā l ((i:Int)-1) f=f a:=by
 have:((i:Int)-1)=((i-1:Nat):Int):=by omega
 rw[this,Ì h]
def SH {i:Nat} (h:0<i) (hn:i≤1000000000) (f:Int→Option ρ):ck ((i:Int)-1) f=f ((i:Int)-1):=Õ (by omega) (by omega) f
def ψ {i n:Nat} (h:i<n) (x:Option ρ):ë ((ile 0 (i:Int))&&(ilt (i:Int) (n:Int))) x=x:=by
 have:((ile 0 (i:Int))&&(ilt (i:Int) (n:Int)))=true:=by simp[ile,ilt,h]
 rw[this,Am.iff_true]
def Ī {α:Type} {l:List α} {i:Nat} {a:α} (h:l[i]?=some a) (f:α→Option ρ):Ĺ l (Int.toNat (i:Int)) f=f a:=by
 rw[dk]; exact nk h f
end
def EY {α:Type} (key:α→Int) (l:List α) (i:Nat) (a:α):Bool :=
 decide (0<i)&&(l[i-1]?).any fun q=>decide (key a≤key q)
def Fq {α:Type} {l:List α} {i:Nat} (hi:i<l.length) (h0:0<i):∃q,l[i-1]?=some q :=
 ⟨l[i-1],cO (by omega)⟩
def Z1 {α:Type} (key:α→Int) (l:List α):(∀i a,l[i]?=some a→EY key l i a=false)↔l.Pairwise (fun a b=>key a<key b):=by
 rw[dM];constructor
 ·intro h
  have step:∀i (h1:i+1<l.length),key l[i]<key l[i+1]:=by
   intro i h1;have:=h (i+1) l[i+1] (cO h1);simp only[EY,gh,gI,decide_true,dW,cO (show i<l.length by omega),Option.any_some,decide_eq_false_iff_not] at this;omega
  intro i j hi hj hij
  induction j with
  |zero=>omega
  |succ j ih =>
   have:=step j hj;rcases dn i j with hlt|hge
   ·have:=ih (by omega) hlt; omega
   ·have:i=j:=by omega
    subst this; assumption
 ·intro h i a ha;obtain⟨hi,rfl⟩:=List.getElem?_eq_some_iff.1 ha;unfold EY
  cases i with
  |zero=>rfl
  |succ i =>
   have:=h i (i+1) (by omega) hi (by omega);simp only[gh,gI,decide_true,dW,cO (show i<l.length by omega),Option.any_some,decide_eq_false_iff_not];omega
def o8 (l:List ñ) (i:Nat) (g:ñ):Option Int :=
 if !qN g then some 1 else if EY (fun g=>g.1) l i g then some 6 else none
def jE (b:â):Int:=(Ľ (o8 b.2.1) 0 b.2.1).getD 0
def U8 {b:â} (hr:∀g∈b.2.1,I64 g.2.2.2.2.1.1) (hn:b.2.1.length≤1000):Κ b=some (jE b):=by
 unfold Κ qJ;refine Eq.trans (kZ b.2.1 (o8 b.2.1) some (some 0) (fun i a hi ha kn=>?_) (fun kn=>?_)) ?_
 ·try dsimp only
  unfold jo;rw[Ö hi,Ì ha,aiG (hr a (List.mem_of_getElem? ha)),À];unfold o8
  cases hg:qN a with
  |false=>simp
  |true =>
   simp only[eo,ø,dv,if_false];rcases fC i with h0|h0
   ·subst h0
    have:igt ((0:Nat):Int) 0=false:=by simp[igt]
    rw[Ô this,Ï hi (by omega)];simp[EY]
   ·obtain⟨q,hq⟩:=Fq hi h0
    have h1:igt (i:Int) 0=true:=by simp[igt]; omega
    rw[Ø h1,SH h0 (by omega),Ip h0 hq];simp only[EY,h0,decide_true,Bool.true_and,hq,Option.any_some];unfold ile
    cases h2:decide (a.1≤q.1) with
    |true=>simp
    |false =>
     rw[ø,Ï hi (by omega)];simp
 ·try dsimp only
  unfold jo;rw[ã]
 ·unfold jE
  cases Ľ (o8 b.2.1) 0 b.2.1<;>rfl
def aaC (l:List ñ):List (Int×ñ):=l.foldl (fun m g=>On (k:=tI) (v:=Ó) g.1 g m) []
def iO (b:â):List (Int×ñ):=aaC b.2.1
def Vl {b:â} (hn:b.2.1.length≤1000):hO b=some (iO b):=by
 unfold hO EE;refine ô b.2.1 (fun i=>aaC (b.2.1.take i)) _ rfl (fun i a hi ha kn=>?_) (fun kn=>?_)
 ·try dsimp only
  unfold nu;rw[Ö hi,Ì ha,Ï hi (by omega),take_succ ha];simp only[aaC,List.foldl_append,List.foldl_cons,List.foldl_nil]
 ·try dsimp only
  unfold nu;rw[ã,List.take_length];rfl
def abq (x y:Int) (g:ñ):∀m:List (Int×ñ),t7 (k:=tI) (v:=Ó) x (On (k:=tI) (v:=Ó) y g m)=if x=y then some g else t7 (k:=tI) (v:=Ó) x m
 |[]=>by
  unfold On t7 kR t7
  by_cases h:x=y<;>simp[h]
 |e::m=>by
  unfold On
  by_cases h:y=e.1
  ·have:kR tI y e.1=true:=by simp[kR,h]
   rw[this]
   try dsimp only
   unfold t7 kR
   by_cases h2:x=y
   ·simp[h2]
   ·have:¬x=e.1:=fun h3=>h2 (h3.trans h.symm);simp[h2,this]
  ·have:kR tI y e.1=false:=by simp[kR,h]
   rw[this]
   try dsimp only
   have ih:=abq x y g m;unfold t7
   by_cases h2:x=e.1
   ·have:kR tI x e.1=true:=by simp[kR,h2]
    rw[this];have:¬x=y:=fun h3=>h (h3.symm.trans h2);simp[this]
   ·have:kR tI x e.1=false:=by simp[kR,h2]
    rw[this];exact ih
def Ź (b:â) (id:Int):Option ñ:=b.2.1.find? fun g=>g.1==id
def aeK (x:Int) (l:List ñ):t7 (k:=tI) (v:=Ó) x (aaC l)=l.reverse.find? fun g=>g.1==x:=by
 unfold aaC;rw[←List.foldr_reverse]
 induction l.reverse with
 |nil=>rfl
 |cons g t ih =>
  rw[List.foldr_cons,abq,ih,gC]
  by_cases h:x=g.1
  ·simp[h]
  ·have:(g.1==x)=false:=by simp; exact fun h2=>h h2.symm
   simp[h,this]
def adi {l:List ñ} (h:l.Pairwise fun a b=>a.1<b.1) (x:Int):l.reverse.find? (fun g=>g.1==x)=l.find? fun g=>g.1==x:=by
 induction l with
 |nil=>rfl
 |cons g t ih =>
  rw[dK] at h;rw[List.reverse_cons,List.find?_append,ih h.2,gC]
  by_cases hx:g.1=x
  ·have:t.find? (fun g=>g.1==x)=none:=eA.2 fun y hy=>by have:g.1<y.1:=h.1 y hy; simp; omega
   rw[this]; simp[hx]
  ·have:(g.1==x)=false:=by simp[hx]
   simp[this]
def A4 {b:â} (h:b.2.1.Pairwise fun a b=>a.1<b.1) (x:Int):t7 (k:=tI) (v:=Ó) x (iO b)=Ź b x:=by
 unfold iO Ź;rw[aeK,adi h]
def nF (s:List (Int×ñ)) (id day:Int):Int :=
 match t7 (k:=tI) (v:=Ó) id s with
 |some g=>if day<g.2.1 then 4 else 0
 |none=>5
def aeM (s:List (Int×ñ)) (id day:Int):jh s id day=some (nF s id day):=by
 unfold jh tq nF
 cases h:t7 (k:=tI) (v:=Ó) id s with
 |none=>simp only[aah,h]
 |some g =>
  simp only[aah,h];rw[Ě]
  by_cases h2:day<g.2.1<;>simp[h2]
def ah5 (s:List (Int×ñ)) (id day:Int):Int:=if !Jd day then 1 else nF s id day
def aaT (s:List (Int×ñ)) (id day:Int):ŋ id day s=some (ah5 s id day):=by
 unfold ŋ EG ah5;rw[Zw,À,aeM,À]
 cases Jd day<;>rfl
def U6 (b:â) (s:List (Int×ñ)) (i:Nat) (l:Lp):Int :=
 if !j7 l.2.1 0 20000 then 1 else if !inP l.2.2 0 1048576 then 1 else if nF s l.1 l.2.1.1 != 0 then nF s l.1 l.2.1.1 else
 if (b.2.2.2.1.take i).any (fun x=>x.1==l.1&&(decide (x.2.1.1≤l.2.1.2)&&decide (l.2.1.1≤x.2.1.2))) then 9 else
 if b.2.2.1.any (fun u=>u.1==l.1&&inP u.2 l.2.1.1 l.2.1.2) then 9 else 0
def adw {b:â} (hn:b.2.2.2.1.length≤1000) (hu:b.2.2.1.length≤1000) (s:List (Int×ñ)) {i:Nat} {l:Lp} (hl:b.2.2.2.1[i]?=some l):κ b s i=some (U6 b s i l):=by
 unfold κ wI U6;have hi:i<b.2.2.2.1.length:=(List.getElem?_eq_some_iff.1 hl).1;rw[Ì hl,Il,À,iv,À,aeM,À]
 cases j7 l.2.1 0 20000 with
 |false=>rfl
 |true =>
 cases inP l.2.2 0 1048576 with
 |false=>rfl
 |true =>
 cases hm:(nF s l.1 l.2.1.1 != 0) with
 |true =>
  have:ine (nF s l.1 l.2.1.1) 0=true:=hm;simp[this]
 |false =>
 have hm':ine (nF s l.1 l.2.1.1) 0=false:=hm
 have hg:((ile (0:Int) (i:Int))&&(ile (i:Int) (ĉ b.2.2.2.1)))=true:=by simp[ile,ĉ]; omega
 simp only[eo,ø,hm',dv,if_false];rw[ĩ hg,dk]
 have inner:∀(k:Int→Option Int),Î (fun(v:Int) kk=>δ b.2.2.1 (Û b.2.2.1) l.1 l.2.1.1 l.2.1.2 v (fun u=>kk u) (fun z=>ifb (ige z 0) (k 9) (k 0)) (fun _=>k 0)) (0:Int)=if b.2.2.1.any (fun u=>u.1==l.1&&inP u.2 l.2.1.1 l.2.1.2) then k 9 else k 0:=by
  intro k;refine Ń b.2.2.1 _ (fun z=>ifb (ige z 0) (k 9) (k 0)) (k 9) (k 0) (fun j=>?_) (fun j a hj ha kn=>?_) (fun kn=>?_)
  ·have:ige (j:Int) 0=true:=by simp[ige]
   rw[Ø this]
  ·try dsimp only
   unfold δ;rw[Ö hj,Ì ha,iv,À,Ï hj (by omega)]
   cases h1:(a.1==l.1) with
   |false =>
    have:ieq a.1 l.1=false:=h1;simp[this]
   |true =>
    have:ieq a.1 l.1=true:=h1;rw[this]
    cases inP a.2 l.2.1.1 l.2.1.2<;>simp
  ·try dsimp only
   unfold δ;rw[ã]
 rw[inner];refine eV (Ń (b.2.2.2.1.take i) (fun x=>x.1==l.1&&(decide (x.2.1.1≤l.2.1.2)&&decide (l.2.1.1≤x.2.1.2))) (fun z=>ifb (ige z 0) (some 9) (if b.2.2.1.any (fun u=>u.1==l.1&&inP u.2 l.2.1.1 l.2.1.2) then some 9 else some 0)) (some 9) (if b.2.2.1.any (fun u=>u.1==l.1&&inP u.2 l.2.1.1 l.2.1.2) then some 9 else some 0) (fun j=>?_) (fun j a hj ha kn=>?_) (fun kn=>?_)) ?_
 ·have:ige (j:Int) 0=true:=by simp[ige]
  rw[Ø this]
 ·try dsimp only
  unfold kz
  have hj':j≤1000:=by rw[dj] at hj; omega
  rw[Ö hj,Ì ha,Ï hj (by rw[dj]; omega)]
  cases h1:(a.1==l.1) with
  |false =>
   have:ieq a.1 l.1=false:=h1;simp[this]
  |true =>
   have:ieq a.1 l.1=true:=h1;rw[this]
   cases h2:decide (a.2.1.1≤l.2.1.2)<;>cases h3:decide (l.2.1.1≤a.2.1.2)<;>simp[ile,h2,h3,Ě]<;>simp_all
 ·try dsimp only
  unfold kz;rw[ã]
 ·cases List.any (b.2.2.2.1.take i) _<;>cases b.2.2.1.any _<;>rfl
def ad4 {l:List Int} (hn:l.length≤1000000) (x:Int):iE l x=some (match l.findIdx? (·==x) with|some j=>(j:Int)|none=>-1):=by
 unfold iE mH;refine Eq.trans (iA l (·==x) some (some (-1)) (fun i a hi ha kn=>?_) (fun kn=>?_)) ?_
 ·try dsimp only
  unfold ir;rw[Ö hi,Ì ha,Ï hi (by omega),Ě]
  by_cases h:x=a
  ·subst h; simp[ieq]
  ·have h2:¬a=x:=fun e=>h e.symm;simp[ieq,h,h2]
 ·try dsimp only
  unfold ir;rw[ã]
 ·cases l.findIdx? (·==x)<;>rfl
def oD {l:List Int} (hn:l.length≤1000000) (x:Int):ĵ l x=some (l.contains x):=by
 unfold ĵ j4;rw[ad4 hn,À];congr 1
 cases h:l.findIdx? (·==x) with
 |none =>
  have:l.contains x=false:=by
   rw[eF];intro hc;have:=dT.1 h x (by simpa using hc);simp at this
  rw[this]; rfl
 |some j =>
  obtain⟨hj,hp,_⟩:=dA.1 h
  have:l.contains x=true:=by
   have h2:l[j]=x:=by simpa using hp
   rw[←h2]; simp
  rw[this];simp[ige]
def é (a b:List Int):List Int:=a.filter fun x=>!b.contains x
def tv {a b:List Int} (ha:a.length≤1000000) (hb:b.length≤1000000):ź a b=some (é a b):=by
 unfold ź Zb;rw[Ú (by omega),Am.iff_true]
 have second:∀z:Nat,z<a.length→é (a.take z) b=a.take z→b.contains (a[z]?.getD 0)=true →
  Î (fun(v13:(Val (.pair tI (.pair tI (.slice tI))))) kk17=>kQ b v13.1 v13.2.1 v13.2.2 (fun u14 u15 u16=>kk17 (u14,u15,u16)) (fun z12=>ë ((ile (0:Int) z12.1)&&(ile z12.1 (ĉ z12.2))) (ë ((ile (0:Int) z12.1)&&(ile z12.1 (ĉ (List.take (Int.toNat z12.1) z12.2++List.replicate (List.length z12.2-(Int.toNat z12.1)) (0:Int)++List.drop ((Int.toNat z12.1)+(List.length z12.2-(Int.toNat z12.1))) z12.2)))) (some (List.take (Int.toNat z12.1) (List.drop 0 (List.take (Int.toNat z12.1) z12.2++List.replicate (List.length z12.2-(Int.toNat z12.1)) (0:Int)++List.drop ((Int.toNat z12.1)+(List.length z12.2-(Int.toNat z12.1))) z12.2))))))) ((z:Int),((z:Int)+1),a)=some (é a b):=by
  intro z hz hp hc
  refine Ĕ (fun x:Int×Int×List Int=>∃i j:Nat,x.1=i∧x.2.1=j∧i<j∧j≤a.length∧x.2.2.length=a.length∧x.2.2.take i=é (a.take j) b∧x.2.2.drop j=a.drop j) (fun x=>a.length-x.2.1.toNat) ?_
   ⟨z,z+1,rfl,by simp,by omega,by omega,rfl,?_,rfl⟩
  ·rintro⟨x1,x2,s⟩ ⟨i,j,h1,h2,hij,hja,hl,ht,hd⟩;simp only at h1 h2 hl ht hd;subst h1 h2;rcases dn j a.length with hj|hj
   ·refine .inr ?_
    have hsj:s[j]?=some a[j]:=by
     have h3:(s.drop j)[0]?=(a.drop j)[0]?:=by rw[hd]
     rw[ff,ff] at h3;simpa[cO hj] using h3
    have hjs:j<s.length:=by omega
    have hta:é (a.take (j+1)) b=é (a.take j) b++if b.contains a[j] then[] else[a[j]]:=by
     rw[take_succ (cO hj),é,é,gH];congr 1
     cases h:b.contains a[j] with
     |true=>simp only[dV,h,eo,dv,if_false,d8,if_true]
     |false=>simp only[dV,h,Bool.not_false,dv,if_false,d8,if_true]
    cases h:b.contains a[j] with
    |true =>
     refine⟨(i,(j:Int)+1,s),⟨i,j+1,rfl,by simp,by omega,by omega,hl,?_,?_⟩,by simp; omega,fun kn=>?_⟩
     ·rw[hta,h]; simpa using ht
     ·have:=congrArg (List.drop 1) hd;simpa[gq,Nat.add_comm] using this
     ·try dsimp only
      unfold kQ;rw[Ö hjs,ψ hjs,Ī hsj,oD hb,À,h];simp only[Bool.not_true,ø];rw[Ï hjs (by omega)]
    |false =>
     have his:i<s.length:=by omega
     refine⟨((i:Int)+1,(j:Int)+1,s.set i a[j]),⟨i+1,j+1,by simp,by simp,by omega,by omega,by simpa using hl,?_,?_⟩,by simp; omega,fun kn=>?_⟩
     ·show List.take (i+1) (s.set i a[j])=_;rw[hta,h,List.take_succ,f0,List.take_set_of_le (cQ i),ht];simp[his]
     ·show List.drop (j+1) (s.set i a[j])=_;rw[List.drop_set_of_lt (by omega)];have:=congrArg (List.drop 1) hd;simpa[gq,Nat.add_comm] using this
     ·try dsimp only
      unfold kQ;rw[Ö hjs,ψ hjs,Ī hsj,oD hb,À,h];simp only[Bool.not_false,Ŋ];rw[ψ his,Ī (List.getElem?_eq_getElem his),Ï his (by omega),Ï hjs (by omega),Int.toNat_natCast]
   ·refine .inl fun kn=>?_
    have hje:j=s.length:=by omega
    try dsimp only
    unfold kQ;rw[hje,ã];dsimp only
    have g1:((ile (0:Int) (i:Int))&&(ile (i:Int) (ĉ s)))=true:=by simp[ile,ĉ]; omega
    rw[ĩ g1]
    have g2:((ile (0:Int) (i:Int))&&(ile (i:Int) (ĉ (List.take (Int.toNat (i:Int)) s++List.replicate (List.length s-(Int.toNat (i:Int))) (0:Int)++List.drop ((Int.toNat (i:Int))+(List.length s-(Int.toNat (i:Int)))) s))))=true:=by
     simp[ile,ĉ]; omega
    rw[ĩ g2,dk,List.drop_zero,dl,List.take_append_of_le_length (by simp; omega),List.take_take,Nat.min_self,ht];rw[dX (by omega)]
  ·show List.take z a=é (a.take (z+1)) b;have hz':a[z]?=some a[z]:=cO hz;rw[take_succ hz',é,gH];rw[hz'] at hc;simp only[fQ] at hc
   have:List.filter (fun x=>!b.contains x) [a[z]]=[]:=by simp only[dV,hc,eo,dv,if_false,d8]
   rw[this,dL];exact hp.symm
 refine eV (iA a (fun x=>b.contains x) (fun z4=>ifb (ieq z4 (-1:Int)) (some a) (ck (z4+(1:Int)) fun n5=>Î (fun(v13:(Val (.pair tI (.pair tI (.slice tI))))) kk17=>kQ b v13.1 v13.2.1 v13.2.2 (fun u14 u15 u16=>kk17 (u14,u15,u16)) (fun z12=>ë ((ile (0:Int) z12.1)&&(ile z12.1 (ĉ z12.2))) (ë ((ile (0:Int) z12.1)&&(ile z12.1 (ĉ (List.take (Int.toNat z12.1) z12.2++List.replicate (List.length z12.2-(Int.toNat z12.1)) (0:Int)++List.drop ((Int.toNat z12.1)+(List.length z12.2-(Int.toNat z12.1))) z12.2)))) (some (List.take (Int.toNat z12.1) (List.drop 0 (List.take (Int.toNat z12.1) z12.2++List.replicate (List.length z12.2-(Int.toNat z12.1)) (0:Int)++List.drop ((Int.toNat z12.1)+(List.length z12.2-(Int.toNat z12.1))) z12.2))))))) (z4,n5,a))) (some a) (fun i x hi hx kn=>?_) (fun kn=>?_)) ?_
 ·try dsimp only
  unfold wF;rw[Ö hi,ψ hi,Ī hx,oD hb,À,Ï hi (by omega),Ě]
 ·try dsimp only
  unfold wF;rw[ã]
 ·cases h:a.findIdx? (fun x=>b.contains x) with
  |none =>
   have:é a b=a:=by
    rw[é,List.filter_eq_self];intro x hx;have:=dT.1 h x hx;simpa using this
   rw[this]
  |some z =>
   obtain⟨hz,hc,hlt⟩:=dA.1 h
   have h1:ieq (z:Int) (-1)=false:=by simp[ieq]
   try dsimp only
   rw[Ô h1,Ï hz (by omega)];refine second z hz ?_ ?_
   ·rw[é,List.filter_eq_self];intro x hx;obtain⟨j,hj,rfl⟩:=di.1 hx;rw[dj] at hj;rw[List.getElem_take];have:=hlt j (by omega);simpa using this
   ·rw[cO hz]; exact hc
def xW (l:List Int) (i:Nat) (a:Int):Option Bool:=if !inP a 1 1099511627776 then some false else if EY (fun x=>x) l i a then some false else none
def mi (l:List Int):Bool:=match Ľ (xW l) 0 l with|some _=>false|none=>decide (l.length≤6)
def Ik {l:List Int} (hn:l.length≤1000000):m8 l=some (mi l):=by
 unfold m8 Kz;refine Eq.trans (kZ l (xW l) some (some (decide (l.length≤6))) (fun i a hi ha kn=>?_) (fun kn=>?_)) ?_
 ·try dsimp only
  unfold pw;rw[Ö hi,Ì ha,iv,À];unfold xW
  cases inP a 1 1099511627776 with
  |false=>rfl
  |true =>
   simp only[eo,ø,dv,if_false];rcases fC i with h0|h0
   ·subst h0
    have:igt ((0:Nat):Int) 0=false:=by simp[igt]
    rw[Ô this,Ï hi (by omega)];simp[EY]
   ·obtain⟨q,hq⟩:=Fq hi h0
    have h1:igt (i:Int) 0=true:=by simp[igt]; omega
    rw[Ø h1,SH h0 (by omega),Ip h0 hq];simp only[EY,h0,decide_true,Bool.true_and,hq,Option.any_some];unfold ile
    cases h2:decide (a≤q) with
    |true=>rfl
    |false =>
     rw[ø,Ï hi (by omega)];rfl
 ·try dsimp only
  unfold pw;rw[ã,ä];simp[ile];omega
 ·have hb:∀x,Ľ (xW l) 0 l=some x→x=false:=by
   have:∀(m:List Int) (j:Nat) (x:Bool),Ľ (xW l) j m=some x→x=false:=by
    intro m
    induction m with
    |nil=>intro j x h; cases h
    |cons a m ih =>
     intro j x h;unfold Ľ at h
     cases hp:xW l j a with
     |none=>rw[hp] at h; exact ih _ _ h
     |some y =>
      rw[hp] at h;cases h;unfold xW at hp
      split at hp
      ·cases hp; rfl
      ·split at hp
       ·cases hp; rfl
       ·cases hp
   exact this l 0
  unfold mi
  cases h:Ľ (xW l) 0 l with
  |none=>rfl
  |some x=>rw[hb x h]
def Fs (l:List Int):mi l=true↔(∀x∈l,1≤x∧x≤1099511627776)∧l.Pairwise (·<·)∧l.length≤6:=by
 have h0:Ľ (xW l) 0 l=none↔(∀x∈l,1≤x∧x≤1099511627776)∧l.Pairwise (·<·):=by
  rw[iX,←Z1 (fun x=>x) l];constructor
  ·intro h
   have h1:∀(j:Nat) (a:Int),l[j]?=some a→inP a 1 1099511627776=true∧EY (fun x=>x) l j a=false:=by
    intro j a ha;have:=h j a ha;rw[Nat.zero_add] at this;unfold xW at this
    split at this
    ·cases this
    ·split at this
     ·cases this
     ·rename_i h1 h2;exact⟨by simpa using h1,by simpa using h2⟩
   refine⟨fun x hx=>?_,fun i a ha=>(h1 i a ha).2⟩;obtain⟨j,hj,rfl⟩:=di.1 hx;have:=(h1 j l[j] (cO hj)).1;simpa[inP] using this
  ·rintro⟨h1,h2⟩ j a ha;rw[du];have h3:=h1 a (cZ ha)
   have:inP a 1 1099511627776=true:=by simpa[inP] using h3
   simp[xW,this,h2 j a ha]
 unfold mi
 cases h:Ľ (xW l) 0 l with
 |none =>
  obtain⟨h1,h2⟩:=h0.1 h;simp only[decide_eq_true_eq];exact⟨fun h3=>⟨h1,h2,h3⟩,fun h3=>h3.2.2⟩
 |some x =>
  constructor
  ·intro h2; cases h2
  ·rintro⟨h1,h2,h3⟩;rw[h0.2 ⟨h1,h2⟩] at h; cases h
def amB {a b:List Int} (ha:a.length≤1000000) (hb:b.length≤1000000):õ [a,b]=some (a++b):=by
 have hk:∀n:Nat,n≤4000000→∀(f:Int→Option (List Int)),ck (n:Int) f=f n:=fun n h f=>Õ (by omega) (by omega) f
 have second:Î (fun(v9:(Val (.pair tI (.slice tI)))) kk12=>û [a,b] (Û [a,b]) v9.1 v9.2 (fun u10 u11=>kk12 (u10,u11)) (fun z8=>some z8)) ((0:Int),([]:List Int))=some (a++b):=by
  refine ô [a,b] (fun i=>([a,b].take i).flatten) (some (a++b)) (f:=fun(v9:(Val (.pair tI (.slice tI)))) kk12=>û [a,b] (Û [a,b]) v9.1 v9.2 (fun u10 u11=>kk12 (u10,u11)) (fun z8=>some z8)) rfl (fun i x hi hx kn=>?_) (fun kn=>?_)
  ·try dsimp only
   unfold û;rw[Ö hi,Ì hx,Ï hi (by simp),take_succ hx,List.flatten_append]
   have:î ((List.take i [a,b]).flatten.length+x.length)=true:=by
    refine Ú ?_
    have h1:x.length≤1000000:=by
     have:=cZ hx;simp at this
     rcases this with rfl|rfl<;>assumption
    have h2:(List.take i [a,b]).flatten.length≤2000000:=by
     have:i=0∨i=1:=by simp at hi; omega
     rcases this with rfl|rfl<;>simp<;>omega
    omega
   rw[ĩ this];simp
  ·try dsimp only
   unfold û;rw[ã];simp
 unfold õ jm;refine Ĕ (fun x:Int×Int=>∃i:Nat,i≤2∧x=((([a,b].take i).flatten.length:Int),(i:Int))) (fun x=>2-x.2.toNat) ?_ ⟨0,by omega,rfl⟩;rintro x ⟨i,hi,rfl⟩;rcases Nat.lt_or_ge i 2 with h2|h2
 ·refine .inr ⟨((([a,b].take (i+1)).flatten.length:Int),(i:Int)+1),⟨i+1,h2,by simp⟩,by simp; omega,fun kn=>?_⟩;have hi':i<[a,b].length:=h2;obtain⟨x,hx⟩:∃x,[a,b][i]?=some x:=⟨_,cO hi'⟩
  have hxl:x.length≤1000000:=by
   have:=cZ hx;simp at this
   rcases this with rfl|rfl<;>assumption
  have h3:(List.take i [a,b]).flatten.length≤2000000:=by
   have:i=0∨i=1:=by omega
   rcases this with rfl|rfl<;>simp<;>omega
  try dsimp only
  unfold Ł;rw[Ö hi',Ì hx,ä]
  have e1:(((List.take i [a,b]).flatten.length:Int)+(x.length:Int))=((List.take i [a,b]).flatten.length+x.length:Nat):=by omega
  rw[e1,hk _ (by omega)]
  have:ilt ((((List.take i [a,b]).flatten.length+x.length:Nat)):Int) 0=false:=by simp[ilt]; omega
  rw[Ô this,Ï hi' (by simp),take_succ hx];simp
 ·refine .inl fun kn=>?_
  obtain rfl:i=2:=by omega
  try dsimp only
  unfold Ł;rw[show((2:Nat):Int)=(([a,b].length:Nat):Int) from rfl,ã]
  have e1:((List.take 2 [a,b]).flatten.length:Int)=((a.length+b.length:Nat):Int):=by simp
  have e2:ilt (((a.length+b.length:Nat)):Int) 0=false:=by simp[ilt]; omega
  rw[e1];dsimp only;rw[Ô e2,Int.sub_zero,hk _ (by omega)];rcases Nat.eq_zero_or_pos (a.length+b.length) with h0|h0
  ·have:igt (((a.length+b.length:Nat)):Int) 0=false:=by simp[igt]; omega
   rw[Ô this];exact second
  ·have:igt (((a.length+b.length:Nat)):Int) 0=true:=by simp[igt]; omega
   rw[Ø this]
   have:((ilt (0:Int) (((a.length+b.length:Nat)):Int))&&(î (Int.toNat (((a.length+b.length:Nat)):Int))))=true:=by
    rw[dk,Ú (by omega)];simp[ilt]; omega
   rw[ĩ this]
   have:ile 0 (ĉ (List.replicate (Int.toNat (((a.length+b.length:Nat)):Int)) (0:Int)))=true:=by simp[ile]
   rw[ĩ this];exact second
def me (b:â) (id day:Int):Option Lp:=b.2.2.2.1.find? fun l=>l.1==id&&inP day l.2.1.1 l.2.1.2
def ZF {α:Type} (p:α→Bool):∀l:List α,l.find? p=(match l.findIdx? p with|some j=>l[j]?|none=>none)
 |[]=>rfl
 |a::l=>by
  rw[gC,List.findIdx?_cons]
  cases h:p a with
  |true=>simp
  |false =>
   simp only[dv,if_false];rw[ZF p l]
   cases l.findIdx? p<;>simp
def apW {b:â} (hn:b.2.2.2.1.length≤1000) (id day:Int):Bv b id day=some (match me b id day with|some l=>(l,true)|none=>((0,(0,0),0),false)):=by
 unfold Bv Zk;refine Eq.trans (iA b.2.2.2.1 (fun l=>l.1==id&&inP day l.2.1.1 l.2.1.2) (fun z5=>ifb (ilt z5 (0:Int)) (some (((0:Int),((0:Int),(0:Int)),(0:Int)),false)) (ā b.2.2.2.1 z5 fun e6=>some (e6,true))) (some ((0,(0,0),0),false)) (fun i a hi ha kn=>?_) (fun kn=>?_)) ?_
 ·try dsimp only
  unfold wJ;rw[Ö hi,Ì ha,iv,À,Ï hi (by omega)]
  cases h1:(a.1==id) with
  |false =>
   have:ieq a.1 id=false:=h1;simp[this]
  |true =>
   have:ieq a.1 id=true:=h1;rw[this]
   cases inP day a.2.1.1 a.2.1.2<;>simp
 ·try dsimp only
  unfold wJ;rw[ã]
 ·unfold me;rw[ZF]
  cases h:b.2.2.2.1.findIdx? (fun l=>l.1==id&&inP day l.2.1.1 l.2.1.2) with
  |none=>rfl
  |some j =>
   obtain⟨hj,_,_⟩:=dA.1 h
   have:ilt (j:Int) 0=false:=by simp[ilt]
   try dsimp only
   rw[Ô this,Ì (cO hj),cO hj]
def apu (a:Int):List Int→List Int
 |[]=>[a]
 |b::t=>if a≤b then a::b::t else b::apu a t
def Wj:List Int→List Int
 |[]=>[]
 |a::t=>apu a (Wj t)
def yj (p:Option Int):List Int→List Int
 |[]=>[]
 |a::t=>if p=some a then yj (some a) t else a::yj (some a) t
def aaD (l:List Int):List Int:=yj none (Wj l)
def RZ (a:Int):∀l,(apu a l).Perm (a::l)
 |[]=>List.Perm.refl _
 |b::t=>by
  unfold apu
  split
  ·exact List.Perm.refl _
  ·exact((RZ a t).cons b).trans (List.Perm.swap a b t)
def wN:∀l,(Wj l).Perm l
 |[]=>List.Perm.refl _
 |a::t=>(RZ a _).trans ((wN t).cons a)
def RY (a:Int):∀{l:List Int},l.Pairwise (·≤·)→(apu a l).Pairwise (·≤·)
 |[],_=>by simp[apu]
 |b::t,h=>by
  rw[List.pairwise_cons] at h;unfold apu
  split
  ·rename_i hab;refine dK.2 ⟨fun x hx=>?_,dK.2 h⟩;rcases dc.1 hx with rfl|hx
   ·exact hab
   ·have:=h.1 x hx; omega
  ·rename_i hab;refine dK.2 ⟨fun x hx=>?_,RY a h.2⟩;rcases dc.1 ((RZ a t).mem_iff.1 hx) with rfl|hx
   ·omega
   ·exact h.1 x hx
def wM:∀l:List Int,(Wj l).Pairwise (·≤·)
 |[]=>List.Pairwise.nil
 |a::t=>RY a (wM t)
def amZ (l:List Int):Ff l=Wj l:=by
 have h1:(Ff l).Pairwise (·≤·):=by
  have:=List.pairwise_mergeSort (le:=fun a b:Int=>decide (a≤b)) (fun a b c h1 h2=>by simp at *; omega) (fun a b=>by simp; omega) l
  exact this.imp fun h=>by simpa using h
 exact List.Perm.eq_of_pairwise (le:=(·≤·)) (fun a b _ _ h1 h2=>by omega) h1 (wM l) ((List.mergeSort_perm l _).trans (wN l).symm)
def Vg (a:Int):∀(l:List Int) (p:Option Int),yj p (l++[a])=yj p l++(if (match l.getLast? with|some b=>some b|none=>p)=some a then[] else[a])
 |[],p=>by simp only[gg,yj,List.getLast?_nil]; rfl
 |b::t,p=>by
  have ih:=Vg a t (some b)
  have e:(match (b::t).getLast? with|some c=>some c|none=>p)=(match t.getLast? with|some c=>some c|none=>some b):=by
   cases t with
   |nil=>rfl
   |cons c t =>
    rw[List.getLast?_cons_cons]
    cases h:(c::t).getLast? with
    |none=>simp at h
    |some x=>rfl
  rw[e];simp only[eP,yj,ih]
  split<;>simp
def Dy (l:List Int):∀m,m≤l.length→Lib.compactUpTo l.toArray m=yj none (l.take m)
 |0,_=>by simp[Lib.compactUpTo,yj]
 |m+1,h=>by
  have hm:m<l.length:=h;rw[Lib.compactUpTo_succ,Dy l m (by omega),take_succ (cO hm),Vg];congr 1
  have e1:l.toArray[m]! = l[m]:=by simp[getElem!_pos,hm]
  rw[e1];unfold Lib.keeps;rw[e1]
  cases m with
  |zero=>simp
  |succ m =>
   have hm':m<l.length:=by omega
   have e2:l.toArray[m+1-1]! = l[m]:=by simp[getElem!_pos,hm']
   rw[e2]
   have e3:(l.take (m+1)).getLast?=some l[m]:=by rw[take_succ (cO hm'),List.getLast?_append]; rfl
   rw[e3]
   by_cases hne:l[m+1]=l[m]
   ·simp[hne]
   ·have:¬l[m]=l[m+1]:=fun h=>hne h.symm;simp[hne,this]
def afR (l:List Int):By l=yj none l:=by
 unfold By Lib.compact;rw[Dy l l.length (Nat.le_refl _),List.take_length]
def ajQ (l:List Int):By (Ff l)=aaD l:=by rw[amZ,afR]; rfl
def aap:∀{l:List Int} {p:Option Int} {x:Int},p≠some x→(x∈yj p l↔x∈l)
 |[],_,_,_=>Iff.rfl
 |a::t,p,x,hp=>by
  unfold yj
  by_cases hx:x=a
  ·subst hx;rw[if_neg hp]; simp
  ·have ih:=aap (l:=t) (p:=some a) (x:=x) (fun e=>hx (by cases e; rfl))
   split<;>simp[ih,hx]
def agt:∀{l:List Int} {p:Option Int},l.Pairwise (·≤·)→(∀q,p=some q→∀x∈l,q≤x)→(yj p l).Pairwise (·<·)∧∀q,p=some q→∀x∈yj p l,q<x
 |[],p,_,_=>⟨List.Pairwise.nil,fun _ _ _ h=>by cases h⟩
 |a::t,p,h,hp=>by
  rw[List.pairwise_cons] at h;obtain⟨i1,i2⟩:=agt (l:=t) (p:=some a) h.2 (fun q hq x hx=>by cases hq; exact h.1 x hx);unfold yj
  split
  ·rename_i e;exact⟨i1,fun q hq x hx=>by rw[e] at hq; cases hq; exact i2 _ rfl x hx⟩
  ·rename_i e;refine⟨dK.2 ⟨fun x hx=>i2 _ rfl x hx,i1⟩,fun q hq x hx=>?_⟩;have:=hp q hq a (by simp);have hne:q≠a:=fun h=>e (by rw[hq,h]);rcases dc.1 hx with rfl|hx
   ·omega
   ·have:=i2 _ rfl x hx; omega
def rt {l:List Int} {x:Int}:x∈aaD l↔x∈l:=by
 unfold aaD;rw[aap (by simp),(wN l).mem_iff]
def DK (l:List Int):(aaD l).Pairwise (·<·):=(agt (wM l) (fun q hq=>by cases hq)).1
def aaq:∀(l:List Int) (p:Option Int),(yj p l).length≤l.length
 |[],_=>cQ _
 |a::t,p=>by
  have:=aaq t (some a);unfold yj
  split<;>simp<;>omega
def Fh (l:List Int):(aaD l).length≤l.length:=by
 unfold aaD;have:=aaq (Wj l) none
 rwa [(wN l).length_eq] at this
def Z2 {l m:List Int} (hl:l.Pairwise (·<·)) (hm:m.Pairwise (·<·)) (h:∀x,x∈l↔x∈m):l=m:=by
 induction l generalizing m with
 |nil =>
  cases m with
  |nil=>rfl
  |cons a t=>have:=(h a).2 (by simp); cases this
 |cons a t ih =>
  rw[dK] at hl
  cases m with
  |nil=>have:=(h a).1 (by simp); cases this
  |cons b u =>
   rw[dK] at hm
   have hab:a=b:=by
    rcases dc.1 ((h a).1 (by simp)) with h1|h1
    ·exact h1
    ·rcases dc.1 ((h b).2 (by simp)) with h2|h2
     ·exact h2.symm
     ·have:=hm.1 a h1; have:=hl.1 b h2; omega
   subst hab;rw[ih hl.2 hm.2 fun x=>?_];constructor
   ·intro hx;rcases dc.1 ((h x).1 (by simp[hx])) with h1|h1
    ·have:=hl.1 x hx; omega
    ·exact h1
   ·intro hx;rcases dc.1 ((h x).2 (by simp[hx])) with h1|h1
    ·have:=hm.1 x hx; omega
    ·exact h1
def Cc (b:â) (s:List (Int×ñ)) (c:Cmp):Int :=
 if (c.2.2.1++c.2.2.2.1).any (fun id=>nF s id c.2.1==5) then 5 else
 if (c.2.2.1++c.2.2.2.1).any (fun id=>nF s id c.2.1==4) then 4 else
 if (c.2.2.1++c.2.2.2.1).any (fun id=>(me b id c.2.1).isSome) then 9 else
 if 1<(é c.2.2.1 c.2.2.2.1).length then 1 else if 1<(é c.2.2.2.1 c.2.2.1).length then 1 else
 if (é c.2.2.1 c.2.2.2.1).length+(é c.2.2.2.1 c.2.2.1).length=0 then 1 else 0
def M7 (c:Cmp):Bool :=
 inP c.1 1 1099511627776&&(Jd c.2.1&&(inP c.2.2.2.2.1 (-1125899906842624) 1125899906842624&&(inP c.2.2.2.2.2.1 0 1073741824&&(j7 c.2.2.2.2.2.2 (-10000) 10000&&(mi c.2.2.1&&mi c.2.2.2.1)))))
def pH (b:â) (s:List (Int×ñ)) (i:Nat) (c:Cmp):Int :=
 if !M7 c then 1 else if (b.2.2.2.2.1.take i).any (fun x=>x.1==c.1) then 6 else Cc b s c
def Ak (a b:List Int):(é a b).length≤a.length:=dJ _ _
set_option maxHeartbeats 1000000 in
def SJ {b:â} (hn:b.2.2.2.2.1.length≤1000) (hl:b.2.2.2.1.length≤1000) (s:List (Int×ñ)) {i:Nat} {c:Cmp} (hA:c.2.2.1.length≤1000) (hB:c.2.2.2.1.length≤1000)
 (hc:b.2.2.2.2.1[i]?=some c):ō b s i=some (pH b s i c):=by
 have hi:i<b.2.2.2.2.1.length:=(List.getElem?_eq_some_iff.1 hc).1;unfold ō oO pH M7;rw[Ì hc,iv,À]
 cases inP c.1 1 1099511627776 with
 |false=>rfl
 |true =>
 rw[Zw,À]
 cases Jd c.2.1 with
 |false=>rfl
 |true =>
 rw[iv,À]
 cases inP c.2.2.2.2.1 (-1125899906842624) 1125899906842624 with
 |false=>rfl
 |true =>
 rw[iv,À]
 cases inP c.2.2.2.2.2.1 0 1073741824 with
 |false=>rfl
 |true =>
 rw[Il,À]
 cases j7 c.2.2.2.2.2.2 (-10000) 10000 with
 |false=>rfl
 |true =>
 rw[Ik (by omega),À]
 cases mi c.2.2.1 with
 |false=>rfl
 |true =>
 rw[Ik (by omega),À]
 cases mi c.2.2.2.1 with
 |false=>rfl
 |true =>
 have hg:((ile (0:Int) (i:Int))&&(ile (i:Int) (ĉ b.2.2.2.2.1)))=true:=by simp[ile,ĉ]; omega
 simp only[eo,ø,Bool.and_self,dv,if_false];rw[ĩ hg,dk]
 -- what comes behind the IDs
 have rest:(Ã (õ ([c.2.2.1,c.2.2.2.1])) fun r12=>Î (fun(v36:Int) kk38=>ř s r12 (Û ([(5:Int),(4:Int)])) c.2.1 ([(5:Int),(4:Int)]) v36 (fun u37=>kk38 u37) (fun z23=>some z23) (fun _=>Î (fun(v33:Int) kk35=>Ř r12 (Û r12) b.1.1 b.1.2 b.2.1 b.2.2.1 b.2.2.2.1 b.2.2.2.2.1 b.2.2.2.2.2 c.2.1 v33 (fun u34=>kk35 u34) (fun z28=>some z28) (fun _=>Ã (ź c.2.2.1 c.2.2.2.1) fun r30=>Ã (ź c.2.2.2.1 c.2.2.1) fun r31=>ifb (igt (Û r30) (1:Int)) (some (1:Int)) (ifb (igt (Û r31) (1:Int)) (some (1:Int)) (ck ((Û r30)+(Û r31)) fun n32=>ifb (ieq n32 (0:Int)) (some (1:Int)) (some (0:Int)))))) (0:Int))) (0:Int))=some (Cc b s c):=by
  rw[amB (by omega) (by omega),À]
  have hall:(c.2.2.1++c.2.2.2.1).length≤2000:=by simp; omega
  have last:(Ã (ź c.2.2.1 c.2.2.2.1) fun r30=>Ã (ź c.2.2.2.1 c.2.2.1) fun r31=>ifb (igt (Û r30) (1:Int)) (some (1:Int)) (ifb (igt (Û r31) (1:Int)) (some (1:Int)) (ck ((Û r30)+(Û r31)) fun n32=>ifb (ieq n32 (0:Int)) (some (1:Int)) (some (0:Int))))) =
   some (if 1<(é c.2.2.1 c.2.2.2.1).length then 1 else if 1<(é c.2.2.2.1 c.2.2.1).length then 1 else if (é c.2.2.1 c.2.2.2.1).length+(é c.2.2.2.1 c.2.2.1).length=0 then 1 else 0):=by
   rw[tv (by omega) (by omega),À,tv (by omega) (by omega),À];have l1:=Ak c.2.2.1 c.2.2.2.1;have l2:=Ak c.2.2.2.1 c.2.2.1;rw[ä,ä,Õ (by omega) (by omega)]
   by_cases c1:1<(é c.2.2.1 c.2.2.2.1).length
   ·rw[Ø (by simp[igt]; omega),if_pos c1]
   rw[Ô (by simp[igt]; omega),if_neg c1]
   by_cases c2:1<(é c.2.2.2.1 c.2.2.1).length
   ·rw[Ø (by simp[igt]; omega),if_pos c2]
   rw[Ô (by simp[igt]; omega),if_neg c2]
   by_cases c3:(é c.2.2.1 c.2.2.2.1).length+(é c.2.2.2.1 c.2.2.1).length=0
   ·rw[Ø (by simp[ieq]; omega),if_pos c3]
   rw[Ô (by simp[ieq]; omega),if_neg c3]
  refine eV (kZ [(5:Int),4] (fun _ want=>if (c.2.2.1++c.2.2.2.1).any (fun id=>nF s id c.2.1==want) then some want else none) some (some (if (c.2.2.1++c.2.2.2.1).any (fun id=>(me b id c.2.1).isSome) then 9 else if 1<(é c.2.2.1 c.2.2.2.1).length then 1 else if 1<(é c.2.2.2.1 c.2.2.1).length then 1 else if (é c.2.2.1 c.2.2.2.1).length+(é c.2.2.2.1 c.2.2.1).length=0 then 1 else 0)) (fun j want hj hw kn=>?_) (fun kn=>?_)) ?_
  ·try dsimp only
   unfold ř;rw[Ö hj,ψ hj,Ī hw];refine Eq.trans (Ń (c.2.2.1++c.2.2.2.1) (fun id=>nF s id c.2.1==want) (fun _=>some want) (some want) (kn ((j:Int)+1)) (fun _=>rfl) (fun k a hk ha kn'=>?_) (fun kn'=>?_)) ?_
   ·try dsimp only
    unfold iT;rw[Ö hk,Ì ha,aeM,À,Ï hk (by omega),Ě]
   ·try dsimp only
    unfold iT;rw[ã,Ï hj (by simp)]
   ·cases List.any (c.2.2.1++c.2.2.2.1) (fun id=>nF s id c.2.1==want)<;>rfl
  ·try dsimp only
   unfold ř;rw[ã];refine Eq.trans (Ń (c.2.2.1++c.2.2.2.1) (fun id=>(me b id c.2.1).isSome) (fun _=>some 9) (some 9) (some (if 1<(é c.2.2.1 c.2.2.2.1).length then 1 else if 1<(é c.2.2.2.1 c.2.2.1).length then 1 else if (é c.2.2.1 c.2.2.2.1).length+(é c.2.2.2.1 c.2.2.1).length=0 then 1 else 0)) (fun _=>rfl) (fun k a hk ha kn'=>?_) (fun kn'=>?_)) ?_
   ·try dsimp only
    unfold Ř;have haw:=apW hl a c.2.1;rw[Ö hk,Ì ha,Ï hk (by omega)];rw[show Bv ((b.1.1,b.1.2),b.2.1,b.2.2.1,b.2.2.2.1,b.2.2.2.2.1,b.2.2.2.2.2) a c.2.1=Bv b a c.2.1 from rfl,haw,À]
    cases me b a c.2.1<;>rfl
   ·try dsimp only
    unfold Ř;rw[ã,last]
   ·cases List.any (c.2.2.1++c.2.2.2.1) (fun id=>(me b id c.2.1).isSome)<;>rfl
  ·unfold Cc Ľ Ľ Ľ
   try dsimp only
   cases List.any (c.2.2.1++c.2.2.2.1) (fun id=>nF s id c.2.1==5) with
   |true=>rfl
   |false =>
   cases List.any (c.2.2.1++c.2.2.2.1) (fun id=>nF s id c.2.1==4)<;>rfl
 refine eV (Ń (b.2.2.2.2.1.take i) (fun x=>x.1==c.1) (fun z11=>ifb (ige z11 (0:Int)) (some 6) (some (Cc b s c))) (some 6) (some (Cc b s c)) (fun j=>?_) (fun j a hj ha kn=>?_) (fun kn=>?_)) ?_
 ·have:ige (j:Int) 0=true:=by simp[ige]
  rw[Ø this]
 ·try dsimp only
  unfold iU;rw[rest,Ö hj,Ì ha,Ï hj (by rw[List.length_take]; omega),Ě]
 ·try dsimp only
  unfold iU;rw[ã,rest]
 ·cases List.any (b.2.2.2.2.1.take i) (fun x=>x.1==c.1)<;>rfl
def ZK (b:â) (g:ñ):List Int :=
 [g.2.1]++(b.2.2.2.2.1.filter fun c=>!(c.2.2.1.contains g.1==c.2.2.2.1.contains g.1)).map (fun c=>c.2.1)++(b.2.2.2.2.2.filter fun n=>n.1==g.1).map (fun n=>n.2)
def à (b:â) (g:ñ):List Int:=aaD (ZK b g)
structure Ž (b:â):Prop where
 gauges:b.2.1.length≤1000
 uses:b.2.2.1.length≤1000
 loans:b.2.2.2.1.length≤1000
 compares:b.2.2.2.2.1.length≤1000
 looks:b.2.2.2.2.2.length≤1000
 piles:∀c∈b.2.2.2.2.1,c.2.2.1.length≤1000∧c.2.2.2.1.length≤1000
def aaz (l:List Int):(Ff l).length=l.length:=List.length_mergeSort l
def adp {b:â} (hs:Ž b) (g:ñ):(ZK b g).length≤2001:=by
 have h1:=hs.compares;have h2:=hs.looks;have h3:=dJ (fun c:Cmp=>!(c.2.2.1.contains g.1==c.2.2.2.1.contains g.1)) b.2.2.2.2.1;have h4:=dJ (fun n:Int×Int=>n.1==g.1) b.2.2.2.2.2;simp only[ZK,cW,dY,dE];omega
def als {b:â} (hs:Ž b) (g:ñ):pF b g=some (à b g):=by
 unfold pF Zj;have hr:=adp hs g
 have hd:(à b g).length≤2001:=by
  unfold à;have:=Fh (ZK b g);omega
 have hcl:=hs.compares;have hll:=hs.looks;refine ô b.2.2.2.2.1 (fun i=>[g.2.1]++((b.2.2.2.2.1.take i).filter fun c=>!(c.2.2.1.contains g.1==c.2.2.2.1.contains g.1)).map (fun c=>c.2.1)) _ rfl (fun i c hi hc kn=>?_) (fun kn=>?_)
 ·try dsimp only
  unfold wH;obtain⟨p1,p2⟩:=hs.piles c (List.mem_of_getElem? hc);rw[Ö hi,Ì hc,oD (by omega),À,oD (by omega),À,Ï hi (by omega),Ï hi (by omega),take_succ hc,List.filter_append,List.map_append]
  have hlen:([g.2.1]++((b.2.2.2.2.1.take i).filter fun c=>!(c.2.2.1.contains g.1==c.2.2.2.1.contains g.1)).map (fun c=>c.2.1)).length≤1001:=by
   have h3:=dJ (fun c:Cmp=>!(c.2.2.1.contains g.1==c.2.2.2.1.contains g.1)) (b.2.2.2.2.1.take i);rw[dj] at h3;simp only[cW,dY,dE];omega
  rw[Ú (by simp only[dE]; omega),Am.iff_true]
  cases h:(c.2.2.1.contains g.1==c.2.2.2.1.contains g.1) with
  |true=>simp only[eo,ø,dV,h,dv,if_false,d8,fu,dL]
  |false=>simp only[Bool.not_false,Ŋ,dV,h,if_true,d8,eJ,fu,dl]
 ·try dsimp only
  unfold wH;rw[ã,List.take_length];refine ô b.2.2.2.2.2 (fun i=>[g.2.1]++(b.2.2.2.2.1.filter fun c=>!(c.2.2.1.contains g.1==c.2.2.2.1.contains g.1)).map (fun c=>c.2.1)++((b.2.2.2.2.2.take i).filter fun n=>n.1==g.1).map (fun n=>n.2)) _ (by simp) (fun i n hi hn kn=>?_) (fun kn=>?_)
  ·try dsimp only
   unfold wG;rw[Ö hi,Ì hn,Ï hi (by omega),Ï hi (by omega),take_succ hn,List.filter_append,List.map_append]
   have hlen:([g.2.1]++(b.2.2.2.2.1.filter fun c=>!(c.2.2.1.contains g.1==c.2.2.2.1.contains g.1)).map (fun c=>c.2.1)++((b.2.2.2.2.2.take i).filter fun n=>n.1==g.1).map (fun n=>n.2)).length≤2001:=by
    have h3:=dJ (fun c:Cmp=>!(c.2.2.1.contains g.1==c.2.2.2.1.contains g.1)) b.2.2.2.2.1;have h4:=dJ (fun n:Int×Int=>n.1==g.1) (b.2.2.2.2.2.take i);rw[dj] at h4;simp only[cW,dY,dE];omega
   rw[Ú (by simp only[dE]; omega),Am.iff_true]
   cases h:(n.1==g.1) with
   |true =>
    have:ieq n.1 g.1=true:=h;simp[h,this]
   |false =>
    have:ieq n.1 g.1=false:=h;simp[h,this]
  ·try dsimp only
   unfold wG;rw[ã,List.take_length];rw[show([g.2.1]++(b.2.2.2.2.1.filter fun c=>!(c.2.2.1.contains g.1==c.2.2.2.1.contains g.1)).map (fun c=>c.2.1)++(b.2.2.2.2.2.filter fun n=>n.1==g.1).map (fun n=>n.2))=ZK b g from rfl];dsimp only;rw[Ú (by omega),Am.iff_true,Ú (by rw[aaz]; omega),Am.iff_true,ajQ];rfl
def Í (b:â):List (Int×Int):=b.2.1.flatMap fun g=>(à b g).map fun d=>((g.1,d):Int×Int)
def IV {b:â} (hs:Ž b) (g:ñ):(à b g).length≤2001:=by
 unfold à;have:=Fh (ZK b g);have:=adp hs g;omega
def wV {α β:Type} (f:α→List β) (n:Nat) (h:∀a,(f a).length≤n):∀l:List α,(l.flatMap f).length≤l.length*n
 |[]=>by simp
 |a::l=>by
  have:=wV f n h l;have:=h a;simp only[dN,cW,df,dF,fA];omega
def Xy {b:â} (hs:Ž b):re b=some (Í b):=by
 unfold re RD;have hg:=hs.gauges
 have hlen:∀l:List ñ,(l.flatMap fun g=>(à b g).map fun d=>((g.1,d):Int×Int)).length≤l.length*2001:=fun l =>
  wV _ 2001 (fun g=>by rw[dY]; exact IV hs g) l
 refine ô b.2.1 (fun i=>(b.2.1.take i).flatMap fun g=>(à b g).map fun d=>((g.1,d):Int×Int)) _ rfl (fun i g hi hg' kn=>?_) (fun kn=>?_)
 ·try dsimp only
  unfold sF;rw[Ö hi,Ì hg'];rw[show pF ((b.1.1,b.1.2),b.2.1,b.2.2.1,b.2.2.2.1,b.2.2.2.2.1,b.2.2.2.2.2) g=pF b g from rfl,als hs,À];have hd:=IV hs g;have hi2:=hlen (b.2.1.take i)
  have htl:(b.2.1.take i).length≤1000:=by rw[dj]; omega
  refine ô (à b g) (fun j=>((b.2.1.take i).flatMap fun g=>(à b g).map fun d=>((g.1,d):Int×Int))++((à b g).take j).map fun d=>((g.1,d):Int×Int)) _ (by simp) (fun j d hj hd' kn'=>?_) (fun kn'=>?_)
  ·try dsimp only
   unfold sw;rw[Ö hj,Ì hd',Ï hj (by omega),take_succ hd',List.map_append];rw[Ú (by simp only[List.length_append,List.length_map,List.length_take,List.length_singleton]; omega),Am.iff_true];simp
  ·try dsimp only
   unfold sw;rw[ã,List.take_length];dsimp only;rw[Ï hi (by omega),take_succ hg',List.flatMap_append];simp
 ·try dsimp only
  unfold sF;rw[ã,List.take_length];rfl
def yp (b:â) (s:List (Int×ñ)):List Int :=
 b.2.2.1.map (fun u=>ah5 s u.1 u.2)++(b.2.2.2.1.mapIdx (fun i l=>U6 b s i l)++(b.2.2.2.2.1.mapIdx (fun i c=>pH b s i c)++b.2.2.2.2.2.map (fun u=>ah5 s u.1 u.2)))
def abx {α:Type} {f:Int→Option Int} {g:Nat→α→Int} (l:List α) (h:∀(i:Nat) (a:α),l[i]?=some a→f i=some (g i a)):PB f (yi l.length)=some (l.mapIdx g):=by
 have h1:∀i,i<l.length→f (i:Int)=some ((l.mapIdx g)[i]?.getD 0):=by
  intro i hi;rw[h i l[i] (cO hi)];simp[hi]
 have h2:∀x∈yi l.length,f x=some ((l.mapIdx g)[x.toNat]?.getD 0):=by
  intro x hx;unfold yi at hx;obtain⟨i,hi,rfl⟩:=List.mem_map.1 hx;rw[h1 i (by simpa using hi)];rfl
 rw[FQ h2];congr 1;refine List.ext_getElem (by simp[yi]) fun i h3 h4=>?_
 have h5:i<l.length:=by simpa using h4
 simp[yi,h5]
def anc {b:â} (hs:Ž b) (s:List (Int×ñ)):om b s=some (yp b s):=by
 unfold om yp
 rw[FQ (fun u _=>aaT s u.1 u.2),À,abx b.2.2.2.1 (fun i l hl=>adw hs.loans hs.uses s hl),À,
  abx b.2.2.2.2.1 (fun i c hc=>SJ hs.compares hs.loans s (hs.piles c (cZ hc)).1 (hs.piles c (cZ hc)).2 hc),À,FQ (fun u _=>aaT s u.1 u.2),À]
def è (b:â):Int :=
 if !j7 b.1 0 1000000 then 1 else
 if 12<b.2.1.length then 2 else if 40<b.2.2.1.length then 2 else if 12<b.2.2.2.1.length then 2 else if 40<b.2.2.2.2.1.length then 2 else if 10<b.2.2.2.2.2.length then 2 else
 if jE b != 0 then jE b else
 match (yp b (iO b)).find? (fun e=>e != 0) with
 |some e=>e
 |none=>if 59<(Í b).length then 2 else if 300<2*b.2.1.length+2*((Í b).length-b.2.1.length:Int)+2*b.2.2.2.2.1.length then 2 else 0
def JA {b:â} (hs:Ž b):(Í b).length≤2001000:=by
 have:=wV (fun g:ñ=>(à b g).map fun d=>((g.1,d):Int×Int)) 2001 (fun g=>by rw[List.length_map]; exact IV hs g) b.2.1;have h2:=hs.gauges;unfold Í;omega
def jp {b:â} (hs:Ž b) (hr:∀g∈b.2.1,I64 g.2.2.2.2.1.1):Ą b=some (è b):=by
 unfold Ą RO è;rw[Il,À]
 cases j7 b.1 0 1000000 with
 |false=>rfl
 |true =>
 have h1:=hs.gauges;have h2:=hs.compares;have h3:=JA hs;rw[Ô (show(!true)=false from rfl),if_neg (by simp)];simp only[ä]
 by_cases c0:12<b.2.1.length
 ·rw[Ø (by simp[igt]; omega),if_pos c0]
 rw[Ô (by simp[igt]; omega),if_neg c0]
 by_cases c1:40<b.2.2.1.length
 ·rw[Ø (by simp[igt]; omega),if_pos c1]
 rw[Ô (by simp[igt]; omega),if_neg c1]
 by_cases c2:12<b.2.2.2.1.length
 ·rw[Ø (by simp[igt]; omega),if_pos c2]
 rw[Ô (by simp[igt]; omega),if_neg c2]
 by_cases c3:40<b.2.2.2.2.1.length
 ·rw[Ø (by simp[igt]; omega),if_pos c3]
 rw[Ô (by simp[igt]; omega),if_neg c3]
 by_cases c4:10<b.2.2.2.2.2.length
 ·rw[Ø (by simp[igt]; omega),if_pos c4]
 rw[Ô (by simp[igt]; omega),if_neg c4];rw[U8 hr h1,À]
 cases hm:(jE b != 0) with
 |true =>
  have:ine (jE b) 0=true:=hm;rw[Ø this,if_pos rfl]
 |false =>
 have:ine (jE b) 0=false:=hm;rw[Ô this,if_neg (by simp)];rw[Vl h1,À];unfold aaM;rw[anc hs,À]
 cases(yp b (iO b)).find? (fun e=>e != 0) with
 |some e=>rfl
 |none =>
 dsimp only;rw[Xy hs,À]
 by_cases c5:59<(Í b).length
 ·rw[Ø (by simp[igt]; omega),if_pos c5]
 rw[Ô (by simp[igt]; omega),if_neg c5];rw[Õ (by omega) (by omega),Õ (by omega) (by omega),Õ (by omega) (by omega),Õ (by omega) (by omega),Õ (by omega) (by omega),Õ (by omega) (by omega)]
 by_cases c6:300<2*b.2.1.length+2*((Í b).length-b.2.1.length:Int)+2*b.2.2.2.2.1.length
 ·rw[Ø (by simp[igt]; omega),if_pos c6]
 rw[Ô (by simp[igt]; omega),if_neg c6]
def wrapU {n:Nat} (h:n<18446744073709551616):IntKind.wrap .u64 (n:Int)=n:=by
 simp only[IntKind.wrap,IntKind.bits,IntKind.signed];simp;omega
def wrapI {n:Nat} (h:n<9223372036854775808):IntKind.wrap .i64 (n:Int)=n:=by
 simp only[IntKind.wrap,IntKind.bits,IntKind.signed];simp;omega
def iP (l:List (Int×Int)) (x d:Int):Option Nat:=l.findIdx? fun n=>decide (x=n.1)&&decide (d=n.2)
def ad3 {l:List (Int×Int)} (hn:l.length≤100000000) (x d:Int):ă l (x,d)=some (match iP l x d with|some j=>(j:Int)|none=>-1):=by
 unfold ă Ε;refine Eq.trans (iA l (fun n=>decide (x=n.1)&&decide (d=n.2)) some (some (-1)) (fun i a hi ha kn=>?_) (fun kn=>?_)) ?_
 ·try dsimp only
  unfold Ķ;rw[Ö hi,Ì ha,Ï hi (by omega),Ě,Bool.and_true]
 ·try dsimp only
  unfold Ķ;rw[ã]
 ·unfold iP
  cases List.findIdx? (fun n=>decide (x=n.1)&&decide (d=n.2)) l<;>rfl
def atP (l:List (Int×Int)) (p:List Int) (d:Int):Int :=
 match p with
 |[]=>0
 |x::_=>match iP l x d with|some j=>(j:Int)+1|none=>0
def kT {l:List (Int×Int)} {x d:Int} {j:Nat} (h:iP l x d=some j):j<l.length∧l[j]?=some (x,d):=by
 unfold iP at h;obtain⟨hj,hp,_⟩:=List.findIdx?_eq_some_iff_getElem.1 h;refine⟨hj,?_⟩;rw[List.getElem?_eq_getElem hj];simp only[Bool.and_eq_true,decide_eq_true_eq] at hp;congr 1;exact Prod.ext hp.1.symm hp.2.symm
def al9 (m:Maker) (p:List Int) (d:Int) (hn:m.2.1.length≤100000000):iN m p d=some (atP m.2.1 p d):=by
 unfold iN Aa atP
 cases p with
 |nil=>simp[ä,ieq]
 |cons x p =>
  have h:ieq (Û (x::p)) 0=false:=by
   rw[ä];simp only[ieq,df,beq_eq_false_iff_ne,ne_eq];omega
  rw[h,ø,show(0:Int)=((0:Nat):Int) from rfl,Ì (a:=x) rfl,ad3 hn,À]
  cases hx:iP m.2.1 x d with
  |none=>dsimp only; rw[Õ (by omega) (by omega)]; simp only[hx]; rfl
  |some j =>
   have:=(kT hx).1;dsimp only;rw[Õ (by omega) (by omega)];simp only[hx]
def Fo (s:List (Int×ñ)) (p:List Int):Int×Int :=
 match p with
 |[]=>(0,1)
 |x::_=>match t7 (k:=tI) (v:=Ó) x s with
  |some g=>g.2.2.2.2.1
  |none=>(0,0)
def aaL (s:List (Int×ñ)) (p:List Int):jd s p=some (Fo s p):=by
 unfold jd oN Fo
 cases p with
 |nil=>simp[ä,ieq]
 |cons x p =>
  have h:ieq (Û (x::p)) 0=false:=by
   rw[ä];simp only[ieq,df,beq_eq_false_iff_ne,ne_eq];omega
  rw[h,ø,show(0:Int)=((0:Nat):Int) from rfl,Ì (a:=x) rfl]
  cases hx:t7 (k:=tI) (v:=Ó) x s with
  |none=>simp only[aah,hx]
  |some g=>simp only[aah,hx]
def agp {l:List (Int×Int)} (hr:∀r∈l,I64 r.1) (hn:l.length≤1000):kq l=some (if l.any (fun r=>!Ly r) then 1 else 0):=by
 unfold kq Ri;refine Eq.trans (Ń l (fun r=>!Ly r) (fun _=>some 1) (some 1) (some 0) (fun _=>rfl) (fun i a hi ha kn=>?_) (fun kn=>?_)) ?_
 ·try dsimp only
  unfold sq;rw[Ö hi,Ì ha,Z8 (hr a (List.mem_of_getElem? ha)),À,Ï hi (by omega),Ě]
 ·try dsimp only
  unfold sq;rw[ã]
 ·cases l.any (fun r=>!Ly r)<;>rfl
def oG (n d:Int):Int×Int:=(n / (Nat.gcd n.natAbs d.natAbs:Nat),d / (Nat.gcd n.natAbs d.natAbs:Nat))
def ks (r:Int×Int):Ly r=true↔1≤r.2∧r.2≤2147483647∧(r.1.natAbs:Int)≤2147483647∧Nat.gcd r.1.natAbs r.2.natAbs=1:=by
 simp[Ly]
def AY {n d:Int} (hd:0<d):∃g:Nat,0<g∧g=Nat.gcd n.natAbs d.natAbs∧n=(oG n d).1*g∧d=(oG n d).2*g:=by
 have hg:0<Nat.gcd n.natAbs d.natAbs:=Nat.gcd_pos_of_pos_right _ (by omega);refine⟨_,hg,rfl,?_,?_⟩
 ·exact(Int.ediv_mul_cancel (Int.ofNat_dvd_left.2 (Nat.gcd_dvd_left _ _))).symm
 ·exact(Int.ediv_mul_cancel (Int.ofNat_dvd_left.2 (Nat.gcd_dvd_right _ _))).symm
def Xd {n d:Int} (hd:0<d) (hn:n.natAbs≤2147483647) (hd2:d≤2147483647):Ly (oG n d)=true:=by
 obtain⟨g,h0,hg,h1,h2⟩:=AY (n:=n) hd;rw[ks]
 have a1:n.natAbs=(oG n d).1.natAbs*g:=by conv=>lhs; rw[h1]; rw[fO,fU]
 have a2:d.natAbs=(oG n d).2.natAbs*g:=by conv=>lhs; rw[h2]; rw[fO,fU]
 have p2:0<(oG n d).2:=by
  rcases Int.lt_trichotomy (oG n d).2 0 with h|h|h
  ·have:=Int.mul_neg_of_neg_of_pos h (show(0:Int)<g by omega); omega
  ·rw[h] at h2; simp at h2; omega
  ·exact h
 have b1:(oG n d).1.natAbs≤n.natAbs:=by rw[a1]; exact gd _ h0
 have b2:(oG n d).2.natAbs≤d.natAbs:=by rw[a2]; exact gd _ h0
 refine⟨by omega,by omega,by omega,?_⟩;have:=Nat.gcd_mul_right (oG n d).1.natAbs g (oG n d).2.natAbs;rw[←a1,←a2,←hg] at this
 have h3:(Nat.gcd (oG n d).1.natAbs (oG n d).2.natAbs)*g=1*g:=by omega
 exact Nat.eq_of_mul_eq_mul_right h0 h3
def Vp {n d:Int} (hd:0<d) (hn:n.natAbs≤2147483647) (hd2:d≤2147483647):rc n d=some (oG n d,0):=by
 obtain⟨g,h0,hg,h1,h2⟩:=AY (n:=n) hd;have hr:=(ks _).1 (Xd hd hn hd2);unfold rc EC;rw[W8 ⟨by omega,by omega⟩,À,W8 ⟨by omega,by omega⟩,À,aoI,À,←hg]
 have a1:n.natAbs=(oG n d).1.natAbs*g:=by conv=>lhs; rw[h1]; rw[fO,fU]
 have a2:d.natAbs=(oG n d).2.natAbs*g:=by conv=>lhs; rw[h2]; rw[fO,fU]
 have q1:Int.tdiv (n.natAbs:Int) (g:Int)=((oG n d).1.natAbs:Int):=by
  rw[a1,gV]; exact gA _ (by omega)
 have q2:Int.tdiv (d.natAbs:Int) (g:Int)=((oG n d).2.natAbs:Int):=by
  rw[a2,gV]; exact gA _ (by omega)
 have z:Ŏ (g:Int) 0=false:=by simp[Ŏ]; omega
 have g1:igt ((oG n d).1.natAbs:Int) 2147483647=false:=by simp[igt]; omega
 have g2:igt ((oG n d).2.natAbs:Int) 2147483647=false:=by simp[igt]; omega
 rw[Ô z,Ô z,q1,q2,wrapU (by omega),wrapU (by omega),wrapI (by omega),wrapI (by omega),Ô g1,Ô g2]
 have hd0:ilt d 0=false:=by simp[ilt]; omega
 rw[hd0]
 have e2:((oG n d).2.natAbs:Int)=(oG n d).2:=by omega
 rw[e2]
 by_cases hneg:n<0
 ·have hn0:ilt n 0=true:=by simp[ilt,hneg]
  have:(oG n d).1≤0:=by
   rcases gD 0 (oG n d).1 with h|h
   ·have:=Int.mul_pos h (show(0:Int)<g by omega); omega
   ·exact h
  rw[hn0];rw[show(!true==false)=true from rfl,Ŋ,Õ (by omega) (by omega)]
  have:0-((oG n d).1.natAbs:Int)=(oG n d).1:=by omega
  rw[this]
 ·have hn0:ilt n 0=false:=by simp[ilt]; omega
  have:0≤(oG n d).1:=by
   rcases gD (oG n d).1 0 with h|h
   ·have:=Int.mul_neg_of_neg_of_pos h (show(0:Int)<g by omega); omega
   ·exact h
  rw[hn0];rw[show(!false==false)=false from rfl,ø]
  have:((oG n d).1.natAbs:Int)=(oG n d).1:=by omega
  rw[this]
structure rn (r:Int×Int) (n d:Int):Prop where
 rat:Ly r=true
 num : -n≤r.1∧r.1≤n
 den:r.2≤d
def rn.pos {r:Int×Int} {n d:Int} (h:rn r n d):1≤r.2:=((ks r).1 h.rat).1
def rn.i64 {r:Int×Int} {n d:Int} (h:rn r n d):I64 r.1:=by
 have:=((ks r).1 h.rat).2.2.1;exact⟨by omega,by omega⟩
def ajC {x y:Int×Int} (hx:Ly x=true) (hy:Ly y=true):kq [x,y]=some 0:=by
 rw[agp]
 ·simp[hx,hy]
 ·intro r hr
  have:Ly r=true:=by simp at hr; rcases hr with rfl|rfl<;>assumption
  have:=((ks r).1 this).2.2.1;exact⟨by omega,by omega⟩
 ·simp
def nl {a b m n:Int} (h1 : -m≤a∧a≤m) (h2 : -n≤b∧b≤n) : -(m*n)≤a*b∧a*b≤m*n:=by
 have hm:0≤m:=by omega
 have hn:0≤n:=by omega
 have h3:(a*b).natAbs≤(m*n).natAbs:=by
  rw[fO,fO];exact gn (by omega) (by omega)
 have h4:0≤m*n:=fE hm hn;omega
def subP (x y:Int×Int):Int×Int:=oG (x.1*y.2-y.1*x.2) (x.2*y.2)
def Ji {x y:Int×Int} (hx:rn x 1000 100) (hy:rn y 1000 100):(x.1*y.2-y.1*x.2).natAbs≤200000∧0<x.2*y.2∧x.2*y.2≤10000:=by
 have h1:=nl hx.num (show -100≤y.2∧y.2≤100 from⟨by have:=hy.pos; omega,hy.den⟩);have h2:=nl hy.num (show -100≤x.2∧x.2≤100 from⟨by have:=hx.pos; omega,hx.den⟩);have h3:=nl (show -100≤x.2∧x.2≤100 from⟨by have:=hx.pos; omega,hx.den⟩) (show -100≤y.2∧y.2≤100 from⟨by have:=hy.pos; omega,hy.den⟩);have h4:=Int.mul_pos (show 0<x.2 by have:=hx.pos; omega) (show 0<y.2 by have:=hy.pos; omega);refine⟨by omega,h4,by omega⟩
def Sub_ok {x y:Int×Int} (hx:rn x 1000 100) (hy:rn y 1000 100):ZJ x y=some (subP x y,0):=by
 obtain⟨b1,b2,b3⟩:=Ji hx hy;have h1:=nl hx.num (show -100≤y.2∧y.2≤100 from⟨by have:=hy.pos; omega,hy.den⟩);have h2:=nl hy.num (show -100≤x.2∧x.2≤100 from⟨by have:=hx.pos; omega,hx.den⟩);unfold ZJ afl;rw[ajC hx.rat hy.rat,À];rw[show ine (0:Int) 0=false from rfl,ø,Õ (by omega) (by omega),Õ (by omega) (by omega),Õ (by omega) (by omega),Õ (by omega) (by omega),Vp b2 (by omega) (by omega),À];rfl
def aj0 {n d:Int} (hd:0<d):(oG n d).1.natAbs≤n.natAbs∧(oG n d).2≤d:=by
 obtain⟨g,h0,hg,h1,h2⟩:=AY (n:=n) hd
 have a1:n.natAbs=(oG n d).1.natAbs*g:=by conv=>lhs; rw[h1]; rw[fO,fU]
 have a2:d.natAbs=(oG n d).2.natAbs*g:=by conv=>lhs; rw[h2]; rw[fO,fU]
 have b1:(oG n d).1.natAbs≤n.natAbs:=by rw[a1]; exact gd _ h0
 have b2:(oG n d).2.natAbs≤d.natAbs:=by rw[a2]; exact gd _ h0
 exact⟨b1,by omega⟩
def OU {x y:Int×Int} (hx:rn x 1000 100) (hy:rn y 1000 100):rn (subP x y) 200000 10000:=by
 obtain⟨b1,b2,b3⟩:=Ji hx hy;obtain⟨c1,c2⟩:=aj0 (n:=x.1*y.2-y.1*x.2) b2;exact⟨Xd b2 (by omega) (by omega),by unfold subP; omega,by unfold subP; omega⟩
def FL (k:Int×Int) (n:Int):Int×Int:=oG (k.1*n) k.2
def JB {k:Int×Int} (hk:rn k 200000 10000) {n:Int} (hn : -10000≤n∧n≤10000):(k.1*n).natAbs≤2000000000:=by
 have:=nl hk.num hn;omega
def afz {n:Int} (hn : -10000≤n∧n≤10000):Ly (n,1)=true:=by
 rw[ks];exact⟨by simp,by simp,by simp; omega,by simp⟩
def aoX {k:Int×Int} (hk:rn k 200000 10000) {n:Int} (hn : -10000≤n∧n≤10000):Sx k (n,1)=some (FL k n,0):=by
 have b:=JB hk hn;have p:=hk.pos;have q:=hk.den;unfold Sx afn;rw[ajC hk.rat (afz hn),À];rw[show ine (0:Int) 0=false from rfl,ø,Õ (by simp only; omega) (by simp only; omega),Int.mul_one,Õ (by omega) (by omega),Vp (by omega) (by simp only; omega) (by omega),À];rfl
def XB {k:Int×Int} (hk:rn k 200000 10000) {n:Int} (hn : -10000≤n∧n≤10000):rn (FL k n) 2000000000 10000:=by
 have b:=JB hk hn;have p:=hk.pos;have q:=hk.den;obtain⟨c1,c2⟩:=aj0 (n:=k.1*n) (show 0<k.2 by omega);exact⟨Xd (by omega) (by omega) (by omega),by unfold FL; omega,by unfold FL; omega⟩
def aoP (x y:Int×Int):Int:=if x=y then 0 else if x.1*y.2<y.1*x.2 then -1 else if y.1*x.2<x.1*y.2 then 1 else 0
def aoO {x y:Int×Int} {m d:Int} (hx:rn x m d) (hy:rn y m d) (hm:m≤2000000000) (hd:d≤10000):Sv x y=some (aoP x y):=by
 have h1:=nl hx.num (show -d≤y.2∧y.2≤d from⟨by have:=hy.pos; have:=hy.den; omega,hy.den⟩);have h2:=nl hy.num (show -d≤x.2∧x.2≤d from⟨by have:=hx.pos; have:=hx.den; omega,hx.den⟩);have h0:0≤m∧0≤d:=⟨by have:=hx.num; omega,by have:=hx.pos; have:=hx.den; omega⟩;have h3:m*d≤2000000000*10000:=Int.mul_le_mul hm hd h0.2 (by omega);unfold Sv afj aoP;rw[Õ (by omega) (by omega),Õ (by omega) (by omega)];simp only[Ě,Bool.and_true,Bool.and_eq_true,decide_eq_true_eq,Ŏ,ilt,igt,gt_iff_lt];have:(x.1=y.1∧x.2=y.2)↔x=y:=⟨fun h=>Prod.ext h.1 h.2,fun h=>by rw[h]; exact⟨rfl,rfl⟩⟩;simp only[this]
 (repeat' split)<;>rfl
def Xu (k:Int×Int) (heat:Int×Int):(Int×Int)×(Int×Int) :=
 if 0<aoP (FL k heat.1) (FL k heat.2) then(FL k heat.2,FL k heat.1) else(FL k heat.1,FL k heat.2)
def apj {k heat:Int×Int} (hk:rn k 200000 10000) (hh:j7 heat (-10000) 10000=true):pE k heat=some (Xu k heat):=by
 simp only[j7,Bool.and_eq_true,decide_eq_true_eq] at hh;obtain⟨h1,h2,h3⟩:=hh;have n1 : -10000≤heat.1∧heat.1≤10000:=⟨by omega,by omega⟩;have n2 : -10000≤heat.2∧heat.2≤10000:=⟨by omega,by omega⟩;have r1:rn (heat.1,1) 10000 10000:=⟨afz n1,n1,by simp⟩;have r2:rn (heat.2,1) 10000 10000:=⟨afz n2,n2,by simp⟩;unfold pE wx Sw Rr tD tp;rw[ajC r1.rat r2.rat,À];have:ieq 0 0=true:=rfl;rw[Ø this,aoO r1 r2 (by omega) (by omega),À]
 have hc:ile (aoP (heat.1,1) (heat.2,1)) 0=true:=by
  unfold aoP;simp only[ile,decide_eq_true_eq,Int.mul_one]
  split
  ·omega
  ·split
   ·omega
   ·rw[if_neg (by omega)]; omega
 rw[hc,À];simp only[Bool.not_true,ø];rw[Z8 hk.i64,hk.rat,À];simp only[Bool.not_true,ø];rw[aoX hk n1,À,aoX hk n2,À];simp only[show ine (0:Int) 0=false from rfl,ø];rw[aoO (XB hk n1) (XB hk n2) (by omega) (by omega),À];unfold Xu;rw[Ě]
 by_cases h:0<aoP (FL k heat.1) (FL k heat.2)
 ·rw[if_pos h,if_pos (by simpa[igt] using h)]; rfl
 ·rw[if_neg h,if_neg (by simpa[igt] using h)]; rfl
def rateK (s:List (Int×ñ)) (c:Cmp):Int×Int:=subP (Fo s (é c.2.2.1 c.2.2.2.1)) (Fo s (é c.2.2.2.1 c.2.2.1))
def Ģ (b:â) (c:Cmp):(Int×Int)×(Int×Int):=Xu (rateK (iO b) c) c.2.2.2.2.2.2
def ac7 {b:â} (hs:Ž b) {c:Cmp} (hA:c.2.2.1.length≤1000) (hB:c.2.2.2.1.length≤1000)
 (h1:rn (Fo (iO b) (é c.2.2.1 c.2.2.2.1)) 1000 100) (h2:rn (Fo (iO b) (é c.2.2.2.1 c.2.2.1)) 1000 100) (hh:j7 c.2.2.2.2.2.2 (-10000) 10000=true):qe b c=some (Ģ b c):=by
 unfold qe KB;rw[Vl hs.gauges,À,tv (by omega) (by omega),À,aaL,À,tv (by omega) (by omega),À,aaL,À];unfold w8 wy;rw[Sub_ok h1 h2,À,À]
 try dsimp only
 rw[apj (OU h1 h2) hh,À];rfl
def iD (b:â) (c:Cmp):Int×Int :=
 (((c.2.2.1.length-1:Nat):Int)*b.1.1-((c.2.2.2.1.length-1:Nat):Int)*b.1.2,((c.2.2.1.length-1:Nat):Int)*b.1.2-((c.2.2.2.1.length-1:Nat):Int)*b.1.1)
def ahn {b:â} {c:Cmp} (hA:c.2.2.1.length≤1000) (hB:c.2.2.2.1.length≤1000) (h1:0≤b.1.1) (h2:b.1.1≤1000000) (h3:0≤b.1.2) (h4:b.1.2≤1000000):vr b c=some (iD b c):=by
 unfold vr RK iD
 have e:∀n:Nat,Oy 0 ((n:Int)-1)=((n-1:Nat):Int):=by
  intro n;unfold Oy
  split<;>omega
 have bd:∀(n:Nat) (x:Int),n≤1000→0≤x→x≤1000000→0≤((n-1:Nat):Int)*x∧((n-1:Nat):Int)*x≤1000000000:=by
  intro n x hn h0 hx;refine⟨fE (by omega) h0,?_⟩;have:=fj (show((n-1:Nat):Int)≤1000 by omega) hx h0 (by omega);omega
 have b1:=bd _ _ hA h1 h2;have b2:=bd _ _ hA h3 h4;have b3:=bd _ _ hB h1 h2;have b4:=bd _ _ hB h3 h4;simp only[ä];rw[Õ (by omega) (by omega),Õ (by omega) (by omega)];simp only[e];rw[Õ (by omega) (by omega),Õ (by omega) (by omega),Õ (by omega) (by omega),Õ (by omega) (by omega),Õ (by omega) (by omega),Õ (by omega) (by omega)]
def ZE {n d:Int} (hd:1≤d) (hn : -4000000000≤n∧n≤4000000000):vn n d=some (n / d):=by
 unfold vn HB
 have z:Ŏ d 0=false:=by simp[Ŏ]; omega
 rw[Ô z];have t:=Int.mul_tdiv_add_tmod n d
 have b1 : -4000000000≤Int.tdiv n d∧Int.tdiv n d≤4000000000:=by
  have:=Int.natAbs_tdiv_le_natAbs n d;omega
 rw[Õ (by omega) (by omega),Ô z,Ě]
 by_cases h:Int.tmod n d<0
 ·rw[if_pos (by simpa[ilt] using h),Õ (by omega) (by omega)];congr 1
  have h5 : -d<Int.tmod n d:=by
   have h6:=gW n d;have h7:=gJ n.natAbs (show 0<d.natAbs by omega);omega
  refine(gj (by omega)).2 ⟨?_,?_⟩ |>.symm
  ·rw[Int.sub_mul,fT]; omega
  ·rw[Int.sub_mul,fT (Int.tdiv n d)]; omega
 ·rw[if_neg (by simpa[ilt] using h)];congr 1
  have h5:Int.tmod n d<d:=by
   have h6:=gW n d;have h7:=gJ n.natAbs (show 0<d.natAbs by omega);omega
  refine(gj (by omega)).2 ⟨?_,?_⟩ |>.symm
  ·rw[fT]; omega
  ·rw[fT (Int.tdiv n d)]; omega
def aoB {x:Int×Int} (hx:Ly x=true):kq [x]=some 0:=by
 rw[agp]
 ·simp[hx]
 ·intro r hr
  have:Ly r=true:=by simp at hr; subst hr; assumption
  have:=((ks r).1 this).2.2.1;exact⟨by omega,by omega⟩
 ·simp
def EV (r:Int×Int):Int:=-(-r.1 / r.2)
def ahZ {r:Int×Int} (h:Ly r=true):Ax r=some (r.1 / r.2,0):=by
 unfold Ax Ru;have:=(ks r).1 h;rw[aoB h,À];rw[show ine (0:Int) 0=false from rfl,ø,ZE (by omega) (by omega),À]
def K6 {n d:Int} (hd:1≤d):(n / d).natAbs≤n.natAbs:=by
 exact Int.natAbs_ediv_le_natAbs n d
def amC {r:Int×Int} (h:Ly r=true):IM r=some (EV r,0):=by
 unfold IM Y1 EV;have:=(ks r).1 h;rw[aoB h,À];rw[show ine (0:Int) 0=false from rfl,ø,Õ (by omega) (by omega),ZE (by omega) (by omega),À];have hb:=K6 (n:=0-r.1) (show 1≤r.2 by omega);rw[Õ (by omega) (by omega),Int.zero_sub,Int.zero_sub]
def Œ (b:â) (c:Cmp):Int×Int :=
 (c.2.2.2.2.1-c.2.2.2.2.2.1-(iD b c).2-(Ģ b c).2.1 / (Ģ b c).2.2,c.2.2.2.2.1+c.2.2.2.2.2.1-(iD b c).1-EV (Ģ b c).1)
structure Ē (b:â):Prop where
 film:0≤b.1.1∧b.1.1≤b.1.2∧b.1.2≤1000000
 nG:b.2.1.length≤12
 nU:b.2.2.1.length≤40
 nL:b.2.2.2.1.length≤12
 nC:b.2.2.2.2.1.length≤40
 nK:b.2.2.2.2.2.length≤10
 gauge:∀g∈b.2.1,qN g=true
 ids:b.2.1.Pairwise fun a b=>a.1<b.1
 uses:∀u∈b.2.2.1,ah5 (iO b) u.1 u.2=0
 loans:∀i l,b.2.2.2.1[i]?=some l→U6 b (iO b) i l=0
 compares:∀i c,b.2.2.2.2.1[i]?=some c→pH b (iO b) i c=0
 looks:∀u∈b.2.2.2.2.2,ah5 (iO b) u.1 u.2=0
 nodes:(Í b).length≤59
 links:2*(Í b).length+2*b.2.2.2.2.1.length≤300
def wR (b:â):jE b=0↔(∀g∈b.2.1,qN g=true)∧b.2.1.Pairwise fun a b=>a.1<b.1:=by
 have h0:Ľ (o8 b.2.1) 0 b.2.1=none↔(∀g∈b.2.1,qN g=true)∧b.2.1.Pairwise fun a b=>a.1<b.1:=by
  rw[iX,←Z1 (fun g:ñ=>g.1) b.2.1];constructor
  ·intro h
   have h1:∀(j:Nat) (a:ñ),b.2.1[j]?=some a→qN a=true∧EY (fun g:ñ=>g.1) b.2.1 j a=false:=by
    intro j a ha;have:=h j a ha;rw[Nat.zero_add] at this;unfold o8 at this
    split at this
    ·cases this
    ·split at this
     ·cases this
     ·rename_i h1 h2;exact⟨by simpa using h1,by simpa using h2⟩
   refine⟨fun x hx=>?_,fun i a ha=>(h1 i a ha).2⟩;obtain⟨j,hj,rfl⟩:=di.1 hx;exact(h1 j _ (cO hj)).1
  ·rintro⟨h1,h2⟩ j a ha;rw[du];simp[o8,h1 a (cZ ha),h2 j a ha]
 rw[←h0];unfold jE
 cases h:Ľ (o8 b.2.1) 0 b.2.1 with
 |none=>simp
 |some e =>
  have:∀(m:List ñ) (j:Nat) (x:Int),Ľ (o8 b.2.1) j m=some x→x≠0:=by
   intro m
   induction m with
   |nil=>intro j x h; cases h
   |cons a m ih =>
    intro j x h;unfold Ľ at h
    cases hp:o8 b.2.1 j a with
    |none=>rw[hp] at h; exact ih _ _ h
    |some y =>
     rw[hp] at h;cases h;unfold o8 at hp
     split at hp
     ·cases hp; omega
     ·split at hp
      ·cases hp; omega
      ·cases hp
  simp[this _ _ _ h]
def ó (b:â):è b=0↔Ē b:=by
 unfold è;constructor
 ·intro h
  split at h
  ·omega
  rename_i h1
  (repeat' split at h)<;>try omega
  ·rename_i hg
   have hg':jE b≠0:=by simpa using hg
   exact(hg' h).elim
  ·rename_i hf;have:=gi hf;rename_i e;simp at this;exact(this h).elim
  ·rename_i hn1 hn2 hn3 hn4 hn5 hg e hf hn6 hn7
   have hg0:jE b=0:=by simpa using hg
   obtain⟨g1,g2⟩:=(wR b).1 hg0
   have hall:∀x∈yp b (iO b),x=0:=fun x hx=>by
    have:=eA.1 hf x hx;simpa using this
   simp only[yp,cX] at hall
   have hs:j7 b.1 0 1000000=true:=by simpa using h1
   simp only[j7,cR,decide_eq_true_eq] at hs;refine⟨⟨hs.1,hs.2.1,hs.2.2⟩,by omega,by omega,by omega,by omega,by omega,g1,g2,fun u hu=>hall _ (.inl (dS.2 ⟨u,hu,rfl⟩)),fun i l hl=>?_,fun i c hc=>?_,fun u hu=>hall _ (.inr (.inr (.inr (dS.2 ⟨u,hu,rfl⟩)))),by omega,by omega⟩
   ·obtain⟨hi,rfl⟩:=cY.1 hl;exact hall _ (.inr (.inl (gT.2 ⟨i,hi,rfl⟩)))
   ·obtain⟨hi,rfl⟩:=cY.1 hc;exact hall _ (.inr (.inr (.inl (gT.2 ⟨i,hi,rfl⟩))))
 ·intro h
  have hs:j7 b.1 0 1000000=true:=by simp[j7,h.film.1,h.film.2.1,h.film.2.2]
  have hg:jE b=0:=(wR b).2 ⟨h.gauge,h.ids⟩
  have hall:(yp b (iO b)).find? (fun e=>e != 0)=none:=by
   rw[eA];intro x hx;simp only[yp,cX,dS,gT] at hx
   have:x=0:=by
    rcases hx with⟨u,hu,rfl⟩|⟨i,hi,rfl⟩|⟨i,hi,rfl⟩|⟨u,hu,rfl⟩
    ·exact h.uses u hu
    ·exact h.loans i _ (cO hi)
    ·exact h.compares i _ (cO hi)
    ·exact h.looks u hu
   simp[this]
  have:=h.nG; have:=h.nU; have:=h.nL; have:=h.nC; have:=h.nK; have:=h.nodes; have:=h.links;rw[hs,hg,hall];simp only[eo,dv,if_false,bne_self_eq_false];rw[if_neg (by omega),if_neg (by omega),if_neg (by omega),if_neg (by omega),if_neg (by omega),if_neg (by omega),if_neg (by omega)]
section
variable {b:â}
def ĝ {l:List Int} (h:mi l=true):l.length≤6:=((Fs l).1 h).2.2
def Ē.nums (h:Ē b) {c:Cmp} (hc:c∈b.2.2.2.2.1):M7 c=true:=by
 obtain⟨i,hi,rfl⟩:=List.mem_iff_getElem.1 hc;have:=h.compares i _ (List.getElem?_eq_getElem hi);unfold pH at this
 split at this
 ·omega
 ·rename_i h; simpa using h
def Ē.pilesOf (h:Ē b) {c:Cmp} (hc:c∈b.2.2.2.2.1):Cc b (iO b) c=0:=by
 obtain⟨i,hi,rfl⟩:=List.mem_iff_getElem.1 hc;have:=h.compares i _ (List.getElem?_eq_getElem hi);unfold pH at this
 split at this
 ·omega
 ·split at this
  ·omega
  ·exact this
def Ŵ (c:Cmp):M7 c=true↔(1≤c.1∧c.1≤1099511627776)∧(0≤c.2.1∧c.2.1≤20000)∧(-1125899906842624≤c.2.2.2.2.1∧c.2.2.2.2.1≤1125899906842624)∧(0≤c.2.2.2.2.2.1∧c.2.2.2.2.2.1≤1073741824)∧j7 c.2.2.2.2.2.2 (-10000) 10000=true∧mi c.2.2.1=true∧mi c.2.2.2.1=true:=by
 simp[M7,inP,Jd,and_assoc]
def Ē.size (h:Ē b):Ž b:=by
 have h1:=h.nG; have h2:=h.nU; have h3:=h.nL; have h4:=h.nC; have h5:=h.nK;refine⟨by omega,by omega,by omega,by omega,by omega,fun c hc=>?_⟩;have:=(Ŵ c).1 (h.nums hc);have a:=ĝ this.2.2.2.2.2.1;have b:=ĝ this.2.2.2.2.2.2;omega
def vd (g:ñ):qN g=true↔Ly g.2.2.2.2.1=true∧(-1000≤g.2.2.2.2.1.1∧g.2.2.2.2.1.1≤1000)∧g.2.2.2.2.1.2≤100∧(1≤g.1∧g.1≤1099511627776)∧(0≤g.2.1∧g.2.1≤20000)∧(1≤g.2.2.1∧g.2.2.1≤1125899906842624)∧(-1073741824≤g.2.2.2.1.1∧g.2.2.2.1.1≤g.2.2.2.1.2∧g.2.2.2.1.2≤1073741824)∧(0≤g.2.2.2.2.2∧g.2.2.2.2.2≤1048576):=by
 simp[qN,inP,Jd,j7,and_assoc]
def oq {id:Int} {g:ñ} (h:Ź b id=some g):g∈b.2.1∧g.1=id:=by
 unfold Ź at h;exact⟨List.mem_of_find?_eq_some h,by simpa using List.find?_some h⟩
def wS (hi:b.2.1.Pairwise fun a b=>a.1<b.1) {g:ñ} (hg:g∈b.2.1):Ź b g.1=some g:=by
 unfold Ź
 induction hl:b.2.1 generalizing b with
 |nil=>rw[hl] at hg; cases hg
 |cons a t ih =>
  rw[hl] at hg hi;rw[dK] at hi;rw[gC];rcases dc.1 hg with rfl|hg
  ·simp
  ·have h1:=hi.1 g hg
   have:(a.1==g.1)=false:=by simp; omega
   rw[this];have:=ih (b:=(b.1,t,b.2.2)) hi.2 hg rfl;exact this
def JC (h:Ē b) {id day:Int} (hm:nF (iO b) id day=0):∃g,Ź b id=some g∧g.2.1≤day:=by
 unfold nF at hm;rw[A4 h.ids] at hm
 split at hm
 ·rename_i g hg
  split at hm
  ·omega
  ·exact⟨g,hg,by omega⟩
 ·omega
def PC (s:List (Int×ñ)) (id day:Int):nF s id day=0∨nF s id day=4∨nF s id day=5:=by
 unfold nF
 split
 ·split<;>simp
 ·simp
def Ē.pile (h:Ē b) {c:Cmp} (hc:c∈b.2.2.2.2.1) {x:Int} (hx:x∈c.2.2.1++c.2.2.2.1):(∃g,Ź b x=some g∧g.2.1≤c.2.1)∧me b x c.2.1=none:=by
 have hp:=h.pilesOf hc;unfold Cc at hp
 split at hp
 ·omega
 rename_i h5
 split at hp
 ·omega
 rename_i h4
 split at hp
 ·omega
 rename_i h9;have a5:=(eG.1 (eF.2 h5)) x hx;have a4:=(eG.1 (eF.2 h4)) x hx;have a9:=(eG.1 (eF.2 h9)) x hx;simp at a5 a4 a9;refine⟨JC h ?_,a9⟩;rcases PC (iO b) x c.2.1 with h0|h0|h0
 ·exact h0
 ·exact(a4 h0).elim
 ·exact(a5 h0).elim
def Ē.lefts (h:Ē b) {c:Cmp} (hc:c∈b.2.2.2.2.1):(é c.2.2.1 c.2.2.2.1).length≤1∧(é c.2.2.2.1 c.2.2.1).length≤1∧(é c.2.2.1 c.2.2.2.1).length+(é c.2.2.2.1 c.2.2.1).length≠0:=by
 have hp:=h.pilesOf hc;unfold Cc at hp
 (repeat' split at hp)<;>first|omega|exact⟨by omega,by omega,by omega⟩
def kh {a c:List Int} {x:Int}:x∈é a c↔x∈a∧x∉c:=by
 simp[é]
def Ē.rate (h:Ē b) {p:List Int} (hp:∀x∈p,∃g,Ź b x=some g):rn (Fo (iO b) p) 1000 100:=by
 unfold Fo
 cases p with
 |nil =>
  have:rn (0,1) 1000 100:=⟨by decide,by decide,by decide⟩;exact this
 |cons x t =>
  obtain⟨g,hg⟩:=hp x (by simp)
  try dsimp only
  rw[A4 h.ids,hg];have:=(vd g).1 (h.gauge g (oq hg).1);exact⟨this.1,this.2.1,this.2.2.1⟩
def Ē.rates (h:Ē b) {c:Cmp} (hc:c∈b.2.2.2.2.1):rn (Fo (iO b) (é c.2.2.1 c.2.2.2.1)) 1000 100∧rn (Fo (iO b) (é c.2.2.2.1 c.2.2.1)) 1000 100:=by
 constructor
 ·exact h.rate fun x hx=>by
   obtain⟨⟨g,hg,_⟩,_⟩:=h.pile hc (ee _ (kh.1 hx).1);exact⟨g,hg⟩
 ·exact h.rate fun x hx=>by
   obtain⟨⟨g,hg,_⟩,_⟩:=h.pile hc (dR _ (kh.1 hx).1);exact⟨g,hg⟩
def Ē.growth (h:Ē b) {c:Cmp} (hc:c∈b.2.2.2.2.1):qe b c=some (Ģ b c):=by
 obtain⟨r1,r2⟩:=h.rates hc;have hn:=(Ŵ c).1 (h.nums hc);have a:=ĝ hn.2.2.2.2.2.1;have b:=ĝ hn.2.2.2.2.2.2;exact ac7 h.size (by omega) (by omega) r1 r2 hn.2.2.2.2.1
def Ē.films (h:Ē b) {c:Cmp} (hA:c.2.2.1.length≤1000) (hB:c.2.2.2.1.length≤1000):vr b c=some (iD b c):=by
 have:=h.film;exact ahn hA hB (by omega) (by omega) (by omega) (by omega)
def Xt {k heat:Int×Int} (hk:rn k 200000 10000) (hh:j7 heat (-10000) 10000=true):rn (Xu k heat).1 2000000000 10000∧rn (Xu k heat).2 2000000000 10000:=by
 simp only[j7,Bool.and_eq_true,decide_eq_true_eq] at hh;have r1:=XB hk (n:=heat.1) ⟨by omega,by omega⟩;have r2:=XB hk (n:=heat.2) ⟨by omega,by omega⟩;unfold Xu
 split
 ·exact⟨r2,r1⟩
 ·exact⟨r1,r2⟩
def qR {c:Cmp} (hA:c.2.2.1.length≤1000) (hB:c.2.2.2.1.length≤1000) (h1:0≤b.1.1) (h2:b.1.1≤1000000) (h3:0≤b.1.2) (h4:b.1.2≤1000000) :
 (-1000000000≤(iD b c).1∧(iD b c).1≤1000000000)∧(-1000000000≤(iD b c).2∧(iD b c).2≤1000000000):=by
 have bd:∀(n:Nat) (x:Int),n≤1000→0≤x→x≤1000000→0≤((n-1:Nat):Int)*x∧((n-1:Nat):Int)*x≤1000000000:=by
  intro n x hn h0 hx;refine⟨fE (by omega) h0,?_⟩;have:=fj (show((n-1:Nat):Int)≤1000 by omega) hx h0 (by omega);omega
 have b1:=bd _ _ hA h1 h2;have b2:=bd _ _ hA h3 h4;have b3:=bd _ _ hB h1 h2;have b4:=bd _ _ hB h3 h4;unfold iD
 try dsimp only
 omega
def qP {r:Int×Int} (h:rn r 2000000000 10000) : -2000000000≤r.1 / r.2∧r.1 / r.2≤2000000000:=by
 have:=K6 (n:=r.1) h.pos;have:=h.num;omega
def vw {r:Int×Int} (h:rn r 2000000000 10000) : -2000000000≤EV r∧EV r≤2000000000:=by
 have:=K6 (n:=-r.1) h.pos;have:=h.num;unfold EV;omega
def Ē.says (h:Ē b) {c:Cmp} (hc:c∈b.2.2.2.2.1):w7 b c=some (Œ b c):=by
 obtain⟨r1,r2⟩:=h.rates hc;have hn:=(Ŵ c).1 (h.nums hc);have ha:=ĝ hn.2.2.2.2.2.1;have hb:=ĝ hn.2.2.2.2.2.2;have hf:=h.film;obtain⟨g1,g2⟩:=Xt (OU r1 r2) hn.2.2.2.2.1;have fb:=qR (b:=b) (c:=c) (by omega) (by omega) (by omega) (by omega) (by omega) (by omega);have q1:rn (Ģ b c).1 2000000000 10000:=g1;have q2:rn (Ģ b c).2 2000000000 10000:=g2;have c1:=vw q1;have c2:=qP q2;unfold w7 Y5 Œ;rw[h.growth hc,À,h.films (by omega) (by omega),À,ahZ q2.rat,À,amC q1.rat,À]
 try dsimp only
 have n3:=hn.2.2.1;have n4:=hn.2.2.2.1;rw[Õ (by omega) (by omega),Õ (by omega) (by omega),Õ (by omega) (by omega),Õ (by omega) (by omega),Õ (by omega) (by omega),Õ (by omega) (by omega)]
end
def Ġ (l:Lp) (f t:Int):Int:=min l.2.1.2 (t-1)-max l.2.1.1 f+1
def ń (id f t:Int):List Lp→Int
 |[]=>0
 |l::r=>(if l.1=id∧0<Ġ l f t then Ġ l f t*l.2.2 else 0)+ń id f t r
def Ah (id f t:Int):∀(x y:List Lp),ń id f t (x++y)=ń id f t x+ń id f t y
 |[],y=>by simp[ń]
 |l::r,y=>by
  simp only[eP,ń,Ah id f t r y];omega
def ji (b:â) (id f t:Int):List Int:=(b.2.2.1.filter fun u=>u.1==id&&inP u.2 f (t-1)).map fun u=>u.2
def jc (b:â) (g:ñ) (f t:Int):Int:=ń g.1 f t b.2.2.2.1+(aaD (ji b g.1 f t)).length*g.2.2.2.2.2
def tz (a c:Int):Tp a c=min a c:=by unfold Tp; split<;>omega
def Zy (a c:Int):Oy a c=max a c:=by unfold Oy; split<;>omega
def KJ {b:â} (h:Ē b) {l:Lp} (hl:l∈b.2.2.2.1):(0≤l.2.1.1∧l.2.1.1≤l.2.1.2∧l.2.1.2≤20000)∧(0≤l.2.2∧l.2.2≤1048576):=by
 obtain⟨i,hi,rfl⟩:=List.mem_iff_getElem.1 hl;have:=h.loans i _ (List.getElem?_eq_getElem hi);unfold U6 at this
 split at this
 ·omega
 rename_i h1
 split at this
 ·omega
 rename_i h2;simp only[eR,Bool.not_eq_false,j7,inP,cR,decide_eq_true_eq] at h1 h2;exact⟨h1,h2⟩
def Wc {l:Lp} (h:(0≤l.2.1.1∧l.2.1.1≤l.2.1.2∧l.2.1.2≤20000)∧(0≤l.2.2∧l.2.2≤1048576)) {f t:Int} (hf:0≤f) (hd:0<Ġ l f t):0≤Ġ l f t*l.2.2∧Ġ l f t*l.2.2≤20001*1048576:=by
 refine⟨Int.mul_nonneg (by omega) h.2.1,Int.mul_le_mul ?_ h.2.2 h.2.1 (by omega)⟩;unfold Ġ;omega
def tr {id f t:Int} (hf:0≤f):∀{x:List Lp},(∀l∈x,(0≤l.2.1.1∧l.2.1.1≤l.2.1.2∧l.2.1.2≤20000)∧(0≤l.2.2∧l.2.2≤1048576))→0≤ń id f t x∧ń id f t x≤x.length*(20001*1048576)
 |[],_=>by simp[ń]
 |l::r,h=>by
  have ih:=tr (id:=id) (t:=t) hf (x:=r) fun l hl=>h l (by simp[hl]);simp only[ń,df,fP,fS,f6]
  split
  ·rename_i hc;have:=Wc (h l (by simp)) hf hc.2;omega
  ·omega
def apr {b:â} (h:Ē b) {g:ñ} (hg:0≤g.2.2.2.2.2∧g.2.2.2.2.2≤1048576) {f t:Int} (hf:0≤f∧f≤100000) (ht:0≤t∧t≤100000):Bu b g f t=some (jc b g f t):=by
 have hL:=h.nL;have hU:=h.nU
 have hlb:∀i,0≤ń g.1 f t (b.2.2.2.1.take i)∧ń g.1 f t (b.2.2.2.1.take i)≤12*(20001*1048576):=by
  intro i;have h1:=tr (id:=g.1) (t:=t) hf.1 (x:=b.2.2.2.1.take i) fun l hl=>KJ h (fH hl);have h2:((b.2.2.2.1.take i).length:Int)*(20001*1048576)≤12*(20001*1048576):=fK (by rw[dj]; omega) (by omega);omega
 unfold Bu Y8;refine Ĕ (fun x:Int×Int=>∃i:Nat,i≤b.2.2.2.1.length∧x=(ń g.1 f t (b.2.2.2.1.take i),(i:Int))) (fun x=>b.2.2.2.1.length-x.2.toNat) ?_ ⟨0,by omega,rfl⟩;rintro x ⟨i,hi,rfl⟩;rcases Nat.lt_or_ge i b.2.2.2.1.length with hlt|hge
 ·have hl:b.2.2.2.1[i]?=some b.2.2.2.1[i]:=cO hlt;have hz:=KJ h (cZ hl);refine .inr ⟨(ń g.1 f t (b.2.2.2.1.take (i+1)),(i:Int)+1),⟨i+1,hlt,by simp⟩,by simp; omega,fun kn=>?_⟩
  try dsimp only
  unfold wE;have b1:=hlb i;have b2:=hlb (i+1)
  have e1:ń g.1 f t (b.2.2.2.1.take (i+1))=ń g.1 f t (b.2.2.2.1.take i)+(if b.2.2.2.1[i].1=g.1∧0<Ġ b.2.2.2.1[i] f t then Ġ b.2.2.2.1[i] f t*b.2.2.2.1[i].2.2 else 0):=by
   rw[take_succ hl,Ah]; simp[ń]
  rw[Ö hlt,Ì hl,Õ (by omega) (by omega),tz,Zy,Õ (by omega) (by omega),Õ (by omega) (by omega)];rw[show min b.2.2.2.1[i].2.1.2 (t-1)-max b.2.2.2.1[i].2.1.1 f+1=Ġ b.2.2.2.1[i] f t from rfl,Ě]
  by_cases hid:b.2.2.2.1[i].1=g.1
  ·rw[if_pos (by simpa[ieq] using hid),Ě]
   by_cases hd:0<Ġ b.2.2.2.1[i] f t
   ·have lb:=Wc hz hf.1 hd;rw[if_pos ⟨hid,hd⟩] at e1;rw[if_pos (by simpa[igt] using hd),Õ (by omega) (by omega),Õ (by omega) (by omega),Ï hlt (by omega),e1]
   ·rw[if_neg (fun hc=>hd hc.2)] at e1;rw[if_neg (by simpa[igt] using hd),Ï hlt (by omega),e1,gp]
  ·rw[if_neg (fun hc=>hid hc.1)] at e1;rw[if_neg (by simpa[ieq] using hid),Ï hlt (by omega),e1,gp]
 ·refine .inl fun kn=>?_
  have:i=b.2.2.2.1.length:=by omega
  subst this
  try dsimp only
  unfold wE;rw[ã,List.take_length]
  have hud:∀x:List (Int×Int),x.length≤40→((x.filter fun u=>u.1==g.1&&inP u.2 f (t-1)).map fun u=>u.2).length≤40:=by
   intro x hx;rw[dY];exact dG (dJ _ _) hx
  refine ô b.2.2.1 (fun i=>((b.2.2.1.take i).filter fun u=>u.1==g.1&&inP u.2 f (t-1)).map fun u=>u.2) _ rfl (fun i u hi hu kn'=>?_) (fun kn'=>?_)
  ·try dsimp only
   unfold wD;have hx:=hud (b.2.2.1.take i) (by rw[List.length_take]; omega);rw[Ö hi,Ì hu,Õ (by omega) (by omega),iv,À,Ú (by simp only[List.length_singleton]; omega),Am.iff_true,Ï hi (by omega),Ï hi (by omega),take_succ hu,List.filter_append,List.map_append]
   cases h1:(u.1==g.1) with
   |false =>
    have:ieq u.1 g.1=false:=h1;simp only[this,ø,dV,h1,Bool.false_and,dv,if_false,d8,fu,dL]
   |true =>
    have:ieq u.1 g.1=true:=h1;rw[this]
    cases h2:inP u.2 f (t-1) with
    |false=>simp only[Ŋ,ø,dV,h1,h2,dW,dv,if_false,d8,fu,dL]
    |true=>simp only[Ŋ,dV,h1,h2,dW,if_true,d8,fu,eJ]
  ·try dsimp only
   unfold wD;rw[ã,List.take_length];rw[show((b.2.2.1.filter fun u=>u.1==g.1&&inP u.2 f (t-1)).map fun u=>u.2)=ji b g.1 f t from rfl];have h40:(ji b g.1 f t).length≤40:=hud _ hU
   have hc40:(aaD (ji b g.1 f t)).length≤40:=by
    have:=Fh (ji b g.1 f t);omega
   have hm:0≤((aaD (ji b g.1 f t)).length:Int)*g.2.2.2.2.2∧((aaD (ji b g.1 f t)).length:Int)*g.2.2.2.2.2≤40*1048576 :=
    ⟨fE (by omega) hg.1,fj (by omega) hg.2 hg.1 (by omega)⟩
   have b1:=hlb b.2.2.2.1.length;rw[List.take_length] at b1;dsimp only;rw[Ú (by omega),Am.iff_true,Ú (by rw[aaz]; omega),Am.iff_true,ajQ,ä,Õ (by omega) (by omega),Õ (by omega) (by omega)];rfl
abbrev Lk:Type:=Int×Int×Int
inductive Wl (L:List Lk) (S:Int→Prop):List Int→Int→Int→Prop
 |nil {v:Int}:S v→Wl L S [] v 0
 |step {vs:List Int} {u v m d:Int}:Wl L S vs u d→(u,v,m)∈L→Wl L S (u::vs) v (d+m)
def Pot (L:List Lk) (p:Int→Int):Prop:=∀u v m,(u,v,m)∈L→p v≤p u+m
def InR (L:List Lk) (N:Nat):Prop:=∀l∈L,(0≤l.1∧l.1<N)∧(0≤l.2.1∧l.2.1<N)
section
variable {L:List Lk} {S:Int→Prop} {N:Nat} {p:Int→Int}
def Wl.cut (hp:Pot L p) {vs:List Int} {v d:Int} (h:Wl L S vs v d):∀x∈vs,∃vs1 d1,Wl L S vs1 x d1∧(x::vs1) <:+ vs∧d1+(p v-p x)≤d:=by
 induction h with
 |nil h=>intro x hx; cases hx
 | @step vs u v m d hw hl ih =>
  intro x hx;have h1:=hp u v m hl;rcases dc.1 hx with rfl|hx
  ·exact⟨vs,d,hw,List.suffix_refl _,by omega⟩
  ·obtain⟨vs1,d1,g1,g2,g3⟩:=ih x hx;exact⟨vs1,d1,g1,g2.trans (List.suffix_cons _ _),by omega⟩
def Wl.simple (hp:Pot L p) {vs:List Int} {v d:Int} (h:Wl L S vs v d):∃vs' d',Wl L S vs' v d'∧d'≤d∧(v::vs').Nodup:=by
 induction h with
 |nil h=>exact⟨[],0,.nil h,dw _,by simp⟩
 | @step vs u v m d hw hl ih =>
  obtain⟨vs1,d1,g1,g2,g3⟩:=ih;have hw1:=Wl.step g1 hl
  by_cases hv:v∈u::vs1
  ·obtain⟨vs2,d2,k1,k2,k3⟩:=hw1.cut hp v hv;exact⟨vs2,d2,k1,by omega,g3.sublist k2.sublist⟩
  ·exact⟨u::vs1,d1+m,hw1,by omega,fX.2 ⟨hv,g3⟩⟩
def Wl.range (hL:InR L N) (hS:∀v,S v→0≤v∧v<N) {vs:List Int} {v d:Int} (h:Wl L S vs v d):(0≤v∧v<N)∧∀u∈vs,0≤u∧u<N:=by
 induction h with
 |nil h=>exact⟨hS _ h,fun u hu=>by cases hu⟩
 | @step vs u v m d hw hl ih =>
  refine⟨(hL _ hl).2,fun w hw'=>?_⟩;rcases dc.1 hw' with rfl|h
  ·exact ih.1
  ·exact ih.2 w h
def agL:∀(N:Nat) (l:List Int),l.Nodup→(∀x∈l,0≤x∧x<N)→l.length≤N
 |0,l,_,h=>by
  cases l with
  |nil=>simp
  |cons a l=>have:=h a (by simp); omega
 |N+1,l,hn,h=>by
  have h1:(l.erase (N:Int)).length≤N:=agL N _ (hn.erase _) fun x hx=>by
   have h2:=(hn.mem_erase_iff).1 hx;have:=h x h2.2;have:=h2.1;omega
  have:=List.length_erase (a:=(N:Int)) (l:=l)
  split at this<;>omega
def Wl.short (hL:InR L N) (hS:∀v,S v→0≤v∧v<N) {vs:List Int} {v d:Int} (h:Wl L S vs v d) (hn:(v::vs).Nodup):vs.length+1≤N:=by
 have:=h.range hL hS
 exact agL N (v::vs) hn fun x hx=>by
  rcases dc.1 hx with rfl|hx
  ·exact this.1
  ·exact this.2 x hx
def BN (f:Lk→Bool):List Lk→Int
 |[]=>0
 |l::t=>(if f l then min l.2.2 0 else 0)+BN f t
def akr (f:Lk→Bool):∀L:List Lk,BN (fun _=>true) L≤BN f L
 |[]=>dw _
 |l::t=>by
  have:=akr f t;simp only[BN,if_true]
  split<;>omega
def mG (f:Lk→Bool):∀L:List Lk,BN f L≤0
 |[]=>dw _
 |l::t=>by
  have:=mG f t;simp only[BN]
  split<;>omega
def ag2 {f:Lk→Bool} {l:Lk} (hf:f l=true):∀{L:List Lk},l∈L→BN f L≤l.2.2
 |a::t,h=>by
  simp only[BN];rcases dc.1 h with rfl|h
  ·have:=mG f t;rw[if_pos hf]; omega
  ·have:=ag2 hf h
   split<;>omega
def akq {f g:Lk→Bool} (h:∀l,f l=true→g l=false):∀L:List Lk,BN (fun l=>f l||g l) L=BN f L+BN g L
 |[]=>rfl
 |l::t=>by
  have ih:=akq h t;simp only[BN,ih]
  by_cases hf:f l=true
  ·simp[hf,h l hf]; omega
  ·have hf':f l=false:=by simpa using hf
   by_cases hg:g l=true
   ·simp[hf',hg]; omega
   ·simp[hf',hg]
def Wl.low {vs:List Int} {v d:Int} (h:Wl L S vs v d):vs.Nodup→BN (fun l=>vs.contains l.1) L≤d:=by
 induction h with
 |nil h=>intro _; exact mG _ _
 | @step vs u v m d hw hl ih =>
  intro hn;rw[fX] at hn;have h1:=ih hn.2;have h2:BN (fun l=>l.1==u) L≤m:=ag2 (f:=fun l=>l.1==u) (l:=(u,v,m)) (by simp) hl
  have h3:=akq (f:=fun l:Lk=>l.1==u) (g:=fun l=>vs.contains l.1) (fun l hf=>by
   simp only[beq_iff_eq] at hf;rw[hf]
   simpa using hn.1) L
  have h4:(fun l:Lk=>(u::vs).contains l.1)=fun l=>(l.1==u)||vs.contains l.1:=by funext l; rw[List.contains_cons]
  rw[h4,h3];omega
def kU (L:List Lk):Int:=BN (fun _=>true) L
def Wl.low' (hp:Pot L p) {vs:List Int} {v d:Int} (h:Wl L S vs v d):kU L≤d:=by
 obtain⟨vs',d',h1,h2,h3⟩:=h.simple hp;have:=h1.low (List.nodup_cons.1 h3).2;have:=akr (fun l=>vs'.contains l.1) L;unfold kU;omega
def Wl.high {M:Int} (hM:∀l∈L,l.2.2≤M) {vs:List Int} {v d:Int} (h:Wl L S vs v d):d≤vs.length*M:=by
 induction h with
 |nil h=>simp
 | @step vs u v m d hw hl ih =>
  have:=hM _ hl;simp only[df,fP,fS,f6];simp only at this;omega
def Wl.lowM {M:Int} (hM:∀l∈L,-M≤l.2.2) {vs:List Int} {v d:Int} (h:Wl L S vs v d) : -(vs.length*M)≤d:=by
 induction h with
 |nil h=>simp
 | @step vs u v m d hw hl ih =>
  have:=hM _ hl;simp only[df,fP,fS,f6];simp only at this;omega
def Wl.mono {S':Int→Prop} (hS:∀v,S v→S' v) {vs:List Int} {v d:Int} (h:Wl L S vs v d):Wl L S' vs v d:=by
 induction h with
 |nil h=>exact .nil (hS _ h)
 |step hw hl ih=>exact .step ih hl
def Wl.pot (hp:Pot L p) {vs:List Int} {v d:Int} (h:Wl L S vs v d):∃s,S s∧p v-p s≤d:=by
 induction h with
 | @nil v h=>exact⟨v,h,by omega⟩
 | @step vs u v m d hw hl ih =>
  obtain⟨s,h1,h2⟩:=ih;have:=hp u v m hl;exact⟨s,h1,by omega⟩
end
abbrev ĸ:Int:=1152921504606846976
structure ajw (L:List Lk) (S:Int→Prop) (N:Nat) (x:Int→Int):Prop where
 att:∀v:Int,0≤v→v<N→x v≠ĸ→∃vs,Wl L S vs v (x v)
 low:∀v vs d,Wl L S vs v d→x v≤d
 bd:∀v:Int,0≤v→v<N→x v≤ĸ
def ajw.uniq {L:List Lk} {S:Int→Prop} {N:Nat} {x y:Int→Int} (hx:ajw L S N x) (hy:ajw L S N y) {v:Int} (h0:0≤v) (h1:v<N):x v=y v:=by
 have key:∀{x y:Int→Int},ajw L S N x→ajw L S N y→x v≤y v:=by
  intro x y hx hy
  by_cases h:y v=ĸ
  ·rw[h]; exact hx.bd v h0 h1
  ·obtain⟨vs,hw⟩:=hy.att v h0 h1 h;exact hx.low v vs _ hw
 exact Int.le_antisymm (key hx hy) (key hy hx)
def gv (x:List Int) (v:Int):Int:=x[v.toNat]?.getD 0
def Wo {x:List Int} {v:Int} (h:v.toNat<x.length):x[v.toNat]?=some (gv x v):=by
 unfold gv; rw[List.getElem?_eq_getElem h]; rfl
def uY {x:List Int} {u v:Int} (hu:0≤u) (hv:0≤v) (h:u.toNat<x.length) (y:Int):gv (x.set u.toNat y) v=if v=u then y else gv x v:=by
 unfold gv;rw[List.getElem?_set]
 by_cases hvu:v=u
 ·subst hvu; simp[h]
 ·have:¬u.toNat=v.toNat:=by omega
  simp[hvu,this]
def Wp {x y:List Int} (hl:x.length=y.length) (h:∀v:Int,0≤v→v<x.length→gv x v=gv y v):x=y:=by
 refine List.ext_getElem hl fun i h1 h2=>?_;have:=h i (by omega) (by omega);unfold gv at this;simpa[h1,h2] using this
def ų (x:List Int) (l:Lk):List Int:=if gv x l.1<ĸ∧gv x l.1+l.2.2<gv x l.2.1 then x.set l.2.1.toNat (gv x l.1+l.2.2) else x
def ķ (L:List Lk) (x:List Int):List Int:=L.foldl ų x
def Ć (L:List Lk):Nat→List Int→List Int
 |0,x=>x
 |n+1,x=>Ć L n (ķ L x)
def lv (x:List Int) (l:Lk):(ų x l).length=x.length:=by unfold ų; split<;>simp
def nB (L:List Lk):∀x:List Int,(ķ L x).length=x.length:=by
 induction L with
 |nil=>intro x; rfl
 |cons l t ih=>intro x; show(ķ t (ų x l)).length=_; rw[ih,lv]
def ÿ (L:List Lk):∀(n:Nat) (x:List Int),(Ć L n x).length=x.length
 |0,x=>rfl
 |n+1,x=>by rw[Ć,ÿ L n,nB]
def Ň (L:List Lk):∀(n:Nat) (x:List Int),Ć L (n+1) x=ķ L (Ć L n x)
 |0,x=>rfl
 |n+1,x=>by rw[Ć,Ň L n]; rfl
section
variable {L0:List Lk} {S:Int→Prop} {N:Nat}
def aaK {x:List Int} {l:Lk} (hl:(0≤l.1∧l.1<N)∧(0≤l.2.1∧l.2.1<N)) (hx:x.length=N) (v:Int) (hv:0≤v):gv (ų x l) v≤gv x v:=by
 unfold ų
 split
 ·rename_i h;rw[uY hl.2.1 hv (by omega)]
  split
  ·rename_i h2; subst h2; omega
  ·exact dw _
 ·exact dw _
def rz:∀{L:List Lk},InR L N→∀{x:List Int},x.length=N→∀v,0≤v→gv (ķ L x) v≤gv x v
 |[],_,x,_,v,_=>dw _
 |l::t,hL,x,hx,v,hv=>by
  have h1:=aaK (hL l (by simp)) hx v hv;have h2:=rz (L:=t) (fun l hl=>hL l (by simp[hl])) (x:=ų x l) (by rw[lv,hx]) v hv;show gv (ķ t (ų x l)) v≤_;omega
def Jq:∀{L:List Lk},InR L N→∀{x:List Int},x.length=N→∀u v m,(u,v,m)∈L→gv x u<ĸ→gv (ķ L x) v≤gv x u+m
 |l::t,hL,x,hx,u,v,m,hm,hf=>by
  have ht:InR t N:=fun l hl=>hL l (by simp[hl])
  have hx':(ų x l).length=N:=by rw[lv,hx]
  show gv (ķ t (ų x l)) v≤_;rcases dc.1 hm with rfl|hm
  ·have hl:=hL (u,v,m) (by simp);have h2:=rz ht hx' v hl.2.1
   have h3:gv (ų x (u,v,m)) v≤gv x u+m:=by
    unfold ų
    split
    ·rw[uY hl.2.1 hl.2.1 (by simp only at hl; simp only; omega),if_pos rfl]; exact dw _
    ·rename_i h; simp only[not_and,Int.not_lt] at h; exact h hf
   omega
  ·have hl:=hL (u,v,m) (by simp[hm]);have h1:=aaK (hL l (by simp)) hx u hl.1.1;have:=Jq ht hx' u v m hm (by omega);omega
def Att (L0:List Lk) (S:Int→Prop) (N:Nat) (x:List Int):Prop:=∀v:Int,0≤v→v<N→gv x v<ĸ→∃vs,Wl L0 S vs v (gv x v)
def aig {x:List Int} {l:Lk} (hl:(0≤l.1∧l.1<N)∧(0≤l.2.1∧l.2.1<N)) (hm:l∈L0) (hx:x.length=N) (h:Att L0 S N x):Att L0 S N (ų x l):=by
 unfold ų
 split
 ·rename_i hc;intro v h0 h1 hf;rw[uY hl.2.1 h0 (by omega)] at hf ⊢
  split
  ·rename_i h2;obtain⟨vs,hw⟩:=h l.1 hl.1.1 hl.1.2 hc.1;exact⟨_,h2▸Wl.step hw hm⟩
  ·rename_i h2;rw[if_neg h2] at hf;exact h v h0 h1 hf
 ·exact h
def O8:∀{L:List Lk},InR L N→(∀l∈L,l∈L0)→∀{x:List Int},x.length=N→Att L0 S N x→Att L0 S N (ķ L x)
 |[],_,_,_,_,h=>h
 |l::t,hL,hsub,x,hx,h=>O8 (L:=t) (fun l hl=>hL l (by simp[hl])) (fun l hl=>hsub l (by simp[hl])) (x:=ų x l) (by rw[lv,hx]) (aig (hL l (by simp)) (hsub l (by simp)) hx h)
def Jp (hL:InR L0 N):∀(n:Nat) {x:List Int},x.length=N→Att L0 S N x→Att L0 S N (Ć L0 n x)
 |0,_,_,h=>h
 |n+1,x,hx,h=>Jp hL n (by rw[nB,hx]) (O8 hL (fun _ h=>h) hx h)
def yo (hL:InR L0 N):∀(n:Nat) {x:List Int},x.length=N→∀v,0≤v→gv (Ć L0 n x) v≤gv x v
 |0,_,_,_,_=>dw _
 |n+1,x,hx,v,hv=>Int.le_trans (yo hL n (by rw[nB,hx]) v hv) (rz hL hx v hv)
def ņ (S:Int→Bool) (N:Nat):List Int:=(List.range N).map fun(i:Nat)=>if S i then 0 else ĸ
def Ŷ (S:Int→Bool) {N:Nat} {v:Int} (h0:0≤v) (h1:v<N):gv (ņ S N) v=if S v then 0 else ĸ:=by
 unfold gv ņ
 have:v.toNat<N:=by omega
 rw[fM,ft this];simp only[dQ,fQ];rw[Int.toNat_of_nonneg h0]
def ê (S:Int→Bool) (N:Nat):(ņ S N).length=N:=by simp[ņ]
end
def Jo {L:List Lk} {S:Int→Bool} {N:Nat} {M:Int} (hL:InR L N) (hS:∀v,S v=true→0≤v∧v<N) (hM:∀l∈L,l.2.2≤M):∀(n:Nat),n*M<ĸ→0≤M→∀vs v d,Wl L (fun v=>S v=true) vs v d→vs.length≤n→gv (Ć L n (ņ S N)) v≤d
 |0,_,_,vs,v,d,hw,hl=>by
  cases hw with
  |nil h =>
   have:=hS v h;rw[Ć,Ŷ S this.1 this.2,if_pos h]; exact dw _
  |step=>simp at hl
 |n+1,hn,hM0,vs,v,d,hw,hl=>by
  have hn':n*M<ĸ:=by rw[fP,fS,f6] at hn; omega
  have hlen:(Ć L n (ņ S N)).length=N:=by rw[ÿ,ê]
  rw[Ň]
  cases hw with
  |nil h =>
   have h1:=rz hL hlen v (hS v h).1;have h2:=Jo hL hS hM n hn' hM0 [] v 0 (.nil h) (by simp);omega
  | @step vs u _ m d hw hlk =>
   have h2:=Jo hL hS hM n hn' hM0 vs u d hw (by simpa using hl);have h3:=hw.high hM;have h4:(vs.length:Int)*M≤n*M:=fK (by simp at hl; omega) hM0;have:=Jq hL hlen u v m hlk (by omega);omega
def DP {L:List Lk} {S:Int→Bool} {N:Nat} {M:Int} {p:Int→Int} (hp:Pot L p) (hL:InR L N) (hS:∀v,S v=true→0≤v∧v<N) (hM:∀l∈L,l.2.2≤M) (hM0:0≤M) (hN:N*M<ĸ) (n:Nat) (hn:N≤n+1):ajw L (fun v=>S v=true) N (gv (Ć L n (ņ S N))):=by
 have hatt:Att L (fun v=>S v=true) N (ņ S N):=fun v h0 h1 hf=>by
  rw[Ŷ S h0 h1] at hf ⊢
  split
  ·rename_i h; exact⟨[],.nil h⟩
  ·rename_i h; rw[if_neg h] at hf; omega
 have hbd:∀v:Int,0≤v→v<N→gv (Ć L n (ņ S N)) v≤ĸ:=fun v h0 h1=>by
  have:=yo hL n (ê S N) v h0;rw[Ŷ S h0 h1] at this
  have hF:(0:Int)≤ĸ:=by decide
  split at this<;>omega
 have hlow:∀(n:Nat),N≤n+1→∀v vs d,Wl L (fun v=>S v=true) vs v d→gv (Ć L n (ņ S N)) v≤d:=by
  intro n hn v vs d hw;obtain⟨vs',d',h1,h2,h3⟩:=hw.simple hp;have h4:=h1.short hL hS h3
  have hpos:0<N:=by omega
  obtain⟨k,rfl⟩:∃k,N=k+1:=⟨N-1,by omega⟩
  have hk:(k:Int)*M<ĸ:=by rw[fP,fS,f6] at hN; omega
  have h5:=Jo hL hS hM k hk hM0 vs' v d' h1 (by omega);obtain⟨j,rfl⟩:∃j,n=k+j:=⟨n-k,by omega⟩
  have h6:∀(j:Nat),gv (Ć L (k+j) (ņ S (k+1))) v≤gv (Ć L k (ņ S (k+1))) v:=by
   intro j
   induction j with
   |zero=>exact dw _
   |succ j ih =>
    rw[←fg,Ň];have:=rz hL (x:=Ć L (k+j) (ņ S (k+1))) (by rw[ÿ,ê]) v (h1.range hL hS).1.1;omega
  have:=h6 j;omega
 exact⟨fun v h0 h1 hne=>Jp hL n (ê S N) hatt v h0 h1 (by have:=hbd v h0 h1; omega),hlow n hn,hbd⟩
def ajw.pot {L:List Lk} {S:Int→Prop} {N:Nat} {x:Int→Int} (h:ajw L S N x) (hL:InR L N) {u v m:Int} (hl:(u,v,m)∈L) (hf:x u≠ĸ):x v≤x u+m:=by
 obtain⟨vs,hw⟩:=h.att u (hL _ hl).1.1 (hL _ hl).1.2 hf;exact h.low v _ _ (.step hw hl)
def ï (b:â) (g:ñ):List Lk :=
 [(0,atP (Í b) [g.1] g.2.1,g.2.2.1+g.2.2.2.1.2),(atP (Í b) [g.1] g.2.1,0,-(g.2.2.1+g.2.2.2.1.1))] ++
 (List.range ((à b g).length-1)).flatMap fun(k:Nat)=>[(atP (Í b) [g.1] g.2.1+k,atP (Í b) [g.1] g.2.1+k+1,0),(atP (Í b) [g.1] g.2.1+k+1,atP (Í b) [g.1] g.2.1+k,jc b g ((à b g)[k]?.getD 0) ((à b g)[k+1]?.getD 0))]
def cx (b:â) (c:Cmp):Int:=atP (Í b) (é c.2.2.1 c.2.2.2.1) c.2.1
def cy (b:â) (c:Cmp):Int:=atP (Í b) (é c.2.2.2.1 c.2.2.1) c.2.1
def ò (b:â) (c:Cmp):List Lk:=[(cy b c,cx b c,(Œ b c).2),(cx b c,cy b c,-(Œ b c).1)]
def æ (b:â):List Lk:=b.2.1.flatMap (ï b)++b.2.2.2.2.1.flatMap (ò b)
def ð (b:â) (i:Nat) (g:ñ):List (Int×Int):=[(1,(i:Int)),(1,(i:Int))]++(List.range ((à b g).length-1)).flatMap fun _=>[(2,(i:Int)),(2,(i:Int))]
def ŷ (b:â):List (Int×Int):=(b.2.1.mapIdx (ð b)).flatten++(b.2.2.2.2.1.mapIdx fun i _=>[(3,(i:Int)),(3,(i:Int))]).flatten
section
variable {b:â}
def aak (h:Ē b) {id day:Int} (hu:ah5 (iO b) id day=0):(0≤day∧day≤20000)∧∃g,Ź b id=some g∧g.2.1≤day:=by
 unfold ah5 at hu
 split at hu
 ·omega
 ·rename_i hd;simp only[eR,Bool.not_eq_false,Jd,inP,cR,decide_eq_true_eq] at hd;exact⟨hd,JC h hu⟩
def je {g:ñ} {d:Int}:d∈à b g↔d=g.2.1∨(∃c∈b.2.2.2.2.1,(c.2.2.1.contains g.1)≠(c.2.2.2.1.contains g.1)∧c.2.1=d)∨(∃n∈b.2.2.2.2.2,n.1=g.1∧n.2=d):=by
 unfold à;rw[rt,ZK];simp only[List.mem_append,List.mem_singleton,List.mem_map,List.mem_filter];constructor
 ·rintro((h|⟨c,⟨h1,h2⟩,h3⟩)|⟨n,⟨h1,h2⟩,h3⟩)
  ·exact .inl h
  ·exact .inr (.inl ⟨c,h1,by simpa using h2,h3⟩)
  ·exact .inr (.inr ⟨n,h1,by simpa using h2,h3⟩)
 ·rintro(h|⟨c,h1,h2,h3⟩|⟨n,h1,h2,h3⟩)
  ·exact .inl (.inl h)
  ·exact .inl (.inr ⟨c,⟨h1,by simpa using h2⟩,h3⟩)
  ·exact .inr ⟨n,⟨h1,by simpa using h2⟩,h3⟩
def Ē.gaugeR (h:Ē b) {g:ñ} (hg:g∈b.2.1):Ly g.2.2.2.2.1=true∧(-1000≤g.2.2.2.2.1.1∧g.2.2.2.2.1.1≤1000)∧g.2.2.2.2.1.2≤100∧(1≤g.1∧g.1≤1099511627776)∧(0≤g.2.1∧g.2.1≤20000)∧(1≤g.2.2.1∧g.2.2.1≤1125899906842624)∧(-1073741824≤g.2.2.2.1.1∧g.2.2.2.1.1≤g.2.2.2.1.2∧g.2.2.2.1.2≤1073741824)∧(0≤g.2.2.2.2.2∧g.2.2.2.2.2≤1048576):=(vd g).1 (h.gauge g hg)
def Ē.day (h:Ē b) {g:ñ} (hg:g∈b.2.1) {d:Int} (hd:d∈à b g):g.2.1≤d∧0≤d∧d≤20000:=by
 have hr:=h.gaugeR hg;have hgo:=wS h.ids hg;rcases je.1 hd with rfl|⟨c,hc,h1,rfl⟩|⟨n,hn,h1,rfl⟩
 ·have:=hr.2.2.2.2.1; omega
 ·have hn:=(Ŵ c).1 (h.nums hc)
  have hx:g.1∈c.2.2.1++c.2.2.2.1:=by
   rw[cX]
   by_cases h2:g.1∈c.2.2.1
   ·exact .inl h2
   ·refine .inr ?_
    have e1:c.2.2.1.contains g.1=false:=by simpa using h2
    rw[e1] at h1
    have:c.2.2.2.1.contains g.1=true:=by cases hh:c.2.2.2.1.contains g.1<;>simp_all
    simpa using this
  obtain⟨⟨g',h3,h4⟩,_⟩:=h.pile hc hx;rw[hgo] at h3; cases h3;have:=hn.2.1;omega
 ·obtain⟨h2,g',h3,h4⟩:=aak h (h.looks n hn);rw[h1,hgo] at h3; cases h3;omega
def kD (g:ñ):g.2.1∈à b g:=je.2 (.inl rfl)
def IU (h:Ē b) {g:ñ} (hg:g∈b.2.1):(à b g).length≤59:=by
 have h1:∀l:List ñ,g∈l→(à b g).length≤(l.flatMap fun g=>(à b g).map fun d=>((g.1,d):Int×Int)).length:=by
  intro l
  induction l with
  |nil=>intro hg; cases hg
  |cons a t ih =>
   intro hg;rw[dN,cW,dY];rcases dc.1 hg with rfl|hg
   ·omega
   ·have:=ih hg; omega
 have:=h1 b.2.1 hg;have:=h.nodes;unfold Í at this;omega
def ama {p:List Int} {d:Int}:0≤atP (Í b) p d∧atP (Í b) p d≤(Í b).length:=by
 unfold atP
 cases p with
 |nil=>simp
 |cons x t =>
  try dsimp only
  cases h:iP (Í b) x d with
  |none=>simp
  |some j=>have:=(kT h).1; dsimp only; omega
def qm (h:Ē b) {c:Cmp} (hc:c∈b.2.2.2.2.1):(-1125904000000000≤(Œ b c).1∧(Œ b c).1≤1125904000000000)∧(-1125904000000000≤(Œ b c).2∧(Œ b c).2≤1125904000000000):=by
 obtain⟨r1,r2⟩:=h.rates hc;have hn:=(Ŵ c).1 (h.nums hc);have ha:=ĝ hn.2.2.2.2.2.1;have hb:=ĝ hn.2.2.2.2.2.2;have hf:=h.film;obtain⟨g1,g2⟩:=Xt (OU r1 r2) hn.2.2.2.2.1;have fb:=qR (b:=b) (c:=c) (by omega) (by omega) (by omega) (by omega) (by omega) (by omega);have q1:rn (Ģ b c).1 2000000000 10000:=g1;have q2:rn (Ģ b c).2 2000000000 10000:=g2;have c1:=vw q1;have c2:=qP q2;have n3:=hn.2.2.1;have n4:=hn.2.2.2.1;unfold Œ
 try dsimp only
 omega
def jB (h:Ē b) {g:ñ} (hg:g∈b.2.1) {f t:Int} (hf:0≤f):0≤jc b g f t∧jc b g f t≤12*(20001*1048576)+40*1048576:=by
 have hr:=(h.gaugeR hg).2.2.2.2.2.2.2;have h1:=tr (id:=g.1) (t:=t) hf (x:=b.2.2.2.1) fun l hl=>KJ h hl;have h2:(b.2.2.2.1.length:Int)*(20001*1048576)≤12*(20001*1048576):=fK (by have:=h.nL; omega) (by omega)
 have h3:(ji b g.1 f t).length≤40:=by
  unfold ji;rw[List.length_map];exact Nat.le_trans (List.length_filter_le _ _) h.nU
 have h4:=Fh (ji b g.1 f t)
 have hm:0≤((aaD (ji b g.1 f t)).length:Int)*g.2.2.2.2.2∧((aaD (ji b g.1 f t)).length:Int)*g.2.2.2.2.2≤40*1048576 :=
  ⟨fE (by omega) hr.1,fj (by omega) hr.2 hr.1 (by omega)⟩
 unfold jc;omega
end
def ς {α β:Type} (f:Nat→α→β) {l:List α} {i:Nat} {a:α} (h:l[i]?=some a):(l.take (i+1)).mapIdx f=(l.take i).mapIdx f++[f i a]:=by
 have hi:i<l.length:=(cY.1 h).1
 have:(l.take i).length=i:=by rw[dj]; omega
 rw[take_succ h,List.mapIdx_append];simp[this]
def pS {α:Type} (f:Nat→List α) (j:Nat):(List.range (j+1)).flatMap f=(List.range j).flatMap f++f j:=by
 rw[List.range_succ,eX]; simp
def Ů {α:Type} (f:Nat→List α) (n:Nat) (h:∀k,(f k).length=2):((List.range n).flatMap f).length=2*n:=by
 induction n with
 |zero=>rfl
 |succ n ih=>rw[pS,cW,ih,h]; omega
set_option maxHeartbeats 2000000 in
def ag8 {b:â} (h:Ē b):IQ b=some (b,Í b,(((Í b).length:Int)+1,æ b),ŷ b):=by
 unfold IQ Y7;have hN:=h.nodes;have hG:=h.nG;have hC:=h.nC;rw[Xy h.size,À,ä,Õ (by omega) (by omega)]
 -- lengths of what comes
 have gl:∀g∈b.2.1,(ï b g).length≤120∧∀i,(ð b i g).length≤120:=by
  intro g hg;have:=IU h hg;constructor
  ·unfold ï;rw[List.length_append,Ů _ _ (fun _=>rfl)];simp only[List.length_cons,List.length_nil]; omega
  ·intro i;unfold ð;rw[List.length_append,Ů _ _ (fun _=>rfl)];simp only[List.length_cons,List.length_nil]; omega
 have gls:∀i,((b.2.1.take i).flatMap (ï b)).length≤1440∧(((b.2.1.take i).mapIdx (ð b)).flatten).length≤1440:=by
  intro i
  induction i with
  |zero=>simp
  |succ i ih =>
   have key:∀i,i≤b.2.1.length→((b.2.1.take i).flatMap (ï b)).length≤i*120∧(((b.2.1.take i).mapIdx (ð b)).flatten).length≤i*120:=by
    intro i
    induction i with
    |zero=>intro _; simp
    |succ i ih =>
     intro hi;have ih:=ih (by omega);have hg:b.2.1[i]?=some b.2.1[i]:=cO hi;have h2:=gl _ (cZ hg);have h3:=h2.2 i;rw[ς _ hg,take_succ hg,eX,fp,cW,cW];simp only[dN,gQ,dL,fN,f8];omega
   rcases dn b.2.1.length (i+1) with h1|h1
   ·rw[dX (by omega)];have:=key b.2.1.length (cQ _);rw[List.take_length] at this;omega
   ·have:=key (i+1) h1;omega
 refine ô b.2.1 (fun i=>((b.2.1.take i).flatMap (ï b),((b.2.1.take i).mapIdx (ð b)).flatten)) _ rfl (fun i g hi hg kn=>?_) (fun kn=>?_)
 ·try dsimp only
  unfold wC;have hgm:=List.mem_of_getElem? hg;have hr:=h.gaugeR hgm;have hd:=IU h hgm;have hls:=gls i;have hat:=ama (b:=b) (p:=[g.1]) (d:=g.2.1);rw[Ö hi,Ì hg];rw[show pF ((b.1.1,b.1.2),b.2.1,b.2.2.1,b.2.2.2.1,b.2.2.2.2.1,b.2.2.2.2.2) g=pF b g from rfl,als h.size,À];rw[al9 _ _ _ (by dsimp only; omega),À]
  try dsimp only
  have r1:=hr.2.2.2.2.2.1;have r2:=hr.2.2.2.2.2.2.1;rw[Õ (by omega) (by omega),Õ (by omega) (by omega),Õ (by omega) (by omega),Ú (by simp only[df,dt]; omega),Am.iff_true,Ú (by simp only[df,dt]; omega),Am.iff_true]
  refine Ĕ (fun x:Int×List Lk×List (Int×Int)=>∃j:Nat,j+1≤(à b g).length∧x.1=(j:Int)+1 ∧
   x.2.1=(b.2.1.take i).flatMap (ï b)++([(0,atP (Í b) [g.1] g.2.1,g.2.2.1+g.2.2.2.1.2),(atP (Í b) [g.1] g.2.1,0,-(g.2.2.1+g.2.2.2.1.1))] ++
    (List.range j).flatMap fun(k:Nat)=>[(atP (Í b) [g.1] g.2.1+k,atP (Í b) [g.1] g.2.1+k+1,0),(atP (Í b) [g.1] g.2.1+k+1,atP (Í b) [g.1] g.2.1+k,jc b g ((à b g)[k]?.getD 0) ((à b g)[k+1]?.getD 0))]) ∧
   x.2.2=((b.2.1.take i).mapIdx (ð b)).flatten++([(1,(i:Int)),(1,(i:Int))]++(List.range j).flatMap fun _=>[(2,(i:Int)),(2,(i:Int))])) (fun x=>(à b g).length-x.1.toNat) ?_
   ⟨0,gk (kD g),rfl,by simp,by simp⟩
  rintro⟨x1,ls,ss⟩ ⟨j,hj,e1,e2,e3⟩;dsimp only at e1 e2 e3 ⊢;subst e1
  have hlls:ls.length≤1562:=by
   rw[e2,cW,cW,Ů _ _ (fun _=>rfl)];simp only[df,dt]; omega
  have hlss:ss.length≤1562:=by
   rw[e3,cW,cW,Ů _ _ (fun _=>rfl)];simp only[df,dt]; omega
  rcases dn (j+1) (à b g).length with hlt|hge
  ·refine .inr ⟨((j:Int)+1+1,_,_),⟨j+1,hlt,by push_cast; rfl,rfl,rfl⟩,by dsimp only; omega,fun kn'=>?_⟩
   try dsimp only
   unfold wB
   have g1:(à b g)[j]?=some ((à b g)[j]?.getD 0):=by rw[cO (by omega)]; rfl
   have g2:(à b g)[j+1]?=some ((à b g)[j+1]?.getD 0):=by rw[cO hlt]; rfl
   have d1:=h.day hgm (cZ g1);have d2:=h.day hgm (cZ g2);have lb:=jB h hgm (t:=(à b g)[j+1]?.getD 0) d1.2.1
   have ec:((j:Int)+1)=((j+1:Nat):Int):=by push_cast; rfl
   rw[ec,Ö hlt,Õ (by omega) (by omega),Õ (by omega) (by omega),Õ (by omega) (by omega),Õ (by omega) (by omega)];rw[show(((j+1:Nat):Int)-1)=((j:Nat):Int) by omega,Ì g1,Ì g2];rw[show Bu ((b.1.1,b.1.2),b.2.1,b.2.2.1,b.2.2.2.1,b.2.2.2.2.1,b.2.2.2.2.2) (g.1,g.2.1,g.2.2.1,(g.2.2.2.1.1,g.2.2.2.1.2),(g.2.2.2.2.1.1,g.2.2.2.2.1.2),g.2.2.2.2.2) ((à b g)[j]?.getD 0) ((à b g)[j+1]?.getD 0)=Bu b g ((à b g)[j]?.getD 0) ((à b g)[j+1]?.getD 0) from rfl];rw[apr h hr.2.2.2.2.2.2.2 ⟨by omega,by omega⟩ ⟨by omega,by omega⟩,À,Õ (by omega) (by omega),Õ (by omega) (by omega),Ú (by simp only[df,dt]; omega),Am.iff_true,Ú (by simp only[df,dt]; omega),Am.iff_true,Ï hlt (by omega)];rw[pS,pS,e2,e3]
   have a1:atP (Í b) [g.1] g.2.1+((j+1:Nat):Int)-1=atP (Í b) [g.1] g.2.1+(j:Int):=by push_cast; omega
   have a2:atP (Í b) [g.1] g.2.1+((j+1:Nat):Int)=atP (Í b) [g.1] g.2.1+(j:Int)+1:=by push_cast; omega
   have a3:0-(0-jc b g ((à b g)[j]?.getD 0) ((à b g)[j+1]?.getD 0))=jc b g ((à b g)[j]?.getD 0) ((à b g)[j+1]?.getD 0):=by omega
   rw[a1,a2,a3];simp only[dl]
  ·refine .inl fun kn'=>?_
   have hje:j+1=(à b g).length:=by omega
   unfold wB;rw[show((j:Int)+1)=(((à b g).length:Nat):Int) by rw[←hje]; push_cast; rfl,ã];dsimp only;rw[Ï hi (by omega)];rw[ς _ hg,take_succ hg,List.flatMap_append,List.flatten_append,e2,e3,show j=(à b g).length-1 by omega];simp only[List.flatMap_cons,List.flatMap_nil,List.append_nil,List.flatten_cons,List.flatten_nil];rfl
 ·try dsimp only
  unfold wC;rw[ã,List.take_length];have hls:=gls b.2.1.length;rw[List.take_length] at hls
  have cl:∀i,i≤b.2.2.2.2.1.length→((b.2.2.2.2.1.take i).flatMap (ò b)).length=2*i∧(((b.2.2.2.2.1.take i).mapIdx fun i _=>[((3:Int),(i:Int)),((3:Int),(i:Int))]).flatten).length=2*i:=by
   intro i
   induction i with
   |zero=>intro _; simp
   |succ i ih =>
    intro hi;have ih:=ih (by omega);have hg:b.2.2.2.2.1[i]?=some b.2.2.2.2.1[i]:=cO hi;rw[ς _ hg,take_succ hg,eX,fp,cW,cW];simp only[dN,gQ,dL,fN,f8,ò,df,dt];omega
  refine ô b.2.2.2.2.1 (fun i=>(b.2.1.flatMap (ï b)++(b.2.2.2.2.1.take i).flatMap (ò b),(b.2.1.mapIdx (ð b)).flatten++((b.2.2.2.2.1.take i).mapIdx fun i _=>[((3:Int),(i:Int)),((3:Int),(i:Int))]).flatten)) _ (by simp) (fun i c hi hc kn'=>?_) (fun kn'=>?_)
  ·try dsimp only
   unfold wA;have hcm:=List.mem_of_getElem? hc;have hn:=(Ŵ c).1 (h.nums hcm);have ha:=ĝ hn.2.2.2.2.2.1;have hb:=ĝ hn.2.2.2.2.2.2;have sb:=qm h hcm;have c1:=cl i (by omega);rw[Ö hi,Ì hc,tv (by omega) (by omega),À,al9 _ _ _ (by dsimp only; omega),À,tv (by omega) (by omega),À,al9 _ _ _ (by dsimp only; omega),À];rw[show w7 ((b.1.1,b.1.2),b.2.1,b.2.2.1,b.2.2.2.1,b.2.2.2.2.1,b.2.2.2.2.2) c=w7 b c from rfl,h.says hcm,À];rw[Õ (by omega) (by omega),Ú (by simp only[List.length_append,List.length_cons,List.length_nil]; omega),Am.iff_true,Ú (by simp only[List.length_append,List.length_cons,List.length_nil]; omega),Am.iff_true,Ï hi (by omega),ς _ hc,take_succ hc,List.flatMap_append,List.flatten_append];simp only[List.flatMap_cons,List.flatMap_nil,List.append_nil,List.flatten_cons,List.flatten_nil,List.append_assoc,Int.zero_sub];rfl
  ·try dsimp only
   unfold wA;rw[ã,List.take_length];rfl
section
variable {ρ:Type}
def wv (w:List Bool) (v:Int):Bool:=w[v.toNat]?.getD false
def agi {w:List Bool} {u v:Int} (hu:0≤u) (hv:0≤v) (h:u.toNat<w.length) (y:Bool):wv (w.set u.toNat y) v=if v=u then y else wv w v:=by
 unfold wv;rw[List.getElem?_set]
 by_cases hvu:v=u
 ·subst hvu; simp[h]
 ·have:¬u.toNat=v.toNat:=by omega
  simp[hvu,this]
def j3 {x:List Int} {v:Int} (h:v.toNat<x.length) (f:Int→Option ρ):Ĺ x v.toNat f=f (gv x v):=nk (Wo h) f
def XA {w:List Bool} {v:Int} (h:v.toNat<w.length) (f:Bool→Option ρ):Ĺ w v.toNat f=f (wv w v):=by
 refine nk ?_ f;unfold wv; rw[List.getElem?_eq_getElem h]; rfl
def Ĵ {v:Int} {n:Nat} (h0:0≤v) (h1:v<n) (x:Option ρ):ë ((ile 0 v)&&(ilt v (n:Int))) x=x:=by
 have:((ile 0 v)&&(ilt v (n:Int)))=true:=by simp[ile,ilt,h0,h1]
 rw[this,Am.iff_true]
end
def qK (n least:Int):List Lk→List Int→List Bool→List Int→Bool×List Int×List Bool×List Int
 |[],x,w,q=>(true,x,w,q)
 |l::t,x,w,q =>
  if l.1≠n then qK n least t x w q else
  if gv x l.2.1≤gv x n+l.2.2 then qK n least t x w q else
  if gv x n+l.2.2<least then(false,x.set l.2.1.toNat (gv x n+l.2.2),w,q) else
  if wv w l.2.1 then qK n least t (x.set l.2.1.toNat (gv x n+l.2.2)) w q else qK n least t (x.set l.2.1.toNat (gv x n+l.2.2)) (w.set l.2.1.toNat true) (q++[l.2.1])
structure i6 (L:List Lk) (N:Nat) (M:Int):Prop where
 inr:InR L N
 noloop:∀l∈L,l.1≠l.2.1
 most:∀l∈L,-M≤l.2.2∧l.2.2≤M
 len:L.length≤400
 nodes:N≤1000
 m0:0≤M
 m1:M≤4503599627370496
set_option maxHeartbeats 1000000 in
def anz {ρ:Type} {L:List Lk} {N:Nat} {M:Int} (hL:i6 L N M) {n least:Int} (hn:0≤n∧n<N) {x:List Int} {w:List Bool} {q:List Int} (hx:x.length=N) (hw:w.length=N) (hq:q.length≤1000000)
 (hb : -2305843009213693952≤gv x n∧gv x n≤2305843009213693952) (K0:(Val (.pair .bool (.pair (.slice tI) (.pair (.slice .bool) (.slice tI)))))→Option ρ) (K1:(Val (.pair (.slice tI) (.pair (.slice .bool) (.slice tI))))→Option ρ) :
 Î (fun(v47:(Val (.pair tI (.pair (.slice tI) (.pair (.slice .bool) (.slice tI)))))) kk52=>jz [] least n L (Û L) v47.1 v47.2.1 v47.2.2.1 v47.2.2.2 (fun u48 u49 u50 u51=>kk52 (u48,u49,u50,u51)) K0 K1) ((0:Int),x,w,q) =
  match qK n least L x w q with
  |(true,r)=>K1 r
  |(false,r)=>K0 (false,r):=by
 have hlen:=hL.len
 refine Ih L (fun i (s:List Int×List Bool×List Int) t=>match qK n least t s.1 s.2.1 s.2.2 with|(true,r)=>K1 r|(false,r)=>K0 (false,r))
  (fun i s=>s.1.length=N∧s.2.1.length=N∧gv s.1 n=gv x n∧s.2.2.length≤1000000+i) (fun s hs kn=>?_) (fun i l t s hd hi hl hI kn hk=>?_) (s:=(x,w,q)) ⟨hx,hw,rfl,by simpa using hq⟩
 ·try dsimp only
  unfold jz;rw[ã];rfl
 ·obtain⟨y,u,p⟩:=s;obtain⟨h1,h2,h3,h4⟩:=hI;dsimp only at h1 h2 h3 h4 hk ⊢;have hmem:l∈L:=List.mem_of_getElem? hl;have hr:=hL.inr l hmem;have hm:=hL.most l hmem;have hm1:=hL.m1;have hnl:=hL.noloop l hmem;unfold jz;rw[Ö hi,Ì hl];unfold qK
  by_cases hln:l.1=n
  ·have e0:ine l.1 n=false:=by simp[ine,hln]
   rw[Ô e0];have e1:∀(f:Bool→Option ρ) (g:Option ρ),aah (k:=tI) (v:=.bool) (i:Int) [] f g=g:=fun f g=>rfl;rw[e1,if_neg (by simp[hln])]
   have tn:n.toNat<y.length:=by omega
   have tt:l.2.1.toNat<y.length:=by omega
   have tu:l.2.1.toNat<u.length:=by omega
   rw[Ĵ hn.1 (by omega),j3 tn,Õ (by omega) (by omega),Ĵ hr.2.1 (by omega),j3 tt,Ě]
   by_cases hge:gv y l.2.1≤gv y n+l.2.2
   ·rw[if_pos (by simpa[ige] using hge),if_pos hge,Ï hi (by omega)];exact hk (y,u,p) ⟨h1,h2,h3,by dsimp only; omega⟩
   ·rw[if_neg (by simpa[ige] using hge),if_neg hge]
    have hset:gv (y.set l.2.1.toNat (gv y n+l.2.2)) n=gv x n:=by
     rw[uY hr.2.1 hn.1 tt,if_neg (fun h=>hnl (hln.trans h)),h3]
    have hself:gv (y.set l.2.1.toNat (gv y n+l.2.2)) l.2.1=gv y n+l.2.2:=by
     rw[uY hr.2.1 hr.2.1 tt,if_pos rfl]
    rw[Ĵ hn.1 (by omega),j3 tn,Õ (by omega) (by omega),Ĵ hr.2.1 (by omega),j3 tt];rw[show(ĉ (List.set y l.2.1.toNat (gv y n+l.2.2)))=((y.length:Nat):Int) by simp[ĉ]];rw[Ĵ hr.2.1 (by omega),j3 (by simpa using tt),hself,Ě]
    by_cases hlt:gv y n+l.2.2<least
    ·rw[if_pos (by simpa[ilt] using hlt),if_pos hlt]
    ·rw[if_neg (by simpa[ilt] using hlt),if_neg hlt,Ĵ hr.2.1 (by omega),XA tu,Ě]
     cases hwv:wv u l.2.1 with
     |true =>
      rw[if_neg (by simp),if_pos rfl,Ï hi (by omega)];exact hk (y.set l.2.1.toNat (gv y n+l.2.2),u,p) ⟨by simpa using h1,h2,hset,by dsimp only; omega⟩
     |false =>
      rw[if_pos (by simp),if_neg (by simp),Ú (by simp only[dE]; omega),Am.iff_true,Ĵ hr.2.1 (by omega),XA tu,Ï hi (by omega)];exact hk (y.set l.2.1.toNat (gv y n+l.2.2),u.set l.2.1.toNat true,p++[l.2.1]) ⟨by simpa using h1,by simpa using h2,hset,by simp only[cW,dE]; omega⟩
  ·have e0:ine l.1 n=true:=by simp[ine,hln]
   rw[Ø e0,if_pos hln,Ï hi (by omega)];exact hk (y,u,p) ⟨h1,h2,h3,by dsimp only; omega⟩
structure aoA (N:Nat) (n least:Int) (L:List Lk) (x:List Int) (q:List Int) (x':List Int) (w':List Bool) (q':List Int):Prop where
 lx:x'.length=N
 lw:w'.length=N
 same:gv x' n=gv x n
 le:∀v:Int,0≤v→v<N→gv x' v≤gv x v
 link:∀v m,(n,v,m)∈L→gv x' v≤gv x n+m
 chg:∀v:Int,0≤v→v<N→gv x' v=gv x v∨(v∈q'∧gv x' v<gv x v∧∃m,(n,v,m)∈L∧gv x' v=gv x n+m∧least≤gv x' v)
 new:∃l,q'=q++l∧∀v∈l,(0≤v∧v<N)∧gv x' v<gv x v
 nodup:q'.Nodup
 waits:∀v:Int,0≤v→v<N→(wv w' v=true↔v∈q')
def la {N:Nat} {n least:Int} (hn:0≤n∧n<N):∀{L:List Lk},InR L N→(∀l∈L,l.1≠l.2.1)→∀{x:List Int} {w:List Bool} {q:List Int},x.length=N→w.length=N→q.Nodup→(∀v:Int,0≤v→v<N→(wv w v=true↔v∈q)) →
 ∀{x':List Int} {w':List Bool} {q':List Int},qK n least L x w q=(true,x',w',q')→aoA N n least L x q x' w' q'
 |[],_,_,x,w,q,hx,hw,hq,hwq,x',w',q',h=>by
  cases h;exact⟨hx,hw,rfl,fun _ _ _=>dw _,fun _ _ h=>(by cases h),fun _ _ _=>.inl rfl,⟨[],by simp,fun _ h=>by cases h⟩,hq,hwq⟩
 |l::t,hL,hnl,x,w,q,hx,hw,hq,hwq,x',w',q',h=>by
  have hLt:InR t N:=fun l hl=>hL l (by simp[hl]);have hnt:∀l∈t,l.1≠l.2.1:=fun l hl=>hnl l (by simp[hl]);have hr:=hL l (by simp);have hl0:=hnl l (by simp);unfold qK at h
  split at h
  ·rename_i hne;have a:=la hn hLt hnt hx hw hq hwq h
   exact⟨a.lx,a.lw,a.same,a.le,fun v m hm=>by
    rcases dc.1 hm with rfl|hm
    ·exact(hne rfl).elim
    ·exact a.link v m hm,fun v h0 h1=>(a.chg v h0 h1).imp id fun⟨g1,g2,m,g3,g4⟩=>⟨g1,g2,m,by simp[g3],g4⟩,a.new,a.nodup,a.waits⟩
  ·rename_i hne
   have hln:l.1=n:=by simpa using hne
   split at h
   ·rename_i hle;have a:=la hn hLt hnt hx hw hq hwq h
    exact⟨a.lx,a.lw,a.same,a.le,fun v m hm=>by
     rcases dc.1 hm with rfl|hm
     ·have:=a.le v hr.2.1 hr.2.2; simp only at hle; omega
     ·exact a.link v m hm,fun v h0 h1=>(a.chg v h0 h1).imp id fun⟨g1,g2,m,g3,g4⟩=>⟨g1,g2,m,by simp[g3],g4⟩,a.new,a.nodup,a.waits⟩
   ·rename_i hgt
    split at h
    ·cases h
    ·rename_i hls
     have tt:l.2.1.toNat<x.length:=by omega
     have tw:l.2.1.toNat<w.length:=by omega
     have hy:(x.set l.2.1.toNat (gv x n+l.2.2)).length=N:=by simpa using hx
     have hyn:gv (x.set l.2.1.toNat (gv x n+l.2.2)) n=gv x n:=by
      rw[uY hr.2.1 hn.1 tt,if_neg (fun h=>hl0 (hln.trans h))]
     have hyv:∀v,0≤v→gv (x.set l.2.1.toNat (gv x n+l.2.2)) v=if v=l.2.1 then gv x n+l.2.2 else gv x v:=fun v h0=>uY hr.2.1 h0 tt _
     have hlm:(n,l.2.1,l.2.2)∈l::t:=by rw[←hln]; simp
     -- what both ways have in common
     have fin:∀{w1:List Bool} {q1:List Int},aoA N n least t (x.set l.2.1.toNat (gv x n+l.2.2)) q1 x' w' q'→l.2.1∈q1→(∃l',q1=q++l'∧∀v∈l',v=l.2.1)→aoA N n least (l::t) x q x' w' q':=by
      intro w1 q1 a hmem hq1;obtain⟨new,hnew,hnv⟩:=a.new;obtain⟨l',hl',hlv⟩:=hq1
      have hto:gv x' l.2.1≤gv x n+l.2.2:=by
       have:=a.le l.2.1 hr.2.1 hr.2.2;rw[hyv _ hr.2.1,if_pos rfl] at this;exact this
      refine⟨a.lx,a.lw,a.same.trans hyn,fun v h0 h1=>?_,fun v m hm=>?_,fun v h0 h1=>?_,⟨l'++new,by rw[hnew,hl',dl],fun v hv=>?_⟩,a.nodup,a.waits⟩
      ·have:=a.le v h0 h1;rw[hyv v h0] at this
       split at this
       ·rename_i e; subst e; omega
       ·exact this
      ·rcases dc.1 hm with rfl|hm
       ·exact hto
       ·have:=a.link v m hm
        rwa [hyn] at this
      ·rcases a.chg v h0 h1 with g|⟨g1,g2,m,g3,g4,g5⟩
       ·rw[hyv v h0] at g
        split at g
        ·rename_i e;subst e;exact .inr ⟨by rw[hnew]; exact ee _ hmem,by omega,l.2.2,hlm,g,by omega⟩
        ·exact .inl g
       ·rw[hyv v h0] at g2;rw[hyn] at g4;refine .inr ⟨g1,?_,m,by simp[g3],g4,g5⟩
        split at g2
        ·rename_i e; subst e; omega
        ·exact g2
      ·rcases cX.1 hv with hv|hv
       ·rw[hlv v hv]; exact⟨hr.2,by omega⟩
       ·obtain⟨g1,g2⟩:=hnv v hv;rw[hyv v g1.1] at g2;refine⟨g1,?_⟩
        split at g2
        ·rename_i e; subst e; omega
        ·exact g2
     split at h
     ·rename_i hwt;exact fin (w1:=w) (la hn hLt hnt hy hw hq hwq h) ((hwq _ hr.2.1 hr.2.2).1 hwt) ⟨[],by simp,fun _ h=>by cases h⟩
     ·rename_i hwt;have hnq:l.2.1∉q:=fun hc=>hwt ((hwq _ hr.2.1 hr.2.2).2 hc);refine fin (w1:=w.set l.2.1.toNat true) (la hn hLt hnt hy (by simpa using hw) ?_ ?_ h) (by simp) ⟨[l.2.1],rfl,fun v hv=>by simpa using hv⟩
      ·rw[List.nodup_append];exact⟨hq,by simp,fun a ha b hb=>by simp at hb; subst hb; exact fun e=>hnq (e▸ha)⟩
      ·intro v h0 h1;rw[agi hr.2.1 h0 tw]
       by_cases hv:v=l.2.1
       ·simp[hv]
       ·simp only[hv,if_false,cX,dg,or_false];exact hwq v h0 h1
def ol {n least:Int}:∀{L:List Lk},(∀l∈L,l.1≠l.2.1)→(∀l∈L,0≤l.2.1)→0≤n→∀{x:List Int} {w:List Bool} {q:List Int} {r},qK n least L x w q=(false,r)→∃v m,(n,v,m)∈L∧gv x n+m<least
 |[],_,_,_,x,w,q,r,h=>by cases h
 |l::t,hnl,h0,hn,x,w,q,r,h=>by
  have hnt:∀l∈t,l.1≠l.2.1:=fun l hl=>hnl l (by simp[hl]);have h0t:∀l∈t,0≤l.2.1:=fun l hl=>h0 l (by simp[hl]);have up:(∃v m,(n,v,m)∈t∧gv x n+m<least)→∃v m,(n,v,m)∈l::t∧gv x n+m<least:=fun⟨v,m,g1,g2⟩=>⟨v,m,by simp[g1],g2⟩;unfold qK at h
  split at h
  ·exact up (ol hnt h0t hn h)
  ·rename_i hne
   have hln:l.1=n:=by simpa using hne
   split at h
   ·exact up (ol hnt h0t hn h)
   ·split at h
    ·rename_i hlt;exact⟨l.2.1,l.2.2,by rw[←hln]; simp,hlt⟩
    ·have hyn:gv (x.set l.2.1.toNat (gv x n+l.2.2)) n=gv x n:=by
      unfold gv;rw[List.getElem?_set];have h1:=hnl l (by simp);have h2:=h0 l (by simp)
      have:¬l.2.1.toNat=n.toNat:=by omega
      simp[this]
     split at h
     ·have:=ol hnt h0t hn h;rw[hyn] at this;exact up this
     ·have:=ol hnt h0t hn h;rw[hyn] at this;exact up this
def ag0 {ρ:Type} {L:List Lk} {N:Nat} {M:Int} (hL:i6 L N M) {n least:Int} (hn:0≤n∧n<N) {x:List Int} {w:List Bool} {t rest:List Int} (hx:x.length=N) (hw:w.length=N) (ht:t.length=N) (hq:rest.length≤1000000)
 (hb : -2305843009213693952≤gv x n∧gv x n≤2305843009213693952) (htn:0≤gv t n∧gv t n≤1000000) (kn:List Int→List Bool→List Int→List Int→Option ρ) (k0:(Val (.pair .bool (.pair (.slice tI) (.pair (.slice .bool) (.pair (.slice tI) (.slice tI))))))→Option ρ) :
 ĺ [] least (N:Int) L x w t (n::rest) kn k0 =
  if (N:Int)+1<gv t n+1 then k0 (false,x,w.set n.toNat false,t.set n.toNat (gv t n+1),rest) else
  match qK n least L x (w.set n.toNat false) rest with
  |(true,x',w',q')=>kn x' w' (t.set n.toNat (gv t n+1)) q'
  |(false,x',w',q')=>k0 (false,x',w',t.set n.toNat (gv t n+1),q'):=by
 have hN:=hL.nodes
 have tn:n.toNat<x.length:=by omega
 have tw:n.toNat<w.length:=by omega
 have tt:n.toNat<t.length:=by omega
 unfold ĺ
 have e0:ieq (Û (n::rest)) 0=false:=by
  rw[ä];simp only[ieq,df,beq_eq_false_iff_ne,ne_eq];omega
 have e1:ilt (0:Int) (ĉ (n::rest))=true:=by simp[ilt,ĉ]
 have e2:ile (1:Int) (ĉ (n::rest))=true:=by simp[ile,ĉ]; omega
 have e3:decide (1+(List.length (n::rest)-1)=List.length (n::rest))=true:=by simp; omega
 rw[Ô e0,ĩ e1];rw[show Ĺ (n::rest) 0=fun(f:Int→Option ρ)=>f n from rfl]
 try dsimp only
 rw[ĩ e2,ĩ e3,Ĵ hn.1 (by omega),XA tw,Ĵ hn.1 (by omega),j3 tt,Õ (by omega) (by omega),Ĵ hn.1 (by omega),j3 tt];rw[show(ĉ (List.set t n.toNat (gv t n+1)))=((t.length:Nat):Int) by simp[ĉ]];rw[Ĵ hn.1 (by omega),j3 (by simpa using tt),uY hn.1 hn.1 tt,if_pos rfl,Õ (by omega) (by omega),Ě];rw[show List.drop 1 (n::rest)=rest from rfl]
 by_cases hlt:(N:Int)+1<gv t n+1
 ·rw[if_pos (by simpa[igt] using hlt),if_pos hlt]
 ·rw[if_neg (by simpa[igt] using hlt),if_neg hlt];rw[anz hL hn hx (w:=w.set n.toNat false) (by simpa using hw) hq hb];generalize qK n least L x (w.set n.toNat false) rest=r;obtain⟨b,x',w',q'⟩:=r
  cases b<;>rfl
def aj4 {ρ:Type} {L:List Lk} {N:Int} {least:Int} {x:List Int} {w:List Bool} {t:List Int} (kn:List Int→List Bool→List Int→List Int→Option ρ) (k0:(Val (.pair .bool (.pair (.slice tI) (.pair (.slice .bool) (.pair (.slice tI) (.slice tI))))))→Option ρ) :
 ĺ [] least N L x w t [] kn k0=k0 (true,x,w,t,[]):=by
 unfold ĺ
 have e0:ieq (Û ([]:List Int)) 0=true:=by rw[ä]; rfl
 rw[Ø e0]
def Zu (N:Nat) (t:List Int):Nat:=(t.map fun a=>((N:Int)+2-a).toNat).sum
def ahc (N:Nat):∀(t:List Int) (i:Nat) (a b:Int),t[i]?=some a→a<b→a<(N:Int)+2→Zu N (t.set i b)<Zu N t
 |a0::t,0,a,b,h,h1,h2=>by
  simp at h; subst h;simp only[Zu,List.set_cons_zero,eJ,List.sum_cons];omega
 |a0::t,i+1,a,b,h,h1,h2=>by
  have:=ahc N t i a b (by simpa using h) h1 h2;simp only[Zu] at this;simp only[Zu,List.set_cons_succ,eJ,List.sum_cons];omega
def acX {N:Nat} {t:List Int} {n:Int} (hn:n.toNat<t.length) (h:gv t n≤(N:Int)+1):Zu N (t.set n.toNat (gv t n+1))<Zu N t :=
 ahc N t n.toNat (gv t n) _ (Wo hn) (by omega) (by omega)
structure ajv (L:List Lk) (S:Int→Prop) (N:Nat) (M:Int) (k:Nat) (A B:List Int) (x:List Int) (w:List Bool) (t q:List Int):Prop where
 q_eq:q=A++B
 lx:x.length=N
 lw:w.length=N
 lt:t.length=N
 nodup:q.Nodup
 rng:∀v∈q,0≤v∧v<N
 waits:∀v:Int,0≤v→v<N→(wv w v=true↔v∈q)
 t0:∀v:Int,0≤v→v<N→0≤gv t v∧gv t v≤(k:Int)+1
 tA:∀v∈A,gv t v≤k
 low:∀vs v d,Wl L S vs v d→vs.length≤k→gv x v≤d
 nxt:∀vs u d,Wl L S vs u d→vs.length≤k→u∉A→∀v m,(u,v,m)∈L→gv x v≤d+m
 rel:∀u:Int,0≤u→u<N→u∉q→gv x u≠ĸ→∀v m,(u,v,m)∈L→gv x v≤gv x u+m
 att:∀v:Int,0≤v→v<N→gv x v≠ĸ→∃vs,Wl L S vs v (gv x v)
 bd:∀v:Int,0≤v→v<N→gv x v=ĸ∨gv x v≤((k:Int)+1)*M
 bA:∀v∈A,gv x v≤(k:Int)*M
 fin:∀v∈q,gv x v<ĸ
 kN:k+1≤N
 last:k+1=N→B=[]
section
variable {L:List Lk} {S:Int→Prop} {N:Nat} {M:Int} {p:Int→Int} {k:Nat} {A B x:List Int} {w:List Bool} {t q:List Int}
def Om {a b:Nat} {M:Int} (h:a≤b) (hM:0≤M):(a:Int)*M≤(b:Int)*M:=fK (by omega) hM
def Wl.lt_free (hL:i6 L N M) (hNM:N*M<ĸ) {vs:List Int} {v d:Int} (hw:Wl L S vs v d) (h:vs.length≤N):d<ĸ:=by
 have h1:=hw.high fun l hl=>(hL.most l hl).2;have h2:=Om h hL.m0;omega
def ajv.next (hL:i6 L N M) (hNM:N*M<ĸ) (hS:∀v,S v→0≤v∧v<N) (h:ajv L S N M k [] B x w t q) (hB:B≠[]):ajv L S N M (k+1) B [] x w t q:=by
 have hM:=hL.m0
 have hq:q=B:=by simpa using h.q_eq
 have hk:k+1≠N:=fun e=>hB (h.last e);have hkN:=h.kN
 have low':∀vs v d,Wl L S vs v d→vs.length≤k+1→gv x v≤d:=by
  intro vs v d hw hl
  cases hw with
  |nil hs=>exact h.low [] v 0 (.nil hs) (by simp)
  | @step vs u _ m d hw hlk=>exact h.nxt vs u d hw (by simpa using hl) (by simp) v m hlk
 refine⟨by simp[hq],h.lx,h.lw,h.lt,h.nodup,h.rng,h.waits,fun v h0 h1=>⟨(h.t0 v h0 h1).1,by have:=(h.t0 v h0 h1).2; push_cast; omega⟩,fun v hv=>?_,low',fun vs u d hw hl hu v m hlk=>?_,h.rel,h.att,fun v h0 h1=>?_,fun v hv=>?_,h.fin,by omega,fun _=>rfl⟩
 ·have:=h.rng v (by rw[hq]; exact hv);have:=(h.t0 v this.1 this.2).2;push_cast; omega
 ·have h1:=low' vs u d hw hl;have h2:=hw.lt_free hL hNM (by omega);have h3:=(hw.range hL.inr hS).1;have:=h.rel u h3.1 h3.2 (by rw[hq]; exact hu) (by omega) v m hlk;omega
 ·rcases h.bd v h0 h1 with h2|h2
  ·exact .inl h2
  ·refine .inr ?_;have:=Om (show k+1≤k+1+1 by omega) hM;push_cast at this ⊢;omega
 ·have h1:=h.rng v (by rw[hq]; exact hv);have h2:=h.fin v (by rw[hq]; exact hv);rcases h.bd v h1.1 h1.2 with h3|h3
  ·omega
  ·push_cast; exact h3
def ajv.step {n:Int} {A':List Int} {least:Int} {x':List Int} {w':List Bool} {q':List Int} (hL:i6 L N M) (hNM:N*M<ĸ) (hp:Pot L p) (hS:∀v,S v→0≤v∧v<N) (h:ajv L S N M k (n::A') B x w t q)
 (ha:aoA N n least L x (A'++B) x' w' q'):∃B',ajv L S N M k A' B' x' w' (t.set n.toNat (gv t n+1)) q':=by
 have hM:=hL.m0
 have hq:q=n::(A'++B):=by simpa using h.q_eq
 have hkN:=h.kN;have hnr:=h.rng n (by rw[hq]; simp);have hnf:=h.fin n (by rw[hq]; simp)
 have hnd:n∉A'++B:=by have:=h.nodup; rw[hq,fX] at this; exact this.1
 have htn:n.toNat<t.length:=by have:=h.lt; omega
 have tset:∀v,0≤v→gv (t.set n.toNat (gv t n+1)) v=if v=n then gv t n+1 else gv t v:=fun v h0=>uY hnr.1 h0 htn _
 have hkM:((k:Int)+1)*M<ĸ:=by
  have:=Om hkN hM;push_cast at this;omega
 have xle:∀v:Int,0≤v→v<N→gv x v≤ĸ:=fun v h0 h1=>by rcases h.bd v h0 h1 with h2|h2<;>omega
 obtain⟨l,hl,hlv⟩:=ha.new
 have att':∀v:Int,0≤v→v<N→gv x' v≠ĸ→∃vs,Wl L S vs v (gv x' v):=by
  intro v h0 h1 hne;rcases ha.chg v h0 h1 with g|⟨_,_,m,g3,g4,_⟩
  ·rw[g] at hne ⊢; exact h.att v h0 h1 hne
  ·obtain⟨vs,hw⟩:=h.att n hnr.1 hnr.2 (by omega);rw[g4]; exact⟨_,hw.step g3⟩
 refine⟨B++l,by rw[hl,dl],ha.lx,ha.lw,by rw[fm]; exact h.lt,ha.nodup,fun v hv=>?_,ha.waits,fun v h0 h1=>?_,fun v hv=>?_,fun vs v d hw hlen=>?_,fun vs u d hw hlen hu v m hlk=>?_,
  fun u h0 h1 hu hf v m hlk=>?_,att',fun v h0 h1=>?_,fun v hv=>?_,fun v hv=>?_,hkN,fun hk=>?_⟩
 ·rw[hl] at hv;rcases cX.1 hv with hv|hv
  ·exact h.rng v (by rw[hq]; simp only[dc]; exact .inr hv)
  ·exact(hlv v hv).1
 ·rw[tset v h0];have h2:=h.t0 v h0 h1
  split
  ·have h3:=h.tA n (by simp);have h4:=h.t0 n hnr.1 hnr.2;omega
  ·exact h2
 ·have h1:=h.rng v (by rw[hq]; simp[hv]);rw[tset v h1.1,if_neg (fun e=>hnd (by rw[←e]; simp[hv]))];exact h.tA v (by simp[hv])
 ·have h1:=h.low vs v d hw hlen;have h2:=(hw.range hL.inr hS).1;have:=ha.le v h2.1 h2.2;omega
 ·have hvr:=(hL.inr _ hlk).2
  by_cases hun:u=n
  ·subst hun;have h1:=ha.link v m hlk;have h2:=h.low vs u d hw hlen;omega
  ·have h1:=h.nxt vs u d hw hlen (by simp[hun,hu]) v m hlk;have:=ha.le v hvr.1 hvr.2;omega
 ·have hvr:=(hL.inr _ hlk).2
  have heq:gv x' u=gv x u:=by
   rcases ha.chg u h0 h1 with g|⟨g,_⟩
   ·exact g
   ·exact(hu g).elim
  by_cases hun:u=n
  ·subst hun;have h1:=ha.link v m hlk;omega
  ·have hur:u∉q:=by
    rw[hq];intro hc;rcases dc.1 hc with e|hc
    ·exact hun e
    ·exact hu (by rw[hl]; exact ee _ hc)
   have h2:=h.rel u h0 h1 hur (by rw[←heq]; exact hf) v m hlk;have:=ha.le v hvr.1 hvr.2;omega
 ·rcases ha.chg v h0 h1 with g|⟨_,_,m,g3,g4,_⟩
  ·rw[g]; exact h.bd v h0 h1
  ·have h2:=h.bA n (by simp);have h3:=(hL.most _ g3).2;simp only at h3;refine .inr ?_;rw[g4,fS,f6];omega
 ·have h1:=h.rng v (by rw[hq]; simp[hv]);have h2:=h.bA v (by simp[hv]);have:=ha.le v h1.1 h1.2;omega
 ·rw[hl] at hv;rcases cX.1 hv with hv|hv
  ·have h1:=h.rng v (by rw[hq]; simp only[dc]; exact .inr hv);have h2:=h.fin v (by rw[hq]; simp only[dc]; exact .inr hv);have:=ha.le v h1.1 h1.2;omega
  ·obtain⟨g1,g2⟩:=hlv v hv;have:=xle v g1.1 g1.2;omega
 ·rw[h.last hk]
  cases l with
  |nil=>rfl
  |cons v l =>
   exfalso;obtain⟨g1,g2⟩:=hlv v (by simp);have:=xle v g1.1 g1.2;obtain⟨vs,hw⟩:=att' v g1.1 g1.2 (by omega);obtain⟨vs',d',k1,k2,k3⟩:=hw.simple hp;have k4:=k1.short hL.inr hS k3;have:=h.low vs' v d' k1 (by omega);omega
def ajv.done (hL:i6 L N M) (hNM:N*M<ĸ) (hp:Pot L p) (hS:∀v,S v→0≤v∧v<N) (h:ajv L S N M k A B x w t []):ajw L S N (gv x):=by
 have hkN:=h.kN;have hM:=hL.m0
 have hkM:((k:Int)+1)*M<ĸ:=by
  have:=Om hkN hM;push_cast at this;omega
 have key:∀vs v d,Wl L S vs v d→vs.length+1≤N→gv x v≤d:=by
  intro vs v d hw
  induction hw with
  |nil hs=>intro _; exact h.low [] _ 0 (.nil hs) (by simp)
  | @step vs u v m d hw hlk ih =>
   intro hlen;simp only[df] at hlen;have h1:=ih (by omega);have h2:=hw.lt_free hL hNM (by omega);have h3:=(hw.range hL.inr hS).1;have:=h.rel u h3.1 h3.2 (by simp) (by omega) v m hlk;omega
 refine⟨h.att,fun v vs d hw=>?_,fun v h0 h1=>?_⟩
 ·obtain⟨vs',d',k1,k2,k3⟩:=hw.simple hp;have:=key vs' v d' k1 (k1.short hL.inr hS k3);omega
 ·rcases h.bd v h0 h1 with h2|h2<;>omega
def aay {ρ:Type} {r:Option ρ} (hL:i6 L N M) (hNM:N*M<ĸ) (hp:Pot L p) (hS:∀v,S v→0≤v∧v<N) (k0:(Val (.pair .bool (.pair (.slice tI) (.pair (.slice .bool) (.pair (.slice tI) (.slice tI))))))→Option ρ)
 (hK:∀x w t q,x.length=N→ajw L S N (gv x)→k0 (true,x,w,t,q)=r) (h:ajv L S N M k A B x w t q) :
 Î (fun(v64:(Val (.pair (.slice tI) (.pair (.slice .bool) (.pair (.slice tI) (.slice tI)))))) kk69=>ĺ [] (kU L) (N:Int) L v64.1 v64.2.1 v64.2.2.1 v64.2.2.2 (fun u65 u66 u67 u68=>kk69 (u65,u66,u67,u68)) k0) (x,w,t,q)=r:=by
 refine Ĕ (fun s:List Int×List Bool×List Int×List Int=>∃k A B,ajv L S N M k A B s.1 s.2.1 s.2.2.1 s.2.2.2) (fun s=>Zu N s.2.2.1) ?_ ⟨k,A,B,h⟩;rintro⟨x,w,t,q⟩ ⟨k,A,B,h⟩;dsimp only at h ⊢;have hN:=hL.nodes
 cases q with
 |nil=>exact .inl fun kn=>by rw[aj4]; exact hK x w t [] h.lx (h.done hL hNM hp hS)
 |cons n rest =>
  -- the phase in which the first one is
  have hph:∃k A' B,ajv L S N M k (n::A') B x w t (n::rest):=by
   cases A with
   |nil =>
    have hB:B=n::rest:=by simpa using h.q_eq.symm
    subst hB;exact⟨k+1,rest,[],h.next hL hNM hS (by simp)⟩
   |cons a A' =>
    have:=h.q_eq;simp only[eP,List.cons.injEq] at this;obtain⟨rfl,_⟩:=this;exact⟨k,A',B,h⟩
  clear h k A B;obtain⟨k,A',B,h⟩:=hph
  have hrest:rest=A'++B:=by have:=h.q_eq; simpa using this
  have hnr:=h.rng n (by simp);have hnf:=h.fin n (by simp);have hkN:=h.kN;have h1:=h.tA n (by simp);have h2:=h.t0 n hnr.1 hnr.2;obtain⟨vs,hw⟩:=h.att n hnr.1 hnr.2 (by omega);have hlow:=hw.low' hp
  have hneg : -(400*4503599627370496)≤kU L:=by
   have:∀L':List Lk,(∀l∈L',-M≤l.2.2)→-((L'.length:Int)*M)≤kU L':=by
    intro L'
    induction L' with
    |nil=>intro _; simp[kU,BN]
    |cons l t ih =>
     intro hh;have i1:=ih fun l hl=>hh l (by simp[hl]);have i2:=hh l (by simp);have i3:=hL.m0;unfold kU at i1 ⊢;simp only[BN,if_true,List.length_cons,Int.natCast_succ,Int.add_mul,Int.one_mul];omega
   have h3:=this L fun l hl=>(hL.most l hl).1;have h4:(L.length:Int)*M≤400*4503599627370496:=fj (by have:=hL.len; omega) hL.m1 hL.m0 (by omega);omega
  have hrl:rest.length≤1000000:=by
   have:=agL N (n::rest) h.nodup h.rng;simp only[df] at this;omega
  refine .inr ?_
  have hw':(w.set n.toNat false).length=N:=by rw[fm]; exact h.lw
  cases hr:qK n (kU L) L x (w.set n.toNat false) rest with
  |mk b r' =>
  obtain⟨x',w',q'⟩:=r'
  cases b with
  |false =>
   exfalso;obtain⟨v,m,g1,g2⟩:=ol hL.noloop (fun l hl=>(hL.inr l hl).2.1) hnr.1 hr;have:=(hw.step g1).low' hp;omega
  |true =>
   have hnd:=h.nodup;rw[fX] at hnd
   have ha:=la hnr hL.inr hL.noloop h.lx hw' hnd.2 (fun v h0 h1=>by
    rw[agi hnr.1 h0 (by have:=h.lw; omega)]
    by_cases hv:v=n
    ·subst hv; simp[hnd.1]
    ·rw[if_neg hv,h.waits v h0 h1]
     simp[hv]) hr
   rw[hrest] at ha;obtain⟨B',hB'⟩:=h.step hL hNM hp hS ha;refine⟨(x',w',t.set n.toNat (gv t n+1),q'),⟨k,A',B',hB'⟩,acX (by have:=h.lt; omega) (by omega),fun kn=>?_⟩;have hF:ĸ=1152921504606846976:=rfl
   rw[ag0 hL hnr h.lx h.lw h.lt hrl (by constructor<;>omega) (by constructor<;>omega),if_neg (by omega),hr]
end
def Pw (f:Lk→Bool):∀(L L':List Lk),BN f (L++L')=BN f L+BN f L'
 |[],L'=>by simp[BN]
 |l::t,L'=>by
  simp only[eP,BN,Pw f t L'];omega
def abm {L:List Lk} {i:Nat} {l:Lk} (h:L[i]?=some l):kU (L.take (i+1))=kU (L.take i)+min l.2.2 0:=by
 rw[take_succ h,kU,kU,Pw];simp[BN]
def imin0 (e:Int):Tp e 0=min e 0:=by
 unfold Tp
 split<;>omega
def Pu {L:List Lk} {M:Int} (h:∀l∈L,-M≤l.2.2) (hM:0≤M) : -((L.length:Int)*M)≤kU L:=by
 induction L with
 |nil=>simp[kU,BN]
 |cons l t ih =>
  have i1:=ih fun l hl=>h l (by simp[hl]);have i2:=h l (by simp);unfold kU at i1 ⊢;simp only[BN,if_true,List.length_cons,Int.natCast_succ,Int.add_mul,Int.one_mul];omega
def apn (L:List Lk):kU L≤0:=mG _ L
section
variable {ρ:Type} {L:List Lk} {N:Nat} {M:Int}
def ahd (hL:i6 L N M) (k0:Int→Option ρ):Î (fun(v75:Val Ä) kk78=>iz L (Û L) v75.1 v75.2 (fun u76 u77=>kk78 (u76,u77)) k0) ((0:Int),(0:Int))=k0 (kU L):=by
 refine Ĕ (fun x:Int×Int=>∃i:Nat,i≤L.length∧x=(kU (L.take i),(i:Int))) (fun x=>L.length-x.2.toNat) ?_ ⟨0,by omega,rfl⟩;rintro x ⟨i,hi,rfl⟩;have hlen:=hL.len;rcases dn i L.length with h|h
 ·have hl:L[i]?=some L[i]:=cO h;refine .inr ⟨(kU (L.take (i+1)),(i:Int)+1),⟨i+1,h,by simp⟩,by simp; omega,fun kn=>?_⟩
  try dsimp only
  unfold iz
  have hb:∀j,j≤L.length→-(400*4503599627370496)≤kU (L.take j):=by
   intro j hj;have h1:=Pu (L:=L.take j) (fun l hl=>(hL.most l (fH hl)).1) hL.m0;have h2:((L.take j).length:Int)*M≤400*4503599627370496:=fj (by rw[dj]; omega) hL.m1 hL.m0 (by omega);omega
  have h1:=hb i hi;have h2:=hb (i+1) h;have h3:=apn (L.take i);rw[abm hl] at h2;rw[Ö h,Ì hl,imin0,Õ (by omega) (by omega),Ï h (by omega),abm hl]
 ·refine .inl fun kn=>?_
  have:i=L.length:=by omega
  subst this
  try dsimp only
  unfold iz;rw[ã,List.take_length]
def ajK {x:List Int} (hx:x.length=N) (hN:N≤1000) {r:Option ρ} (k0:(Val (.pair (.slice .bool) (.slice tI)))→Option ρ)
 (hK:∀(w:List Bool) (q:List Int),w.length=N→q.Nodup→(∀v∈q,0≤v∧v<N)→(∀v:Int,0≤v→v<N→(wv w v=true↔v∈q))→(∀v:Int,0≤v→v<N→(v∈q↔gv x v≠ĸ))→k0 (w,q)=r) :
 Î (fun(v70:(Val (.pair tI (.pair (.slice .bool) (.slice tI))))) kk74=>š (N:Int) x v70.1 v70.2.1 v70.2.2 (fun u71 u72 u73=>kk74 (u71,u72,u73)) k0) ((0:Int),(List.replicate N false),([]:List Int))=r:=by
 refine Ĕ (fun s:Int×List Bool×List Int=>∃i:Nat,i≤N∧s.1=i∧s.2.1.length=N∧s.2.2.Nodup∧s.2.2.length≤i∧(∀v∈s.2.2,0≤v∧v<i)∧(∀v:Int,0≤v→v<N→(wv s.2.1 v=true↔v∈s.2.2))∧(∀v:Int,0≤v→v<i→(v∈s.2.2↔gv x v≠ĸ))) (fun s=>N-s.1.toNat) ?_
  ⟨0,by omega,rfl,by simp,by simp,by simp,by simp,fun v h0 h1=>?_,fun v h0 h1=>by omega⟩
 ·rintro⟨s,w,q⟩ ⟨i,hi,h1,h2,h3,h4,h5,h6,h7⟩;simp only at h1 h2 h3 h4 h5 h6 h7;subst h1;rcases dn i N with h|h
  ·refine .inr ?_
   have hix:i<x.length:=by omega
   have hiw:i<w.length:=by omega
   have hnq:((i:Int))∉q:=fun hc=>by have:=(h5 _ hc).2; omega
   by_cases hf:gv x i=ĸ
   ·refine⟨((i:Int)+1,w,q),⟨i+1,h,by simp,h2,h3,by simp only; omega,fun v hv=>⟨(h5 v hv).1,by have:=(h5 v hv).2; push_cast; omega⟩,h6,fun v h0 h1=>?_⟩,by simp; omega,fun kn=>?_⟩
    ·by_cases hv:v=i
     ·subst hv; simp[hf,hnq]
     ·exact h7 v h0 (by push_cast at h1; omega)
    ·try dsimp only
     unfold š
     have e:ilt (i:Int) (N:Int)=true:=by simp[ilt,h]
     rw[Ø e,ψ hix,j3 (by simpa using hix)]
     have e2:ine (gv x i) 1152921504606846976=false:=by simp[ine,hf]
     rw[Ô e2,Ï h (by omega)]
   ·refine⟨((i:Int)+1,w.set i true,q++[(i:Int)]),⟨i+1,h,by simp,by simpa using h2,?_,by simp; omega,fun v hv=>?_,fun v h0 h1=>?_,fun v h0 h1=>?_⟩,by simp; omega,fun kn=>?_⟩
    ·rw[List.nodup_append];exact⟨h3,by simp,fun a ha b hb=>by simp at hb; subst hb; exact fun e=>hnq (e▸ha)⟩
    ·rcases cX.1 hv with hv|hv
     ·exact⟨(h5 v hv).1,by have:=(h5 v hv).2; push_cast; omega⟩
     ·simp at hv; subst hv; push_cast; omega
    ·have:=agi (w:=w) (u:=(i:Int)) (by omega) h0 (by simpa using hiw) true;rw[dk] at this;show wv (w.set i true) v=true↔v∈q++[(i:Int)];rw[this]
     by_cases hv:v=i
     ·simp[hv]
     ·simp only[hv,if_false,cX,dg,or_false];exact h6 v h0 h1
    ·show v∈q++[(i:Int)]↔_
     by_cases hv:v=i
     ·subst hv; simp[hf]
     ·simp only[cX,dg,hv,or_false];exact h7 v h0 (by push_cast at h1; omega)
    ·try dsimp only
     unfold š
     have e:ilt (i:Int) (N:Int)=true:=by simp[ilt,h]
     rw[Ø e,ψ hix,j3 (by simpa using hix)]
     have e2:ine (gv x i) 1152921504606846976=true:=by simp[ine,hf]
     rw[Ø e2,Ú (by simp only[dE]; omega),Am.iff_true,ψ hiw,XA (by simpa using hiw),Ï h (by omega),dk]
  ·refine .inl fun kn=>?_
   have:i=N:=by omega
   subst this
   try dsimp only
   unfold š
   have e:ilt (i:Int) (i:Int)=false:=by simp[ilt]
   rw[Ô e];exact hK w q h2 h3 h5 h6 h7
 ·have:wv (List.replicate N false) v=false:=by
   unfold wv;rw[List.getElem?_replicate]
   split<;>rfl
  simp[this]
def Vj (hL:i6 L N M) (hN:1≤N) {S:Int→Bool} (hS:∀v,S v=true→0≤v∧v<N) {w:List Bool} {q:List Int} (hw:w.length=N) (hq:q.Nodup) (hr:∀v∈q,0≤v∧v<N) (hwq:∀v:Int,0≤v→v<N→(wv w v=true↔v∈q)) (hqs:∀v:Int,0≤v→v<N→(v∈q↔gv (ņ S N) v≠ĸ)) :
 ajv L (fun v=>S v=true) N M 0 q [] (ņ S N) w (List.replicate N 0) q:=by
 have ht:∀v:Int,0≤v→v<N→gv (List.replicate N (0:Int)) v=0:=by
  intro v h0 h1;unfold gv;rw[List.getElem?_replicate]
  split<;>rfl
 have hg:∀v:Int,0≤v→v<N→(v∈q↔S v=true):=by
  intro v h0 h1;rw[hqs v h0 h1,Ŷ S h0 h1]
  cases S v<;>simp[ĸ]
 have hM:=hL.m0;refine⟨by simp,ê S N,hw,by simp,hq,hr,hwq,fun v h0 h1=>?_,fun v hv=>?_,fun vs v d hw hl=>?_,fun vs u d hw hl hu v m hlk=>?_,fun u h0 h1 hu hf v m hlk=>?_,fun v h0 h1 hf=>?_,fun v h0 h1=>?_,fun v hv=>?_,fun v hv=>?_,by omega,fun _=>rfl⟩
 ·rw[ht v h0 h1]; omega
 ·have:=hr v hv;rw[ht v this.1 this.2]; omega
 ·cases hw with
  |nil hs =>
   have:=hS v hs;rw[Ŷ S this.1 this.2,if_pos hs]; omega
  |step=>simp at hl
 ·cases hw with
  |nil hs =>
   have:=hS u hs;exact(hu ((hg u this.1 this.2).2 hs)).elim
  |step=>simp at hl
 ·rw[Ŷ S h0 h1] at hf;have:=mt (hg u h0 h1).2 hu;rw[if_neg this] at hf;exact(hf rfl).elim
 ·rw[Ŷ S h0 h1] at hf ⊢
  split at hf
  ·rename_i hs;rw[if_pos hs]; exact⟨[],.nil hs⟩
  ·exact(hf rfl).elim
 ·rw[Ŷ S h0 h1]
  split
  ·exact .inr (by simp[hM])
  ·exact .inl rfl
 ·have h1:=hr v hv;rw[Ŷ S h1.1 h1.2,if_pos ((hg v h1.1 h1.2).1 hv)]; simp
 ·have h1:=hr v hv;rw[Ŷ S h1.1 h1.2,if_pos ((hg v h1.1 h1.2).1 hv)]; simp[ĸ]
structure Bad (L:List Lk) (N:Nat) (x:List Int) (w:List Bool) (t q:List Int):Prop where
 lx:x.length=N
 lw:w.length=N
 lt:t.length=N
 nodup:q.Nodup
 rng:∀v∈q,0≤v∧v<N
 waits:∀v:Int,0≤v→v<N→(wv w v=true↔v∈q)
 t0:∀v:Int,0≤v→v<N→0≤gv t v∧gv t v≤(N:Int)+1
 bd:∀v:Int,0≤v→v<N→-2305843009213693952≤gv x v∧gv x v≤0
 rel:∀u:Int,0≤u→u<N→u∉q→∀v m,(u,v,m)∈L→gv x v≤gv x u+m
def amY {r:Option ρ} {x:List Int} {w:List Bool} {t q:List Int} (hL:i6 L N M) (hp:¬∃p,Pot L p) (k0:(Val (.pair .bool (.pair (.slice tI) (.pair (.slice .bool) (.pair (.slice tI) (.slice tI))))))→Option ρ)
 (hK:∀x w t q,k0 (false,x,w,t,q)=r) (h:Bad L N x w t q) :
 Î (fun(v64:(Val (.pair (.slice tI) (.pair (.slice .bool) (.pair (.slice tI) (.slice tI)))))) kk69=>ĺ [] (kU L) (N:Int) L v64.1 v64.2.1 v64.2.2.1 v64.2.2.2 (fun u65 u66 u67 u68=>kk69 (u65,u66,u67,u68)) k0) (x,w,t,q)=r:=by
 refine Ĕ (fun s:List Int×List Bool×List Int×List Int=>Bad L N s.1 s.2.1 s.2.2.1 s.2.2.2) (fun s=>Zu N s.2.2.1) ?_ h;rintro⟨x,w,t,q⟩ h;dsimp only at h ⊢;have hN:=hL.nodes
 cases q with
 |nil =>
  exfalso;exact hp ⟨gv x,fun u v m hl=>h.rel u (hL.inr _ hl).1.1 (hL.inr _ hl).1.2 (by simp) v m hl⟩
 |cons n rest =>
  have hnr:=h.rng n (by simp);have hb:=h.bd n hnr.1 hnr.2;have ht:=h.t0 n hnr.1 hnr.2
  have hrl:rest.length≤1000000:=by
   have:=agL N (n::rest) h.nodup h.rng;simp only[df] at this;omega
  have hout:=fun(kn:List Int→List Bool→List Int→List Int→Option ρ)=>ag0 (ρ:=ρ) hL (least:=kU L) hnr h.lx h.lw h.lt hrl ⟨hb.1,by omega⟩ ⟨ht.1,by omega⟩ kn k0
  by_cases hlt:(N:Int)+1<gv t n+1
  ·exact .inl fun kn=>by rw[hout,if_pos hlt]; exact hK _ _ _ _
  ·have hw':(w.set n.toNat false).length=N:=by rw[fm]; exact h.lw
   cases hr:qK n (kU L) L x (w.set n.toNat false) rest with
   |mk b r' =>
   obtain⟨x',w',q'⟩:=r'
   cases b with
   |false=>exact .inl fun kn=>by rw[hout,if_neg hlt,hr]; exact hK _ _ _ _
   |true =>
    have hnd:=h.nodup;rw[fX] at hnd
    have htl:n.toNat<t.length:=by have:=h.lt; omega
    have ha:=la hnr hL.inr hL.noloop h.lx hw' hnd.2 (fun v h0 h1=>by
     rw[agi hnr.1 h0 (by have:=h.lw; omega)]
     by_cases hv:v=n
     ·subst hv; simp[hnd.1]
     ·rw[if_neg hv,h.waits v h0 h1]
      simp[hv]) hr
    obtain⟨l,hl,hlv⟩:=ha.new;refine .inr ⟨(x',w',t.set n.toNat (gv t n+1),q'),⟨ha.lx,ha.lw,by rw[fm]; exact h.lt,ha.nodup,fun v hv=>?_,ha.waits,fun v h0 h1=>?_,fun v h0 h1=>?_,fun u h0 h1 hu v m hlk=>?_⟩,acX htl (by omega),fun kn=>by rw[hout,if_neg hlt,hr]⟩
    ·dsimp only at hv;rw[hl] at hv;rcases List.mem_append.1 hv with hv|hv
     ·exact h.rng v (by simp[hv])
     ·exact(hlv v hv).1
    ·try dsimp only
     rw[uY hnr.1 h0 htl];have:=h.t0 v h0 h1
     split<;>omega
    ·try dsimp only
     have h2:=h.bd v h0 h1;rcases ha.chg v h0 h1 with g|⟨_,g2,m,g3,g4,g5⟩
     ·rw[g]; exact h2
     ·have h3:=Pu (L:=L) (fun l hl=>(hL.most l hl).1) hL.m0;have h4:(L.length:Int)*M≤400*4503599627370496:=fj (by have:=hL.len; omega) hL.m1 hL.m0 (by omega);omega
    ·dsimp only at hu ⊢;have hvr:=(hL.inr _ hlk).2
     have heq:gv x' u=gv x u:=by
      rcases ha.chg u h0 h1 with g|⟨g,_⟩
      ·exact g
      ·exact(hu g).elim
     by_cases hun:u=n
     ·subst hun;have h1:=ha.link v m hlk;omega
     ·have hur:u∉n::rest:=by
       intro hc;rcases dc.1 hc with e|hc
       ·exact hun e
       ·exact hu (by rw[hl]; exact ee _ hc)
      have h2:=h.rel u h0 h1 hur v m hlk;have:=ha.le v hvr.1 hvr.2;omega
end
def yg (N:Nat) (v:Int):Bool:=decide (0≤v)&&decide (v<(N:Int))
def BM (s:Int) (v:Int):Bool:=v==s
def aax (N:Nat):ņ (yg N) N=List.replicate N 0:=by
 refine Wp (by simp[ê]) fun v h0 h1=>?_;rw[ê] at h1;rw[Ŷ _ h0 h1]
 have:yg N v=true:=by simp[yg,h0,h1]
 rw[if_pos this];unfold gv;rw[List.getElem?_replicate]
 split<;>rfl
def į (L:List Lk) (N:Nat):List Int:=Ć L N (ņ (yg N) N)
def Ğ (L:List Lk) (N:Nat):Bool:=decide (ķ L (į L N)=į L N)
def j5 (L:List Lk) (N:Nat) (s:Int):List Int:=Ć L N (ņ (BM s) N)
section
variable {L:List Lk} {N:Nat} {M:Int}
def akn (hL:i6 L N M) (hN:N≤200):N*M<ĸ:=by
 have:(N:Int)*M≤200*4503599627370496:=Int.mul_le_mul (by omega) hL.m1 hL.m0 (by omega);unfold ĸ;omega
def AW {p:Int→Int} (hL:i6 L N M) (hN:N≤200) (hp:Pot L p):ajw L (fun v=>yg N v=true) N (gv (į L N)) :=
 DP hp hL.inr (fun v h=>by simpa[yg] using h) (fun l hl=>(hL.most l hl).2) hL.m0 (akn hL hN) N (by omega)
def jK {p:Int→Int} (hL:i6 L N M) (hN:N≤200) (hp:Pot L p) {s:Int} (hs:0≤s∧s<N):ajw L (fun v=>BM s v=true) N (gv (j5 L N s)) :=
 DP hp hL.inr (fun v h=>by simp[BM] at h; subst h; exact hs) (fun l hl=>(hL.most l hl).2) hL.m0 (akn hL hN) N (by omega)
def aaS:∀{L:List Lk} {x:List Int},(∀u v m,(u,v,m)∈L→gv x u<ĸ→gv x v≤gv x u+m)→ķ L x=x
 |[],x,_=>rfl
 |l::t,x,h=>by
  have h1:ų x l=x:=by
   unfold ų
   split
   ·rename_i hc;have:=h l.1 l.2.1 l.2.2 (by simp) hc.1;omega
   ·rfl
  show ķ t (ų x l)=x;rw[h1];exact aaS fun u v m hm=>h u v m (by simp[hm])
def œ (hL:i6 L N M) (hN:N≤200):Ğ L N=true↔∃p,Pot L p:=by
 unfold Ğ;rw[decide_eq_true_eq]
 have hle:∀v:Int,0≤v→v<N→gv (į L N) v≤0:=by
  intro v h0 h1;have:=yo hL.inr N (ê (yg N) N) v h0;rw[Ŷ _ h0 h1,if_pos (by simp[yg,h0,h1])] at this;exact this
 constructor
 ·intro h;refine⟨gv (į L N),fun u v m hl=>?_⟩;have hr:=(hL.inr _ hl).1;have:=Jq hL.inr (x:=į L N) (by unfold į; rw[ÿ,ê]) u v m hl (by have:=hle u hr.1 hr.2; unfold ĸ; omega)
  rwa [h] at this
 ·rintro⟨p,hp⟩;have hd:=AW hL hN hp;exact aaS fun u v m hl hf=>hd.pot hL.inr hl (by omega)
end
section
variable {ρ:Type} {L:List Lk} {N:Nat} {M:Int}
def wP (hN:N≤1000) (x:Option ρ):ë ((ile (0:Int) (N:Int))&&(î (Int.toNat (N:Int)))) x=x:=by
 rw[dk,Ú (by omega)]
 have:((ile (0:Int) (N:Int))&&true)=true:=by simp[ile]
 rw[this,Am.iff_true]
def aeA (hL:i6 L N M) (h1:1≤N) (hN:N≤200) (k0:(Val (.pair .bool (.pair (.slice tI) (.pair (.slice .bool) (.pair (.slice tI) (.slice tI))))))→Option ρ) {rT rF:Option ρ}
 (hT:Ğ L N=true→∀w t q,k0 (true,į L N,w,t,q)=rT) (hF:∀x w t q,k0 (false,x,w,t,q)=rF) :
 (Î (fun(v70:(Val (.pair tI (.pair (.slice .bool) (.slice tI))))) kk74=>š (N:Int) (List.replicate N (0:Int)) v70.1 v70.2.1 v70.2.2 (fun u71 u72 u73=>kk74 (u71,u72,u73)) (fun z9=>Î (fun(v64:(Val (.pair (.slice tI) (.pair (.slice .bool) (.pair (.slice tI) (.slice tI)))))) kk69=>ĺ [] (kU L) (N:Int) L v64.1 v64.2.1 v64.2.2.1 v64.2.2.2 (fun u65 u66 u67 u68=>kk69 (u65,u66,u67,u68)) k0) ((List.replicate N (0:Int)),z9.1,(List.replicate N (0:Int)),z9.2))) ((0:Int),(List.replicate N false),([]:List Int)))=if Ğ L N then rT else rF:=by
 refine ajK (by simp) (by omega) _ fun w q hw hq hr hwq hqs=>?_
 try dsimp only
 have hS:∀v,yg N v=true→0≤v∧v<N:=fun v h=>by simpa[yg] using h
 by_cases ho:Ğ L N=true
 ·rw[if_pos ho];obtain⟨p,hp⟩:=(œ hL hN).1 ho;have hs:=Vj hL h1 hS hw hq hr hwq (fun v a b=>by rw[aax]; exact hqs v a b);rw[aax] at hs;refine aay hL (akn hL hN) hp hS k0 (fun x w t q hx hd=>?_) hs
  have:x=į L N:=by
   refine Wp (by rw[hx]; unfold į; rw[ÿ,ê]) fun v a b=>?_;exact hd.uniq (AW hL hN hp) a (by omega)
  rw[this]; exact hT ho w t q
 ·rw[if_neg ho];refine amY hL (fun hp=>ho ((œ hL hN).2 hp)) k0 hF ?_
  have hg:∀v,gv (List.replicate N (0:Int)) v=0:=by
   intro v;unfold gv;rw[List.getElem?_replicate]
   split<;>rfl
  refine⟨by simp,hw,by simp,hq,hr,hwq,fun v a b=>?_,fun v a b=>?_,fun u a b hu v m hl=>?_⟩
  ·rw[hg]; omega
  ·rw[hg]; omega
  ·exact(hu ((hqs u a b).2 (by rw[hg]; unfold ĸ; omega))).elim
end
def shift_ok {ρ:Type} {x:List Int} (f:Int) (hx:x.length≤1000) (hf : -2305843009213693952≤f∧f≤2305843009213693952) (hb:∀a∈x,-2305843009213693952≤a∧a≤2305843009213693952) (k0:List Int→Option ρ) :
 Î (fun(v60:(Val (.pair tI (.slice tI)))) kk63=>jy f (Û x) v60.1 v60.2 (fun u61 u62=>kk63 (u61,u62)) k0) ((0:Int),x)=k0 (x.map fun a=>a-f):=by
 refine ô x (fun i=>(x.take i).map (fun a=>a-f)++x.drop i) _ (by simp) (fun i a hi ha kn=>?_) (fun kn=>?_)
 ·try dsimp only
  unfold jy
  have hlen:((x.take i).map (fun a=>a-f)++x.drop i).length=x.length:=by simp; omega
  have hget:((x.take i).map (fun a=>a-f)++x.drop i)[i]?=some a:=by
   rw[fB (by simp; omega)];simp only[dY,dj,ff];rw[←ha]; congr 1; omega
  have hi':i<((x.take i).map (fun a=>a-f)++x.drop i).length:=by omega
  have ha':=hb a (cZ ha);rw[Ö hi,ψ hi',Ī hget,Õ (by omega) (by omega),ψ hi',Ī hget,Ï hi (by omega),dk,take_succ ha];congr 2;rw[fF hi,gU,dl,gR _ _ (by simp; omega)]
  have:i-(List.map (fun a=>a-f) (List.take i x)).length=0:=by simp; omega
  rw[this]
  have h1:x[i]=a:=by rw[cO hi] at ha; simpa using ha
  simp[h1]
 ·try dsimp only
  unfold jy;rw[ã];simp
section
variable {L:List Lk} {N:Nat} {M:Int}
def W7 (hL:i6 L N M) (hN:N≤200) (ho:Ğ L N=true):∀a∈į L N,-2305843009213693952≤a∧a≤0:=by
 obtain⟨p,hp⟩:=(œ hL hN).1 ho;have hd:=AW hL hN hp;intro a ha;obtain⟨i,hi,rfl⟩:=di.1 ha
 have hlen:(į L N).length=N:=by unfold į; rw[ÿ,ê]
 have h0:gv (į L N) i=(į L N)[i]:=by unfold gv; simp[hi]
 have hle:=yo hL.inr N (ê (yg N) N) (i:Int) (by omega);rw[Ŷ _ (by omega) (by omega),if_pos (by simp[yg]; omega)] at hle;have hle':gv (į L N) i≤0:=hle;obtain⟨vs,hw⟩:=hd.att i (by omega) (by omega) (by unfold ĸ; omega);have h1:=hw.low' hp;have h3:=Pu (L:=L) (fun l hl=>(hL.most l hl).1) hL.m0;have h4:(L.length:Int)*M≤400*4503599627370496:=Int.mul_le_mul (by have:=hL.len; omega) hL.m1 hL.m0 (by omega);omega
def solP (L:List Lk) (N:Nat):List Int:=(į L N).map fun a=>a-gv (į L N) 0
def DH (hL:i6 L N M) (h1:1≤N) (hN:N≤200):lh ((N:Int),L) []=some (if Ğ L N then(solP L N,true) else([],false)):=by
 unfold lh zJ
 try dsimp only
 rw[wP (by omega),wP (by omega),wP (by omega),dk];refine eV (ahd hL _) ?_;refine eV (aeA hL h1 hN _ (rT:=some (solP L N,true)) (rF:=some ([],false)) (fun ho w t q=>?_) (fun x w t q=>?_)) ?_
 ·try dsimp only
  have hlen:(į L N).length=N:=by unfold į; rw[ÿ,ê]
  have hb:=W7 hL hN ho;have h0:ilt (0:Int) (ĉ (į L N))=true:=decide_eq_true (show(0:Int)<((į L N).length:Int) by omega);have hg:(į L N)[0]?=some (gv (į L N) 0):=Wo (v:=0) (show 0<_ by omega);have hm:=hb _ (cZ hg);rw[show(!true)=false from rfl,ø,ĩ h0,nk hg];exact shift_ok _ (by omega) ⟨hm.1,by omega⟩ (fun a ha=>⟨(hb a ha).1,by have:=(hb a ha).2; omega⟩) _
 ·rfl
 ·cases Ğ L N<;>rfl
structure ł (L:List Lk) (N:Nat):Prop where
 n1:1≤N
 n60:N≤60
 len:L.length≤300
 inr:InR L N
 noloop:∀l∈L,l.1≠l.2.1
 most:∀l∈L,-4503599627370496≤l.2.2∧l.2.2≤4503599627370496
def ł.links (h:ł L N):i6 L N 4503599627370496 :=
 ⟨h.inr,h.noloop,h.most,by have:=h.len; omega,by have:=h.n60; omega,by omega,by omega⟩
def ł.sub {L':List Lk} (h:ł L N) (hs:∀l∈L',l∈L) (hl:L'.length≤L.length):ł L' N :=
 ⟨h.n1,h.n60,by have:=h.len; omega,fun l hm=>h.inr l (hs l hm),fun l hm=>h.noloop l (hs l hm),fun l hm=>h.most l (hs l hm)⟩
def Pr (n:Int) (L:List Lk) (v:Int):sN (n,L) v=some (decide (0≤v)&&decide (v<n)):=by
 unfold sN YM ige
 by_cases h:0≤v
 ·have:decide (v≥0)=true:=by simpa using h
  rw[Ø this]; simp[h]
 ·have:decide (v≥0)=false:=by simpa using h
  rw[Ô this]; simp[h]
def mh (h:ł L N):ox ((N:Int),L)=some (0,-1):=by
 have h1:=h.n1;have h2:=h.n60;have h3:=h.len;unfold ox Q9
 try dsimp only
 rw[Ô (by simp[ilt]; omega),Ô (by simp[igt]; omega),Ô (by rw[ä]; simp[igt]; omega)];refine eV (iA L (fun _=>false) (fun i=>some (1,i)) (some (0,-1)) (fun i l hi hl kn=>?_) (fun kn=>?_)) ?_
 ·try dsimp only
  unfold sj;have hm:=List.mem_of_getElem? hl;have a:=h.inr l hm;have b:=h.noloop l hm;have c:=h.most l hm
  have e1:(decide (0≤l.1)&&decide (l.1<(N:Int)))=true:=by simp[a.1.1,a.1.2]
  have e2:(decide (0≤l.2.1)&&decide (l.2.1<(N:Int)))=true:=by simp[a.2.1,a.2.2]
  rw[Ö hi,Ì hl,Pr,À,e1,Pr,À,e2];simp only[eo,ø,dv,if_false];rw[Ô (by simp[ieq,b]),Ô (by simp[ilt]; omega),Ô (by simp[igt]; omega),Ï hi (by omega)]
 ·try dsimp only
  unfold sj;rw[ã]
 ·rw[dT.2 (by simp)]
def tB {ρ:Type} {x:List Int} {v:Int} (h0:0≤v) (h:v.toNat<x.length) (f:Int→Option ρ):ā x v f=f (gv x v):=by
 obtain⟨i,rfl⟩:=gM h0;exact Ì (Wo h) f
end
section
variable {b:â}
def rh (b:â) (g:ñ):(à b g).Pairwise (·<·):=DK _
def SD (h:Ē b) {g:ñ} (hg:g∈b.2.1):∃t,à b g=g.2.1::t:=by
 have h1:=rh b g;have h2:=kD (b:=b) g;have h3:∀d∈à b g,g.2.1≤d:=fun d hd=>(h.day hg hd).1
 cases hd:à b g with
 |nil=>rw[hd] at h2; cases h2
 |cons a t =>
  rw[hd] at h1 h2 h3;rw[dK] at h1;rcases dc.1 h2 with e|e
  ·exact⟨t,by rw[e]⟩
  ·have:=h1.1 _ e;have:=h3 a (by simp);omega
def off (b:â) (i:Nat):Nat:=((b.2.1.take i).flatMap fun g=>(à b g).map fun d=>((g.1,d):Int×Int)).length
def DY {i:Nat} {g:ñ} (hg:b.2.1[i]?=some g):Í b=((b.2.1.take i).flatMap fun g=>(à b g).map fun d=>((g.1,d):Int×Int))++(((à b g).map fun d=>((g.1,d):Int×Int))++((b.2.1.drop (i+1)).flatMap fun g=>(à b g).map fun d=>((g.1,d):Int×Int))):=by
 obtain⟨hi,rfl⟩:=cY.1 hg
 have h1:b.2.1=b.2.1.take i++(b.2.1[i]::b.2.1.drop (i+1)):=by
  rw[←fF hi,List.take_append_drop]
 unfold Í
 conv=>lhs; rw[h1]
 rw[eX,dN]
def Xz (h:Ē b) {i:Nat} {g:ñ} (hg:b.2.1[i]?=some g) {k:Nat} {d:Int} (hk:(à b g)[k]?=some d):iP (Í b) g.1 d=some (off b i+k):=by
 obtain⟨hi,hgi⟩:=List.getElem?_eq_some_iff.1 hg;obtain⟨hkl,hkd⟩:=List.getElem?_eq_some_iff.1 hk;unfold iP;rw[DY hg,List.findIdx?_append,List.findIdx?_append]
 have h1:List.findIdx? (fun n:Int×Int=>decide (g.1=n.1)&&decide (d=n.2)) ((b.2.1.take i).flatMap fun g=>(à b g).map fun d=>((g.1,d):Int×Int))=none:=by
  rw[dT];intro x hx;obtain⟨g',hg',hx⟩:=dz.1 hx;obtain⟨d',_,rfl⟩:=dS.1 hx;obtain⟨j,hj,rfl⟩:=di.1 hg';rw[dj] at hj;rw[List.getElem_take];have:=(dM.1 h.ids) j i (by omega) hi (by omega);rw[hgi] at this;simp only[Bool.and_eq_false_iff,decide_eq_false_iff_not];exact .inl (by omega)
 have h2:List.findIdx? (fun n:Int×Int=>decide (g.1=n.1)&&decide (d=n.2)) ((à b g).map fun d=>((g.1,d):Int×Int))=some k:=by
  rw[dA];refine⟨by simpa using hkl,by simp[hkd],fun j hj=>?_⟩;have:=(dM.1 (rh b g)) j k (by omega) hkl hj;rw[hkd] at this;simp only[List.getElem_map,cR,decide_eq_true_eq,not_and];intro _;omega
 rw[h1,h2];simp only[Option.map_some,Option.some_or,Option.none_or];unfold off;congr 1;omega
def Ol {i:Nat} {g:ñ} (hg:b.2.1[i]?=some g) {k:Nat} {d:Int} (hk:(à b g)[k]?=some d):(Í b)[off b i+k]?=some (g.1,d):=by
 obtain⟨hkl,hkd⟩:=List.getElem?_eq_some_iff.1 hk;rw[DY hg,List.getElem?_append_right (by unfold off; omega),List.getElem?_append_left (by unfold off; simp; omega)];unfold off;simp[hk]
def ahJ (h:Ē b) {i:Nat} {g:ñ} (hg:b.2.1[i]?=some g):atP (Í b) [g.1] g.2.1=(off b i:Int)+1:=by
 obtain⟨t,ht⟩:=SD h (List.mem_of_getElem? hg);have:=Xz h hg (k:=0) (d:=g.2.1) (by rw[ht]; rfl);unfold atP;simp only[this];rfl
def ake (h:Ē b) {i:Nat} {g:ñ} (hg:b.2.1[i]?=some g):off b i+(à b g).length≤(Í b).length:=by
 rw[DY hg];unfold off;simp only[List.length_append,List.length_map];omega
def ani {i:Nat} {g:ñ} (hg:b.2.1[i]?=some g):off b (i+1)=off b i+(à b g).length:=by
 unfold off;rw[take_succ hg,List.flatMap_append];simp
def abl (h:Ē b) {c:Cmp} (hc:c∈b.2.2.2.2.1) {x:Int} (hx:(x∈c.2.2.1∧x∉c.2.2.2.1)∨(x∈c.2.2.2.1∧x∉c.2.2.1)):∃j,iP (Í b) x c.2.1=some j:=by
 have hm:x∈c.2.2.1++c.2.2.2.1:=by rw[cX]; exact hx.imp (·.1) (·.1)
 obtain⟨⟨g,hg,_⟩,_⟩:=h.pile hc hm;obtain⟨hgm,hgx⟩:=oq hg;obtain⟨i,hi,hgi⟩:=di.1 hgm
 have hd:c.2.1∈à b g:=je.2 (.inr (.inl ⟨c,hc,by
  rw[hgx];rcases hx with⟨h1,h2⟩|⟨h1,h2⟩
  ·have e1:c.2.2.1.contains x=true:=by simpa using h1
   have e2:c.2.2.2.1.contains x=false:=by simpa using h2
   rw[e1,e2]; simp
  ·have e1:c.2.2.2.1.contains x=true:=by simpa using h1
   have e2:c.2.2.1.contains x=false:=by simpa using h2
   rw[e1,e2]; simp,rfl⟩))
 obtain⟨k,hk,hkd⟩:=di.1 hd;have:=Xz h (g:=g) (i:=i) (by rw[cO hi,hgi]) (k:=k) (d:=c.2.1) (by rw[cO hk,hkd]);rw[hgx] at this;exact⟨_,this⟩
inductive ajn (b:â) (p:List Int) (d:Int) (n:Int):Prop
 |none:p=[]→n=0→ajn b p d n
 |one (x:Int) (j:Nat):p=[x]→iP (Í b) x d=some j→n=(j:Int)+1→ajn b p d n
def ZM (h:Ē b) {c:Cmp} (hc:c∈b.2.2.2.2.1):ajn b (é c.2.2.1 c.2.2.2.1) c.2.1 (cx b c):=by
 have hl:=(h.lefts hc).1
 cases hp:é c.2.2.1 c.2.2.2.1 with
 |nil=>exact .none rfl (by unfold cx atP; rw[hp])
 |cons x t =>
  rw[hp] at hl
  have:t=[]:=by cases t with|nil=>rfl|cons=>simp at hl
  subst this;obtain⟨j,hj⟩:=abl h hc (x:=x) (.inl (kh.1 (by rw[hp]; simp)));exact .one x j rfl hj (by unfold cx atP; rw[hp]; simp only[hj])
def SE (h:Ē b) {c:Cmp} (hc:c∈b.2.2.2.2.1):ajn b (é c.2.2.2.1 c.2.2.1) c.2.1 (cy b c):=by
 have hl:=(h.lefts hc).2.1
 cases hp:é c.2.2.2.1 c.2.2.1 with
 |nil=>exact .none rfl (by unfold cy atP; rw[hp])
 |cons x t =>
  rw[hp] at hl
  have:t=[]:=by cases t with|nil=>rfl|cons=>simp at hl
  subst this;obtain⟨j,hj⟩:=abl h hc (x:=x) (.inr (kh.1 (by rw[hp]; simp)));exact .one x j rfl hj (by unfold cy atP; rw[hp]; simp only[hj])
def ajn.rng {p:List Int} {d n:Int} (h:ajn b p d n):0≤n∧n<((Í b).length+1:Nat):=by
 rcases h with⟨_,h⟩|⟨x,j,_,h1,h2⟩
 ·omega
 ·have:=(kT h1).1;omega
def anS (h:Ē b) {c:Cmp} (hc:c∈b.2.2.2.2.1):cx b c≠cy b c:=by
 have hl:=(h.lefts hc).2.2;rcases ZM h hc with⟨h1,h2⟩|⟨x,j,h1,h2,h3⟩
 ·rcases SE h hc with⟨g1,g2⟩|⟨y,k,g1,g2,g3⟩
  ·rw[h1,g1] at hl; simp at hl
  ·omega
 ·rcases SE h hc with⟨g1,g2⟩|⟨y,k,g1,g2,g3⟩
  ·omega
  ·intro e
   have:j=k:=by omega
   subst this;have e1:=(kT h2).2;have e2:=(kT g2).2;rw[e1] at e2;simp only[Option.some.injEq,Prod.mk.injEq] at e2
   have m1:x∈é c.2.2.1 c.2.2.2.1:=by rw[h1]; simp
   have m2:y∈é c.2.2.2.1 c.2.2.1:=by rw[g1]; simp
   rw[e2.1] at m1;exact(kh.1 m1).2 (kh.1 m2).1
def RS (h:Ē b):(æ b).length=2*(Í b).length+2*b.2.2.2.2.1.length:=by
 have h1:∀l:List ñ,(∀g∈l,g∈b.2.1)→(l.flatMap (ï b)).length=2*(l.flatMap fun g=>(à b g).map fun d=>((g.1,d):Int×Int)).length:=by
  intro l
  induction l with
  |nil=>intro _; rfl
  |cons g t ih =>
   intro hm;have:=ih fun g hg=>hm g (by simp[hg]);have hp:=List.length_pos_of_mem (kD (b:=b) g);simp only[List.flatMap_cons,List.length_append,List.length_map,this];unfold ï;rw[List.length_append,Ů _ _ (fun _=>rfl)];simp only[List.length_cons,List.length_nil];omega
 have h2:∀l:List Cmp,(l.flatMap (ò b)).length=2*l.length:=by
  intro l
  induction l with
  |nil=>rfl
  |cons c t ih =>
   simp only[dN,cW,ih,ò,df,dt];omega
 unfold æ;rw[List.length_append,h1 _ fun _ h=>h,h2];rfl
def Ņ (h:Ē b) {i:Nat} {g:ñ} (hg:b.2.1[i]?=some g) {l:Lk}:l∈ï b g ↔
 l=(0,(off b i:Int)+1,g.2.2.1+g.2.2.2.1.2)∨l=((off b i:Int)+1,0,-(g.2.2.1+g.2.2.2.1.1)) ∨
 ∃(k:Nat) (d e:Int),(à b g)[k]?=some d∧(à b g)[k+1]?=some e∧(l=((off b i:Int)+k+1,(off b i:Int)+k+2,0)∨l=((off b i:Int)+k+2,(off b i:Int)+k+1,jc b g d e)):=by
 unfold ï;rw[ahJ h hg];simp only[List.mem_append,List.mem_cons,List.not_mem_nil,or_false,List.mem_flatMap,List.mem_range];constructor
 ·rintro((h1|h1)|⟨k,hk,h1⟩)
  ·exact .inl h1
  ·exact .inr (.inl h1)
  ·refine .inr (.inr ⟨k,(à b g)[k],(à b g)[k+1],cO (by omega),cO (by omega),?_⟩);rw[cO (show k<(à b g).length by omega),cO (show k+1<(à b g).length by omega)] at h1;simp only[fQ] at h1
   have e1:(off b i:Int)+1+k=(off b i:Int)+k+1:=by omega
   have e2:(off b i:Int)+k+1+1=(off b i:Int)+k+2:=by omega
   rw[e1,e2] at h1;exact h1
 ·rintro(h1|h1|⟨k,d,e,hd,he,h1⟩)
  ·exact .inl (.inl h1)
  ·exact .inl (.inr h1)
  ·obtain⟨h2,rfl⟩:=cY.1 hd;obtain⟨h3,rfl⟩:=cY.1 he;refine .inr ⟨k,by omega,?_⟩;rw[hd,he];simp only[fQ]
   have e1:(off b i:Int)+1+k=(off b i:Int)+k+1:=by omega
   have e2:(off b i:Int)+k+1+1=(off b i:Int)+k+2:=by omega
   rw[e1,e2];exact h1
def pU {l:Lk}:l∈æ b↔(∃(i:Nat) (g:ñ),b.2.1[i]?=some g∧l∈ï b g)∨∃c∈b.2.2.2.2.1,l=(cy b c,cx b c,(Œ b c).2)∨l=(cx b c,cy b c,-(Œ b c).1):=by
 unfold æ;simp only[List.mem_append,List.mem_flatMap,ò,List.mem_cons,List.not_mem_nil,or_false];constructor
 ·rintro(⟨g,hg,h⟩|h)
  ·obtain⟨i,hi,rfl⟩:=di.1 hg;exact .inl ⟨i,_,cO hi,h⟩
  ·exact .inr h
 ·rintro(⟨i,g,hg,h⟩|h)
  ·exact .inl ⟨g,cZ hg,h⟩
  ·exact .inr h
def Ē.sys (h:Ē b):ł (æ b) ((Í b).length+1):=by
 have hN:=h.nodes;have hL:=h.links
 have key:∀l∈æ b,((0≤l.1∧l.1<((Í b).length+1:Nat))∧(0≤l.2.1∧l.2.1<((Í b).length+1:Nat)))∧l.1≠l.2.1∧(-4503599627370496≤l.2.2∧l.2.2≤4503599627370496):=by
  intro l hl;rcases pU.1 hl with⟨i,g,hg,hl⟩|⟨c,hc,hl⟩
  ·have hgm:=cZ hg;have hr:=h.gaugeR hgm;have ho:=ake h hg;have hp:=gk (kD (b:=b) g);have r1:=hr.2.2.2.2.2.1;have r2:=hr.2.2.2.2.2.2.1;rcases(Ņ h hg).1 hl with rfl|rfl|⟨k,d,e,hd,he,h1⟩
   ·dsimp only; omega
   ·dsimp only; omega
   ·obtain⟨h2,_⟩:=cY.1 he;have d1:=h.day hgm (cZ hd);have lb:=jB h hgm (t:=e) d1.2.1;rcases h1 with rfl|rfl
    ·dsimp only; omega
    ·dsimp only; omega
  ·have a:=(ZM h hc).rng;have b':=(SE h hc).rng;have ne:=anS h hc;have sb:=qm h hc;rcases hl with rfl|rfl
   ·dsimp only; omega
   ·dsimp only; omega
 exact⟨by omega,by omega,by rw[RS h]; omega,fun l hl=>(key l hl).1,fun l hl=>(key l hl).2.1,fun l hl=>(key l hl).2.2⟩
end
def al6 {ρ:Type}:@wt ρ=@iz ρ:=rfl
def al5 {ρ:Type}:@wq ρ=@š ρ:=rfl
def al4 {ρ:Type}:@wp ρ=@ĺ ρ:=rfl
def ac3 {ρ:Type} {N:Nat} (hN:N≤1000) (x:Option ρ):ë ((ile (0:Int) (N:Int))&&(î N)) x=x:=by
 have:=wP hN x
 rwa [dk] at this
section
variable {L:List Lk} {N:Nat} {M:Int}
def aaw {s:Int} (hs:0≤s∧s<N):(List.replicate N ĸ).set s.toNat 0=ņ (BM s) N:=by
 refine Wp (by simp[ê]) fun v h0 h1=>?_
 have hv:v<N:=by simpa using h1
 rw[Ŷ _ h0 hv,uY hs.1 h0 (by simp; omega)];unfold BM
 by_cases h:v=s
 ·simp[h]
 ·simp only[h,if_false,beq_iff_eq];unfold gv;rw[List.getElem?_replicate]
  have:v.toNat<N:=by omega
  simp[this]
def al3 (hL:i6 L N M) (h1:1≤N) (hN:N≤200) (ho:Ğ L N=true) {s:Int} (hs:0≤s∧s<N):Bt ((N:Int),L) [] s=some (j5 L N s):=by
 obtain⟨p,hp⟩:=(œ hL hN).1 ho;unfold Bt Ko;rw[al6,al5,al4];dsimp only;rw[wP (by omega),Int.toNat_natCast];refine ô (List.replicate N (0:Int)) (fun i=>List.replicate i ĸ++List.replicate (N-i) 0) _ (by simp) (fun i a hi ha kn=>?_) (fun kn=>?_)
 ·dsimp only;unfold pv
  have hiN:i<N:=by simpa using hi
  have hl:i<(List.replicate i ĸ++List.replicate (N-i) (0:Int)).length:=by simp; omega
  rw[Ö hi,ψ hl,Ī (cO hl),Ï hiN (by omega),dk];congr 2;rw[gR _ _ (by simp)]
  have:N-i=(N-(i+1))+1:=by omega
  rw[this,fD,gG,gy,List.set_cons_zero,List.replicate_succ'];simp
 ·try dsimp only
  unfold pv;rw[ã];dsimp only
  have e0:List.replicate (List.replicate N (0:Int)).length ĸ++List.replicate (N-(List.replicate N (0:Int)).length) 0=List.replicate N ĸ:=by simp
  rw[e0]
  have hlen:s.toNat<(List.replicate N ĸ).length:=by simp; omega
  rw[show ĉ (List.replicate N ĸ)=((N:Nat):Int) by simp[ĉ],Ĵ hs.1 hs.2,j3 hlen,ac3 (by omega),ac3 (by omega),aaw hs];refine eV (ahd hL _) ?_
  have hS:∀v,BM s v=true→0≤v∧v<N:=fun v h=>by simp[BM] at h; subst h; exact hs
  refine ajK (ê _ _) (by omega) _ fun w q hw hq hr hwq hqs=>?_;have hs0:=Vj hL h1 hS hw hq hr hwq hqs;refine aay hL (akn hL hN) hp hS _ (fun x w t q hx hd=>?_) hs0
  have:x=j5 L N s:=by
   refine Wp (by rw[hx]; unfold j5; rw[ÿ,ê]) fun v a b=>?_;exact hd.uniq (jK hL hN hp hs) a (by omega)
  dsimp only;rw[this]
def iG (L:List Lk) (N:Nat) (s t:Int):Int×Int :=
 if !Ğ L N then(0,9) else if gv (j5 L N s) t=ĸ then(0,5) else(gv (j5 L N s) t,0)
def aok (h:ł L N) {ns:List Int} (hn:∀n∈ns,0≤n∧n<N) (hl:ns.length≤1000):IL ((N:Int),L) ns=some (if Ğ L N then 0 else 9):=by
 have h2:=h.n60;unfold IL Q1;rw[mh h,À];dsimp only;rw[Ô (by rfl)];refine Eq.trans (iA ns (fun _=>false) (fun _=>some 1) (some (if Ğ L N then 0 else 9)) (fun i n hi hm kn=>?_) (fun kn=>?_)) ?_
 ·try dsimp only
  unfold sh;have a:=hn n (List.mem_of_getElem? hm)
  have e:(decide (0≤n)&&decide (n<(N:Int)))=true:=by simp[a.1,a.2]
  rw[Ö hi,Ì hm,Pr,À,e,Ï hi (by omega)];simp
 ·try dsimp only
  unfold sh;rw[ã,DH h.links h.n1 (by omega),À]
  cases Ğ L N<;>rfl
 ·rw[dT.2 (by simp)]
def OP (h:ł L N) {s t:Int} (hs:0≤s∧s<N) (ht:0≤t∧t<N):qZ ((N:Int),L) s t=some (iG L N s t):=by
 have h2:=h.n60;unfold qZ Rg iG
 rw[aok h (fun n hn=>by simp at hn; rcases hn with rfl|rfl<;>assumption) (by simp),À]
 by_cases ho:Ğ L N=true
 ·rw[if_pos ho,Ô (by rfl),al3 h.links h.n1 (by omega) ho hs,À,tB ht.1 (by unfold j5; rw[ÿ,ê]; omega),Ě,if_neg (show ¬(!Ğ L N)=true by simp[ho])]
  by_cases hf:gv (j5 L N s) t=ĸ
  ·rw[if_pos (by simpa[ieq] using hf),if_pos hf]
  ·rw[if_neg (by simpa[ieq] using hf),if_neg hf]
 ·rw[if_neg ho,Ø (by rfl),if_pos (show(!Ğ L N)=true by simpa using ho)]
end
def Ù (b:â) (c:Cmp):â:=(b.1,b.2.1,b.2.2.1,b.2.2.2.1,b.2.2.2.2.1++[c],b.2.2.2.2.2)
def lu:â:=((0,0),[],[],[],[],[])
def xh (b:â) (c:Cmp):â×Int:=if è b≠0 then(lu,è b) else if è (Ù b c)≠0 then(lu,è (Ù b c)) else(Ù b c,0)
def abo {b:â} (h:Ē b) {c:Cmp} (hA:c.2.2.1.length≤1000) (hB:c.2.2.2.1.length≤1000):Ž (Ù b c):=by
 have hs:=h.size;have:=h.nC;refine⟨hs.gauges,hs.uses,hs.loans,by simp[Ù]; omega,hs.looks,fun d hd=>?_⟩;rcases cX.1 (show d∈b.2.2.2.2.1++[c] from hd) with hd|hd
 ·exact hs.piles d hd
 ·simp at hd; subst hd; exact⟨hA,hB⟩
def amf {b:â} (hs:Ž b) (hr:∀g∈b.2.1,I64 g.2.2.2.2.1.1) {c:Cmp} (hA:c.2.2.1.length≤1000) (hB:c.2.2.2.1.length≤1000):pG b c=some (xh b c):=by
 unfold pG Zl xh;have h1:=hs.gauges; have h2:=hs.uses; have h3:=hs.loans; have h4:=hs.compares; have h5:=hs.looks;rw[Ú (by omega),Am.iff_true,Ú (by omega),Am.iff_true,jp hs hr,À]
 by_cases hc:è b=0
 ·have h:=(ó b).1 hc;rw[Ô (by simp[ine,hc]),Ú (by omega),Am.iff_true,Ú (by omega),Am.iff_true,Ú (by omega),Am.iff_true,Ú (by omega),Am.iff_true,Ú (by omega),Am.iff_true,if_neg (show ¬(è b≠0) from fun h=>h hc)];refine ô b.2.2.2.2.1 (fun _=>b.2.2.2.2.1) _ rfl (fun i d hi hd kn=>?_) (fun kn=>?_)
  ·dsimp only;unfold wK;obtain⟨p1,p2⟩:=hs.piles d (List.mem_of_getElem? hd)
   have e1:b.2.2.2.2.1.set i d=b.2.2.2.2.1:=by
    obtain⟨h,rfl⟩:=cY.1 hd;exact List.set_getElem_self h
   rw[Ö hi,ψ hi,Ī hd,Ú (by omega),Am.iff_true,Ú (by omega),Am.iff_true,ψ hi,Ī hd,dk];rw[show(d.1,d.2.1,d.2.2.1,d.2.2.2)=d from rfl,e1,ψ hi,nk hd,Ï hi (by omega)];rw[show(d.1,d.2.1,d.2.2.1,d.2.2.2.1,d.2.2.2.2)=d from rfl,e1]
  ·try dsimp only
   unfold wK;rw[ã];dsimp only;rw[Ú (by simp only[List.length_singleton]; omega),Am.iff_true];rw[show Ą (b.1,b.2.1,b.2.2.1,b.2.2.2.1,b.2.2.2.2.1++[c],b.2.2.2.2.2)=Ą (Ù b c) from rfl,jp (abo h hA hB) hr,À]
   by_cases hc2:è (Ù b c)=0
   ·rw[Ô (by simp[ine,hc2]),if_neg (show ¬(è (Ù b c)≠0) from fun h=>h hc2)];rfl
   ·rw[Ø (by simp[ine,hc2]),if_pos hc2];rfl
 ·rw[Ø (by simp[ine,hc]),if_pos hc];rfl
def Â (c:Cmp):Cmp:=(c.1,c.2.1,c.2.2.1,c.2.2.2.1,0,c.2.2.2.2.2)
def MK (b:â) (c:Cmp):Int:=EV (Ģ b c).1+(iD b c).1-c.2.2.2.2.2.1
def oo (b:â) (c:Cmp):Int:=(Ģ b c).2.1 / (Ģ b c).2.2+(iD b c).2+c.2.2.2.2.2.1
def Lw (b:â) (c:Cmp) (s:Int×Int):(Int×Int)×Int:=if oo b c<MK b c then((0,0),5) else((s.1+MK b c,s.2+oo b c),0)
structure agf (b:â) (c:Cmp):Prop where
 nums:M7 c=true
 r1:rn (Fo (iO b) (é c.2.2.1 c.2.2.2.1)) 1000 100
 r2:rn (Fo (iO b) (é c.2.2.2.1 c.2.2.1)) 1000 100
def Ē.cmp {b:â} (h:Ē b) {c:Cmp} (hc:c∈b.2.2.2.2.1):agf b c:=⟨h.nums hc,(h.rates hc).1,(h.rates hc).2⟩
def nA {b:â} (hf:0≤b.1.1∧b.1.1≤b.1.2∧b.1.2≤1000000) {c:Cmp} (h:agf b c):rn (Ģ b c).1 2000000000 10000∧rn (Ģ b c).2 2000000000 10000∧(-3000000000≤EV (Ģ b c).1+(iD b c).1∧EV (Ģ b c).1+(iD b c).1≤3000000000) ∧
 (-3000000000≤(Ģ b c).2.1 / (Ģ b c).2.2+(iD b c).2∧(Ģ b c).2.1 / (Ģ b c).2.2+(iD b c).2≤3000000000)∧(0≤c.2.2.2.2.2.1∧c.2.2.2.2.2.1≤1073741824):=by
 have hn:=(Ŵ c).1 h.nums;have ha:=ĝ hn.2.2.2.2.2.1;have hb:=ĝ hn.2.2.2.2.2.2;obtain⟨g1,g2⟩:=Xt (OU h.r1 h.r2) hn.2.2.2.2.1;have fb:=qR (b:=b) (c:=c) (by omega) (by omega) (by omega) (by omega) (by omega) (by omega);have q1:rn (Ģ b c).1 2000000000 10000:=g1;have q2:rn (Ģ b c).2 2000000000 10000:=g2;have c1:=vw q1;have c2:=qP q2;exact⟨q1,q2,by omega,by omega,hn.2.2.2.1⟩
def am2 {b:â} (hs:Ž b) (hf:0≤b.1.1∧b.1.1≤b.1.2∧b.1.2≤1000000) {c:Cmp} (h:agf b c) {s:Int×Int} (h1 : -2305843009213693952≤s.1∧s.1≤2305843009213693952) (h2 : -2305843009213693952≤s.2∧s.2≤2305843009213693952):vq b c s=some (Lw b c s):=by
 have hn:=(Ŵ c).1 h.nums;have ha:=ĝ hn.2.2.2.2.2.1;have hb:=ĝ hn.2.2.2.2.2.2;obtain⟨q1,q2,b1,b2,b3⟩:=nA hf h;unfold vq Ry Lw MK oo;rw[ac7 hs (by omega) (by omega) h.r1 h.r2 hn.2.2.2.2.1,À,ahn (by omega) (by omega) (by omega) (by omega) (by omega) (by omega),À,amC q1.rat,À,ahZ q2.rat,À];dsimp only;rw[Õ (by omega) (by omega),Õ (by omega) (by omega),Õ (by omega) (by omega),Õ (by omega) (by omega),Ě]
 by_cases hlt:(Ģ b c).2.1 / (Ģ b c).2.2+(iD b c).2+c.2.2.2.2.2.1<EV (Ģ b c).1+(iD b c).1-c.2.2.2.2.2.1
 ·rw[if_pos (by simpa[igt] using hlt),if_pos hlt]
 ·rw[if_neg (by simpa[igt] using hlt),if_neg hlt,Õ (by omega) (by omega),Õ (by omega) (by omega)]
def å (b:â):List Lk:=(æ b).take ((æ b).length-2)
def Þ (b:â) (c:Cmp):(Int×Int)×Int :=
 if (xh b (Â c)).2≠0 then((0,0),(xh b (Â c)).2) else
 if (iG (å (Ù b (Â c))) ((Í (Ù b (Â c))).length+1) (cy (Ù b (Â c)) (Â c)) (cx (Ù b (Â c)) (Â c))).2≠0 then
  ((0,0),(iG (å (Ù b (Â c))) ((Í (Ù b (Â c))).length+1) (cy (Ù b (Â c)) (Â c)) (cx (Ù b (Â c)) (Â c))).2) else
 if (iG (å (Ù b (Â c))) ((Í (Ù b (Â c))).length+1) (cx (Ù b (Â c)) (Â c)) (cy (Ù b (Â c)) (Â c))).2≠0 then
  ((0,0),(iG (å (Ù b (Â c))) ((Í (Ù b (Â c))).length+1) (cx (Ù b (Â c)) (Â c)) (cy (Ù b (Â c)) (Â c))).2) else
 Lw b (Â c) (-(iG (å (Ù b (Â c))) ((Í (Ù b (Â c))).length+1) (cx (Ù b (Â c)) (Â c)) (cy (Ù b (Â c)) (Â c))).1,
  (iG (å (Ù b (Â c))) ((Í (Ù b (Â c))).length+1) (cy (Ù b (Â c)) (Â c)) (cx (Ù b (Â c)) (Â c))).1)
def ad9 {L:List Lk} {N:Nat} (h:ł L N) {s t:Int} (hs:0≤s∧s<N) (ht:0≤t∧t<N) : -2305843009213693952≤(iG L N s t).1∧(iG L N s t).1≤2305843009213693952:=by
 unfold iG;have h2:=h.n60
 split
 ·simp
 ·rename_i ho
  have ho':Ğ L N=true:=by simpa using ho
  obtain⟨p,hp⟩:=(œ h.links (by omega)).1 ho';have hd:=jK h.links (by omega) hp hs
  split
  ·simp
  ·rename_i hne;dsimp only;have hb:=hd.bd t ht.1 ht.2;obtain⟨vs,hw⟩:=hd.att t ht.1 ht.2 hne;have h3:=hw.low' hp;have h4:=Pu (L:=L) (fun l hl=>(h.most l hl).1) (M:=4503599627370496) (by omega);have h5:=h.len;unfold ĸ at hb
   constructor<;>omega
def ajl {b:â} (hs:Ž b) (hr:∀g∈b.2.1,I64 g.2.2.2.2.1.1) {c:Cmp} (hA:c.2.2.1.length≤1000) (hB:c.2.2.2.1.length≤1000):xa b c=some (Þ b c):=by
 unfold xa EM Þ;rw[show pG b (c.1,c.2.1,c.2.2.1,c.2.2.2.1,0,c.2.2.2.2.2)=pG b (Â c) from rfl,amf hs hr (c:=Â c) hA hB,À]
 by_cases hw:(xh b (Â c)).2=0
 ·rw[Ô (by simp[ine,hw]),if_neg (show ¬((xh b (Â c)).2≠0) from fun h=>h hw)]
  -- the book is valid, and so is the greater one
  have hb:è b=0:=by
   unfold xh at hw
   split at hw
   ·rename_i h; exact(h hw).elim
   ·rename_i h; simpa using h
  have hm:è (Ù b (Â c))=0:=by
   unfold xh at hw;rw[if_neg (by simp[hb])] at hw
   split at hw
   ·rename_i h; exact(h hw).elim
   ·rename_i h; simpa using h
  have he:xh b (Â c)=(Ù b (Â c),0):=by
   unfold xh;rw[if_neg (by simp[hb]),if_neg (by simp[hm])]
  have g:=(ó b).1 hb;have gm:=(ó _).1 hm
  have hmem:Â c∈(Ù b (Â c)).2.2.2.2.1:=by simp[Ù]
  have hN:=gm.nodes;have hll:=RS gm
  have hcl:(Ù b (Â c)).2.2.2.2.1.length=b.2.2.2.2.1.length+1:=by simp[Ù]
  have hlk:=gm.links;have hsys:ł (å (Ù b (Â c))) ((Í (Ù b (Â c))).length+1):=gm.sys.sub (fun l hl=>List.mem_of_mem_take hl) (by unfold å; rw[List.length_take]; omega);have hx:=(ZM gm hmem).rng;have hy:=(SE gm hmem).rng;have lA:c.2.2.1.length≤1000:=hA;rw[he];dsimp only;rw[ag8 gm,À];dsimp only;rw[ä,Õ (by omega) (by omega)]
  have e1:((ile (0:Int) (((æ (Ù b (Â c))).length:Int)-2))&&(ile (((æ (Ù b (Â c))).length:Int)-2) (ĉ (æ (Ù b (Â c))))))=true:=by
   simp[ile,ĉ]; omega
  have e2:(((æ (Ù b (Â c))).length:Int)-2).toNat=(æ (Ù b (Â c))).length-2:=by omega
  rw[ĩ e1,tv (by omega) (by omega),À,al9 _ _ _ (by dsimp only; omega),À,tv (by omega) (by omega),À,al9 _ _ _ (by dsimp only; omega),À,e2]
  have e3:(((Í (Ù b (Â c))).length:Int)+1)=(((Í (Ù b (Â c))).length+1:Nat):Int):=by push_cast; rfl
  rw[e3];rw[show List.take ((æ (Ù b (Â c))).length-2) (æ (Ù b (Â c)))=å (Ù b (Â c)) from rfl];dsimp only;rw[show atP (Í (Ù b (Â c))) (é c.2.2.1 c.2.2.2.1) c.2.1=cx (Ù b (Â c)) (Â c) from rfl,show atP (Í (Ù b (Â c))) (é c.2.2.2.1 c.2.2.1) c.2.1=cy (Ù b (Â c)) (Â c) from rfl];rw[OP hsys hy hx,À,OP hsys hx hy];have b1:=ad9 hsys hy hx;have b2:=ad9 hsys hx hy;generalize hB1:iG (å (Ù b (Â c))) ((Í (Ù b (Â c))).length+1) (cy (Ù b (Â c)) (Â c)) (cx (Ù b (Â c)) (Â c))=B1 at b1 ⊢;generalize hB2:iG (å (Ù b (Â c))) ((Í (Ù b (Â c))).length+1) (cx (Ù b (Â c)) (Â c)) (cy (Ù b (Â c)) (Â c))=B2 at b2 ⊢
  by_cases h1:B1.2=0
  ·rw[Ô (by simp[ine,h1]),if_neg (show ¬(B1.2≠0) from fun h=>h h1),À]
   by_cases h2:B2.2=0
   ·rw[Ô (by simp[ine,h2]),if_neg (show ¬(B2.2≠0) from fun h=>h h2),Õ (by omega) (by omega)];have hck:agf b (Â c):=⟨(gm.cmp hmem).nums,(gm.cmp hmem).r1,(gm.cmp hmem).r2⟩;rw[show vq b (c.1,c.2.1,c.2.2.1,c.2.2.2.1,0,c.2.2.2.2.2) (0-B2.1,B1.1)=vq b (Â c) (0-B2.1,B1.1) from rfl,am2 g.size g.film hck (by dsimp only; omega) (by dsimp only; omega),À,Int.zero_sub]
   ·rw[Ø (by simp[ine,h2]),if_pos h2]
  ·rw[Ø (by simp[ine,h1]),if_pos h1]
 ·rw[Ø (by simp[ine,hw]),if_pos hw]
structure In (b:â):Prop where
 size:Ž b
 num:∀g∈b.2.1,I64 g.2.2.2.2.1.1
def Z9 (b:â):Sys×List (Int×Int)×Int:=if è b≠0 then((0,[]),[],è b) else((((Í b).length:Int)+1,æ b),ŷ b,0)
def rk {b:â} (h:In b):ĭ b=some (Z9 b):=by
 unfold ĭ KG Z9;rw[jp h.size h.num,À]
 by_cases hc:è b=0
 ·rw[Ô (by simp[ine,hc]),ag8 ((ó b).1 hc),À,if_neg (show ¬(è b≠0) from fun h=>h hc)]
 ·rw[Ø (by simp[ine,hc]),if_pos hc]
def cmp0:Cmp:=(0,0,[],[],0,0,0,0)
def tM (b:â) (i:Int):Cmp×Int:=if è b≠0 then(cmp0,è b) else if i<0∨(b.2.2.2.2.1.length:Int)≤i then(cmp0,1) else(b.2.2.2.2.1[i.toNat]?.getD cmp0,0)
def amL {b:â} (h:In b) (i:Int):IP b i=some (tM b i):=by
 unfold IP Rw tM;rw[jp h.size h.num,À]
 by_cases hc:è b=0
 ·rw[Ô (by simp[ine,hc]),if_neg (show ¬(è b≠0) from fun h=>h hc),ä]
  by_cases h1:i<0
  ·rw[Ø (by simp[ilt,h1]),if_pos (.inl h1)]; rfl
  ·rw[Ô (by simp[ilt]; omega)]
   by_cases h2:(b.2.2.2.2.1.length:Int)≤i
   ·rw[Ø (by simp[ige,h2]),if_pos (.inr h2)]; rfl
   ·rw[Ô (by simp[ige]; omega),if_neg (by omega)];obtain⟨j,rfl⟩:=gM (show 0≤i by omega)
    have hj:j<b.2.2.2.2.1.length:=by omega
    rw[Ì (cO hj),dk,cO hj];rfl
 ·rw[Ø (by simp[ine,hc]),if_pos hc]; rfl
def aei {b:â} {i:Int} (h:(tM b i).2=0):Ē b∧(tM b i).1∈b.2.2.2.2.1∧b.2.2.2.2.1[i.toNat]?=some (tM b i).1∧0≤i:=by
 unfold tM at h ⊢
 split at h
 ·rename_i hc; exact(hc h).elim
 ·rename_i hc
  have hc0:è b=0:=by simpa using hc
  split at h
  ·simp at h
  ·rename_i hi
   have hj:i.toNat<b.2.2.2.2.1.length:=by omega
   rw[if_neg hc,if_neg hi,cO hj];exact⟨(ó b).1 hc0,eO hj,rfl,by omega⟩
def aon (b:â) (i:Int):(Int×Int)×Int:=if (tM b i).2≠0 then((0,0),(tM b i).2) else(Œ b (tM b i).1,0)
def apY {b:â} (h:In b) (i:Int):OI b i=some (aon b i):=by
 unfold OI Zn aon;rw[amL h,À]
 by_cases hw:(tM b i).2=0
 ·obtain⟨g,hm,_,_⟩:=aei hw;rw[Ô (by simp[ine,hw]),g.says hm,À,if_neg (show ¬((tM b i).2≠0) from fun h=>h hw)]
 ·rw[Ø (by simp[ine,hw]),if_pos hw]
def exB:â:=((0,2),[(1,0,1000,(-5,5),(1,10),1),(2,0,1000,(-50,50),(1,4),0)],[(1,10)],[(1,(20,29),3)],[(7,10,[1],[2],-20,1,100,200)],[])
def Ay:In exB:=⟨⟨by decide,by decide,by decide,by decide,by decide,by decide⟩,by
 intro g hg;simp[exB] at hg
 rcases hg with rfl|rfl<;>exact⟨by decide,by decide⟩⟩
def exC:Cmp:=(8,10,[1],[2],0,0,0,0)
def wQ (b:â) (x d:Int):Int:=match iP (Í b) x d with|some j=>(j:Int)+1|none=>0
def ahY (b:â) (n:Int×Int):Int×Int:=if è b≠0 then(0,è b) else if wQ b n.1 n.2=0 then(0,5) else(wQ b n.1 n.2,0)
def Tj {b:â} (h:In b) (n:Int×Int):ţ b n=some (ahY b n):=by
 have hl:=JA h.size;unfold ţ RN ahY;rw[jp h.size h.num,À]
 by_cases hc:è b=0
 ·rw[Ô (by simp[ine,hc]),if_neg (show ¬(è b≠0) from fun h=>h hc),Xy h.size,À,show ă (Í b) n=ă (Í b) (n.1,n.2) from rfl,ad3 (by omega),À];unfold wQ
  cases hx:iP (Í b) n.1 n.2 with
  |none=>rfl
  |some j =>
   have:=(kT hx).1;simp only;rw[Ô (by simp[ilt]),Õ (by omega) (by omega),if_neg (by omega)]
 ·rw[Ø (by simp[ine,hc]),if_pos hc]
def jC (b:â) (n:Int×Int):â:=(b.1,b.2.1,b.2.2.1,b.2.2.2.1,b.2.2.2.2.1,b.2.2.2.2.2++[n])
def acV {b:â} (h:Ē b) (n:Int×Int):Ž (jC b n):=by
 have hs:=h.size;have:=h.nK;exact⟨hs.gauges,hs.uses,hs.loans,hs.compares,by simp[jC]; omega,hs.piles⟩
def ajm (b:â) (n:Int×Int):â×Int:=if è b≠0 then(lu,è b) else if è (jC b n)≠0 then(lu,è (jC b n)) else(jC b n,0)
def ap3 {b:â} (h:In b) (n:Int×Int):jW b n=some (ajm b n):=by
 have hs:=h.size;have h1:=hs.gauges; have h2:=hs.uses; have h3:=hs.loans; have h4:=hs.compares; have h5:=hs.looks;unfold jW Zo ajm;rw[jp hs h.num,À]
 by_cases hc:è b=0
 ·have hg:=(ó b).1 hc;rw[Ô (by simp[ine,hc]),Ú (by omega),Am.iff_true,Ú (by omega),Am.iff_true,Ú (by omega),Am.iff_true,Ú (by omega),Am.iff_true,Ú (by omega),Am.iff_true,if_neg (show ¬(è b≠0) from fun h=>h hc)];refine ô b.2.2.2.2.1 (fun _=>b.2.2.2.2.1) _ rfl (fun i d hi hd kn=>?_) (fun kn=>?_)
  ·dsimp only;unfold wL;obtain⟨p1,p2⟩:=hs.piles d (List.mem_of_getElem? hd)
   have e1:b.2.2.2.2.1.set i d=b.2.2.2.2.1:=by
    obtain⟨h,rfl⟩:=cY.1 hd;exact List.set_getElem_self h
   rw[Ö hi,ψ hi,Ī hd,Ú (by omega),Am.iff_true,Ú (by omega),Am.iff_true,ψ hi,Ī hd,dk];rw[show(d.1,d.2.1,d.2.2.1,d.2.2.2)=d from rfl,e1,ψ hi,nk hd,Ï hi (by omega)];rw[show(d.1,d.2.1,d.2.2.1,d.2.2.2.1,d.2.2.2.2)=d from rfl,e1]
  ·try dsimp only
   unfold wL;rw[ã];dsimp only;rw[Ú (by simp only[List.length_singleton]; omega),Am.iff_true];rw[show Ą (b.1,b.2.1,b.2.2.1,b.2.2.2.1,b.2.2.2.2.1,b.2.2.2.2.2++[n])=Ą (jC b n) from rfl,jp (acV hg n) h.num,À]
   by_cases hc2:è (jC b n)=0
   ·rw[Ô (by simp[ine,hc2]),if_neg (show ¬(è (jC b n)≠0) from fun h=>h hc2)];rfl
   ·rw[Ø (by simp[ine,hc2]),if_pos hc2];rfl
 ·rw[Ø (by simp[ine,hc]),if_pos hc];rfl
section
variable {b:â}
def akf:off b b.2.1.length=(Í b).length:=by unfold off Í; rw[List.take_length]
def ag1:∀n,n≤b.2.1.length→∀j,j<off b n→∃(i:Nat) (g:ñ) (k:Nat),b.2.1[i]?=some g∧k<(à b g).length∧j=off b i+k:=by
 intro n
 induction n with
 |zero=>intro _ j hj; simp[off] at hj
 |succ n ih =>
  intro hn j hj;have hg:b.2.1[n]?=some b.2.1[n]:=cO (by omega);rw[ani hg] at hj
  by_cases h:j<off b n
  ·exact ih (by omega) j h
  ·exact⟨n,_,j-off b n,hg,by omega,by omega⟩
def VG {v:Int} (h0:1≤v) (h1:v<((Í b).length+1:Nat)):∃(i:Nat) (g:ñ) (k:Nat),b.2.1[i]?=some g∧k<(à b g).length∧v=(off b i:Int)+k+1:=by
 obtain⟨i,g,k,h2,h3,h4⟩:=ag1 (b:=b) b.2.1.length (cQ _) (v-1).toNat (by rw[akf]; omega);exact⟨i,g,k,h2,h3,by omega⟩
def GL (b:â) (L:List Lk):Prop:=∀(i:Nat) (g:ñ),b.2.1[i]?=some g→∀l∈ï b g,l∈L
def ahi:GL b (æ b):=fun i g hg l hl=>pU.2 (.inl ⟨i,g,hg,hl⟩)
def ajG {L:List Lk} (h:Ē b) (hL:GL b L) {v:Int} (h0:0≤v) (h1:v<((Í b).length+1:Nat)):∃vs d,Wl L (fun u=>u=0) vs v d∧d≤4503599627370496:=by
 by_cases hv:v=0
 ·exact⟨[],0,.nil hv,by omega⟩
 obtain⟨i,g,k,hg,hk,rfl⟩:=VG (by omega) h1;have hr:=h.gaugeR (cZ hg);have r1:=hr.2.2.2.2.2.1;have r2:=hr.2.2.2.2.2.2.1
 have key:∀k:Nat,k<(à b g).length→∃vs,Wl L (fun u=>u=0) vs ((off b i:Int)+k+1) (g.2.2.1+g.2.2.2.1.2):=by
  intro k
  induction k with
  |zero =>
   intro _;have hw:Wl L (fun u=>u=0) [0] ((off b i:Int)+1) (0+(g.2.2.1+g.2.2.2.1.2)):=Wl.step (.nil rfl) (hL i g hg _ ((Ņ h hg).2 (.inl rfl)));rw[Int.zero_add] at hw;exact⟨[0],by simpa using hw⟩
  |succ k ih =>
   intro hk;obtain⟨vs,hw⟩:=ih (by omega);have hw':=Wl.step hw (hL i g hg _ ((Ņ h hg).2 (.inr (.inr ⟨k,_,_,cO (show k<_ by omega),cO hk,.inl rfl⟩))));rw[gp] at hw'
   have e:(off b i:Int)+((k+1:Nat):Int)+1=(off b i:Int)+k+2:=by push_cast; omega
   exact⟨_,by rw[e]; exact hw'⟩
 obtain⟨vs,hw⟩:=key k hk;exact⟨vs,_,hw,by omega⟩
def aar {L:List Lk} (h:Ē b) (hL:GL b L) {v:Int} (h0:0≤v) (h1:v<((Í b).length+1:Nat)):∃vs d,Wl L (fun u=>u=v) vs 0 d∧d≤4503599627370496:=by
 by_cases hv:v=0
 ·exact⟨[],0,.nil hv.symm,by omega⟩
 obtain⟨i,g,k,hg,hk,rfl⟩:=VG (by omega) h1;have hgm:=cZ hg;have hr:=h.gaugeR hgm;have r1:=hr.2.2.2.2.2.1;have r2:=hr.2.2.2.2.2.2.1;have hd:=IU h hgm
 have key:∀m:Nat,m≤k→∃vs d,Wl L (fun u=>u=(off b i:Int)+k+1) vs ((off b i:Int)+(k-m:Nat)+1) d∧d≤m*(12*(20001*1048576)+40*1048576):=by
  intro m
  induction m with
  |zero=>intro _; exact⟨[],0,.nil (by simp),by simp⟩
  |succ m ih =>
   intro hm;obtain⟨vs,d,hw,hd⟩:=ih (by omega)
   have e1:((k-m:Nat):Int)=((k-(m+1):Nat):Int)+1:=by omega
   have hl:(((off b i:Int)+(k-(m+1):Nat)+2,(off b i:Int)+(k-(m+1):Nat)+1,jc b g ((à b g)[k-(m+1)]'(by omega)) ((à b g)[k-(m+1)+1]'(by omega))):Lk)∈L :=
    hL i g hg _ ((Ņ h hg).2 (.inr (.inr ⟨k-(m+1),_,_,cO (by omega),cO (by omega),.inr rfl⟩)))
   have hb:=jB h hgm (f:=(à b g)[k-(m+1)]'(by omega)) (t:=(à b g)[k-(m+1)+1]'(by omega)) (h.day hgm (eO _)).2.1
   have e2:(off b i:Int)+(k-m:Nat)+1=(off b i:Int)+(k-(m+1):Nat)+2:=by omega
   rw[e2] at hw;exact⟨_,_,.step hw hl,by push_cast; omega⟩
 obtain⟨vs,d,hw,hdb⟩:=key k (cQ _)
 have e:(off b i:Int)+(k-k:Nat)+1=(off b i:Int)+1:=by omega
 rw[e] at hw;have hw':=Wl.step hw (hL i g hg _ ((Ņ h hg).2 (.inr (.inl rfl))));exact⟨_,_,hw',by omega⟩
end
structure I7 (L:List Lk) (N:Nat):Prop where
 to:∀v:Int,0≤v→v<N→∃vs d,Wl L (fun u=>u=0) vs v d∧d≤4503599627370496
 from':∀v:Int,0≤v→v<N→∃vs d,Wl L (fun u=>u=v) vs 0 d∧d≤4503599627370496
def Ē.tied {b:â} (h:Ē b):I7 (æ b) ((Í b).length+1):=⟨fun v h0 h1=>ajG h ahi h0 h1,fun v h0 h1=>aar h ahi h0 h1⟩
def Ē.tiedL {b:â} {L:List Lk} (h:Ē b) (hL:GL b L):I7 L ((Í b).length+1):=⟨fun v h0 h1=>ajG h hL h0 h1,fun v h0 h1=>aar h hL h0 h1⟩
section
variable {L:List Lk} {N:Nat}
def abj {L:List Lk} {s:Int} {vs:List Int} {v d:Int}:Wl L (fun v=>BM s v=true) vs v d↔Wl L (fun u=>u=s) vs v d :=
 ⟨fun h=>h.mono fun u hu=>by simpa[BM] using hu,fun h=>h.mono fun u hu=>by simpa[BM] using hu⟩
def S6 (s:Int):(j5 L N s).length=N:=by unfold j5; rw[ÿ,ê]
def af5 (h:ł L N) (ho:Ğ L N=true) {v:Int} (h0:0≤v) (h1:v<N):gv (j5 L N v) v=0:=by
 have h2:=h.n60;obtain⟨p,hp⟩:=(œ h.links (by omega)).1 ho;have hd:=jK h.links (by omega) hp (s:=v) ⟨h0,h1⟩;have h3:=hd.low v [] 0 (.nil (by simp[BM]));obtain⟨vs,hw⟩:=hd.att v h0 h1 (by unfold ĸ; omega);obtain⟨s,hs,hx⟩:=(abj.1 hw).pot hp;subst hs;omega
end
def WN {b:â}:∀i,i≤b.2.2.2.2.1.length→((b.2.2.2.2.1.take i).flatMap (ò b)).length=2*i∧(((b.2.2.2.2.1.take i).mapIdx fun i _=>[((3:Int),(i:Int)),((3:Int),(i:Int))]).flatten).length=2*i:=by
 intro i
 induction i with
 |zero=>intro _; simp
 |succ i ih =>
  intro hi;have ih:=ih (by omega);have hg:b.2.2.2.2.1[i]?=some b.2.2.2.2.1[i]:=cO hi;rw[ς _ hg,take_succ hg,eX,fp,cW,cW];simp only[dN,gQ,dL,fN,f8,ò,df,dt];omega
section
variable {L:List Lk} {N:Nat}
def Ja (h:ł L N):ę ((N:Int),L)=some (Ğ L N,0):=by
 have h2:=h.n60;unfold ę tj;rw[mh h,À];dsimp only;rw[Ô (by rfl),DH h.links h.n1 (by omega),À]
 cases Ğ L N<;>rfl
end
def j6 (b:â) (n:Int×Int):â×Int:=if wQ b n.1 n.2≠0 then(b,0) else if è (jC b n)≠0 then(lu,è (jC b n)) else(jC b n,0)
def ŕ:â→List (Int×Int)→â×Int
 |b,[]=>(b,0)
 |b,n::t=>if (j6 b n).2≠0 then(lu,(j6 b n).2) else ŕ (j6 b n).1 t
def ù (b:â) (ns:List (Int×Int)):â×Int :=
 if è b≠0 then(lu,è b) else if (ŕ b ns).2≠0 then(lu,(ŕ b ns).2) else
 if Ğ (æ (ŕ b ns).1) ((Í (ŕ b ns).1).length+1) then((ŕ b ns).1,0) else(lu,9)
def aau {b:â} (h:Ē b) {n:Int×Int} (e:(j6 b n).2=0):Ē (j6 b n).1:=by
 unfold j6 at e ⊢
 split
 ·exact h
 ·rename_i h1;rw[if_neg h1] at e
  split
  ·rename_i h2;rw[if_pos h2] at e;exact absurd e h2
  ·rename_i h2;exact(ó _).1 (by simpa using h2)
def aem {b:â} {n:Int×Int} (e:(j6 b n).2=0):(j6 b n).1.2.1=b.2.1:=by
 unfold j6 at e ⊢
 split
 ·rfl
 ·rename_i h1;rw[if_neg h1] at e
  split
  ·rename_i h2;rw[if_pos h2] at e;exact absurd e h2
  ·rfl
def Fm:∀{ns:List (Int×Int)} {b:â},Ē b→(ŕ b ns).2=0→Ē (ŕ b ns).1
 |[],b,h,_=>h
 |n::t,b,h,e=>by
  unfold ŕ at e ⊢
  split
  ·rename_i h1; rw[if_pos h1] at e; exact absurd e h1
  ·rename_i h1;rw[if_neg h1] at e;exact Fm (aau h (by simpa using h1)) e
def vD:∀{ns:List (Int×Int)} {b:â},(ŕ b ns).2=0→(ŕ b ns).1.2.1=b.2.1
 |[],b,_=>rfl
 |n::t,b,e=>by
  unfold ŕ at e ⊢
  split
  ·rename_i h1; rw[if_pos h1] at e; exact absurd e h1
  ·rename_i h1;rw[if_neg h1] at e;rw[vD e,aem (by simpa using h1)]
def Ē.inn {b:â} (h:Ē b) (hn:∀g∈b.2.1,I64 g.2.2.2.2.1.1):In b:=⟨h.size,hn⟩
def jL {b:â} (h:Ē b):Z9 b=((((Í b).length:Int)+1,æ b),ŷ b,0):=by
 unfold Z9;rw[if_neg (by simp[(ó b).2 h])]
def E6 {b:â} (h:Ē b) (n:Int×Int):ahY b n=if wQ b n.1 n.2=0 then(0,5) else(wQ b n.1 n.2,0):=by
 unfold ahY;rw[if_neg (by simp[(ó b).2 h])]
abbrev Flat:Type:=Int×Int×List ñ×List (Int×Int)×List Lp×List Cmp×List (Int×Int)
def flat (b:â):Flat:=(b.1.1,b.1.2,b.2.1,b.2.2.1,b.2.2.2.1,b.2.2.2.2.1,b.2.2.2.2.2)
def wU (b:â):(((flat b).1,(flat b).2.1),(flat b).2.2)=b:=rfl
section
variable {ρ:Type}
def ao7 (ns:List (Int×Int)) (E1:Int×Flat→Option ρ) (K1:Flat→Option ρ) (b:â):Option ρ :=
 Î (fun(v:Int×Flat) kk=>Č (Û ns) ns v.1 v.2.1 v.2.2.1 v.2.2.2.1 v.2.2.2.2.1 v.2.2.2.2.2.1 v.2.2.2.2.2.2.1 v.2.2.2.2.2.2.2 (fun u1 u2 u3 u4 u5 u6 u7 u8=>kk (u1,u2,u3,u4,u5,u6,u7,u8)) (fun z=>E1 z) (fun z=>K1 z)) ((0:Int),b.1.1,b.1.2,b.2.1,b.2.2.1,b.2.2.2.1,b.2.2.2.2.1,b.2.2.2.2.2)
def ajX {ns:List (Int×Int)} (hl:ns.length≤1000) {E1:Int×Flat→Option ρ} {K1:Flat→Option ρ} (R:Int→Option ρ) (h1:∀z,z.1≠0→E1 z=R z.1) {b:â} (hg:Ē b) (hn:∀g∈b.2.1,I64 g.2.2.2.2.1.1) :
 ao7 ns E1 K1 b=if (ŕ b ns).2≠0 then R (ŕ b ns).2 else K1 (flat (ŕ b ns).1):=by
 unfold ao7
 refine Ih ns (fun(i:Nat) (s:Flat) (t:List (Int×Int))=>if (ŕ ((s.1,s.2.1),s.2.2) t).2≠0 then R (ŕ ((s.1,s.2.1),s.2.2) t).2 else K1 (flat (ŕ ((s.1,s.2.1),s.2.2) t).1))
  (fun i s=>Ē ((s.1,s.2.1),s.2.2)∧∀g∈s.2.2.1,I64 g.2.2.2.2.1.1) (fun s hs kn=>?_) (fun i n t s hd hi ha hs kn hk=>?_) (s:=flat b) ⟨hg,hn⟩
 ·dsimp only;unfold Č;rw[ã];rfl
 ·dsimp only;unfold Č;obtain⟨hs1,hs2⟩:=hs;have hin:In ((s.1,s.2.1),s.2.2):=hs1.inn hs2;rw[Ö hi,ψ hi,Ī ha];rw[show ţ ((s.1,s.2.1),s.2.2.1,s.2.2.2.1,s.2.2.2.2.1,s.2.2.2.2.2.1,s.2.2.2.2.2.2) n=ţ ((s.1,s.2.1),s.2.2) n from rfl,Tj hin,À];rw[show jW ((s.1,s.2.1),s.2.2.1,s.2.2.2.1,s.2.2.2.2.1,s.2.2.2.2.2.1,s.2.2.2.2.2.2) n=jW ((s.1,s.2.1),s.2.2) n from rfl,ap3 hin,À];rw[E6 hs1];generalize hB:(((s.1,s.2.1),s.2.2):â)=B at hs1 hin ⊢
  have hu:ŕ B (n::t)=if (j6 B n).2≠0 then(lu,(j6 B n).2) else ŕ (j6 B n).1 t:=rfl
  rw[hu]
  by_cases h0:wQ B n.1 n.2=0
  ·rw[if_pos h0,Ô (by rfl)]
   by_cases h2:è (jC B n)=0
   ·have e:j6 B n=(jC B n,0):=by unfold j6; rw[if_neg (by simp[h0]),if_neg (by simp[h2])]
    have e2:ajm B n=(jC B n,0):=by unfold ajm; rw[if_neg (by simp[(ó B).2 hs1]),if_neg (by simp[h2])]
    rw[e2,e,Ô (by rfl),Ï hi (by omega),if_neg (show ¬((0:Int)≠0) by simp)];subst hB;exact hk (s.1,s.2.1,s.2.2.1,s.2.2.2.1,s.2.2.2.2.1,s.2.2.2.2.2.1,s.2.2.2.2.2.2++[n]) ⟨(ó _).1 h2,hs2⟩
   ·have e:j6 B n=(lu,è (jC B n)):=by unfold j6; rw[if_neg (by simp[h0]),if_pos h2]
    have e2:ajm B n=(lu,è (jC B n)):=by unfold ajm; rw[if_neg (by simp[(ó B).2 hs1]),if_pos h2]
    rw[e2,e,Ø (by simp[ine,h2]),if_pos h2,if_pos h2];exact h1 _ h2
  ·have e:j6 B n=(B,0):=by unfold j6; rw[if_pos h0]
   rw[if_neg h0,Ø (by rfl),Ï hi (by omega),e,if_neg (show ¬((0:Int)≠0) by simp)];subst hB;exact hk s ⟨hs1,hs2⟩
def rB {b:â} (hI:In b) {ns:List (Int×Int)} (hl:ns.length≤1000) {E0:Int→Option ρ} {E1:Int×Flat→Option ρ} {E2:Flat→Sys×List (Int×Int)×Int→Option ρ} {E3:Flat→Sys×List (Int×Int)×Int→Bool×Int→Option ρ}
 {K:Flat→Sys×List (Int×Int)×Int→Bool×Int→Option ρ} (R:Int→Option ρ) (h0:∀e,e≠0→E0 e=R e) (h1:∀z,z.1≠0→E1 z=R z.1) (h3:∀z s r,E3 z s r=R 9) :
 Ã (Ą b) (fun r1=>ifb (ine r1 (0:Int)) (E0 r1) (ao7 ns E1 (fun z8=>Ã (ĭ ((z8.1,z8.2.1),z8.2.2)) fun r9=>ifb (ine r9.2.2 (0:Int)) (E2 z8 r9) (Ã (ę r9.1) fun r10=>ifb (!r10.1) (E3 z8 r9 r10) (K z8 r9 r10))) b)) =
 if (ù b ns).2≠0 then R (ù b ns).2 else K (flat (ù b ns).1) ((((Í (ù b ns).1).length:Int)+1,æ (ù b ns).1),ŷ (ù b ns).1,0) (true,0):=by
 rw[jp hI.size hI.num,À];unfold ù
 by_cases hc:è b=0
 ·have hg:=(ó b).1 hc;rw[Ô (by simp[ine,hc]),if_neg (show ¬(è b≠0) from fun h=>h hc),ajX hl R h1 hg hI.num]
  by_cases hr:(ŕ b ns).2=0
  ·rw[if_neg (show ¬((ŕ b ns).2≠0) from fun h=>h hr),if_neg (show ¬((ŕ b ns).2≠0) from fun h=>h hr)];have hB:=Fm hg hr
   have hBn:∀g∈(ŕ b ns).1.2.1,I64 g.2.2.2.2.1.1:=by rw[vD hr]; exact hI.num
   generalize (ŕ b ns).1=B at hB hBn ⊢;rw[wU,rk (hB.inn hBn),À,jL hB,Ô (by rfl)];dsimp only;rw[show(((Í B).length:Int)+1)=(((Í B).length+1:Nat):Int) by push_cast; rfl,Ja hB.sys,À]
   cases ho:Ğ (æ B) ((Í B).length+1) with
   |true =>
    rw[if_neg (by simp)];simp only[eo,ø];push_cast;rfl
   |false =>
    rw[if_pos (by simp)];simp only[Bool.not_false,Ŋ];rw[h3];rfl
  ·rw[if_pos hr,if_pos hr,if_pos hr]
 ·rw[Ø (by simp[ine,hc]),h0 _ hc,if_pos hc,if_pos hc]
end
def MZ (b:â) (id day:Int):Bool:=b.2.2.1.any fun u=>u.1==id&&u.2==day
def afN (b:â) (g:ñ) (d:Int):Int:=match me b g.1 d with|some l=>l.2.2|none=>if MZ b g.1 d then g.2.2.2.2.2 else 0
def akM (l:Lp) (id:Int) {f t:Int} (hft:f≤t):(if l.1=id∧0<Ġ l f (t+1) then Ġ l f (t+1)*l.2.2 else 0)=(if l.1=id∧0<Ġ l f t then Ġ l f t*l.2.2 else 0)+(if l.1=id∧l.2.1.1≤t∧t≤l.2.1.2 then l.2.2 else 0):=by
 by_cases hid:l.1=id
 ·by_cases h1:l.2.1.1≤t∧t≤l.2.1.2
  ·have e:Ġ l f (t+1)=Ġ l f t+1:=by unfold Ġ; omega
   have p:0≤Ġ l f t:=by unfold Ġ; omega
   rw[e,if_pos ⟨hid,by omega⟩,if_pos (show l.1=id∧l.2.1.1≤t∧t≤l.2.1.2 from⟨hid,h1⟩),fS,f6]
   by_cases hp:0<Ġ l f t
   ·rw[if_pos ⟨hid,hp⟩]
   ·rw[if_neg (fun h=>hp h.2)]
    have:Ġ l f t=0:=by omega
    rw[this];omega
  ·rw[if_neg (show ¬(l.1=id∧l.2.1.1≤t∧t≤l.2.1.2) from fun h=>h1 h.2),gp]
   by_cases hlo:l.2.1.1≤t
   ·have e:Ġ l f (t+1)=Ġ l f t:=by unfold Ġ; omega
    rw[e]
   ·have p1:¬0<Ġ l f (t+1):=by unfold Ġ; omega
    have p2:¬0<Ġ l f t:=by unfold Ġ; omega
    rw[if_neg (fun h=>p1 h.2),if_neg (fun h=>p2 h.2)]
 ·rw[if_neg (fun h=>hid h.1),if_neg (fun h=>hid h.1),if_neg (fun h=>hid h.1)];rfl
def Wb (id:Int) {f t:Int} (hft:f≤t):∀{x:List Lp},x.Pairwise (fun a c=>¬(a.1=c.1∧a.2.1.1≤c.2.1.2∧c.2.1.1≤a.2.1.2)) →
 ń id f (t+1) x=ń id f t x+(match x.find? (fun l=>l.1==id&&inP t l.2.1.1 l.2.1.2) with|some l=>l.2.2|none=>0)
 |[],_=>rfl
 |l::r,hp=>by
  rw[dK] at hp;have ih:=Wb id hft hp.2;simp only[ń];rw[ih,akM l id hft,gC]
  by_cases hm:l.1=id∧l.2.1.1≤t∧t≤l.2.1.2
  ·have e:(l.1==id&&inP t l.2.1.1 l.2.1.2)=true:=by simp[inP,hm.1,hm.2.1,hm.2.2]
   have hn:r.find? (fun l=>l.1==id&&inP t l.2.1.1 l.2.1.2)=none:=by
    rw[eA];intro c hc hcm;simp only[inP,cR,beq_iff_eq,decide_eq_true_eq] at hcm;exact hp.1 c hc ⟨by rw[hm.1,hcm.1],by omega,by omega⟩
   rw[if_pos hm,e,hn];simp only;omega
  ·have e:(l.1==id&&inP t l.2.1.1 l.2.1.2)=false:=by
    rw[eF];intro h;simp only[inP,cR,beq_iff_eq,decide_eq_true_eq] at h;exact hm h
   rw[if_neg hm,e];simp only;omega
section
variable {b:â}
def Ē.apart (h:Ē b):b.2.2.2.1.Pairwise (fun a c=>¬(a.1=c.1∧a.2.1.1≤c.2.1.2∧c.2.1.1≤a.2.1.2)):=by
 rw[List.pairwise_iff_getElem];intro i j hi hj hij ⟨h1,h2,h3⟩;have hz:=h.loans j _ (List.getElem?_eq_getElem hj);unfold U6 at hz
 have hany:(b.2.2.2.1.take j).any (fun x=>x.1==b.2.2.2.1[j].1&&(decide (x.2.1.1≤b.2.2.2.1[j].2.1.2)&&decide (b.2.2.2.1[j].2.1.1≤x.2.1.2)))=true:=by
  rw[fc];exact⟨b.2.2.2.1[i],di.2 ⟨i,by rw[dj]; omega,by rw[List.getElem_take]⟩,by simp[h1,h2,h3]⟩
 rw[hany] at hz
 (repeat' split at hz)<;>first|omega|simp_all
def Ē.notUsed (h:Ē b) {id d:Int} {l:Lp} (hl:me b id d=some l):MZ b id d=false:=by
 have hm:=gB hl;have hp:=gi hl;simp only[inP,cR,beq_iff_eq,decide_eq_true_eq] at hp;obtain⟨j,hj,rfl⟩:=di.1 hm;have hz:=h.loans j _ (cO hj);rw[eF];intro hu;obtain⟨u,hu,hue⟩:=fc.1 hu;simp only[cR,beq_iff_eq] at hue
 have hany:b.2.2.1.any (fun u=>u.1==b.2.2.2.1[j].1&&inP u.2 b.2.2.2.1[j].2.1.1 b.2.2.2.1[j].2.1.2)=true:=by
  rw[fc];exact⟨u,hu,by simp only[inP,cR,beq_iff_eq,decide_eq_true_eq]; exact⟨by rw[hue.1,hp.1],by omega,by omega⟩⟩
 unfold U6 at hz;rw[hany] at hz
 (repeat' split at hz)<;>first|omega|simp_all
def aal {id f t:Int} (hft:f≤t):aaD (ji b id f (t+1))=aaD (ji b id f t)++if MZ b id t then[t] else[]:=by
 have hm:∀t x,x∈ji b id f t↔MZ b id x=true∧f≤x∧x<t:=by
  intro t x;unfold ji MZ;simp only[List.mem_map,List.mem_filter,List.any_eq_true,inP,Bool.and_eq_true,beq_iff_eq,decide_eq_true_eq];constructor
  ·rintro⟨u,⟨h1,h2,h3,h4⟩,rfl⟩;exact⟨⟨u,h1,h2,rfl⟩,h3,by omega⟩
  ·rintro⟨⟨u,h1,h2,rfl⟩,h3,h4⟩;exact⟨u,⟨h1,h2,h3,by omega⟩,rfl⟩
 refine Z2 (DK _) ?_ fun x=>?_
 ·rw[List.pairwise_append]
  refine⟨DK _,by split<;>simp,fun a ha c hc=>?_⟩
  rw[rt,hm] at ha
  split at hc
  ·rw[dg] at hc; omega
  ·cases hc
 ·rw[rt,hm,cX,rt,hm]
  by_cases hu:MZ b id t=true
  ·rw[if_pos hu,dg];constructor
   ·rintro⟨h1,h2,h3⟩
    by_cases he:x=t
    ·exact .inr he
    ·exact .inl ⟨h1,h2,by omega⟩
   ·rintro(⟨h1,h2,h3⟩|rfl)
    ·exact⟨h1,h2,by omega⟩
    ·exact⟨hu,hft,by omega⟩
  ·rw[if_neg hu];constructor
   ·rintro⟨h1,h2,h3⟩;refine .inl ⟨h1,h2,?_⟩
    by_cases he:x=t
    ·rw[he] at h1; exact absurd h1 hu
    ·omega
   ·rintro(⟨h1,h2,h3⟩|h)
    ·exact⟨h1,h2,by omega⟩
    ·cases h
def RP (h:Ē b) (g:ñ) {f t:Int} (hft:f≤t):jc b g f (t+1)=jc b g f t+afN b g t:=by
 unfold jc afN;rw[Wb g.1 hft h.apart,aal hft];show ń g.1 f t b.2.2.2.1+(match me b g.1 t with|some l=>l.2.2|none=>0)+_=_
 cases ha:me b g.1 t with
 |some l =>
  rw[h.notUsed ha];simp only[dv,if_false,dL];omega
 |none =>
  simp only
  cases MZ b g.1 t with
  |true=>simp only[if_true,cW,dE,Int.natCast_add,fS]; omega
  |false=>simp only[dv,if_false,dL]; omega
def Ag (g:ñ) {f t:Int} (hft:t≤f):jc b g f t=0:=by
 unfold jc
 have h1:∀x:List Lp,ń g.1 f t x=0:=by
  intro x
  induction x with
  |nil=>rfl
  |cons l r ih =>
   simp only[ń];rw[ih,if_neg (by unfold Ġ; omega)];rfl
 have h2:ji b g.1 f t=[]:=by
  unfold ji
  rw[List.filter_eq_nil_iff.2 fun u hu hc=>by
   simp only[inP,cR,beq_iff_eq,decide_eq_true_eq] at hc
   omega]
  rfl
 rw[h1,h2];have h3:aaD ([]:List Int)=[]:=rfl;rw[h3];simp
end
section
variable {b:â}
def Ow (h:Ē b) (g:ñ) {f t u:Int} (h1:f≤t) (h2:t≤u):jc b g f u=jc b g f t+jc b g t u:=by
 obtain⟨n,rfl⟩:∃n:Nat,u=t+n:=⟨(u-t).toNat,by omega⟩;clear h2
 induction n with
 |zero=>simp[Ag]
 |succ n ih =>
  have e:t+((n+1:Nat):Int)=(t+n)+1:=by omega
  rw[e,RP h g (show f≤t+(n:Int) by omega),RP h g (show t≤t+(n:Int) by omega),ih];omega
def EN (h:Ē b) {g:ñ} (hg:g∈b.2.1) {f t:Int} (hf:0≤f):0≤jc b g f t:=(jB h hg hf).1
def Τ (b:â) (id d:Int):Int:=match iP (Í b) id d with|some j=>(j:Int)+1|none=>0
def rD (h:Ē b) {i:Nat} {g:ñ} (hg:b.2.1[i]?=some g) {k:Nat} {d:Int} (hk:(à b g)[k]?=some d):Τ b g.1 d=(off b i:Int)+k+1:=by
 unfold Τ;rw[Xz h hg hk];simp only;omega
structure rl (b:â) (p:Int→Int) (g:ñ):Prop where
 hi:p (Τ b g.1 g.2.1)≤p 0+(g.2.2.1+g.2.2.2.1.2)
 lo:p 0+(g.2.2.1+g.2.2.2.1.1)≤p (Τ b g.1 g.2.1)
 down:∀d e,d∈à b g→e∈à b g→d≤e→p (Τ b g.1 e)≤p (Τ b g.1 d)
 loss:∀d e,d∈à b g→e∈à b g→d≤e→p (Τ b g.1 d)≤p (Τ b g.1 e)+jc b g d e
def pB (h:Ē b) {i:Nat} {g:ñ} (hg:b.2.1[i]?=some g) {p:Int→Int}:(∀l∈ï b g,p l.2.1≤p l.1+l.2.2)↔rl b p g:=by
 have hgm:=cZ hg;obtain⟨tl,htl⟩:=SD h hgm
 have h0:Τ b g.1 g.2.1=(off b i:Int)+1:=by
  have:=rD h hg (k:=0) (d:=g.2.1) (by rw[htl]; rfl);rw[this];omega
 constructor
 ·intro hl;have e1:=hl _ ((Ņ h hg).2 (.inl rfl));have e2:=hl _ ((Ņ h hg).2 (.inr (.inl rfl)));simp only at e1 e2
  have step:∀(k:Nat) (d e:Int),(à b g)[k]?=some d→(à b g)[k+1]?=some e→p (Τ b g.1 e)≤p (Τ b g.1 d)∧p (Τ b g.1 d)≤p (Τ b g.1 e)+jc b g d e:=by
   intro k d e hd he;have a1:=hl _ ((Ņ h hg).2 (.inr (.inr ⟨k,d,e,hd,he,.inl rfl⟩)));have a2:=hl _ ((Ņ h hg).2 (.inr (.inr ⟨k,d,e,hd,he,.inr rfl⟩)));simp only at a1 a2;rw[rD h hg hd,rD h hg he]
   have e3:(off b i:Int)+((k+1:Nat):Int)+1=(off b i:Int)+k+2:=by omega
   rw[e3];exact⟨by omega,a2⟩
  have pair:∀(n k:Nat) (d e:Int),(à b g)[k]?=some d→(à b g)[k+n]?=some e→p (Τ b g.1 e)≤p (Τ b g.1 d)∧p (Τ b g.1 d)≤p (Τ b g.1 e)+jc b g d e:=by
   intro n
   induction n with
   |zero =>
    intro k d e hd he;rw[fJ,hd] at he;cases he;rw[Ag g (dw _)];omega
   |succ n ih =>
    intro k d e hd he;have hlt:=(cY.1 he).1;have hm:(à b g)[k+n]?=some ((à b g)[k+n]'(by omega)):=cO (by omega);obtain⟨a1,a2⟩:=ih k d _ hd hm;obtain⟨a3,a4⟩:=step (k+n) _ e hm he
    have o1:d≤(à b g)[k+n]'(by omega):=by
     obtain⟨hkl,hkd⟩:=cY.1 hd;rcases fC n with rfl|hn
     ·rw[←hkd]; exact Int.le_of_eq (by congr 1)
     ·have:=(dM.1 (rh b g)) k (k+n) hkl (by omega) (by omega);rw[hkd] at this; omega
    have o2:(à b g)[k+n]'(by omega)≤e:=by
     obtain⟨hel,hee⟩:=cY.1 he;have:=(dM.1 (rh b g)) (k+n) (k+(n+1)) (by omega) hel (by omega);rw[hee] at this; omega
    have:=Ow h g o1 o2;omega
  have any:∀d e,d∈à b g→e∈à b g→d≤e→p (Τ b g.1 e)≤p (Τ b g.1 d)∧p (Τ b g.1 d)≤p (Τ b g.1 e)+jc b g d e:=by
   intro d e hd he hde;obtain⟨k,hk,rfl⟩:=di.1 hd;obtain⟨m,hm,rfl⟩:=di.1 he
   have hkm:k≤m:=by
    rcases dn m k with hlt|hge
    ·have:=(dM.1 (rh b g)) m k hm hk hlt; omega
    ·exact hge
   exact pair (m-k) k _ _ (cO hk) (by rw[show k+(m-k)=m by omega]; exact cO hm)
  exact⟨by rw[h0]; omega,by rw[h0]; omega,fun d e hd he hde=>(any d e hd he hde).1,fun d e hd he hde=>(any d e hd he hde).2⟩
 ·intro hf l hl;rcases(Ņ h hg).1 hl with rfl|rfl|⟨k,d,e,hd,he,rfl|rfl⟩
  ·have:=hf.hi; rw[h0] at this; simp only; omega
  ·have:=hf.lo; rw[h0] at this; simp only; omega
  ·have hde:d≤e:=by
    obtain⟨a1,a2⟩:=cY.1 hd;obtain⟨a3,a4⟩:=cY.1 he;have:=(dM.1 (rh b g)) k (k+1) a1 a3 (by omega);rw[a2,a4] at this; omega
   have:=hf.down d e (cZ hd) (cZ he) hde;rw[rD h hg hd,rD h hg he] at this
   have e3:(off b i:Int)+((k+1:Nat):Int)+1=(off b i:Int)+k+2:=by omega
   rw[e3] at this;simp only;omega
  ·have hde:d≤e:=by
    obtain⟨a1,a2⟩:=cY.1 hd;obtain⟨a3,a4⟩:=cY.1 he;have:=(dM.1 (rh b g)) k (k+1) a1 a3 (by omega);rw[a2,a4] at this; omega
   have:=hf.loss d e (cZ hd) (cZ he) hde;rw[rD h hg hd,rD h hg he] at this
   have e3:(off b i:Int)+((k+1:Nat):Int)+1=(off b i:Int)+k+2:=by omega
   rw[e3] at this;simp only;exact this
def Xg (h:Ē b) {p:Int→Int}:Pot (æ b) p↔(∀g∈b.2.1,rl b p g)∧∀c∈b.2.2.2.2.1,p (cx b c)≤p (cy b c)+(Œ b c).2∧p (cy b c)+(Œ b c).1≤p (cx b c):=by
 constructor
 ·intro hp;refine⟨fun g hg=>?_,fun c hc=>?_⟩
  ·obtain⟨i,hi,rfl⟩:=di.1 hg;exact(pB h (cO hi)).1 fun l hl=>hp l.1 l.2.1 l.2.2 (pU.2 (.inl ⟨i,_,cO hi,hl⟩))
  ·have a1:=hp _ _ _ (pU.2 (.inr ⟨c,hc,.inl rfl⟩));have a2:=hp _ _ _ (pU.2 (.inr ⟨c,hc,.inr rfl⟩));omega
 ·rintro⟨hg,hc⟩ u v m hl;rcases pU.1 hl with⟨i,g,hig,hl⟩|⟨c,hcm,hl⟩
  ·exact(pB h hig).2 (hg g (cZ hig)) (u,v,m) hl
  ·obtain⟨a1,a2⟩:=hc c hcm;rcases hl with hl|hl
   ·obtain⟨rfl,rfl,rfl⟩:u=cy b c∧v=cx b c∧m=(Œ b c).2:=by simpa using hl
    exact a1
   ·obtain⟨rfl,rfl,rfl⟩:u=cx b c∧v=cy b c∧m = -(Œ b c).1:=by simpa using hl
    omega
end
def aoH:List Int→Int
 |[]=>0
 |[a]=>a
 |a::b::t=>max a (aoH (b::t))
def abt:∀{l:List Int},l≠[]→(∀a∈l,a≤aoH l)∧aoH l∈l
 |[],h=>absurd rfl h
 |[a],_=>⟨fun x hx=>by rw[dg] at hx; rw[hx]; exact dw _,by simp[aoH]⟩
 |a::b::t,_=>by
  obtain⟨h1,h2⟩:=abt (l:=b::t) (by simp);have e:aoH (a::b::t)=max a (aoH (b::t)):=rfl;rw[e];constructor
  ·intro x hx;rcases dc.1 hx with rfl|hx
   ·omega
   ·have:=h1 x hx; omega
  ·rcases Int.le_total a (aoH (b::t)) with h|h
   ·rw[Int.max_eq_right h]; exact f5 _ h2
   ·rw[Int.max_eq_left h]; exact List.mem_cons_self
section
variable {b:â}
def Tn (b:â) (f:Int→Int→Int) (z:Int) (v:Int):Int:=if v=0 then z else match (Í b)[(v-1).toNat]? with|some n=>f n.1 n.2|none=>0
def qp (f:Int→Int→Int) (z:Int):Tn b f z 0=z:=by unfold Tn; rw[if_pos rfl]
def Fp (h:Ē b) (f:Int→Int→Int) (z:Int) {g:ñ} (hg:g∈b.2.1) {d:Int} (hd:d∈à b g):Tn b f z (Τ b g.1 d)=f g.1 d:=by
 obtain⟨i,hi,rfl⟩:=List.mem_iff_getElem.1 hg;obtain⟨k,hk,rfl⟩:=List.mem_iff_getElem.1 hd;have hgi:=List.getElem?_eq_getElem hi;have hdk:=List.getElem?_eq_getElem hk;rw[rD h hgi hdk];unfold Tn
 have e:((off b i:Int)+k+1-1).toNat=off b i+k:=by omega
 rw[if_neg (by omega),e,Ol hgi hdk]
def N8 (b:â) (l:List Int) (d:Int):Int:=match l with|[]=>0|x::_=>Τ b x d
def ahK (l:List Int) (d:Int):atP (Í b) l d=N8 b l d:=by
 unfold atP N8 Τ
 cases l<;>rfl
def K9 (c:Cmp):cx b c=N8 b (é c.2.2.1 c.2.2.2.1) c.2.1:=ahK _ _
def K8 (c:Cmp):cy b c=N8 b (é c.2.2.2.1 c.2.2.1) c.2.1:=ahK _ _
def pA (h:Ē b) {c:Cmp} (hc:c∈b.2.2.2.2.1) {x:Int} (hx:x∈é c.2.2.1 c.2.2.2.1∨x∈é c.2.2.2.1 c.2.2.1):∃g∈b.2.1,g.1=x∧c.2.1∈à b g:=by
 have hx':(x∈c.2.2.1∧x∉c.2.2.2.1)∨(x∈c.2.2.2.1∧x∉c.2.2.1):=by
  rcases hx with hx|hx
  ·exact .inl (kh.1 hx)
  ·exact .inr (kh.1 hx)
 have hm:x∈c.2.2.1++c.2.2.2.1:=by rw[cX]; exact hx'.imp (·.1) (·.1)
 obtain⟨⟨g,hg,_⟩,_⟩:=h.pile hc hm;obtain⟨hgm,hid⟩:=oq hg;refine⟨g,hgm,hid,je.2 (.inr (.inl ⟨c,hc,?_,rfl⟩))⟩;rw[hid];intro he;rw[dO,ez,ez] at he;rcases hx' with⟨a,e⟩|⟨a,e⟩
 ·exact e (he.1 a)
 ·exact e (he.2 a)
def fill (b:â) (p:Int→Int) (g:ñ) (d:Int):Int:=aoH ((à b g).map fun e=>if d≤e then p (Τ b g.1 e) else p (Τ b g.1 e)-jc b g e d)
def Sn {p:Int→Int} {g:ñ} (d:Int):(∀e∈à b g,(if d≤e then p (Τ b g.1 e) else p (Τ b g.1 e)-jc b g e d)≤fill b p g d)∧∃e∈à b g,fill b p g d=if d≤e then p (Τ b g.1 e) else p (Τ b g.1 e)-jc b g e d:=by
 have hne:((à b g).map fun e=>if d≤e then p (Τ b g.1 e) else p (Τ b g.1 e)-jc b g e d)≠[]:=by
  intro h;have:=List.map_eq_nil_iff.1 h;have h2:=kD (b:=b) g;rw[this] at h2;cases h2
 obtain⟨h1,h2⟩:=abt hne;refine⟨fun e he=>h1 _ (dS.2 ⟨e,he,rfl⟩),?_⟩;obtain⟨e,he,hx⟩:=dS.1 h2;exact⟨e,he,hx.symm⟩
def OB (h:Ē b) {p:Int→Int} {g:ñ} (hg:g∈b.2.1) (hf:rl b p g) {d:Int} (hd:d∈à b g):fill b p g d=p (Τ b g.1 d):=by
 obtain⟨h1,e,he,h2⟩:=Sn (b:=b) (p:=p) (g:=g) d;have h3:=h1 d hd;rw[if_pos (dw _)] at h3
 have h4:fill b p g d≤p (Τ b g.1 d):=by
  rw[h2]
  split
  ·rename_i hde;exact hf.down d e hd he hde
  ·rename_i hde;have:=hf.loss e d he hd (by omega);omega
 omega
def Iv (h:Ē b) {p:Int→Int} {g:ñ} (hg:g∈b.2.1) (hf:rl b p g) {d e:Int} (h0:g.2.1≤d) (hde:d≤e):fill b p g e≤fill b p g d∧fill b p g d≤fill b p g e+jc b g d e:=by
 obtain⟨a1,x,hx,a2⟩:=Sn (b:=b) (p:=p) (g:=g) d;obtain⟨b1,y,hy,b2⟩:=Sn (b:=b) (p:=p) (g:=g) e;have hm:=(h.gaugeR hg).2.2.2.2.1;have hl:=EN h hg (f:=d) (t:=e) (by omega);have dx:=h.day hg hx;have dy:=h.day hg hy;constructor
 ·have q:=a1 y hy;rw[b2]
  by_cases c1:e≤y
  ·rw[if_pos c1];rw[if_pos (by omega)] at q;exact q
  ·rw[if_neg c1]
   by_cases c2:d≤y
   ·rw[if_pos c2] at q;have:=EN h hg (f:=y) (t:=e) dy.2.1;omega
   ·rw[if_neg c2] at q;have:=Ow h g (f:=y) (t:=d) (u:=e) (by omega) hde;omega
 ·have q:=b1 x hx;rw[a2]
  by_cases c1:d≤x
  ·rw[if_pos c1]
   by_cases c2:e≤x
   ·rw[if_pos c2] at q;omega
   ·rw[if_neg c2] at q;have:=Ow h g (f:=d) (t:=x) (u:=e) c1 (by omega);have:=EN h hg (f:=d) (t:=x) (by omega);omega
  ·rw[if_neg c1];rw[if_neg (by omega)] at q;have:=Ow h g (f:=x) (t:=d) (u:=e) (by omega) hde;omega
end
section
variable {b:â} {c:Cmp}
def Zz:å (Ù b c)=(Ù b c).2.1.flatMap (ï (Ù b c))++b.2.2.2.2.1.flatMap (ò (Ù b c)):=by
 unfold å
 have e:æ (Ù b c)=((Ù b c).2.1.flatMap (ï (Ù b c))++b.2.2.2.2.1.flatMap (ò (Ù b c)))++ò (Ù b c) c:=by
  unfold æ;rw[show(Ù b c).2.2.2.2.1=b.2.2.2.2.1++[c] from rfl,List.flatMap_append,List.append_assoc];simp
 rw[e,cW,show(ò (Ù b c) c).length=2 from rfl,gh,List.take_left]
def OA (h':Ē (Ù b c)) {p:Int→Int}:Pot (å (Ù b c)) p↔(∀g∈b.2.1,rl (Ù b c) p g)∧∀d∈b.2.2.2.2.1,p (cx (Ù b c) d)≤p (cy (Ù b c) d)+(Œ b d).2∧p (cy (Ù b c) d)+(Œ b d).1≤p (cx (Ù b c) d):=by
 rw[Zz];constructor
 ·intro hp;refine⟨fun g hg=>?_,fun d hd=>?_⟩
  ·obtain⟨i,hi,rfl⟩:=di.1 hg;exact(pB h' (i:=i) (cO hi)).1 fun l hl=>hp l.1 l.2.1 l.2.2 (cX.2 (.inl (dz.2 ⟨_,eO hi,hl⟩)))
  ·have a1:=hp (cy (Ù b c) d) (cx (Ù b c) d) (Œ (Ù b c) d).2 (cX.2 (.inr (dz.2 ⟨d,hd,by simp[ò]⟩)));have a2:=hp (cx (Ù b c) d) (cy (Ù b c) d) (-(Œ (Ù b c) d).1) (cX.2 (.inr (dz.2 ⟨d,hd,by simp[ò]⟩)));have e:Œ (Ù b c) d=Œ b d:=rfl;rw[e] at a1 a2;omega
 ·rintro⟨hg,hc⟩ u v m hl;rcases cX.1 hl with hl|hl
  ·obtain⟨g,hgm,hl⟩:=dz.1 hl;obtain⟨i,hi,rfl⟩:=di.1 hgm;exact(pB h' (i:=i) (cO hi)).2 (hg _ hgm) (u,v,m) hl
  ·obtain⟨d,hd,hl⟩:=dz.1 hl;obtain⟨a1,a2⟩:=hc d hd;have e:Œ (Ù b c) d=Œ b d:=rfl;simp only[ò,dc,fR,or_false,e] at hl;rcases hl with hl|hl
   ·obtain⟨rfl,rfl,rfl⟩:u=cy (Ù b c) d∧v=cx (Ù b c) d∧m=(Œ b d).2:=by simpa using hl
    exact a1
   ·obtain⟨rfl,rfl,rfl⟩:u=cx (Ù b c) d∧v=cy (Ù b c) d∧m = -(Œ b d).1:=by simpa using hl
    omega
def rg {g:ñ} {d:Int} (hd:d∈à b g):d∈à (Ù b c) g:=by
 rcases je.1 hd with e|⟨x,hx,h1,h2⟩|hn
 ·exact je.2 (.inl e)
 ·exact je.2 (.inr (.inl ⟨x,cX.2 (.inl hx),h1,h2⟩))
 ·exact je.2 (.inr (.inr hn))
def akF (g:ñ) (f t:Int):jc (Ù b c) g f t=jc b g f t:=rfl
def Lg {b':â} (h':Ē b') {l:List Int} {day:Int} (f:Int→Int→Int) (z:Int) (hl:∀x∈l,∃g∈b'.2.1,g.1=x∧day∈à b' g):Tn b' f z (N8 b' l day)=match l with|[]=>z|x::_=>f x day:=by
 unfold N8
 cases l with
 |nil=>exact qp f z
 |cons x t =>
  obtain⟨g,hg,rfl,hd⟩:=hl x (by simp);exact Fp h' f z hg hd
def akb (h:Ē b) (h':Ē (Ù b c)):(∃p,Pot (æ b) p)↔∃p,Pot (å (Ù b c)) p:=by
 constructor
 ·rintro⟨p,hp⟩;obtain⟨hg,hc⟩:=(Xg h).1 hp
  let f:Int→Int→Int:=fun id d=>match Ź b id with|some g=>fill b p g d|none=>0
  have hfv:∀g∈b.2.1,∀d,f g.1 d=fill b p g d:=fun g hgm d=>by
   show(match Ź b g.1 with|some g=>fill b p g d|none=>0)=_;rw[wS h.ids hgm]
  have hq:∀g∈b.2.1,∀d∈à (Ù b c) g,Tn (Ù b c) f (p 0) (Τ (Ù b c) g.1 d)=fill b p g d:=fun g hgm d hd=>by
   rw[Fp h' f (p 0) hgm hd,hfv g hgm d]
  refine⟨Tn (Ù b c) f (p 0),(OA h').2 ⟨fun g hgm=>?_,fun d hd=>?_⟩⟩
  ·have gf:=hg g hgm;have hmade:g.2.1∈à b g:=kD g;have e0:=hq g hgm g.2.1 (kD g);rw[OB h hgm gf hmade] at e0;refine⟨?_,?_,fun x y hx hy hxy=>?_,fun x y hx hy hxy=>?_⟩
   ·rw[e0,qp]; exact gf.hi
   ·rw[e0,qp]; exact gf.lo
   ·rw[hq g hgm x hx,hq g hgm y hy];exact(Iv h hgm gf (h'.day hgm hx).1 hxy).1
   ·rw[hq g hgm x hx,hq g hgm y hy,akF];exact(Iv h hgm gf (h'.day hgm hx).1 hxy).2
  ·have key:∀l:List Int,(∀x∈l,∃g∈b.2.1,g.1=x∧d.2.1∈à b g)→Tn (Ù b c) f (p 0) (N8 (Ù b c) l d.2.1)=p (N8 b l d.2.1):=by
    intro l hl;rw[Lg h' f (p 0) (fun x hx=>by obtain⟨g,q1,q2,q3⟩:=hl x hx; exact⟨g,q1,q2,rg q3⟩)]
    cases l with
    |nil=>rfl
    |cons x t =>
     obtain⟨g,q1,rfl,q3⟩:=hl x (by simp);show f g.1 d.2.1=p (Τ b g.1 d.2.1);rw[hfv g q1,OB h q1 (hg g q1) q3]
   rw[K9,K8,key _ (fun x hx=>pA h hd (.inl hx)),key _ (fun x hx=>pA h hd (.inr hx)),←K9,←K8];exact hc d hd
 ·rintro⟨p,hp⟩;obtain⟨hg,hc⟩:=(OA h').1 hp
  let f:Int→Int→Int:=fun id d=>p (Τ (Ù b c) id d)
  have hq:∀g∈b.2.1,∀d∈à b g,Tn b f (p 0) (Τ b g.1 d)=p (Τ (Ù b c) g.1 d):=fun g hgm d hd=>Fp h f (p 0) hgm hd;refine⟨Tn b f (p 0),(Xg h).2 ⟨fun g hgm=>?_,fun d hd=>?_⟩⟩
  ·have gf:=hg g hgm;have e0:=hq g hgm g.2.1 (kD g);refine⟨?_,?_,fun x y hx hy hxy=>?_,fun x y hx hy hxy=>?_⟩
   ·rw[e0,qp]; exact gf.hi
   ·rw[e0,qp]; exact gf.lo
   ·rw[hq g hgm x hx,hq g hgm y hy];exact gf.down x y (rg hx) (rg hy) hxy
   ·rw[hq g hgm x hx,hq g hgm y hy];exact gf.loss x y (rg hx) (rg hy) hxy
  ·have key:∀l:List Int,(∀x∈l,∃g∈b.2.1,g.1=x∧d.2.1∈à b g)→Tn b f (p 0) (N8 b l d.2.1)=p (N8 (Ù b c) l d.2.1):=by
    intro l hl;rw[Lg h f (p 0) hl]
    cases l<;>rfl
   rw[K9,K8,key _ (fun x hx=>pA h hd (.inl hx)),key _ (fun x hx=>pA h hd (.inr hx)),←K9,←K8];exact hc d hd
end
end Go.Proofs.ZzM
end
