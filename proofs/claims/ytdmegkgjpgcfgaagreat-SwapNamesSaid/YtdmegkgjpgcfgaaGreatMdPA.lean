/- lemmas -/
import Derived.Test.YtdmegkgjpgcfgaaGreatAmF
import Derived.Test.YtdmegkgjpgcfgaaGreatMdTA
set_option linter.all false
set_option linter.unusedSectionVars false
set_option linter.unusedVariables false
set_option linter.unusedSimpArgs false
noncomputable section
namespace Go.Am
section
variable {ρ:Type}
def ł {α β:Type} (e:Nat→α→Option β):Nat→List α→Option β
 |_,[]=>none
 |i,a::t=>match e i a with
  |some b=>some b
  |none=>ł e (i+1) t
def lU {α β:Type} (l:List α) (e:Nat→α→Option β) (k0:β→Option ρ) (k1:Option ρ) {f:Int→(Int→Option ρ)→Option ρ}
 (h:∀(i:Nat) (a:α),i<l.length→l[i]?=some a→∀kn,f i kn=match e i a with|some b=>k0 b|none=>kn ((i:Int)+1))
 (hn:∀kn,f l.length kn=k1):Ê f 0=match ł e 0 l with|some b=>k0 b|none=>k1:=by
 refine aa4 l (fun i t=>match ł e i t with|some b=>k0 b|none=>k1) hn fun i a t hd hi ha kn hk=>?_;rw[h i a hi ha kn,hk,ł]
 cases e i a<;>rfl
def Ħ {α σ:Type} (l:List α) (g:Nat→σ) (r:Option ρ) {f:Int×σ→(Int×σ→Option ρ)→Option ρ} {s0:σ} (h0:g 0=s0)
 (h:∀(i:Nat) (a:α),i<l.length→l[i]?=some a→∀kn,f (i,g i) kn=kn ((i:Int)+1,g (i+1)))
 (hn:∀kn,f (l.length,g l.length) kn=r):Ê f (0,s0)=r:=by
 subst h0
 have hs:∀s,(s=g 0)→Ê f (0,s)=r:=fun s e=>Qj l (fun _ _ _=>r) (fun i s=>s=g i) (fun s hs kn=>by rw[hs]; exact hn kn) (fun i a t s hd hi ha hI kn hk=>by
  rw[hI,h i a hi ha kn]; exact hk _ rfl) e
 exact hs _ rfl
def J9 {α σ:Type} (l:List α) (g:Nat→σ) (r:Option ρ) {f:Int×σ→(Int×σ→Option ρ)→Option ρ} {s0:σ} (P:Nat→Prop) (h0:g 0=s0) (hP:P 0)
 (h:∀(i:Nat) (a:α),i<l.length→l[i]?=some a→P i→∀kn,f (i,g i) kn=r∨(P (i+1)∧f (i,g i) kn=kn ((i:Int)+1,g (i+1))))
 (hn:P l.length→∀kn,f (l.length,g l.length) kn=r):Ê f (0,s0)=r:=by
 subst h0
 have hs:∀s,(s=g 0∧P 0)→Ê f (0,s)=r:=fun s e=>Qj l (fun _ _ _=>r) (fun i s=>s=g i∧P i) (fun s hs kn=>by rw[hs.1]; exact hn hs.2 kn) (fun i a t s hd hi ha hI kn hk=>by
  rcases h i a hi ha hI.2 kn with h1|⟨h1,h2⟩
  ·rw[hI.1,h1]
  ·rw[hI.1,h2]; exact hk _ ⟨rfl,h1⟩) e
 exact hs _ ⟨rfl,hP⟩
def Ë {i n:Nat} (h:i<n) (hn:n≤1000000000) (f:Int→Option ρ):ck ((i:Int)+1) f=f ((i:Int)+1):=Ó (by omega) (by omega) f
def aeP {i n:Nat} (h:i<n) (x y:Option ρ):ifb (ilt (i:Int) (YO n)) x y=x:=by simp[Đ,Io,h]
def à (n:Nat) (x y:Option ρ):ifb (ilt (n:Int) (YO n)) x y=y:=by simp[Đ,Io]
def Ò {α:Type} {l:List α} {i:Nat} (h:i<l.length) (x y:Option ρ):ifb (ilt (i:Int) (Ø l)) x y=x:=aeP h x y
def Kz {α:Type} (p:α→Bool):∀(i:Nat) (l:List α),ł (fun i a=>bif p a then some (i:Int) else none) i l=(l.findIdx? p).map fun j=>((i+j:Nat):Int)
 |_,[]=>rfl
 |i,a::t=>by
  simp only[ł,List.findIdx?_cons]
  cases hp:p a with
  |true=>simp
  |false =>
   simp only[cond_false,cQ,if_false];rw[Kz p (i+1) t]
   cases t.findIdx? p with
   |none=>rfl
   |some j=>simp only[dC]; congr 1; omega
def Gg {α β:Type} (e:α→Option β):∀(i:Nat) (l:List α),ł (fun _ a=>e a) i l=l.findSome? e
 |_,[]=>rfl
 |i,a::t=>by
  simp only[ł,gj]
  cases e a with
  |some b=>rfl
  |none=>exact Gg e (i+1) t
def iM {α β:Type} {e:Nat→α→Option β}:∀{i:Nat} {l:List α},ł e i l=none↔∀j a,l[j]?=some a→e (i+j) a=none
 |_,[]=>by simp[ł]
 |i,a::t=>by
  simp only[ł];constructor
  ·intro h j b hb
   cases he:e i a with
   |some c=>rw[he] at h; cases h
   |none =>
    rw[he] at h
    cases j with
    |zero=>simp at hb; subst hb; simpa using he
    |succ j=>have:=(iM.1 h) j b (by simpa using hb); rw[←this]; congr 1; omega
  ·intro h;have h0:=h 0 a (by simp);simp only[fA] at h0;rw[h0]
   exact iM.2 fun j b hb=>by have:=h (j+1) b (by simpa using hb); rw[←this]; congr 1; omega
def take_succ {α:Type} {l:List α} {i:Nat} {a:α} (h:l[i]?=some a):l.take (i+1)=l.take i++[a]:=by rw[List.take_succ,h]; rfl
end
end Go.Am
end

noncomputable section
namespace Go.Proofs.ZzM
open Go Go.Am
section
variable {ρ:Type}
def Ę {τ:Type} {f:τ→(τ→Option ρ)→Option ρ} {r:Option ρ} (I:τ→Prop) (μ:τ→Nat)
 (h:∀x,I x→(∀kn,f x kn=r)∨∃y,I y∧μ y<μ x∧∀kn,f x kn=kn y) {x:τ} (hx:I x):Ê f x=r :=
 sX (F:=fun _=>r) I μ (fun x hx kn hk=>by
  rcases h x hx with h1|⟨y,h1,h2,h3⟩
  ·exact h1 kn
  ·rw[h3,hk y h1 h2]) hx
def jr {α:Type} (l:List α) (p:α→Bool) (k0:Int→Option ρ) (k1:Option ρ) {f:Int→(Int→Option ρ)→Option ρ}
 (h:∀(i:Nat) (a:α),i<l.length→l[i]?=some a→∀kn,f i kn=if p a then k0 i else kn ((i:Int)+1))
 (hn:∀kn,f l.length kn=k1):Ê f 0=match l.findIdx? p with|some j=>k0 j|none=>k1:=by
 rw[lU l (fun i a=>bif p a then some (i:Int) else none) k0 k1 (fun i a hi ha kn=>by rw[h i a hi ha kn]; cases p a<;>rfl) hn,Kz]
 cases l.findIdx? p with
 |none=>rfl
 |some j=>simp
def ş {α:Type} (l:List α) (p:α→Bool) (k0:Int→Option ρ) (K k1:Option ρ) {f:Int→(Int→Option ρ)→Option ρ} (hK:∀j:Nat,k0 j=K)
 (h:∀(i:Nat) (a:α),i<l.length→l[i]?=some a→∀kn,f i kn=if p a then k0 i else kn ((i:Int)+1))
 (hn:∀kn,f l.length kn=k1):Ê f 0=if l.any p then K else k1:=by
 rw[jr l p k0 k1 h hn]
 cases hf:l.findIdx? p with
 |none =>
  have:l.any p=false:=by
   rw[dE];intro x hx;have:=dA.1 hf x hx;simp[this]
  simp[this]
 |some j =>
  have:l.any p=true:=by
   have:=dJ.1 hf;obtain⟨hj,hp,_⟩:=this;exact dg.2 ⟨_,eI hj,hp⟩
  simp[this,hK]
end
abbrev ý:Type:=Int×Int×Int×(Int×Int)×((Int×Int)×Int)
abbrev Li:Type:=Int×((Int×Int)×Int)
abbrev Cmp:Type:=Int×Int×List Int×List Int×Int×(Int×(Int×Int))
abbrev ġ:Type:=(Int×Int)×List ý×List (Int×Int)×List Li×List Cmp×List (Int×Int)
abbrev Sys:Type:=Int×List (Int×Int×Int)
abbrev Maker:Type:=ġ×List (Int×Int)×Sys×List (Int×Int)
section
variable {ρ:Type}
def Ú {b:Bool} (h:b=true) (x y:Option ρ):ifb b x y=x:=by rw[h]; rfl
def Î {b:Bool} (h:b=false) (x y:Option ρ):ifb b x y=y:=by rw[h]; rfl
end
def I64 (n:Int):Prop:=-9223372036854775808≤n∧n≤9223372036854775807
def inP (n lo hi:Int):Bool:=decide (lo≤n)&&decide (n≤hi)
def Ob (n:Int):Bool:=inP n 0 20000
def nM (s:Int×Int) (lo hi:Int):Bool:=decide (lo≤s.1)&&(decide (s.1≤s.2)&&decide (s.2≤hi))
def Υ (n lo hi:Int):ė n lo hi=some (inP n lo hi):=by
 unfold ė EP inP ile
 cases decide (lo≤n)<;>rfl
def HD (n:Int):kL n=some (Ob n):=by
 unfold kL J0;rw[Υ]; rfl
def Dl (s:Int×Int) (lo hi:Int):ź s lo hi=some (nM s lo hi):=by
 unfold ź EX nM ile
 cases decide (lo≤s.1)<;>cases decide (s.1≤s.2)<;>rfl
def Oy {n:Int} (h:I64 n):qW n=some (n.natAbs:Int):=by
 obtain⟨h1,h2⟩:=h;unfold qW PJ
 by_cases hn:n<0
 ·have:ilt n 0=true:=by simpa using hn
  rw[Ú this];congr 1;simp only[IntKind.wrap,IntKind.bits,IntKind.signed];simp;omega
 ·have:ilt n 0=false:=by simpa using hn
  rw[Î this];congr 1;simp only[IntKind.wrap,IntKind.bits,IntKind.signed];simp;omega
def aeQ (a b:Nat):KH a b=some ((Nat.gcd a b:Nat):Int):=by
 unfold KH Vw;refine Ę (fun x:Int×Int=>∃c d:Nat,x=((c:Int),(d:Int))∧Nat.gcd c d=Nat.gcd a b) (fun x=>x.2.toNat) ?_ ⟨a,b,rfl,rfl⟩;rintro x ⟨c,d,rfl,hg⟩
 cases d with
 |zero =>
  refine .inl fun kn=>?_;rw[Nat.gcd_zero_right] at hg;unfold xR;simp[hg,ine]
 |succ d =>
  refine .inr ⟨(((d+1:Nat):Int),((c % (d+1):Nat):Int)),⟨d+1,c % (d+1),rfl,?_⟩,?_,fun kn=>?_⟩
  ·rw[←hg,Nat.gcd_comm c (d+1),Nat.gcd_rec (d+1) c,Nat.gcd_comm]
  ·have:=Nat.mod_lt c (gJ d);simp only[cO];omega
  ·unfold xR
   have h1:ine ((d+1:Nat):Int) 0=true:=by simp[ine]; omega
   have h2:zV ((d+1:Nat):Int) 0=false:=by simp[zV]; omega
   simp only[h1,Ú Î h2];congr 1
def Lx (r:Int×Int):Bool :=
 decide (1≤r.2)&&(decide (r.2≤2147483647)&&(decide ((r.1.natAbs:Int)≤2147483647)&&decide (Nat.gcd r.1.natAbs r.2.natAbs=1)))
def Q2 {r:Int×Int} (h:I64 r.1):tg r=some (Lx r):=by
 unfold tg JK Lx
 by_cases h1:1≤r.2
 ·by_cases h2:r.2≤2147483647
  ·have h3:I64 r.2:=⟨by omega,by omega⟩
   have e1:ige r.2 1=true:=by simp[ige,h1]
   have e2:ile r.2 2147483647=true:=by simp[ile,h2]
   rw[Ú e1,Ú e2,Oy h,À]
   by_cases h4:(r.1.natAbs:Int)≤2147483647
   ·have e4:ile (r.1.natAbs:Int) 2147483647=true:=by simp[ile,h4]
    rw[Ú e4,À,Oy h3,À,aeQ,À];congr 1;rw[gk];simp only[ieq,beq_iff_eq,h1,h2,h4,decide_true,dZ,decide_eq_true_eq];omega
   ·have e4:ile (r.1.natAbs:Int) 2147483647=false:=by simp[ile]; omega
    rw[Î e4];simp[h4]
  ·have e1:ige r.2 1=true:=by simp[ige,h1]
   have e2:ile r.2 2147483647=false:=by simp[ile]; omega
   rw[Ú e1,Î e2];simp[h2]
 ·have e1:ige r.2 1=false:=by simp[ige]; omega
  rw[Î e1];simp[h1]
def zT (g:ý):Bool :=
 Lx g.2.2.2.2.1&&inP g.2.2.2.2.1.1 (-1000) 1000&&decide (g.2.2.2.2.1.2≤100)&&inP g.1 1 1099511627776&&Ob g.2.1&&inP g.2.2.1 1 1125899906842624&&nM g.2.2.2.1 (-1073741824) 1073741824&&inP g.2.2.2.2.2 0 1048576
def Y7 {g:ý} (h:I64 g.2.2.2.2.1.1):uQ g=some (zT g):=by
 unfold uQ A2 zT;rw[Q2 h,Υ,Υ,HD,Υ,Dl,Υ];generalize Lx g.2.2.2.2.1=x1;generalize inP g.2.2.2.2.1.1 (-1000) 1000=x2;generalize inP g.1 1 1099511627776=x3;generalize Ob g.2.1=x4;generalize inP g.2.2.1 1 1125899906842624=x5;generalize nM g.2.2.2.1 (-1073741824) 1073741824=x6;generalize inP g.2.2.2.2.2 0 1048576=x7;unfold ile;generalize decide (g.2.2.2.2.1.2≤100)=x8
 cases x1<;>cases x2<;>cases x3<;>cases x4<;>cases x5<;>cases x6<;>cases x8<;>rfl
section
variable {ρ:Type}
def TQ {α:Type} {l:List α} {i:Nat} {a:α} (h0:0<i) (h:l[i-1]?=some a) (f:α→Option ρ):ğ l ((i:Int)-1) f=f a:=by
 have:((i:Int)-1)=((i-1:Nat):Int):=by omega
 rw[this,È h]
def aca {i:Nat} (h:0<i) (hn:i≤1000000000) (f:Int→Option ρ):ck ((i:Int)-1) f=f ((i:Int)-1):=Ó (by omega) (by omega) f
def Š {i n:Nat} (h:i<n) (x:Option ρ):ç ((ile 0 (i:Int))&&(ilt (i:Int) (n:Int))) x=x:=by
 have:((ile 0 (i:Int))&&(ilt (i:Int) (n:Int)))=true:=by simp[ile,ilt,h]
 rw[this,Am.iff_true]
def Ė {α:Type} {l:List α} {i:Nat} {a:α} (h:l[i]?=some a) (f:α→Option ρ):Ľ l (Int.toNat (i:Int)) f=f a:=by
 rw[cO]; exact iT h f
end
def tr {α:Type} (key:α→Int) (l:List α) (i:Nat) (a:α):Bool :=
 decide (0<i)&&(l[i-1]?).any fun q=>decide (key a≤key q)
def RH {α:Type} {l:List α} {i:Nat} (hi:i<l.length) (h0:0<i):∃q,l[i-1]?=some q :=
 ⟨l[i-1],cw (by omega)⟩
def HO {α:Type} (key:α→Int) (l:List α):(∀i a,l[i]?=some a→tr key l i a=false)↔l.Pairwise (fun a b=>key a<key b):=by
 rw[dh];constructor
 ·intro h
  have step:∀i (h1:i+1<l.length),key l[i]<key l[i+1]:=by
   intro i h1;have:=h (i+1) l[i+1] (cw h1);simp only[tr,Nat.add_sub_cancel,gJ,decide_true,dZ,cw (show i<l.length by omega),Option.any_some,decide_eq_false_iff_not] at this;omega
  intro i j hi hj hij
  induction j with
  |zero=>omega
  |succ j ih =>
   have:=step j hj;rcases cV i j with hlt|hge
   ·have:=ih (by omega) hlt; omega
   ·have:i=j:=by omega
    subst this; assumption
 ·intro h i a ha;obtain⟨hi,rfl⟩:=List.getElem?_eq_some_iff.1 ha;unfold tr
  cases i with
  |zero=>rfl
  |succ i =>
   have:=h i (i+1) (by omega) hi (by omega);simp only[Nat.add_sub_cancel,gJ,decide_true,dZ,cw (show i<l.length by omega),Option.any_some,decide_eq_false_iff_not];omega
def xm (l:List ý) (i:Nat) (g:ý):Option Int :=
 if !zT g then some 1 else if tr (fun g=>g.1) l i g then some 6 else none
def nE (b:ġ):Int:=(ł (xm b.2.1) 0 b.2.1).getD 0
def MV {b:ġ} (hr:∀g∈b.2.1,I64 g.2.2.2.2.1.1) (hn:b.2.1.length≤1000):Ű b=some (nE b):=by
 unfold Ű pl;refine Eq.trans (lU b.2.1 (xm b.2.1) some (some 0) (fun i a hi ha kn=>?_) (fun kn=>?_)) ?_
 ·try dsimp only
  unfold iu;rw[Ò hi,È ha,Y7 (hr a (List.mem_of_getElem? ha)),À];unfold xm
  cases hg:zT a with
  |false=>simp
  |true =>
   simp only[dw,é,cQ,if_false];rcases fT i with h0|h0
   ·subst h0
    have:igt ((0:Nat):Int) 0=false:=by simp[igt]
    rw[Î this,Ë hi (by omega)];simp[tr]
   ·obtain⟨q,hq⟩:=RH hi h0
    have h1:igt (i:Int) 0=true:=by simp[igt]; omega
    rw[Ú h1,aca h0 (by omega),TQ h0 hq];simp only[tr,h0,decide_true,Bool.true_and,hq,Option.any_some];unfold ile
    cases h2:decide (a.1≤q.1) with
    |true=>simp
    |false =>
     rw[é,Ë hi (by omega)];simp
 ·try dsimp only
  unfold iu;rw[à]
 ·unfold nE
  cases ł (xm b.2.1) 0 b.2.1<;>rfl
def Rv (l:List ý):List (Int×ý):=l.foldl (fun m g=>Ny (k:=tI) (v:=Ô) g.1 g m) []
def iv (b:ġ):List (Int×ý):=Rv b.2.1
def D9 {b:ġ} (hn:b.2.1.length≤1000):ĸ b=some (iv b):=by
 unfold ĸ AY;refine Ħ b.2.1 (fun i=>Rv (b.2.1.take i)) _ rfl (fun i a hi ha kn=>?_) (fun kn=>?_)
 ·try dsimp only
  unfold mh;rw[Ò hi,È ha,Ë hi (by omega),take_succ ha];simp only[Rv,List.foldl_append,List.foldl_cons,List.foldl_nil]
 ·try dsimp only
  unfold mh;rw[à,List.take_length];rfl
def Sl (x y:Int) (g:ý):∀m:List (Int×ý),pV (k:=tI) (v:=Ô) x (Ny (k:=tI) (v:=Ô) y g m)=if x=y then some g else pV (k:=tI) (v:=Ô) x m
 |[]=>by
  unfold Ny pV iY pV
  by_cases h:x=y<;>simp[h]
 |e::m=>by
  unfold Ny
  by_cases h:y=e.1
  ·have:iY tI y e.1=true:=by simp[iY,h]
   rw[this]
   try dsimp only
   unfold pV iY
   by_cases h2:x=y
   ·simp[h2]
   ·have:¬x=e.1:=fun h3=>h2 (h3.trans h.symm);simp[h2,this]
  ·have:iY tI y e.1=false:=by simp[iY,h]
   rw[this]
   try dsimp only
   have ih:=Sl x y g m;unfold pV
   by_cases h2:x=e.1
   ·have:iY tI x e.1=true:=by simp[iY,h2]
    rw[this];have:¬x=y:=fun h3=>h (h3.symm.trans h2);simp[this]
   ·have:iY tI x e.1=false:=by simp[iY,h2]
    rw[this];exact ih
def Ĉ (b:ġ) (id:Int):Option ý:=b.2.1.find? fun g=>g.1==id
def U5 (x:Int) (l:List ý):pV (k:=tI) (v:=Ô) x (Rv l)=l.reverse.find? fun g=>g.1==x:=by
 unfold Rv;rw[←List.foldr_reverse]
 induction l.reverse with
 |nil=>rfl
 |cons g t ih =>
  rw[List.foldr_cons,Sl,ih,fB]
  by_cases h:x=g.1
  ·simp[h]
  ·have:(g.1==x)=false:=by simp; exact fun h2=>h h2.symm
   simp[h,this]
def Gi {l:List ý} (h:l.Pairwise fun a b=>a.1<b.1) (x:Int):l.reverse.find? (fun g=>g.1==x)=l.find? fun g=>g.1==x:=by
 induction l with
 |nil=>rfl
 |cons g t ih =>
  rw[di] at h;rw[List.reverse_cons,List.find?_append,ih h.2,fB]
  by_cases hx:g.1=x
  ·have:t.find? (fun g=>g.1==x)=none:=dU.2 fun y hy=>by have:g.1<y.1:=h.1 y hy; simp; omega
   rw[this]; simp[hx]
  ·have:(g.1==x)=false:=by simp[hx]
   simp[this]
def xM {b:ġ} (h:b.2.1.Pairwise fun a b=>a.1<b.1) (x:Int):pV (k:=tI) (v:=Ô) x (iv b)=Ĉ b x:=by
 unfold iv Ĉ;rw[U5,Gi h]
def mz (s:List (Int×ý)) (id day:Int):Int :=
 match pV (k:=tI) (v:=Ô) id s with
 |some g=>if day<g.2.1 then 4 else 0
 |none=>5
def U6 (s:List (Int×ý)) (id day:Int):hZ s id day=some (mz s id day):=by
 unfold hZ rB mz
 cases h:pV (k:=tI) (v:=Ô) id s with
 |none=>simp only[Lq,h]
 |some g =>
  simp only[Lq,h];rw[Đ]
  by_cases h2:day<g.2.1<;>simp[h2]
def Z1 (s:List (Int×ý)) (id day:Int):Int:=if !Ob day then 1 else mz s id day
def RN (s:List (Int×ý)) (id day:Int):Ĺ id day s=some (Z1 s id day):=by
 unfold Ĺ A0 Z1;rw[HD,À,U6,À]
 cases Ob day<;>rfl
def Qk (b:ġ) (s:List (Int×ý)) (i:Nat) (l:Li):Int :=
 if !nM l.2.1 0 20000 then 1 else if !inP l.2.2 0 1048576 then 1 else if mz s l.1 l.2.1.1 != 0 then mz s l.1 l.2.1.1 else
 if (b.2.2.2.1.take i).any (fun x=>x.1==l.1&&(decide (x.2.1.1≤l.2.1.2)&&decide (l.2.1.1≤x.2.1.2))) then 9 else
 if b.2.2.1.any (fun u=>u.1==l.1&&inP u.2 l.2.1.1 l.2.1.2) then 9 else 0
def T9 {b:ġ} (hn:b.2.2.2.1.length≤1000) (hu:b.2.2.1.length≤1000) (s:List (Int×ý)) {i:Nat} {l:Li} (hl:b.2.2.2.1[i]?=some l):Γ b s i=some (Qk b s i l):=by
 unfold Γ uE Qk;have hi:i<b.2.2.2.1.length:=(List.getElem?_eq_some_iff.1 hl).1;rw[È hl,Dl,À,Υ,À,U6,À]
 cases nM l.2.1 0 20000 with
 |false=>rfl
 |true =>
 cases inP l.2.2 0 1048576 with
 |false=>rfl
 |true =>
 cases hm:(mz s l.1 l.2.1.1 != 0) with
 |true =>
  have:ine (mz s l.1 l.2.1.1) 0=true:=hm;simp[this]
 |false =>
 have hm':ine (mz s l.1 l.2.1.1) 0=false:=hm
 have hg:((ile (0:Int) (i:Int))&&(ile (i:Int) (ñ b.2.2.2.1)))=true:=by simp[ile,ñ]; omega
 simp only[dw,é,hm',cQ,if_false];rw[ď hg,cO]
 have inner:∀(k:Int→Option Int),Ê (fun(v:Int) kk=>Ź b.2.2.1 (Ø b.2.2.1) l.1 l.2.1.1 l.2.1.2 v (fun u=>kk u) (fun z=>ifb (ige z 0) (k 9) (k 0)) (fun _=>k 0)) (0:Int)=if b.2.2.1.any (fun u=>u.1==l.1&&inP u.2 l.2.1.1 l.2.1.2) then k 9 else k 0:=by
  intro k;refine ş b.2.2.1 _ (fun z=>ifb (ige z 0) (k 9) (k 0)) (k 9) (k 0) (fun j=>?_) (fun j a hj ha kn=>?_) (fun kn=>?_)
  ·have:ige (j:Int) 0=true:=by simp[ige]
   rw[Ú this]
  ·try dsimp only
   unfold Ź;rw[Ò hj,È ha,Υ,À,Ë hj (by omega)]
   cases h1:(a.1==l.1) with
   |false =>
    have:ieq a.1 l.1=false:=h1;simp[this]
   |true =>
    have:ieq a.1 l.1=true:=h1;rw[this]
    cases inP a.2 l.2.1.1 l.2.1.2<;>simp
  ·try dsimp only
   unfold Ź;rw[à]
 rw[inner];refine eo (ş (b.2.2.2.1.take i) (fun x=>x.1==l.1&&(decide (x.2.1.1≤l.2.1.2)&&decide (l.2.1.1≤x.2.1.2))) (fun z=>ifb (ige z 0) (some 9) (if b.2.2.1.any (fun u=>u.1==l.1&&inP u.2 l.2.1.1 l.2.1.2) then some 9 else some 0)) (some 9) (if b.2.2.1.any (fun u=>u.1==l.1&&inP u.2 l.2.1.1 l.2.1.2) then some 9 else some 0) (fun j=>?_) (fun j a hj ha kn=>?_) (fun kn=>?_)) ?_
 ·have:ige (j:Int) 0=true:=by simp[ige]
  rw[Ú this]
 ·try dsimp only
  unfold jI
  have hj':j≤1000:=by rw[cT] at hj; omega
  rw[Ò hj,È ha,Ë hj (by rw[cT]; omega)]
  cases h1:(a.1==l.1) with
  |false =>
   have:ieq a.1 l.1=false:=h1;simp[this]
  |true =>
   have:ieq a.1 l.1=true:=h1;rw[this]
   cases h2:decide (a.2.1.1≤l.2.1.2)<;>cases h3:decide (l.2.1.1≤a.2.1.2)<;>simp[ile,h2,h3,Đ]<;>simp_all
 ·try dsimp only
  unfold jI;rw[à]
 ·cases List.any (b.2.2.2.1.take i) _<;>cases b.2.2.1.any _<;>rfl
def Ur {l:List Int} (hn:l.length≤1000000) (x:Int):π l x=some (match l.findIdx? (·==x) with|some j=>(j:Int)|none=>-1):=by
 unfold π lP;refine Eq.trans (jr l (·==x) some (some (-1)) (fun i a hi ha kn=>?_) (fun kn=>?_)) ?_
 ·try dsimp only
  unfold Ξ;rw[Ò hi,È ha,Ë hi (by omega),Đ]
  by_cases h:x=a
  ·subst h; simp[ieq]
  ·have h2:¬a=x:=fun e=>h e.symm;simp[ieq,h,h2]
 ·try dsimp only
  unfold Ξ;rw[à]
 ·cases l.findIdx? (·==x)<;>rfl
def ő {l:List Int} (hn:l.length≤1000000) (x:Int):Þ l x=some (l.contains x):=by
 unfold Þ jk;rw[Ur hn,À];congr 1
 cases h:l.findIdx? (·==x) with
 |none =>
  have:l.contains x=false:=by
   rw[dT];intro hc;have:=dA.1 h x (by simpa using hc);simp at this
  rw[this]; rfl
 |some j =>
  obtain⟨hj,hp,_⟩:=dJ.1 h
  have:l.contains x=true:=by
   have h2:l[j]=x:=by simpa using hp
   rw[←h2]; simp
  rw[this];simp[ige]
def ü (a b:List Int):List Int:=a.filter fun x=>!b.contains x
def xh {a b:List Int} (ha:a.length≤1000000) (hb:b.length≤1000000):Β a b=some (ü a b):=by
 unfold Β P0;rw[Ù (by omega),Am.iff_true]
 have second:∀z:Nat,z<a.length→ü (a.take z) b=a.take z→b.contains (a[z]?.getD 0)=true →
  Ê (fun(v13:(Val (.pair tI (.pair tI (.slice tI))))) kk17=>jP b v13.1 v13.2.1 v13.2.2 (fun u14 u15 u16=>kk17 (u14,u15,u16)) (fun z12=>ç ((ile (0:Int) z12.1)&&(ile z12.1 (ñ z12.2))) (ç ((ile (0:Int) z12.1)&&(ile z12.1 (ñ (List.take (Int.toNat z12.1) z12.2++List.replicate (List.length z12.2-(Int.toNat z12.1)) (0:Int)++List.drop ((Int.toNat z12.1)+(List.length z12.2-(Int.toNat z12.1))) z12.2)))) (some (List.take (Int.toNat z12.1) (List.drop 0 (List.take (Int.toNat z12.1) z12.2++List.replicate (List.length z12.2-(Int.toNat z12.1)) (0:Int)++List.drop ((Int.toNat z12.1)+(List.length z12.2-(Int.toNat z12.1))) z12.2))))))) ((z:Int),((z:Int)+1),a)=some (ü a b):=by
  intro z hz hp hc
  refine Ę (fun x:Int×Int×List Int=>∃i j:Nat,x.1=i∧x.2.1=j∧i<j∧j≤a.length∧x.2.2.length=a.length∧x.2.2.take i=ü (a.take j) b∧x.2.2.drop j=a.drop j) (fun x=>a.length-x.2.1.toNat) ?_
   ⟨z,z+1,rfl,by simp,by omega,by omega,rfl,?_,rfl⟩
  ·rintro⟨x1,x2,s⟩ ⟨i,j,h1,h2,hij,hja,hl,ht,hd⟩;simp only at h1 h2 hl ht hd;subst h1 h2;rcases cV j a.length with hj|hj
   ·refine .inr ?_
    have hsj:s[j]?=some a[j]:=by
     have h3:(s.drop j)[0]?=(a.drop j)[0]?:=by rw[hd]
     rw[d9,d9] at h3;simpa[cw hj] using h3
    have hjs:j<s.length:=by omega
    have hta:ü (a.take (j+1)) b=ü (a.take j) b++if b.contains a[j] then[] else[a[j]]:=by
     rw[take_succ (cw hj),ü,ü,eM];congr 1
     cases h:b.contains a[j] with
     |true=>simp only[eh,h,dw,cQ,if_false,eY,if_true]
     |false=>simp only[eh,h,fo,cQ,if_false,eY,if_true]
    cases h:b.contains a[j] with
    |true =>
     refine⟨(i,(j:Int)+1,s),⟨i,j+1,rfl,by simp,by omega,by omega,hl,?_,?_⟩,by simp; omega,fun kn=>?_⟩
     ·rw[hta,h]; simpa using ht
     ·have:=congrArg (List.drop 1) hd;simpa[fK,Nat.add_comm] using this
     ·try dsimp only
      unfold jP;rw[Ò hjs,Š hjs,Ė hsj,ő hb,À,h];simp only[Bool.not_true,é];rw[Ë hjs (by omega)]
    |false =>
     have his:i<s.length:=by omega
     refine⟨((i:Int)+1,(j:Int)+1,s.set i a[j]),⟨i+1,j+1,by simp,by simp,by omega,by omega,by simpa using hl,?_,?_⟩,by simp; omega,fun kn=>?_⟩
     ·show List.take (i+1) (s.set i a[j])=_;rw[hta,h,List.take_succ,fF,List.take_set_of_le (cz i),ht];simp[his]
     ·show List.drop (j+1) (s.set i a[j])=_;rw[List.drop_set_of_lt (by omega)];have:=congrArg (List.drop 1) hd;simpa[fK,Nat.add_comm] using this
     ·try dsimp only
      unfold jP;rw[Ò hjs,Š hjs,Ė hsj,ő hb,À,h];simp only[Bool.not_false,mi];rw[Š his,Ė (List.getElem?_eq_getElem his),Ë his (by omega),Ë hjs (by omega),Int.toNat_natCast]
   ·refine .inl fun kn=>?_
    have hje:j=s.length:=by omega
    try dsimp only
    unfold jP;rw[hje,à];dsimp only
    have g1:((ile (0:Int) (i:Int))&&(ile (i:Int) (ñ s)))=true:=by simp[ile,ñ]; omega
    rw[ď g1]
    have g2:((ile (0:Int) (i:Int))&&(ile (i:Int) (ñ (List.take (Int.toNat (i:Int)) s++List.replicate (List.length s-(Int.toNat (i:Int))) (0:Int)++List.drop ((Int.toNat (i:Int))+(List.length s-(Int.toNat (i:Int)))) s))))=true:=by
     simp[ile,ñ]; omega
    rw[ď g2,cO,List.drop_zero,cJ,fh (by simp; omega),List.take_take,Nat.min_self,ht];rw[dV (by omega)]
  ·show List.take z a=ü (a.take (z+1)) b;have hz':a[z]?=some a[z]:=cw hz;rw[take_succ hz',ü,eM];rw[hz'] at hc;simp only[gE] at hc
   have:List.filter (fun x=>!b.contains x) [a[z]]=[]:=by simp only[eh,hc,dw,cQ,if_false,eY]
   rw[this,cW];exact hp.symm
 refine eo (jr a (fun x=>b.contains x) (fun z4=>ifb (ieq z4 (-1:Int)) (some a) (ck (z4+(1:Int)) fun n5=>Ê (fun(v13:(Val (.pair tI (.pair tI (.slice tI))))) kk17=>jP b v13.1 v13.2.1 v13.2.2 (fun u14 u15 u16=>kk17 (u14,u15,u16)) (fun z12=>ç ((ile (0:Int) z12.1)&&(ile z12.1 (ñ z12.2))) (ç ((ile (0:Int) z12.1)&&(ile z12.1 (ñ (List.take (Int.toNat z12.1) z12.2++List.replicate (List.length z12.2-(Int.toNat z12.1)) (0:Int)++List.drop ((Int.toNat z12.1)+(List.length z12.2-(Int.toNat z12.1))) z12.2)))) (some (List.take (Int.toNat z12.1) (List.drop 0 (List.take (Int.toNat z12.1) z12.2++List.replicate (List.length z12.2-(Int.toNat z12.1)) (0:Int)++List.drop ((Int.toNat z12.1)+(List.length z12.2-(Int.toNat z12.1))) z12.2))))))) (z4,n5,a))) (some a) (fun i x hi hx kn=>?_) (fun kn=>?_)) ?_
 ·try dsimp only
  unfold uB;rw[Ò hi,Š hi,Ė hx,ő hb,À,Ë hi (by omega),Đ]
 ·try dsimp only
  unfold uB;rw[à]
 ·cases h:a.findIdx? (fun x=>b.contains x) with
  |none =>
   have:ü a b=a:=by
    rw[ü,gi];intro x hx;have:=dA.1 h x hx;simpa using this
   rw[this]
  |some z =>
   obtain⟨hz,hc,hlt⟩:=dJ.1 h
   have h1:ieq (z:Int) (-1)=false:=by simp[ieq]
   try dsimp only
   rw[Î h1,Ë hz (by omega)];refine second z hz ?_ ?_
   ·rw[ü,gi];intro x hx;obtain⟨j,hj,rfl⟩:=cM.1 hx;rw[cT] at hj;rw[eO];have:=hlt j (by omega);simpa using this
   ·rw[cw hz]; exact hc
def Gu (l:List Int) (i:Nat) (a:Int):Option Bool:=if !inP a 1 1099511627776 then some false else if tr (fun x=>x) l i a then some false else none
def vt (l:List Int):Bool:=match ł (Gu l) 0 l with|some _=>false|none=>decide (l.length≤6)
def Dk {l:List Int} (hn:l.length≤1000000):lZ l=some (vt l):=by
 unfold lZ EW;refine Eq.trans (lU l (Gu l) some (some (decide (l.length≤6))) (fun i a hi ha kn=>?_) (fun kn=>?_)) ?_
 ·try dsimp only
  unfold oc;rw[Ò hi,È ha,Υ,À];unfold Gu
  cases inP a 1 1099511627776 with
  |false=>rfl
  |true =>
   simp only[dw,é,cQ,if_false];rcases fT i with h0|h0
   ·subst h0
    have:igt ((0:Nat):Int) 0=false:=by simp[igt]
    rw[Î this,Ë hi (by omega)];simp[tr]
   ·obtain⟨q,hq⟩:=RH hi h0
    have h1:igt (i:Int) 0=true:=by simp[igt]; omega
    rw[Ú h1,aca h0 (by omega),TQ h0 hq];simp only[tr,h0,decide_true,Bool.true_and,hq,Option.any_some];unfold ile
    cases h2:decide (a≤q) with
    |true=>rfl
    |false =>
     rw[é,Ë hi (by omega)];rfl
 ·try dsimp only
  unfold oc;rw[à,Ñ];simp[ile];omega
 ·have hb:∀x,ł (Gu l) 0 l=some x→x=false:=by
   have:∀(m:List Int) (j:Nat) (x:Bool),ł (Gu l) j m=some x→x=false:=by
    intro m
    induction m with
    |nil=>intro j x h; cases h
    |cons a m ih =>
     intro j x h;unfold ł at h
     cases hp:Gu l j a with
     |none=>rw[hp] at h; exact ih _ _ h
     |some y =>
      rw[hp] at h;cases h;unfold Gu at hp
      split at hp
      ·cases hp; rfl
      ·split at hp
       ·cases hp; rfl
       ·cases hp
   exact this l 0
  unfold vt
  cases h:ł (Gu l) 0 l with
  |none=>rfl
  |some x=>rw[hb x h]
def By (l:List Int):vt l=true↔(∀x∈l,1≤x∧x≤1099511627776)∧l.Pairwise (·<·)∧l.length≤6:=by
 have h0:ł (Gu l) 0 l=none↔(∀x∈l,1≤x∧x≤1099511627776)∧l.Pairwise (·<·):=by
  rw[iM,←HO (fun x=>x) l];constructor
  ·intro h
   have h1:∀(j:Nat) (a:Int),l[j]?=some a→inP a 1 1099511627776=true∧tr (fun x=>x) l j a=false:=by
    intro j a ha;have:=h j a ha;rw[Nat.zero_add] at this;unfold Gu at this
    split at this
    ·cases this
    ·split at this
     ·cases this
     ·rename_i h1 h2;exact⟨by simpa using h1,by simpa using h2⟩
   refine⟨fun x hx=>?_,fun i a ha=>(h1 i a ha).2⟩;obtain⟨j,hj,rfl⟩:=cM.1 hx;have:=(h1 j l[j] (cw hj)).1;simpa[inP] using this
  ·rintro⟨h1,h2⟩ j a ha;rw[dk];have h3:=h1 a (cG ha)
   have:inP a 1 1099511627776=true:=by simpa[inP] using h3
   simp[Gu,this,h2 j a ha]
 unfold vt
 cases h:ł (Gu l) 0 l with
 |none =>
  obtain⟨h1,h2⟩:=h0.1 h;simp only[decide_eq_true_eq];exact⟨fun h3=>⟨h1,h2,h3⟩,fun h3=>h3.2.2⟩
 |some x =>
  constructor
  ·intro h2; cases h2
  ·rintro⟨h1,h2,h3⟩;rw[h0.2 ⟨h1,h2⟩] at h; cases h
def Ln {a b:List Int} (ha:a.length≤1000000) (hb:b.length≤1000000):ģ [a,b]=some (a++b):=by
 have hk:∀n:Nat,n≤4000000→∀(f:Int→Option (List Int)),ck (n:Int) f=f n:=fun n h f=>Ó (by omega) (by omega) f
 have second:Ê (fun(v9:(Val (.pair tI (.slice tI)))) kk12=>Ĝ [a,b] (Ø [a,b]) v9.1 v9.2 (fun u10 u11=>kk12 (u10,u11)) (fun z8=>some z8)) ((0:Int),([]:List Int))=some (a++b):=by
  refine Ħ [a,b] (fun i=>([a,b].take i).flatten) (some (a++b)) (f:=fun(v9:(Val (.pair tI (.slice tI)))) kk12=>Ĝ [a,b] (Ø [a,b]) v9.1 v9.2 (fun u10 u11=>kk12 (u10,u11)) (fun z8=>some z8)) rfl (fun i x hi hx kn=>?_) (fun kn=>?_)
  ·try dsimp only
   unfold Ĝ;rw[Ò hi,È hx,Ë hi (by simp),take_succ hx,List.flatten_append]
   have:î ((List.take i [a,b]).flatten.length+x.length)=true:=by
    refine Ù ?_
    have h1:x.length≤1000000:=by
     have:=cG hx;simp at this
     rcases this with rfl|rfl<;>assumption
    have h2:(List.take i [a,b]).flatten.length≤2000000:=by
     have:i=0∨i=1:=by simp at hi; omega
     rcases this with rfl|rfl<;>simp<;>omega
    omega
   rw[ď this];simp
  ·try dsimp only
   unfold Ĝ;rw[à];simp
 unfold ģ kD;refine Ę (fun x:Int×Int=>∃i:Nat,i≤2∧x=((([a,b].take i).flatten.length:Int),(i:Int))) (fun x=>2-x.2.toNat) ?_ ⟨0,by omega,rfl⟩;rintro x ⟨i,hi,rfl⟩;rcases Nat.lt_or_ge i 2 with h2|h2
 ·refine .inr ⟨((([a,b].take (i+1)).flatten.length:Int),(i:Int)+1),⟨i+1,h2,by simp⟩,by simp; omega,fun kn=>?_⟩;have hi':i<[a,b].length:=h2;obtain⟨x,hx⟩:∃x,[a,b][i]?=some x:=⟨_,cw hi'⟩
  have hxl:x.length≤1000000:=by
   have:=cG hx;simp at this
   rcases this with rfl|rfl<;>assumption
  have h3:(List.take i [a,b]).flatten.length≤2000000:=by
   have:i=0∨i=1:=by omega
   rcases this with rfl|rfl<;>simp<;>omega
  try dsimp only
  unfold ž;rw[Ò hi',È hx,Ñ]
  have e1:(((List.take i [a,b]).flatten.length:Int)+(x.length:Int))=((List.take i [a,b]).flatten.length+x.length:Nat):=by omega
  rw[e1,hk _ (by omega)]
  have:ilt ((((List.take i [a,b]).flatten.length+x.length:Nat)):Int) 0=false:=by simp[ilt]; omega
  rw[Î this,Ë hi' (by simp),take_succ hx];simp
 ·refine .inl fun kn=>?_
  obtain rfl:i=2:=by omega
  try dsimp only
  unfold ž;rw[show((2:Nat):Int)=(([a,b].length:Nat):Int) from rfl,à]
  have e1:((List.take 2 [a,b]).flatten.length:Int)=((a.length+b.length:Nat):Int):=by simp
  have e2:ilt (((a.length+b.length:Nat)):Int) 0=false:=by simp[ilt]; omega
  rw[e1];dsimp only;rw[Î e2,Int.sub_zero,hk _ (by omega)];rcases Nat.eq_zero_or_pos (a.length+b.length) with h0|h0
  ·have:igt (((a.length+b.length:Nat)):Int) 0=false:=by simp[igt]; omega
   rw[Î this];exact second
  ·have:igt (((a.length+b.length:Nat)):Int) 0=true:=by simp[igt]; omega
   rw[Ú this]
   have:((ilt (0:Int) (((a.length+b.length:Nat)):Int))&&(î (Int.toNat (((a.length+b.length:Nat)):Int))))=true:=by
    rw[cO,Ù (by omega)];simp[ilt]; omega
   rw[ď this]
   have:ile 0 (ñ (List.replicate (Int.toNat (((a.length+b.length:Nat)):Int)) (0:Int)))=true:=by simp[ile]
   rw[ď this];exact second
def kZ (b:ġ) (id day:Int):Option Li:=b.2.2.2.1.find? fun l=>l.1==id&&inP day l.2.1.1 l.2.1.2
def QA {α:Type} (p:α→Bool):∀l:List α,l.find? p=(match l.findIdx? p with|some j=>l[j]?|none=>none)
 |[]=>rfl
 |a::l=>by
  rw[fB,List.findIdx?_cons]
  cases h:p a with
  |true=>simp
  |false =>
   simp only[cQ,if_false];rw[QA p l]
   cases l.findIdx? p<;>simp
def acG {b:ġ} (hn:b.2.2.2.1.length≤1000) (id day:Int):uR b id day=some (match kZ b id day with|some l=>(l,true)|none=>((0,(0,0),0),false)):=by
 unfold uR Qa;refine Eq.trans (jr b.2.2.2.1 (fun l=>l.1==id&&inP day l.2.1.1 l.2.1.2) (fun z5=>ifb (ilt z5 (0:Int)) (some (((0:Int),((0:Int),(0:Int)),(0:Int)),false)) (ğ b.2.2.2.1 z5 fun e6=>some (e6,true))) (some ((0,(0,0),0),false)) (fun i a hi ha kn=>?_) (fun kn=>?_)) ?_
 ·try dsimp only
  unfold uF;rw[Ò hi,È ha,Υ,À,Ë hi (by omega)]
  cases h1:(a.1==id) with
  |false =>
   have:ieq a.1 id=false:=h1;simp[this]
  |true =>
   have:ieq a.1 id=true:=h1;rw[this]
   cases inP day a.2.1.1 a.2.1.2<;>simp
 ·try dsimp only
  unfold uF;rw[à]
 ·unfold kZ;rw[QA]
  cases h:b.2.2.2.1.findIdx? (fun l=>l.1==id&&inP day l.2.1.1 l.2.1.2) with
  |none=>rfl
  |some j =>
   obtain⟨hj,_,_⟩:=dJ.1 h
   have:ilt (j:Int) 0=false:=by simp[ilt]
   try dsimp only
   rw[Î this,È (cw hj),cw hj]
section
variable {ρ:Type}
def ZR {α:Type} {all l:List α} (k:Option ρ) (h:l <+: all):yg all l k=k:=by unfold yg; rw[if_pos h]
def Qx {α β:Type} {f:List α→β→(List α→Option ρ)→Option ρ} {g:β→List α} {al:List α}:∀{xs:List β} {v:List α} {K:List α→Option ρ},
 (∀v y kn,y∈xs→(v++g y) <+: al→f v y kn=kn (v++g y))→(v++xs.flatMap g) <+: al→xn f xs v K=K (v++xs.flatMap g)
 |[],v,K,_,_=>by simp[xn]
 |x::xs,v,K,h,hp=>by
  rw[du,←cJ] at hp ⊢;rw[xn,h v x _ (by simp) ((dF _ _).trans hp),Qx (fun v y kn hy=>h v y kn (df _ hy)) hp]
end
def ZY {rec:List Int→Option (List Int)} {l xs:List Int} (h:xX l=some xs):jj xs rec l some=some (xs,l):=by
 unfold xX at h
 have hk:î l.length=true:=by cases e:î l.length with|true=>rfl|false=>rw[e] at h; cases h
 rw[ď hk] at h;cases h
 have hk2:l.length≤4294967296:=by simpa[î] using hk
 unfold jj
 refine Ħ l (fun i=>l.take i) _ rfl (fun i a hi ha kn=>?_) (fun kn=>?_)<;>(try dsimp only)<;>unfold gQ
 ·rw[Ò hi,È ha,←take_succ ha,ZR _ (List.take_prefix _ _),Ó (by omega) (by omega)]
 ·rw[à,fu]
def WH:∀(n:Nat) {l y:List Int},l.length=n→y∈Ei n l→y.length=n
 |0,l,y,_,h=>by simp[Ei] at h; simp[h]
 |n+1,l,y,hl,h=>by
  have hne:¬l.length=0:=by omega
  simp only[Ei,if_neg hne,dj,fp,cX] at h;obtain⟨i,hi,z,hz,rfl⟩:=h;have:=WH n (l:=l.take i++l.drop (i+1)) (by simp; omega) hz;simp[this]
def Q7:∀{l:List (Int×List Int)} {y:List (List Int)},y∈iw l→y.length=l.length
 |[],y,h=>by simp[iw] at h; simp[h]
 |m::r,y,h=>by
  simp only[iw,dj,cX] at h;obtain⟨x,_,z,hz,rfl⟩:=h;simp[Q7 hz]
def afu {α:Type} {n i:Nat} (h:i<n) (g:Nat→List α):((List.range i).flatMap g++g i) <+: (List.range n).flatMap g:=by
 have:List.range n=List.range i++i::(List.range (n-i-1)).map (i+1+·):=by
  rw[show n=(i+1)+(n-i-1) by omega,List.range_add,fC,cJ];simp[show i+1+(n-i-1)-i-1=n-i-1 by omega]
 rw[this,fm,du,←cJ];exact dF _ _
def Uv (n:Nat) (l:List Int):Option (List (List Int)):=ç (decide (l.length<n)&&decide (l.length≤9)) (some (Ei l.length l))
def aar {n:Nat} {l:List Int} (h:l.length<n) (h9:l.length≤9):Uv n l=some (Ei l.length l):=by unfold Uv; rw[ď (by simp[h,h9])]
def W7 {n:Nat} {l:List Int} {xs:List (List Int)} (h:Uv n l=some xs):l.length<n∧l.length≤9∧xs=Ei l.length l:=by
 unfold Uv at h
 cases hb:(decide (l.length<n)&&decide (l.length≤9)) with
 |false=>rw[hb] at h; cases h
 |true =>
  rw[hb] at h; cases h;simp only[cA,decide_eq_true_eq] at hb;exact⟨hb.1,hb.2,rfl⟩
def aaF {n:Nat} {l:List Int} {xs:List (List Int)} (h:Uv (n+1) l=some xs):wp xs (Uv n) l some=some (xs,l):=by
 obtain⟨h1,h2,rfl⟩:=W7 h;unfold wp
 by_cases h0:l.length=0
 ·obtain rfl:l=[]:=List.eq_nil_of_length_eq_zero h0;rw[show ifb (ieq (Ø ([]:List Int)) (0:Int))=fun(x y:Option (List (List Int)×List Int))=>x from by funext x y; simp[Ñ,ieq,Đ]];exact ZR _ (by simp[Ei])
 ·obtain⟨k,hk⟩:∃k,l.length=k+1:=⟨l.length-1,by omega⟩
  have hF:Ei l.length l=(List.range l.length).flatMap fun i=>(Ei k (l.take i++l.drop (i+1))).map (l.getD i 0::·):=by
   rw[hk];show(if l.length=0 then[[]] else _)=_;rw[if_neg h0,hk]
  have hne:ieq (Ø l) (0:Int)=false:=by rw[Ñ]; exact decide_eq_false (by omega)
  rw[Î hne];rw[hF]
  refine Ħ l (fun i=>(List.range i).flatMap fun i=>(Ei k (l.take i++l.drop (i+1))).map (l.getD i 0::·)) _ rfl (fun i a hi ha kn=>?_) (fun kn=>?_)<;>(try dsimp only)<;>unfold oR
  ·have hr:(l.take i++l.drop (i+1)).length=k:=by simp; omega
   rw[Ò hi,È ha,ď (by simp[ile,ñ]; omega),Ó (by omega) (by omega),ď (by simp[ile,ñ]; omega),cO,show Int.toNat ((i:Int)+1)=i+1 by omega,
    Ln (by simp; omega) (by simp; omega),À,aar (by omega) (by omega),À,hr]
   have hga:l.getD i 0=a:=by rw[dR,ha]; rfl
   have hm:∀xs:List (List Int),xs.map (l.getD i 0::·)=xs.flatMap fun y=>[a::y]:=fun xs=>by
    rw[hga]; induction xs with|nil=>rfl|cons x xs ih=>simp[ih]
   have hp:=afu hi fun i=>(Ei k (l.take i++l.drop (i+1))).map (l.getD i 0::·)
   have hs:(List.range (i+1)).flatMap (fun i=>(Ei k (l.take i++l.drop (i+1))).map (l.getD i 0::·))=(List.range i).flatMap (fun i=>(Ei k (l.take i++l.drop (i+1))).map (l.getD i 0::·))++(Ei k (l.take i++l.drop (i+1))).flatMap fun y=>[a::y]:=by
    rw[fC,fm,du,List.flatMap_nil,cW,hm]
   rw[hs];rw[hm] at hp;refine(Qx (g:=fun y=>[a::y]) (fun v y kn hy hv=>?_) hp).trans ?_
   ·unfold oQ;have:=WH k hr hy;rw[ď (Ù (by simp; omega))];exact ZR _ hv
   ·dsimp only;rw[Ó (by omega) (by omega)]
  ·rw[à]
def Uw (n:Nat) (l:List (Int×List Int)):Option (List (List (List Int))):=ç (decide (l.length<n)&&(decide (l.length≤9)&&l.all fun m=>decide (m.2.length≤9))) (some (iw l))
def W8 {n:Nat} {l:List (Int×List Int)} {xs:List (List (List Int))} (h:Uw n l=some xs):l.length<n∧l.length≤9∧(∀m∈l,m.2.length≤9)∧xs=iw l:=by
 unfold Uw at h
 cases hb:(decide (l.length<n)&&(decide (l.length≤9)&&l.all fun m=>decide (m.2.length≤9))) with
 |false=>rw[hb] at h; cases h
 |true =>
  rw[hb] at h; cases h;simp only[cA,decide_eq_true_eq,cY] at hb;exact⟨hb.1,hb.2.1,hb.2.2,rfl⟩
def aas {n:Nat} {l:List (Int×List Int)} (h:l.length<n) (h9:l.length≤9) (ha:∀m∈l,m.2.length≤9):Uw n l=some (iw l):=by
 unfold Uw; rw[ď (by simp only[Bool.and_eq_true,decide_eq_true_eq,List.all_eq_true]; exact⟨h,h9,ha⟩)]
def Wi {n:Nat} {l:List (Int×List Int)} {xs:List (List (List Int))} (h:Uw (n+1) l=some xs):rl xs (Uw n) l some=some (xs,l):=by
 obtain⟨h1,h2,h3,rfl⟩:=W8 h;unfold rl
 cases l with
 |nil =>
  rw[show ifb (ieq (Ø ([]:List (Int×List Int))) (0:Int))=fun(x y:Option (List (List (List Int))×List (Int×List Int)))=>x from by funext x y; simp[Ñ,ieq,Đ]];exact ZR _ (by simp[iw])
 |cons e r =>
  have hne:ieq (Ø (e::r)) (0:Int)=false:=by rw[Ñ]; exact decide_eq_false (by simp only[cN]; omega)
  rw[Î hne];have he:=h3 e (by simp);rw[show ğ (e::r) (0:Int)=fun f=>f e from by funext f; rfl];dsimp only;rw[show xY e.2=some (Ei e.2.length e.2) from by unfold xY; rw[ď (by simp[he])],À];have hF:iw (e::r)=(Ei e.2.length e.2).flatMap fun x=>(iw r).map (x::·):=rfl
  have hm:∀(x:List Int),(iw r).map (x::·)=(iw r).flatMap fun y=>[x::y]:=fun x=>by
   generalize iw r=ys
   induction ys with|nil=>rfl|cons y ys ih=>simp[ih]
  refine(Qx (g:=fun x=>(iw r).map (x::·)) (al:=iw (e::r)) (fun v x kn hx hv=>?_) (by rw[dL,←hF]; exact dD)).trans ?_
  ·unfold lN;simp only[List.length_cons] at h1 h2;rw[ď (by simp[ile,ñ]; omega),show List.drop 1 (e::r)=r from rfl,aas (by omega) (by omega) (fun m hm=>h3 m (by simp[hm])),À];rw[hm] at hv ⊢;refine Qx (g:=fun y=>[x::y]) (fun v y kn hy hv=>?_) hv;unfold lM;have:=Q7 hy;rw[ď (Ù (by simp; omega))];exact ZR _ hv
  ·rw[dL,←hF]
def YH {l:List Int} {xs:List (List Int)} (h:xY l=some xs):Uv 10 l=some xs:=by
 unfold xY at h
 cases hb:decide (l.length≤9) with
 |false=>rw[hb] at h; cases h
 |true =>
  rw[hb] at h; cases h;have:=of_decide_eq_true hb;exact aar (by omega) this
def T6 {l:List (Int×List Int)} {xs:List (List (List Int))} (h:lW l=some xs):Uw 10 l=some xs:=by
 unfold lW at h
 cases hb:(decide (l.length≤9)&&l.all fun m=>decide (m.2.length≤9)) with
 |false=>rw[hb] at h; cases h
 |true =>
  rw[hb] at h; cases h;simp only[cA,decide_eq_true_eq,cY] at hb;exact aas (by omega) hb.1 hb.2
end Go.Proofs.ZzM
end
