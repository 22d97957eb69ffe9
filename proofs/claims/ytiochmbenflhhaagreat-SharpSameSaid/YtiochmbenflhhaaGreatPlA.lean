/- lemmas -/
import Derived.Test.YtiochmbenflhhaaGreatAmG
import Derived.Test.YtiochmbenflhhaaGreatMdTA
set_option linter.all false
set_option linter.unusedSectionVars false
set_option linter.unusedVariables false
set_option linter.unusedSimpArgs false
noncomputable section
namespace Go.Am
section
variable {ρ:Type}
def ī {α β:Type} (e:Nat→α→Option β):Nat→List α→Option β
 |_,[]=>none
 |i,a::t=>match e i a with
  |some b=>some b
  |none=>ī e (i+1) t
def ky {α β:Type} (l:List α) (e:Nat→α→Option β) (k0:β→Option ρ) (k1:Option ρ) {f:Int→(Int→Option ρ)→Option ρ}
 (h:∀(i:Nat) (a:α),i<l.length→l[i]?=some a→∀kn,f i kn=match e i a with|some b=>k0 b|none=>kn ((i:Int)+1))
 (hn:∀kn,f l.length kn=k1):Ï f 0=match ī e 0 l with|some b=>k0 b|none=>k1:=by
 refine aiw l (fun i t=>match ī e i t with|some b=>k0 b|none=>k1) hn fun i a t hd hi ha kn hk=>?_;rw[h i a hi ha kn,hk,ī]
 cases e i a<;>rfl
def ü {α σ:Type} (l:List α) (g:Nat→σ) (r:Option ρ) {f:Int×σ→(Int×σ→Option ρ)→Option ρ} {s0:σ} (h0:g 0=s0)
 (h:∀(i:Nat) (a:α),i<l.length→l[i]?=some a→∀kn,f (i,g i) kn=kn ((i:Int)+1,g (i+1)))
 (hn:∀kn,f (l.length,g l.length) kn=r):Ï f (0,s0)=r:=by
 subst h0
 have hs:∀s,(s=g 0)→Ï f (0,s)=r:=fun s e=>Hv l (fun _ _ _=>r) (fun i s=>s=g i) (fun s hs kn=>by rw[hs]; exact hn kn) (fun i a t s hd hi ha hI kn hk=>by
  rw[hI,h i a hi ha kn]; exact hk _ rfl) e
 exact hs _ rfl
def aiv {α σ:Type} (l:List α) (g:Nat→σ) (r:Option ρ) {f:Int×σ→(Int×σ→Option ρ)→Option ρ} {s0:σ} (P:Nat→Prop) (h0:g 0=s0) (hP:P 0)
 (h:∀(i:Nat) (a:α),i<l.length→l[i]?=some a→P i→∀kn,f (i,g i) kn=r∨(P (i+1)∧f (i,g i) kn=kn ((i:Int)+1,g (i+1))))
 (hn:P l.length→∀kn,f (l.length,g l.length) kn=r):Ï f (0,s0)=r:=by
 subst h0
 have hs:∀s,(s=g 0∧P 0)→Ï f (0,s)=r:=fun s e=>Hv l (fun _ _ _=>r) (fun i s=>s=g i∧P i) (fun s hs kn=>by rw[hs.1]; exact hn hs.2 kn) (fun i a t s hd hi ha hI kn hk=>by
  rcases h i a hi ha hI.2 kn with h1|⟨h1,h2⟩
  ·rw[hI.1,h1]
  ·rw[hI.1,h2]; exact hk _ ⟨rfl,h1⟩) e
 exact hs _ ⟨rfl,hP⟩
def Í {i n:Nat} (h:i<n) (hn:n≤1000000000) (f:Int→Option ρ):ck ((i:Int)+1) f=f ((i:Int)+1):=Ö (by omega) (by omega) f
def ifb_lt {i n:Nat} (h:i<n) (x y:Option ρ):ifb (ilt (i:Int) (ahg n)) x y=x:=by simp[ġ,Oh,h]
def â (n:Nat) (x y:Option ρ):ifb (ilt (n:Int) (ahg n)) x y=y:=by simp[ġ,Oh]
def Ô {α:Type} {l:List α} {i:Nat} (h:i<l.length) (x y:Option ρ):ifb (ilt (i:Int) (Õ l)) x y=x:=ifb_lt h x y
def QO {α:Type} (p:α→Bool):∀(i:Nat) (l:List α),ī (fun i a=>bif p a then some (i:Int) else none) i l=(l.findIdx? p).map fun j=>((i+j:Nat):Int)
 |_,[]=>rfl
 |i,a::t=>by
  simp only[ī,List.findIdx?_cons]
  cases hp:p a with
  |true=>simp
  |false =>
   simp only[cond_false,dl,if_false];rw[QO p (i+1) t]
   cases t.findIdx? p with
   |none=>rfl
   |some j=>simp only[dS]; congr 1; omega
def iE {α β:Type} {e:Nat→α→Option β}:∀{i:Nat} {l:List α},ī e i l=none↔∀j a,l[j]?=some a→e (i+j) a=none
 |_,[]=>by simp[ī]
 |i,a::t=>by
  simp only[ī];constructor
  ·intro h j b hb
   cases he:e i a with
   |some c=>rw[he] at h; cases h
   |none =>
    rw[he] at h
    cases j with
    |zero=>simp at hb; subst hb; simpa using he
    |succ j=>have:=(iE.1 h) j b (by simpa using hb); rw[←this]; congr 1; omega
  ·intro h;have h0:=h 0 a (by simp);simp only[fA] at h0;rw[h0]
   exact iE.2 fun j b hb=>by have:=h (j+1) b (by simpa using hb); rw[←this]; congr 1; omega
def take_succ {α:Type} {l:List α} {i:Nat} {a:α} (h:l[i]?=some a):l.take (i+1)=l.take i++[a]:=by rw[List.take_succ,h]; rfl
end
end Go.Am
end

noncomputable section
namespace Go.Proofs.ZzM
open Go Go.Am
section
variable {ρ:Type}
def ł {τ:Type} {f:τ→(τ→Option ρ)→Option ρ} {r:Option ρ} (I:τ→Prop) (μ:τ→Nat)
 (h:∀x,I x→(∀kn,f x kn=r)∨∃y,I y∧μ y<μ x∧∀kn,f x kn=kn y) {x:τ} (hx:I x):Ï f x=r :=
 tR (F:=fun _=>r) I μ (fun x hx kn hk=>by
  rcases h x hx with h1|⟨y,h1,h2,h3⟩
  ·exact h1 kn
  ·rw[h3,hk y h1 h2]) hx
def gZ {α:Type} (l:List α) (p:α→Bool) (k0:Int→Option ρ) (k1:Option ρ) {f:Int→(Int→Option ρ)→Option ρ}
 (h:∀(i:Nat) (a:α),i<l.length→l[i]?=some a→∀kn,f i kn=if p a then k0 i else kn ((i:Int)+1))
 (hn:∀kn,f l.length kn=k1):Ï f 0=match l.findIdx? p with|some j=>k0 j|none=>k1:=by
 rw[ky l (fun i a=>bif p a then some (i:Int) else none) k0 k1 (fun i a hi ha kn=>by rw[h i a hi ha kn]; cases p a<;>rfl) hn,QO]
 cases l.findIdx? p with
 |none=>rfl
 |some j=>simp
def ķ {α:Type} (l:List α) (p:α→Bool) (k0:Int→Option ρ) (K k1:Option ρ) {f:Int→(Int→Option ρ)→Option ρ} (hK:∀j:Nat,k0 j=K)
 (h:∀(i:Nat) (a:α),i<l.length→l[i]?=some a→∀kn,f i kn=if p a then k0 i else kn ((i:Int)+1))
 (hn:∀kn,f l.length kn=k1):Ï f 0=if l.any p then K else k1:=by
 rw[gZ l p k0 k1 h hn]
 cases hf:l.findIdx? p with
 |none =>
  have:l.any p=false:=by
   rw[eV];intro x hx;have:=eG.1 hf x hx;simp[this]
  simp[this]
 |some j =>
  have:l.any p=true:=by
   have:=dL.1 hf;obtain⟨hj,hp,_⟩:=this;exact fu.2 ⟨_,eE hj,hp⟩
  simp[this,hK]
end
abbrev í:Type:=Int×Int×Int×(Int×Int)×((Int×Int)×Int)
abbrev LV:Type:=Int×((Int×Int)×Int)
abbrev Cmp:Type:=Int×Int×List Int×List Int×Int×(Int×(Int×Int))
abbrev Þ:Type:=(Int×Int)×List í×List (Int×Int)×List LV×List Cmp×List (Int×Int)
abbrev Sys:Type:=Int×List (Int×Int×Int)
abbrev Maker:Type:=Þ×List (Int×Int)×Sys×List (Int×Int)
section
variable {ρ:Type}
def Ù {b:Bool} (h:b=true) (x y:Option ρ):ifb b x y=x:=by rw[h]; rfl
def Ó {b:Bool} (h:b=false) (x y:Option ρ):ifb b x y=y:=by rw[h]; rfl
end
def I64 (n:Int):Prop:=-9223372036854775808≤n∧n≤9223372036854775807
def inP (n lo hi:Int):Bool:=decide (lo≤n)&&decide (n≤hi)
def Ct (n:Int):Bool:=inP n 0 20000
def jJ (s:Int×Int) (lo hi:Int):Bool:=decide (lo≤s.1)&&(decide (s.1≤s.2)&&decide (s.2≤hi))
def gT (n lo hi:Int):ĝ n lo hi=some (inP n lo hi):=by
 unfold ĝ JE inP ile
 cases decide (lo≤n)<;>rfl
def XR (n:Int):nj n=some (Ct n):=by
 unfold nj Qn;rw[gT]; rfl
def Hy (s:Int×Int) (lo hi:Int):Μ s lo hi=some (jJ s lo hi):=by
 unfold Μ JK jJ ile
 cases decide (lo≤s.1)<;>cases decide (s.1≤s.2)<;>rfl
def Vp {n:Int} (h:I64 n):rB n=some (n.natAbs:Int):=by
 obtain⟨h1,h2⟩:=h;unfold rB Xh
 by_cases hn:n<0
 ·have:ilt n 0=true:=by simpa using hn
  rw[Ù this];congr 1;simp only[IntKind.wrap,IntKind.bits,IntKind.signed];simp;omega
 ·have:ilt n 0=false:=by simpa using hn
  rw[Ó this];congr 1;simp only[IntKind.wrap,IntKind.bits,IntKind.signed];simp;omega
def amq (a b:Nat):QT a b=some ((Nat.gcd a b:Nat):Int):=by
 unfold QT adg;refine ł (fun x:Int×Int=>∃c d:Nat,x=((c:Int),(d:Int))∧Nat.gcd c d=Nat.gcd a b) (fun x=>x.2.toNat) ?_ ⟨a,b,rfl,rfl⟩;rintro x ⟨c,d,rfl,hg⟩
 cases d with
 |zero =>
  refine .inl fun kn=>?_;rw[Nat.gcd_zero_right] at hg;unfold zR;simp[hg,ine]
 |succ d =>
  refine .inr ⟨(((d+1:Nat):Int),((c % (d+1):Nat):Int)),⟨d+1,c % (d+1),rfl,?_⟩,?_,fun kn=>?_⟩
  ·rw[←hg,gO c (d+1),Nat.gcd_rec (d+1) c,gO]
  ·have:=gy c (gu d);simp only[dt];omega
  ·unfold zR
   have h1:ine ((d+1:Nat):Int) 0=true:=by simp[ine]; omega
   have h2:Ħ ((d+1:Nat):Int) 0=false:=by simp[Ħ]; omega
   simp only[h1,Ù Ó h2];congr 1
def Kz (r:Int×Int):Bool :=
 decide (1≤r.2)&&(decide (r.2≤2147483647)&&(decide ((r.1.natAbs:Int)≤2147483647)&&decide (Nat.gcd r.1.natAbs r.2.natAbs=1)))
def Yw {r:Int×Int} (h:I64 r.1):ug r=some (Kz r):=by
 unfold ug P4 Kz
 by_cases h1:1≤r.2
 ·by_cases h2:r.2≤2147483647
  ·have h3:I64 r.2:=⟨by omega,by omega⟩
   have e1:ige r.2 1=true:=by simp[ige,h1]
   have e2:ile r.2 2147483647=true:=by simp[ile,h2]
   rw[Ù e1,Ù e2,Vp h,À]
   by_cases h4:(r.1.natAbs:Int)≤2147483647
   ·have e4:ile (r.1.natAbs:Int) 2147483647=true:=by simp[ile,h4]
    rw[Ù e4,À,Vp h3,À,amq,À];congr 1;rw[dM];simp only[ieq,beq_iff_eq,h1,h2,h4,decide_true,dO,decide_eq_true_eq];omega
   ·have e4:ile (r.1.natAbs:Int) 2147483647=false:=by simp[ile]; omega
    rw[Ó e4];simp[h4]
  ·have e1:ige r.2 1=true:=by simp[ige,h1]
   have e2:ile r.2 2147483647=false:=by simp[ile]; omega
   rw[Ù e1,Ó e2];simp[h2]
 ·have e1:ige r.2 1=false:=by simp[ige]; omega
  rw[Ó e1];simp[h1]
def pH (g:í):Bool :=
 Kz g.2.2.2.2.1&&inP g.2.2.2.2.1.1 (-1000) 1000&&decide (g.2.2.2.2.1.2≤100)&&inP g.1 1 1099511627776&&Ct g.2.1&&inP g.2.2.1 1 1125899906842624&&jJ g.2.2.2.1 (-1073741824) 1073741824&&inP g.2.2.2.2.2 0 1048576
def agq {g:í} (h:I64 g.2.2.2.2.1.1):vV g=some (pH g):=by
 unfold vV DZ pH;rw[Yw h,gT,gT,XR,gT,Hy,gT];generalize Kz g.2.2.2.2.1=x1;generalize inP g.2.2.2.2.1.1 (-1000) 1000=x2;generalize inP g.1 1 1099511627776=x3;generalize Ct g.2.1=x4;generalize inP g.2.2.1 1 1125899906842624=x5;generalize jJ g.2.2.2.1 (-1073741824) 1073741824=x6;generalize inP g.2.2.2.2.2 0 1048576=x7;unfold ile;generalize decide (g.2.2.2.2.1.2≤100)=x8
 cases x1<;>cases x2<;>cases x3<;>cases x4<;>cases x5<;>cases x6<;>cases x8<;>rfl
section
variable {ρ:Type}
def HA {α:Type} {l:List α} {i:Nat} {a:α} (h0:0<i) (h:l[i-1]?=some a) (f:α→Option ρ):ò l ((i:Int)-1) f=f a:=by
 have:((i:Int)-1)=((i-1:Nat):Int):=by omega
 rw[this,É h]
def Q7 {i:Nat} (h:0<i) (hn:i≤1000000000) (f:Int→Option ρ):ck ((i:Int)-1) f=f ((i:Int)-1):=Ö (by omega) (by omega) f
def g9 {i n:Nat} (h:i<n) (x:Option ρ):ë ((ile 0 (i:Int))&&(ilt (i:Int) (n:Int))) x=x:=by
 have:((ile 0 (i:Int))&&(ilt (i:Int) (n:Int)))=true:=by simp[ile,ilt,h]
 rw[this,Am.iff_true]
def Ĥ {α:Type} {l:List α} {i:Nat} {a:α} (h:l[i]?=some a) (f:α→Option ρ):ĩ l (Int.toNat (i:Int)) f=f a:=by
 rw[dt]; exact uE h f
end
def Eh {α:Type} (key:α→Int) (l:List α) (i:Nat) (a:α):Bool :=
 decide (0<i)&&(l[i-1]?).any fun q=>decide (key a≤key q)
def Ez {α:Type} {l:List α} {i:Nat} (hi:i<l.length) (h0:0<i):∃q,l[i-1]?=some q :=
 ⟨l[i-1],cO (by omega)⟩
def Yp {α:Type} (key:α→Int) (l:List α):(∀i a,l[i]?=some a→Eh key l i a=false)↔l.Pairwise (fun a b=>key a<key b):=by
 rw[dI];constructor
 ·intro h
  have step:∀i (h1:i+1<l.length),key l[i]<key l[i+1]:=by
   intro i h1;have:=h (i+1) l[i+1] (cO h1);simp only[Eh,Nat.add_sub_cancel,gu,decide_true,dO,cO (show i<l.length by omega),Option.any_some,decide_eq_false_iff_not] at this;omega
  intro i j hi hj hij
  induction j with
  |zero=>omega
  |succ j ih =>
   have:=step j hj;rcases dE i j with hlt|hge
   ·have:=ih (by omega) hlt; omega
   ·have:i=j:=by omega
    subst this; assumption
 ·intro h i a ha;obtain⟨hi,rfl⟩:=List.getElem?_eq_some_iff.1 ha;unfold Eh
  cases i with
  |zero=>rfl
  |succ i =>
   have:=h i (i+1) (by omega) hi (by omega);simp only[Nat.add_sub_cancel,gu,decide_true,dO,cO (show i<l.length by omega),Option.any_some,decide_eq_false_iff_not];omega
def nM (l:List í) (i:Nat) (g:í):Option Int :=
 if !pH g then some 1 else if Eh (fun g=>g.1) l i g then some 6 else none
def jn (b:Þ):Int:=(ī (nM b.2.1) 0 b.2.1).getD 0
def TC {b:Þ} (hr:∀g∈b.2.1,I64 g.2.2.2.2.1.1) (hn:b.2.1.length≤1000):ŵ b=some (jn b):=by
 unfold ŵ pD;refine Eq.trans (ky b.2.1 (nM b.2.1) some (some 0) (fun i a hi ha kn=>?_) (fun kn=>?_)) ?_
 ·try dsimp only
  unfold jc;rw[Ô hi,É ha,agq (hr a (List.mem_of_getElem? ha)),À];unfold nM
  cases hg:pH a with
  |false=>simp
  |true =>
   simp only[dN,é,dl,if_false];rcases fw i with h0|h0
   ·subst h0
    have:igt ((0:Nat):Int) 0=false:=by simp[igt]
    rw[Ó this,Í hi (by omega)];simp[Eh]
   ·obtain⟨q,hq⟩:=Ez hi h0
    have h1:igt (i:Int) 0=true:=by simp[igt]; omega
    rw[Ù h1,Q7 h0 (by omega),HA h0 hq];simp only[Eh,h0,decide_true,Bool.true_and,hq,Option.any_some];unfold ile
    cases h2:decide (a.1≤q.1) with
    |true=>simp
    |false =>
     rw[é,Í hi (by omega)];simp
 ·try dsimp only
  unfold jc;rw[â]
 ·unfold jn
  cases ī (nM b.2.1) 0 b.2.1<;>rfl
def YZ (l:List í):List (Int×í):=l.foldl (fun m g=>Nl (k:=tI) (v:=Ð) g.1 g m) []
def ir (b:Þ):List (Int×í):=YZ b.2.1
def TO {b:Þ} (hn:b.2.1.length≤1000):θ b=some (ir b):=by
 unfold θ DW;refine ü b.2.1 (fun i=>YZ (b.2.1.take i)) _ rfl (fun i a hi ha kn=>?_) (fun kn=>?_)
 ·try dsimp only
  unfold mD;rw[Ô hi,É ha,Í hi (by omega),take_succ ha];simp only[YZ,List.foldl_append,List.foldl_cons,List.foldl_nil]
 ·try dsimp only
  unfold mD;rw[â,List.take_length];rfl
def ZM (x y:Int) (g:í):∀m:List (Int×í),sL (k:=tI) (v:=Ð) x (Nl (k:=tI) (v:=Ð) y g m)=if x=y then some g else sL (k:=tI) (v:=Ð) x m
 |[]=>by
  unfold Nl sL ki sL
  by_cases h:x=y<;>simp[h]
 |e::m=>by
  unfold Nl
  by_cases h:y=e.1
  ·have:ki tI y e.1=true:=by simp[ki,h]
   rw[this]
   try dsimp only
   unfold sL ki
   by_cases h2:x=y
   ·simp[h2]
   ·have:¬x=e.1:=fun h3=>h2 (h3.trans h.symm);simp[h2,this]
  ·have:ki tI y e.1=false:=by simp[ki,h]
   rw[this]
   try dsimp only
   have ih:=ZM x y g m;unfold sL
   by_cases h2:x=e.1
   ·have:ki tI x e.1=true:=by simp[ki,h2]
    rw[this];have:¬x=y:=fun h3=>h (h3.symm.trans h2);simp[this]
   ·have:ki tI x e.1=false:=by simp[ki,h2]
    rw[this];exact ih
def ť (b:Þ) (id:Int):Option í:=b.2.1.find? fun g=>g.1==id
def acI (x:Int) (l:List í):sL (k:=tI) (v:=Ð) x (YZ l)=l.reverse.find? fun g=>g.1==x:=by
 unfold YZ;rw[←List.foldr_reverse]
 induction l.reverse with
 |nil=>rfl
 |cons g t ih =>
  rw[List.foldr_cons,ZM,ih,gp]
  by_cases h:x=g.1
  ·simp[h]
  ·have:(g.1==x)=false:=by simp; exact fun h2=>h h2.symm
   simp[h,this]
def abx {l:List í} (h:l.Pairwise fun a b=>a.1<b.1) (x:Int):l.reverse.find? (fun g=>g.1==x)=l.find? fun g=>g.1==x:=by
 induction l with
 |nil=>rfl
 |cons g t ih =>
  rw[dH] at h;rw[List.reverse_cons,List.find?_append,ih h.2,gp]
  by_cases hx:g.1=x
  ·have:t.find? (fun g=>g.1==x)=none:=eD.2 fun y hy=>by have:g.1<y.1:=h.1 y hy; simp; omega
   rw[this]; simp[hx]
  ·have:(g.1==x)=false:=by simp[hx]
   simp[this]
def zL {b:Þ} (h:b.2.1.Pairwise fun a b=>a.1<b.1) (x:Int):sL (k:=tI) (v:=Ð) x (ir b)=ť b x:=by
 unfold ir ť;rw[acI,abx h]
def mJ (s:List (Int×í)) (id day:Int):Int :=
 match sL (k:=tI) (v:=Ð) id s with
 |some g=>if day<g.2.1 then 4 else 0
 |none=>5
def acK (s:List (Int×í)) (id day:Int):iY s id day=some (mJ s id day):=by
 unfold iY rZ mJ
 cases h:sL (k:=tI) (v:=Ð) id s with
 |none=>simp only[YD,h]
 |some g =>
  simp only[YD,h];rw[ġ]
  by_cases h2:day<g.2.1<;>simp[h2]
def afQ (s:List (Int×í)) (id day:Int):Int:=if !Ct day then 1 else mJ s id day
def Zh (s:List (Int×í)) (id day:Int):ĺ id day s=some (afQ s id day):=by
 unfold ĺ DY afQ;rw[XR,À,acK,À]
 cases Ct day<;>rfl
def TA (b:Þ) (s:List (Int×í)) (i:Nat) (l:LV):Int :=
 if !jJ l.2.1 0 20000 then 1 else if !inP l.2.2 0 1048576 then 1 else if mJ s l.1 l.2.1.1 != 0 then mJ s l.1 l.2.1.1 else
 if (b.2.2.2.1.take i).any (fun x=>x.1==l.1&&(decide (x.2.1.1≤l.2.1.2)&&decide (l.2.1.1≤x.2.1.2))) then 9 else
 if b.2.2.1.any (fun u=>u.1==l.1&&inP u.2 l.2.1.1 l.2.1.2) then 9 else 0
def abK {b:Þ} (hn:b.2.2.2.1.length≤1000) (hu:b.2.2.1.length≤1000) (s:List (Int×í)) {i:Nat} {l:LV} (hl:b.2.2.2.1[i]?=some l):Υ b s i=some (TA b s i l):=by
 unfold Υ vB TA;have hi:i<b.2.2.2.1.length:=(List.getElem?_eq_some_iff.1 hl).1;rw[É hl,Hy,À,gT,À,acK,À]
 cases jJ l.2.1 0 20000 with
 |false=>rfl
 |true =>
 cases inP l.2.2 0 1048576 with
 |false=>rfl
 |true =>
 cases hm:(mJ s l.1 l.2.1.1 != 0) with
 |true =>
  have:ine (mJ s l.1 l.2.1.1) 0=true:=hm;simp[this]
 |false =>
 have hm':ine (mJ s l.1 l.2.1.1) 0=false:=hm
 have hg:((ile (0:Int) (i:Int))&&(ile (i:Int) (ă b.2.2.2.1)))=true:=by simp[ile,ă]; omega
 simp only[dN,é,hm',dl,if_false];rw[Ī hg,dt]
 have inner:∀(k:Int→Option Int),Ï (fun(v:Int) kk=>Κ b.2.2.1 (Õ b.2.2.1) l.1 l.2.1.1 l.2.1.2 v (fun u=>kk u) (fun z=>ifb (ige z 0) (k 9) (k 0)) (fun _=>k 0)) (0:Int)=if b.2.2.1.any (fun u=>u.1==l.1&&inP u.2 l.2.1.1 l.2.1.2) then k 9 else k 0:=by
  intro k;refine ķ b.2.2.1 _ (fun z=>ifb (ige z 0) (k 9) (k 0)) (k 9) (k 0) (fun j=>?_) (fun j a hj ha kn=>?_) (fun kn=>?_)
  ·have:ige (j:Int) 0=true:=by simp[ige]
   rw[Ù this]
  ·try dsimp only
   unfold Κ;rw[Ô hj,É ha,gT,À,Í hj (by omega)]
   cases h1:(a.1==l.1) with
   |false =>
    have:ieq a.1 l.1=false:=h1;simp[this]
   |true =>
    have:ieq a.1 l.1=true:=h1;rw[this]
    cases inP a.2 l.2.1.1 l.2.1.2<;>simp
  ·try dsimp only
   unfold Κ;rw[â]
 rw[inner];refine eY (ķ (b.2.2.2.1.take i) (fun x=>x.1==l.1&&(decide (x.2.1.1≤l.2.1.2)&&decide (l.2.1.1≤x.2.1.2))) (fun z=>ifb (ige z 0) (some 9) (if b.2.2.1.any (fun u=>u.1==l.1&&inP u.2 l.2.1.1 l.2.1.2) then some 9 else some 0)) (some 9) (if b.2.2.1.any (fun u=>u.1==l.1&&inP u.2 l.2.1.1 l.2.1.2) then some 9 else some 0) (fun j=>?_) (fun j a hj ha kn=>?_) (fun kn=>?_)) ?_
 ·have:ige (j:Int) 0=true:=by simp[ige]
  rw[Ù this]
 ·try dsimp only
  unfold j3
  have hj':j≤1000:=by rw[di] at hj; omega
  rw[Ô hj,É ha,Í hj (by rw[di]; omega)]
  cases h1:(a.1==l.1) with
  |false =>
   have:ieq a.1 l.1=false:=h1;simp[this]
  |true =>
   have:ieq a.1 l.1=true:=h1;rw[this]
   cases h2:decide (a.2.1.1≤l.2.1.2)<;>cases h3:decide (l.2.1.1≤a.2.1.2)<;>simp[ile,h2,h3,ġ]<;>simp_all
 ·try dsimp only
  unfold j3;rw[â]
 ·cases List.any (b.2.2.2.1.take i) _<;>cases b.2.2.1.any _<;>rfl
def akq {l:List Int} (hn:l.length≤1000000) (x:Int):jB l x=some (match l.findIdx? (·==x) with|some j=>(j:Int)|none=>-1):=by
 unfold jB lV;refine Eq.trans (gZ l (·==x) some (some (-1)) (fun i a hi ha kn=>?_) (fun kn=>?_)) ?_
 ·try dsimp only
  unfold gR;rw[Ô hi,É ha,Í hi (by omega),ġ]
  by_cases h:x=a
  ·subst h; simp[ieq]
  ·have h2:¬a=x:=fun e=>h e.symm;simp[ieq,h,h2]
 ·try dsimp only
  unfold gR;rw[â]
 ·cases l.findIdx? (·==x)<;>rfl
def kH {l:List Int} (hn:l.length≤1000000) (x:Int):Ĕ l x=some (l.contains x):=by
 unfold Ĕ jH;rw[akq hn,À];congr 1
 cases h:l.findIdx? (·==x) with
 |none =>
  have:l.contains x=false:=by
   rw[ez];intro hc;have:=eG.1 h x (by simpa using hc);simp at this
  rw[this]; rfl
 |some j =>
  obtain⟨hj,hp,_⟩:=dL.1 h
  have:l.contains x=true:=by
   have h2:l[j]=x:=by simpa using hp
   rw[←h2]; simp
  rw[this];simp[ige]
def ê (a b:List Int):List Int:=a.filter fun x=>!b.contains x
def sc {a b:List Int} (ha:a.length≤1000000) (hb:b.length≤1000000):Ŧ a b=some (ê a b):=by
 unfold Ŧ Xx;rw[Ø (by omega),Am.iff_true]
 have second:∀z:Nat,z<a.length→ê (a.take z) b=a.take z→b.contains (a[z]?.getD 0)=true →
  Ï (fun(v13:(Val (.pair tI (.pair tI (.slice tI))))) kk17=>kg b v13.1 v13.2.1 v13.2.2 (fun u14 u15 u16=>kk17 (u14,u15,u16)) (fun z12=>ë ((ile (0:Int) z12.1)&&(ile z12.1 (ă z12.2))) (ë ((ile (0:Int) z12.1)&&(ile z12.1 (ă (List.take (Int.toNat z12.1) z12.2++List.replicate (List.length z12.2-(Int.toNat z12.1)) (0:Int)++List.drop ((Int.toNat z12.1)+(List.length z12.2-(Int.toNat z12.1))) z12.2)))) (some (List.take (Int.toNat z12.1) (List.drop 0 (List.take (Int.toNat z12.1) z12.2++List.replicate (List.length z12.2-(Int.toNat z12.1)) (0:Int)++List.drop ((Int.toNat z12.1)+(List.length z12.2-(Int.toNat z12.1))) z12.2))))))) ((z:Int),((z:Int)+1),a)=some (ê a b):=by
  intro z hz hp hc
  refine ł (fun x:Int×Int×List Int=>∃i j:Nat,x.1=i∧x.2.1=j∧i<j∧j≤a.length∧x.2.2.length=a.length∧x.2.2.take i=ê (a.take j) b∧x.2.2.drop j=a.drop j) (fun x=>a.length-x.2.1.toNat) ?_
   ⟨z,z+1,rfl,by simp,by omega,by omega,rfl,?_,rfl⟩
  ·rintro⟨x1,x2,s⟩ ⟨i,j,h1,h2,hij,hja,hl,ht,hd⟩;simp only at h1 h2 hl ht hd;subst h1 h2;rcases dE j a.length with hj|hj
   ·refine .inr ?_
    have hsj:s[j]?=some a[j]:=by
     have h3:(s.drop j)[0]?=(a.drop j)[0]?:=by rw[hd]
     rw[ff,ff] at h3;simpa[cO hj] using h3
    have hjs:j<s.length:=by omega
    have hta:ê (a.take (j+1)) b=ê (a.take j) b++if b.contains a[j] then[] else[a[j]]:=by
     rw[take_succ (cO hj),ê,ê,gx];congr 1
     cases h:b.contains a[j] with
     |true=>simp only[dT,h,dN,dl,if_false,dW,if_true]
     |false=>simp only[dT,h,f7,dl,if_false,dW,if_true]
    cases h:b.contains a[j] with
    |true =>
     refine⟨(i,(j:Int)+1,s),⟨i,j+1,rfl,by simp,by omega,by omega,hl,?_,?_⟩,by simp; omega,fun kn=>?_⟩
     ·rw[hta,h]; simpa using ht
     ·have:=congrArg (List.drop 1) hd;simpa[f9,Nat.add_comm] using this
     ·try dsimp only
      unfold kg;rw[Ô hjs,g9 hjs,Ĥ hsj,kH hb,À,h];simp only[Bool.not_true,é];rw[Í hjs (by omega)]
    |false =>
     have his:i<s.length:=by omega
     refine⟨((i:Int)+1,(j:Int)+1,s.set i a[j]),⟨i+1,j+1,by simp,by simp,by omega,by omega,by simpa using hl,?_,?_⟩,by simp; omega,fun kn=>?_⟩
     ·show List.take (i+1) (s.set i a[j])=_;rw[hta,h,List.take_succ,f6,List.take_set_of_le (cQ i),ht];simp[his]
     ·show List.drop (j+1) (s.set i a[j])=_;rw[List.drop_set_of_lt (by omega)];have:=congrArg (List.drop 1) hd;simpa[f9,Nat.add_comm] using this
     ·try dsimp only
      unfold kg;rw[Ô hjs,g9 hjs,Ĥ hsj,kH hb,À,h];simp only[Bool.not_false,Ō];rw[g9 his,Ĥ (List.getElem?_eq_getElem his),Í his (by omega),Í hjs (by omega),Int.toNat_natCast]
   ·refine .inl fun kn=>?_
    have hje:j=s.length:=by omega
    try dsimp only
    unfold kg;rw[hje,â];dsimp only
    have g1:((ile (0:Int) (i:Int))&&(ile (i:Int) (ă s)))=true:=by simp[ile,ă]; omega
    rw[Ī g1]
    have g2:((ile (0:Int) (i:Int))&&(ile (i:Int) (ă (List.take (Int.toNat (i:Int)) s++List.replicate (List.length s-(Int.toNat (i:Int))) (0:Int)++List.drop ((Int.toNat (i:Int))+(List.length s-(Int.toNat (i:Int)))) s))))=true:=by
     simp[ile,ă]; omega
    rw[Ī g2,dt,List.drop_zero,dn,List.take_append_of_le_length (by simp; omega),List.take_take,Nat.min_self,ht];rw[dV (by omega)]
  ·show List.take z a=ê (a.take (z+1)) b;have hz':a[z]?=some a[z]:=cO hz;rw[take_succ hz',ê,gx];rw[hz'] at hc;simp only[fH] at hc
   have:List.filter (fun x=>!b.contains x) [a[z]]=[]:=by simp only[dT,hc,dN,dl,if_false,dW]
   rw[this,dK];exact hp.symm
 refine eY (gZ a (fun x=>b.contains x) (fun z4=>ifb (ieq z4 (-1:Int)) (some a) (ck (z4+(1:Int)) fun n5=>Ï (fun(v13:(Val (.pair tI (.pair tI (.slice tI))))) kk17=>kg b v13.1 v13.2.1 v13.2.2 (fun u14 u15 u16=>kk17 (u14,u15,u16)) (fun z12=>ë ((ile (0:Int) z12.1)&&(ile z12.1 (ă z12.2))) (ë ((ile (0:Int) z12.1)&&(ile z12.1 (ă (List.take (Int.toNat z12.1) z12.2++List.replicate (List.length z12.2-(Int.toNat z12.1)) (0:Int)++List.drop ((Int.toNat z12.1)+(List.length z12.2-(Int.toNat z12.1))) z12.2)))) (some (List.take (Int.toNat z12.1) (List.drop 0 (List.take (Int.toNat z12.1) z12.2++List.replicate (List.length z12.2-(Int.toNat z12.1)) (0:Int)++List.drop ((Int.toNat z12.1)+(List.length z12.2-(Int.toNat z12.1))) z12.2))))))) (z4,n5,a))) (some a) (fun i x hi hx kn=>?_) (fun kn=>?_)) ?_
 ·try dsimp only
  unfold vy;rw[Ô hi,g9 hi,Ĥ hx,kH hb,À,Í hi (by omega),ġ]
 ·try dsimp only
  unfold vy;rw[â]
 ·cases h:a.findIdx? (fun x=>b.contains x) with
  |none =>
   have:ê a b=a:=by
    rw[ê,List.filter_eq_self];intro x hx;have:=eG.1 h x hx;simpa using this
   rw[this]
  |some z =>
   obtain⟨hz,hc,hlt⟩:=dL.1 h
   have h1:ieq (z:Int) (-1)=false:=by simp[ieq]
   try dsimp only
   rw[Ó h1,Í hz (by omega)];refine second z hz ?_ ?_
   ·rw[ê,List.filter_eq_self];intro x hx;obtain⟨j,hj,rfl⟩:=dj.1 hx;rw[di] at hj;rw[List.getElem_take];have:=hlt j (by omega);simpa using this
   ·rw[cO hz]; exact hc
def wX (l:List Int) (i:Nat) (a:Int):Option Bool:=if !inP a 1 1099511627776 then some false else if Eh (fun x=>x) l i a then some false else none
def ic (l:List Int):Bool:=match ī (wX l) 0 l with|some _=>false|none=>decide (l.length≤6)
def Hx {l:List Int} (hn:l.length≤1000000):ml l=some (ic l):=by
 unfold ml JJ;refine Eq.trans (ky l (wX l) some (some (decide (l.length≤6))) (fun i a hi ha kn=>?_) (fun kn=>?_)) ?_
 ·try dsimp only
  unfold ob;rw[Ô hi,É ha,gT,À];unfold wX
  cases inP a 1 1099511627776 with
  |false=>rfl
  |true =>
   simp only[dN,é,dl,if_false];rcases fw i with h0|h0
   ·subst h0
    have:igt ((0:Nat):Int) 0=false:=by simp[igt]
    rw[Ó this,Í hi (by omega)];simp[Eh]
   ·obtain⟨q,hq⟩:=Ez hi h0
    have h1:igt (i:Int) 0=true:=by simp[igt]; omega
    rw[Ù h1,Q7 h0 (by omega),HA h0 hq];simp only[Eh,h0,decide_true,Bool.true_and,hq,Option.any_some];unfold ile
    cases h2:decide (a≤q) with
    |true=>rfl
    |false =>
     rw[é,Í hi (by omega)];rfl
 ·try dsimp only
  unfold ob;rw[â,å];simp[ile];omega
 ·have hb:∀x,ī (wX l) 0 l=some x→x=false:=by
   have:∀(m:List Int) (j:Nat) (x:Bool),ī (wX l) j m=some x→x=false:=by
    intro m
    induction m with
    |nil=>intro j x h; cases h
    |cons a m ih =>
     intro j x h;unfold ī at h
     cases hp:wX l j a with
     |none=>rw[hp] at h; exact ih _ _ h
     |some y =>
      rw[hp] at h;cases h;unfold wX at hp
      split at hp
      ·cases hp; rfl
      ·split at hp
       ·cases hp; rfl
       ·cases hp
   exact this l 0
  unfold ic
  cases h:ī (wX l) 0 l with
  |none=>rfl
  |some x=>rw[hb x h]
def sw (l:List Int):ic l=true↔(∀x∈l,1≤x∧x≤1099511627776)∧l.Pairwise (·<·)∧l.length≤6:=by
 have h0:ī (wX l) 0 l=none↔(∀x∈l,1≤x∧x≤1099511627776)∧l.Pairwise (·<·):=by
  rw[iE,←Yp (fun x=>x) l];constructor
  ·intro h
   have h1:∀(j:Nat) (a:Int),l[j]?=some a→inP a 1 1099511627776=true∧Eh (fun x=>x) l j a=false:=by
    intro j a ha;have:=h j a ha;rw[Nat.zero_add] at this;unfold wX at this
    split at this
    ·cases this
    ·split at this
     ·cases this
     ·rename_i h1 h2;exact⟨by simpa using h1,by simpa using h2⟩
   refine⟨fun x hx=>?_,fun i a ha=>(h1 i a ha).2⟩;obtain⟨j,hj,rfl⟩:=dj.1 hx;have:=(h1 j l[j] (cO hj)).1;simpa[inP] using this
  ·rintro⟨h1,h2⟩ j a ha;rw[dm];have h3:=h1 a (cZ ha)
   have:inP a 1 1099511627776=true:=by simpa[inP] using h3
   simp[wX,this,h2 j a ha]
 unfold ic
 cases h:ī (wX l) 0 l with
 |none =>
  obtain⟨h1,h2⟩:=h0.1 h;simp only[decide_eq_true_eq];exact⟨fun h3=>⟨h1,h2,h3⟩,fun h3=>h3.2.2⟩
 |some x =>
  constructor
  ·intro h2; cases h2
  ·rintro⟨h1,h2,h3⟩;rw[h0.2 ⟨h1,h2⟩] at h; cases h
def akr {a b:List Int} (ha:a.length≤1000000) (hb:b.length≤1000000):ï [a,b]=some (a++b):=by
 have hk:∀n:Nat,n≤4000000→∀(f:Int→Option (List Int)),ck (n:Int) f=f n:=fun n h f=>Ö (by omega) (by omega) f
 have second:Ï (fun(v9:(Val (.pair tI (.slice tI)))) kk12=>ñ [a,b] (Õ [a,b]) v9.1 v9.2 (fun u10 u11=>kk12 (u10,u11)) (fun z8=>some z8)) ((0:Int),([]:List Int))=some (a++b):=by
  refine ü [a,b] (fun i=>([a,b].take i).flatten) (some (a++b)) (f:=fun(v9:(Val (.pair tI (.slice tI)))) kk12=>ñ [a,b] (Õ [a,b]) v9.1 v9.2 (fun u10 u11=>kk12 (u10,u11)) (fun z8=>some z8)) rfl (fun i x hi hx kn=>?_) (fun kn=>?_)
  ·try dsimp only
   unfold ñ;rw[Ô hi,É hx,Í hi (by simp),take_succ hx,List.flatten_append]
   have:ì ((List.take i [a,b]).flatten.length+x.length)=true:=by
    refine Ø ?_
    have h1:x.length≤1000000:=by
     have:=cZ hx;simp at this
     rcases this with rfl|rfl<;>assumption
    have h2:(List.take i [a,b]).flatten.length≤2000000:=by
     have:i=0∨i=1:=by simp at hi; omega
     rcases this with rfl|rfl<;>simp<;>omega
    omega
   rw[Ī this];simp
  ·try dsimp only
   unfold ñ;rw[â];simp
 unfold ï ja;refine ł (fun x:Int×Int=>∃i:Nat,i≤2∧x=((([a,b].take i).flatten.length:Int),(i:Int))) (fun x=>2-x.2.toNat) ?_ ⟨0,by omega,rfl⟩;rintro x ⟨i,hi,rfl⟩;rcases Nat.lt_or_ge i 2 with h2|h2
 ·refine .inr ⟨((([a,b].take (i+1)).flatten.length:Int),(i:Int)+1),⟨i+1,h2,by simp⟩,by simp; omega,fun kn=>?_⟩;have hi':i<[a,b].length:=h2;obtain⟨x,hx⟩:∃x,[a,b][i]?=some x:=⟨_,cO hi'⟩
  have hxl:x.length≤1000000:=by
   have:=cZ hx;simp at this
   rcases this with rfl|rfl<;>assumption
  have h3:(List.take i [a,b]).flatten.length≤2000000:=by
   have:i=0∨i=1:=by omega
   rcases this with rfl|rfl<;>simp<;>omega
  try dsimp only
  unfold Į;rw[Ô hi',É hx,å]
  have e1:(((List.take i [a,b]).flatten.length:Int)+(x.length:Int))=((List.take i [a,b]).flatten.length+x.length:Nat):=by omega
  rw[e1,hk _ (by omega)]
  have:ilt ((((List.take i [a,b]).flatten.length+x.length:Nat)):Int) 0=false:=by simp[ilt]; omega
  rw[Ó this,Í hi' (by simp),take_succ hx];simp
 ·refine .inl fun kn=>?_
  obtain rfl:i=2:=by omega
  try dsimp only
  unfold Į;rw[show((2:Nat):Int)=(([a,b].length:Nat):Int) from rfl,â]
  have e1:((List.take 2 [a,b]).flatten.length:Int)=((a.length+b.length:Nat):Int):=by simp
  have e2:ilt (((a.length+b.length:Nat)):Int) 0=false:=by simp[ilt]; omega
  rw[e1];dsimp only;rw[Ó e2,Int.sub_zero,hk _ (by omega)];rcases Nat.eq_zero_or_pos (a.length+b.length) with h0|h0
  ·have:igt (((a.length+b.length:Nat)):Int) 0=false:=by simp[igt]; omega
   rw[Ó this];exact second
  ·have:igt (((a.length+b.length:Nat)):Int) 0=true:=by simp[igt]; omega
   rw[Ù this]
   have:((ilt (0:Int) (((a.length+b.length:Nat)):Int))&&(ì (Int.toNat (((a.length+b.length:Nat)):Int))))=true:=by
    rw[dt,Ø (by omega)];simp[ilt]; omega
   rw[Ī this]
   have:ile 0 (ă (List.replicate (Int.toNat (((a.length+b.length:Nat)):Int)) (0:Int)))=true:=by simp[ile]
   rw[Ī this];exact second
def lC (b:Þ) (id day:Int):Option LV:=b.2.2.2.1.find? fun l=>l.1==id&&inP day l.2.1.1 l.2.1.2
def XZ {α:Type} (p:α→Bool):∀l:List α,l.find? p=(match l.findIdx? p with|some j=>l[j]?|none=>none)
 |[]=>rfl
 |a::l=>by
  rw[gp,List.findIdx?_cons]
  cases h:p a with
  |true=>simp
  |false =>
   simp only[dl,if_false];rw[XZ p l]
   cases l.findIdx? p<;>simp
def anF {b:Þ} (hn:b.2.2.2.1.length≤1000) (id day:Int):Aq b id day=some (match lC b id day with|some l=>(l,true)|none=>((0,(0,0),0),false)):=by
 unfold Aq XF;refine Eq.trans (gZ b.2.2.2.1 (fun l=>l.1==id&&inP day l.2.1.1 l.2.1.2) (fun z5=>ifb (ilt z5 (0:Int)) (some (((0:Int),((0:Int),(0:Int)),(0:Int)),false)) (ò b.2.2.2.1 z5 fun e6=>some (e6,true))) (some ((0,(0,0),0),false)) (fun i a hi ha kn=>?_) (fun kn=>?_)) ?_
 ·try dsimp only
  unfold vC;rw[Ô hi,É ha,gT,À,Í hi (by omega)]
  cases h1:(a.1==id) with
  |false =>
   have:ieq a.1 id=false:=h1;simp[this]
  |true =>
   have:ieq a.1 id=true:=h1;rw[this]
   cases inP day a.2.1.1 a.2.1.2<;>simp
 ·try dsimp only
  unfold vC;rw[â]
 ·unfold lC;rw[XZ]
  cases h:b.2.2.2.1.findIdx? (fun l=>l.1==id&&inP day l.2.1.1 l.2.1.2) with
  |none=>rfl
  |some j =>
   obtain⟨hj,_,_⟩:=dL.1 h
   have:ilt (j:Int) 0=false:=by simp[ilt]
   try dsimp only
   rw[Ó this,É (cO hj),cO hj]
def am8 (a:Int):List Int→List Int
 |[]=>[a]
 |b::t=>if a≤b then a::b::t else b::am8 a t
def UN:List Int→List Int
 |[]=>[]
 |a::t=>am8 a (UN t)
def xe (p:Option Int):List Int→List Int
 |[]=>[]
 |a::t=>if p=some a then xe (some a) t else a::xe (some a) t
def Y0 (l:List Int):List Int:=xe none (UN l)
def QC (a:Int):∀l,(am8 a l).Perm (a::l)
 |[]=>List.Perm.refl _
 |b::t=>by
  unfold am8
  split
  ·exact List.Perm.refl _
  ·exact((QC a t).cons b).trans (List.Perm.swap a b t)
def vG:∀l,(UN l).Perm l
 |[]=>List.Perm.refl _
 |a::t=>(QC a _).trans ((vG t).cons a)
def QB (a:Int):∀{l:List Int},l.Pairwise (·≤·)→(am8 a l).Pairwise (·≤·)
 |[],_=>by simp[am8]
 |b::t,h=>by
  rw[List.pairwise_cons] at h;unfold am8
  split
  ·rename_i hab;refine dH.2 ⟨fun x hx=>?_,dH.2 h⟩;rcases dc.1 hx with rfl|hx
   ·exact hab
   ·have:=h.1 x hx; omega
  ·rename_i hab;refine dH.2 ⟨fun x hx=>?_,QB a h.2⟩;rcases dc.1 ((QC a t).mem_iff.1 hx) with rfl|hx
   ·omega
   ·exact h.1 x hx
def vF:∀l:List Int,(UN l).Pairwise (·≤·)
 |[]=>List.Pairwise.nil
 |a::t=>QB a (vF t)
def akG (l:List Int):Eo l=UN l:=by
 have h1:(Eo l).Pairwise (·≤·):=by
  have:=List.pairwise_mergeSort (le:=fun a b:Int=>decide (a≤b)) (fun a b c h1 h2=>by simp at *; omega) (fun a b=>by simp; omega) l
  exact this.imp fun h=>by simpa using h
 exact List.Perm.eq_of_pairwise (le:=(·≤·)) (fun a b _ _ h1 h2=>by omega) h1 (vF l) ((List.mergeSort_perm l _).trans (vG l).symm)
def TJ (a:Int):∀(l:List Int) (p:Option Int),xe p (l++[a])=xe p l++(if (match l.getLast? with|some b=>some b|none=>p)=some a then[] else[a])
 |[],p=>by simp only[fX,xe,List.getLast?_nil]; rfl
 |b::t,p=>by
  have ih:=TJ a t (some b)
  have e:(match (b::t).getLast? with|some c=>some c|none=>p)=(match t.getLast? with|some c=>some c|none=>some b):=by
   cases t with
   |nil=>rfl
   |cons c t =>
    rw[List.getLast?_cons_cons]
    cases h:(c::t).getLast? with
    |none=>simp at h
    |some x=>rfl
  rw[e];simp only[eQ,xe,ih]
  split<;>simp
def Cw (l:List Int):∀m,m≤l.length→Lib.compactUpTo l.toArray m=xe none (l.take m)
 |0,_=>by simp[Lib.compactUpTo,xe]
 |m+1,h=>by
  have hm:m<l.length:=h;rw[Lib.compactUpTo_succ,Cw l m (by omega),take_succ (cO hm),TJ];congr 1
  have e1:l.toArray[m]! = l[m]:=by simp[getElem!_pos,hm]
  rw[e1];unfold Lib.keeps;rw[e1]
  cases m with
  |zero=>simp
  |succ m =>
   have hm':m<l.length:=by omega
   have e2:l.toArray[m+1-1]! = l[m]:=by simp[getElem!_pos,hm']
   rw[e2]
   have e3:(l.take (m+1)).getLast?=some l[m]:=by rw[take_succ (cO hm'),List.getLast?_append]; rfl
   rw[e3]
   by_cases hne:l[m+1]=l[m]
   ·simp[hne]
   ·have:¬l[m]=l[m+1]:=fun h=>hne h.symm;simp[hne,this]
def adR (l:List Int):Au l=xe none l:=by
 unfold Au Lib.compact;rw[Cw l l.length (Nat.le_refl _),List.take_length]
def ahC (l:List Int):Au (Eo l)=Y0 l:=by rw[akG,adR]; rfl
def YN:∀{l:List Int} {p:Option Int} {x:Int},p≠some x→(x∈xe p l↔x∈l)
 |[],_,_,_=>Iff.rfl
 |a::t,p,x,hp=>by
  unfold xe
  by_cases hx:x=a
  ·subst hx;rw[if_neg hp]; simp
  ·have ih:=YN (l:=t) (p:=some a) (x:=x) (fun e=>hx (by cases e; rfl))
   split<;>simp[ih,hx]
def aer:∀{l:List Int} {p:Option Int},l.Pairwise (·≤·)→(∀q,p=some q→∀x∈l,q≤x)→(xe p l).Pairwise (·<·)∧∀q,p=some q→∀x∈xe p l,q<x
 |[],p,_,_=>⟨List.Pairwise.nil,fun _ _ _ h=>by cases h⟩
 |a::t,p,h,hp=>by
  rw[List.pairwise_cons] at h;obtain⟨i1,i2⟩:=aer (l:=t) (p:=some a) h.2 (fun q hq x hx=>by cases hq; exact h.1 x hx);unfold xe
  split
  ·rename_i e;exact⟨i1,fun q hq x hx=>by rw[e] at hq; cases hq; exact i2 _ rfl x hx⟩
  ·rename_i e;refine⟨dH.2 ⟨fun x hx=>i2 _ rfl x hx,i1⟩,fun q hq x hx=>?_⟩;have:=hp q hq a (by simp);have hne:q≠a:=fun h=>e (by rw[hq,h]);rcases dc.1 hx with rfl|hx
   ·omega
   ·have:=i2 _ rfl x hx; omega
def qi {l:List Int} {x:Int}:x∈Y0 l↔x∈l:=by
 unfold Y0;rw[YN (by simp),(vG l).mem_iff]
def CG (l:List Int):(Y0 l).Pairwise (·<·):=(aer (vF l) (fun q hq=>by cases hq)).1
def YO:∀(l:List Int) (p:Option Int),(xe p l).length≤l.length
 |[],_=>cQ _
 |a::t,p=>by
  have:=YO t (some a);unfold xe
  split<;>simp<;>omega
def Es (l:List Int):(Y0 l).length≤l.length:=by
 unfold Y0;have:=YO (UN l) none
 rwa [(vG l).length_eq] at this
def ad8 {l m:List Int} (hl:l.Pairwise (·<·)) (hm:m.Pairwise (·<·)) (h:∀x,x∈l↔x∈m):l=m:=by
 induction l generalizing m with
 |nil =>
  cases m with
  |nil=>rfl
  |cons a t=>have:=(h a).2 (by simp); cases this
 |cons a t ih =>
  rw[dH] at hl
  cases m with
  |nil=>have:=(h a).1 (by simp); cases this
  |cons b u =>
   rw[dH] at hm
   have hab:a=b:=by
    rcases dc.1 ((h a).1 (by simp)) with h1|h1
    ·exact h1
    ·rcases dc.1 ((h b).2 (by simp)) with h2|h2
     ·exact h2.symm
     ·have:=hm.1 a h1; have:=hl.1 b h2; omega
   subst hab;rw[ih hl.2 hm.2 fun x=>?_];constructor
   ·intro hx;rcases dc.1 ((h x).1 (by simp[hx])) with h1|h1
    ·have:=hl.1 x hx; omega
    ·exact h1
   ·intro hx;rcases dc.1 ((h x).2 (by simp[hx])) with h1|h1
    ·have:=hm.1 x hx; omega
    ·exact h1
def Bc (b:Þ) (s:List (Int×í)) (c:Cmp):Int :=
 if (c.2.2.1++c.2.2.2.1).any (fun id=>mJ s id c.2.1==5) then 5 else
 if (c.2.2.1++c.2.2.2.1).any (fun id=>mJ s id c.2.1==4) then 4 else
 if (c.2.2.1++c.2.2.2.1).any (fun id=>(lC b id c.2.1).isSome) then 9 else
 if 1<(ê c.2.2.1 c.2.2.2.1).length then 1 else if 1<(ê c.2.2.2.1 c.2.2.1).length then 1 else
 if (ê c.2.2.1 c.2.2.2.1).length+(ê c.2.2.2.1 c.2.2.1).length=0 then 1 else 0
def L6 (c:Cmp):Bool :=
 inP c.1 1 1099511627776&&(Ct c.2.1&&(inP c.2.2.2.2.1 (-1125899906842624) 1125899906842624&&(inP c.2.2.2.2.2.1 0 1073741824&&(jJ c.2.2.2.2.2.2 (-10000) 10000&&(ic c.2.2.1&&ic c.2.2.2.1)))))
def om (b:Þ) (s:List (Int×í)) (i:Nat) (c:Cmp):Int :=
 if !L6 c then 1 else if (b.2.2.2.2.1.take i).any (fun x=>x.1==c.1) then 6 else Bc b s c
def za (a b:List Int):(ê a b).length≤a.length:=dJ _ _
set_option maxHeartbeats 1000000 in
def Q9 {b:Þ} (hn:b.2.2.2.2.1.length≤1000) (hl:b.2.2.2.1.length≤1000) (s:List (Int×í)) {i:Nat} {c:Cmp} (hA:c.2.2.1.length≤1000) (hB:c.2.2.2.1.length≤1000)
 (hc:b.2.2.2.2.1[i]?=some c):ľ b s i=some (om b s i c):=by
 have hi:i<b.2.2.2.2.1.length:=(List.getElem?_eq_some_iff.1 hc).1;unfold ľ ny om L6;rw[É hc,gT,À]
 cases inP c.1 1 1099511627776 with
 |false=>rfl
 |true =>
 rw[XR,À]
 cases Ct c.2.1 with
 |false=>rfl
 |true =>
 rw[gT,À]
 cases inP c.2.2.2.2.1 (-1125899906842624) 1125899906842624 with
 |false=>rfl
 |true =>
 rw[gT,À]
 cases inP c.2.2.2.2.2.1 0 1073741824 with
 |false=>rfl
 |true =>
 rw[Hy,À]
 cases jJ c.2.2.2.2.2.2 (-10000) 10000 with
 |false=>rfl
 |true =>
 rw[Hx (by omega),À]
 cases ic c.2.2.1 with
 |false=>rfl
 |true =>
 rw[Hx (by omega),À]
 cases ic c.2.2.2.1 with
 |false=>rfl
 |true =>
 have hg:((ile (0:Int) (i:Int))&&(ile (i:Int) (ă b.2.2.2.2.1)))=true:=by simp[ile,ă]; omega
 simp only[dN,é,Bool.and_self,dl,if_false];rw[Ī hg,dt]
 -- what comes behind the IDs
 have rest:(Â (ï ([c.2.2.1,c.2.2.2.1])) fun r12=>Ï (fun(v36:Int) kk38=>ň s r12 (Õ ([(5:Int),(4:Int)])) c.2.1 ([(5:Int),(4:Int)]) v36 (fun u37=>kk38 u37) (fun z23=>some z23) (fun _=>Ï (fun(v33:Int) kk35=>Ň r12 (Õ r12) b.1.1 b.1.2 b.2.1 b.2.2.1 b.2.2.2.1 b.2.2.2.2.1 b.2.2.2.2.2 c.2.1 v33 (fun u34=>kk35 u34) (fun z28=>some z28) (fun _=>Â (Ŧ c.2.2.1 c.2.2.2.1) fun r30=>Â (Ŧ c.2.2.2.1 c.2.2.1) fun r31=>ifb (igt (Õ r30) (1:Int)) (some (1:Int)) (ifb (igt (Õ r31) (1:Int)) (some (1:Int)) (ck ((Õ r30)+(Õ r31)) fun n32=>ifb (ieq n32 (0:Int)) (some (1:Int)) (some (0:Int)))))) (0:Int))) (0:Int))=some (Bc b s c):=by
  rw[akr (by omega) (by omega),À]
  have hall:(c.2.2.1++c.2.2.2.1).length≤2000:=by simp; omega
  have last:(Â (Ŧ c.2.2.1 c.2.2.2.1) fun r30=>Â (Ŧ c.2.2.2.1 c.2.2.1) fun r31=>ifb (igt (Õ r30) (1:Int)) (some (1:Int)) (ifb (igt (Õ r31) (1:Int)) (some (1:Int)) (ck ((Õ r30)+(Õ r31)) fun n32=>ifb (ieq n32 (0:Int)) (some (1:Int)) (some (0:Int))))) =
   some (if 1<(ê c.2.2.1 c.2.2.2.1).length then 1 else if 1<(ê c.2.2.2.1 c.2.2.1).length then 1 else if (ê c.2.2.1 c.2.2.2.1).length+(ê c.2.2.2.1 c.2.2.1).length=0 then 1 else 0):=by
   rw[sc (by omega) (by omega),À,sc (by omega) (by omega),À];have l1:=za c.2.2.1 c.2.2.2.1;have l2:=za c.2.2.2.1 c.2.2.1;rw[å,å,Ö (by omega) (by omega)]
   by_cases c1:1<(ê c.2.2.1 c.2.2.2.1).length
   ·rw[Ù (by simp[igt]; omega),if_pos c1]
   rw[Ó (by simp[igt]; omega),if_neg c1]
   by_cases c2:1<(ê c.2.2.2.1 c.2.2.1).length
   ·rw[Ù (by simp[igt]; omega),if_pos c2]
   rw[Ó (by simp[igt]; omega),if_neg c2]
   by_cases c3:(ê c.2.2.1 c.2.2.2.1).length+(ê c.2.2.2.1 c.2.2.1).length=0
   ·rw[Ù (by simp[ieq]; omega),if_pos c3]
   rw[Ó (by simp[ieq]; omega),if_neg c3]
  refine eY (ky [(5:Int),4] (fun _ want=>if (c.2.2.1++c.2.2.2.1).any (fun id=>mJ s id c.2.1==want) then some want else none) some (some (if (c.2.2.1++c.2.2.2.1).any (fun id=>(lC b id c.2.1).isSome) then 9 else if 1<(ê c.2.2.1 c.2.2.2.1).length then 1 else if 1<(ê c.2.2.2.1 c.2.2.1).length then 1 else if (ê c.2.2.1 c.2.2.2.1).length+(ê c.2.2.2.1 c.2.2.1).length=0 then 1 else 0)) (fun j want hj hw kn=>?_) (fun kn=>?_)) ?_
  ·try dsimp only
   unfold ň;rw[Ô hj,g9 hj,Ĥ hw];refine Eq.trans (ķ (c.2.2.1++c.2.2.2.1) (fun id=>mJ s id c.2.1==want) (fun _=>some want) (some want) (kn ((j:Int)+1)) (fun _=>rfl) (fun k a hk ha kn'=>?_) (fun kn'=>?_)) ?_
   ·try dsimp only
    unfold iA;rw[Ô hk,É ha,acK,À,Í hk (by omega),ġ]
   ·try dsimp only
    unfold iA;rw[â,Í hj (by simp)]
   ·cases List.any (c.2.2.1++c.2.2.2.1) (fun id=>mJ s id c.2.1==want)<;>rfl
  ·try dsimp only
   unfold ň;rw[â];refine Eq.trans (ķ (c.2.2.1++c.2.2.2.1) (fun id=>(lC b id c.2.1).isSome) (fun _=>some 9) (some 9) (some (if 1<(ê c.2.2.1 c.2.2.2.1).length then 1 else if 1<(ê c.2.2.2.1 c.2.2.1).length then 1 else if (ê c.2.2.1 c.2.2.2.1).length+(ê c.2.2.2.1 c.2.2.1).length=0 then 1 else 0)) (fun _=>rfl) (fun k a hk ha kn'=>?_) (fun kn'=>?_)) ?_
   ·try dsimp only
    unfold Ň;have haw:=anF hl a c.2.1;rw[Ô hk,É ha,Í hk (by omega)];rw[show Aq ((b.1.1,b.1.2),b.2.1,b.2.2.1,b.2.2.2.1,b.2.2.2.2.1,b.2.2.2.2.2) a c.2.1=Aq b a c.2.1 from rfl,haw,À]
    cases lC b a c.2.1<;>rfl
   ·try dsimp only
    unfold Ň;rw[â,last]
   ·cases List.any (c.2.2.1++c.2.2.2.1) (fun id=>(lC b id c.2.1).isSome)<;>rfl
  ·unfold Bc ī ī ī
   try dsimp only
   cases List.any (c.2.2.1++c.2.2.2.1) (fun id=>mJ s id c.2.1==5) with
   |true=>rfl
   |false =>
   cases List.any (c.2.2.1++c.2.2.2.1) (fun id=>mJ s id c.2.1==4)<;>rfl
 refine eY (ķ (b.2.2.2.2.1.take i) (fun x=>x.1==c.1) (fun z11=>ifb (ige z11 (0:Int)) (some 6) (some (Bc b s c))) (some 6) (some (Bc b s c)) (fun j=>?_) (fun j a hj ha kn=>?_) (fun kn=>?_)) ?_
 ·have:ige (j:Int) 0=true:=by simp[ige]
  rw[Ù this]
 ·try dsimp only
  unfold iB;rw[rest,Ô hj,É ha,Í hj (by rw[List.length_take]; omega),ġ]
 ·try dsimp only
  unfold iB;rw[â,rest]
 ·cases List.any (b.2.2.2.2.1.take i) (fun x=>x.1==c.1)<;>rfl
def X6 (b:Þ) (g:í):List Int :=
 [g.2.1]++(b.2.2.2.2.1.filter fun c=>!(c.2.2.1.contains g.1==c.2.2.2.1.contains g.1)).map (fun c=>c.2.1)++(b.2.2.2.2.2.filter fun n=>n.1==g.1).map (fun n=>n.2)
def á (b:Þ) (g:í):List Int:=Y0 (X6 b g)
structure Ŷ (b:Þ):Prop where
 gauges:b.2.1.length≤1000
 uses:b.2.2.1.length≤1000
 loans:b.2.2.2.1.length≤1000
 compares:b.2.2.2.2.1.length≤1000
 looks:b.2.2.2.2.2.length≤1000
 piles:∀c∈b.2.2.2.2.1,c.2.2.1.length≤1000∧c.2.2.2.1.length≤1000
def YW (l:List Int):(Eo l).length=l.length:=List.length_mergeSort l
def abE {b:Þ} (hs:Ŷ b) (g:í):(X6 b g).length≤2001:=by
 have h1:=hs.compares;have h2:=hs.looks;have h3:=dJ (fun c:Cmp=>!(c.2.2.1.contains g.1==c.2.2.2.1.contains g.1)) b.2.2.2.2.1;have h4:=dJ (fun n:Int×Int=>n.1==g.1) b.2.2.2.2.2;simp only[X6,cW,dX,dF];omega
def aje {b:Þ} (hs:Ŷ b) (g:í):oj b g=some (á b g):=by
 unfold oj XE;have hr:=abE hs g
 have hd:(á b g).length≤2001:=by
  unfold á;have:=Es (X6 b g);omega
 have hcl:=hs.compares;have hll:=hs.looks;refine ü b.2.2.2.2.1 (fun i=>[g.2.1]++((b.2.2.2.2.1.take i).filter fun c=>!(c.2.2.1.contains g.1==c.2.2.2.1.contains g.1)).map (fun c=>c.2.1)) _ rfl (fun i c hi hc kn=>?_) (fun kn=>?_)
 ·try dsimp only
  unfold vA;obtain⟨p1,p2⟩:=hs.piles c (List.mem_of_getElem? hc);rw[Ô hi,É hc,kH (by omega),À,kH (by omega),À,Í hi (by omega),Í hi (by omega),take_succ hc,List.filter_append,List.map_append]
  have hlen:([g.2.1]++((b.2.2.2.2.1.take i).filter fun c=>!(c.2.2.1.contains g.1==c.2.2.2.1.contains g.1)).map (fun c=>c.2.1)).length≤1001:=by
   have h3:=dJ (fun c:Cmp=>!(c.2.2.1.contains g.1==c.2.2.2.1.contains g.1)) (b.2.2.2.2.1.take i);rw[di] at h3;simp only[cW,dX,dF];omega
  rw[Ø (by simp only[dF]; omega),Am.iff_true]
  cases h:(c.2.2.1.contains g.1==c.2.2.2.1.contains g.1) with
  |true=>simp only[dN,é,dT,h,dl,if_false,dW,ft,dK]
  |false=>simp only[f7,Ō,dT,h,if_true,dW,eO,ft,dn]
 ·try dsimp only
  unfold vA;rw[â,List.take_length];refine ü b.2.2.2.2.2 (fun i=>[g.2.1]++(b.2.2.2.2.1.filter fun c=>!(c.2.2.1.contains g.1==c.2.2.2.1.contains g.1)).map (fun c=>c.2.1)++((b.2.2.2.2.2.take i).filter fun n=>n.1==g.1).map (fun n=>n.2)) _ (by simp) (fun i n hi hn kn=>?_) (fun kn=>?_)
  ·try dsimp only
   unfold vz;rw[Ô hi,É hn,Í hi (by omega),Í hi (by omega),take_succ hn,List.filter_append,List.map_append]
   have hlen:([g.2.1]++(b.2.2.2.2.1.filter fun c=>!(c.2.2.1.contains g.1==c.2.2.2.1.contains g.1)).map (fun c=>c.2.1)++((b.2.2.2.2.2.take i).filter fun n=>n.1==g.1).map (fun n=>n.2)).length≤2001:=by
    have h3:=dJ (fun c:Cmp=>!(c.2.2.1.contains g.1==c.2.2.2.1.contains g.1)) b.2.2.2.2.1;have h4:=dJ (fun n:Int×Int=>n.1==g.1) (b.2.2.2.2.2.take i);rw[di] at h4;simp only[cW,dX,dF];omega
   rw[Ø (by simp only[dF]; omega),Am.iff_true]
   cases h:(n.1==g.1) with
   |true =>
    have:ieq n.1 g.1=true:=h;simp[h,this]
   |false =>
    have:ieq n.1 g.1=false:=h;simp[h,this]
  ·try dsimp only
   unfold vz;rw[â,List.take_length];rw[show([g.2.1]++(b.2.2.2.2.1.filter fun c=>!(c.2.2.1.contains g.1==c.2.2.2.1.contains g.1)).map (fun c=>c.2.1)++(b.2.2.2.2.2.filter fun n=>n.1==g.1).map (fun n=>n.2))=X6 b g from rfl];dsimp only;rw[Ø (by omega),Am.iff_true,Ø (by rw[YW]; omega),Am.iff_true,ahC];rfl
def Î (b:Þ):List (Int×Int):=b.2.1.flatMap fun g=>(á b g).map fun d=>((g.1,d):Int×Int)
def H7 {b:Þ} (hs:Ŷ b) (g:í):(á b g).length≤2001:=by
 unfold á;have:=Es (X6 b g);have:=abE hs g;omega
def vN {α β:Type} (f:α→List β) (n:Nat) (h:∀a,(f a).length≤n):∀l:List α,(l.flatMap f).length≤l.length*n
 |[]=>by simp
 |a::l=>by
  have:=vN f n h l;have:=h a;simp only[dU,cW,df,dz,fq];omega
def VS {b:Þ} (hs:Ŷ b):pS b=some (Î b):=by
 unfold pS Qi;have hg:=hs.gauges
 have hlen:∀l:List í,(l.flatMap fun g=>(á b g).map fun d=>((g.1,d):Int×Int)).length≤l.length*2001:=fun l =>
  vN _ 2001 (fun g=>by rw[dX]; exact H7 hs g) l
 refine ü b.2.1 (fun i=>(b.2.1.take i).flatMap fun g=>(á b g).map fun d=>((g.1,d):Int×Int)) _ rfl (fun i g hi hg' kn=>?_) (fun kn=>?_)
 ·try dsimp only
  unfold rn;rw[Ô hi,É hg'];rw[show oj ((b.1.1,b.1.2),b.2.1,b.2.2.1,b.2.2.2.1,b.2.2.2.2.1,b.2.2.2.2.2) g=oj b g from rfl,aje hs,À];have hd:=H7 hs g;have hi2:=hlen (b.2.1.take i)
  have htl:(b.2.1.take i).length≤1000:=by rw[di]; omega
  refine ü (á b g) (fun j=>((b.2.1.take i).flatMap fun g=>(á b g).map fun d=>((g.1,d):Int×Int))++((á b g).take j).map fun d=>((g.1,d):Int×Int)) _ (by simp) (fun j d hj hd' kn'=>?_) (fun kn'=>?_)
  ·try dsimp only
   unfold rl;rw[Ô hj,É hd',Í hj (by omega),take_succ hd',List.map_append];rw[Ø (by simp only[List.length_append,List.length_map,List.length_take,List.length_singleton]; omega),Am.iff_true];simp
  ·try dsimp only
   unfold rl;rw[â,List.take_length];dsimp only;rw[Í hi (by omega),take_succ hg',List.flatMap_append];simp
 ·try dsimp only
  unfold rn;rw[â,List.take_length];rfl
def xm (b:Þ) (s:List (Int×í)):List Int :=
 b.2.2.1.map (fun u=>afQ s u.1 u.2)++(b.2.2.2.1.mapIdx (fun i l=>TA b s i l)++(b.2.2.2.2.1.mapIdx (fun i c=>om b s i c)++b.2.2.2.2.2.map (fun u=>afQ s u.1 u.2)))
def ZT {α:Type} {f:Int→Option Int} {g:Nat→α→Int} (l:List α) (h:∀(i:Nat) (a:α),l[i]?=some a→f i=some (g i a)):Oo f (xd l.length)=some (l.mapIdx g):=by
 have h1:∀i,i<l.length→f (i:Int)=some ((l.mapIdx g)[i]?.getD 0):=by
  intro i hi;rw[h i l[i] (cO hi)];simp[hi]
 have h2:∀x∈xd l.length,f x=some ((l.mapIdx g)[x.toNat]?.getD 0):=by
  intro x hx;unfold xd at hx;obtain⟨i,hi,rfl⟩:=List.mem_map.1 hx;rw[h1 i (by simpa using hi)];rfl
 rw[EW h2];congr 1;refine List.ext_getElem (by simp[xd]) fun i h3 h4=>?_
 have h5:i<l.length:=by simpa using h4
 simp[xd,h5]
def akV {b:Þ} (hs:Ŷ b) (s:List (Int×í)):nc b s=some (xm b s):=by
 unfold nc xm
 rw[EW (fun u _=>Zh s u.1 u.2),À,ZT b.2.2.2.1 (fun i l hl=>abK hs.loans hs.uses s hl),À,
  ZT b.2.2.2.2.1 (fun i c hc=>Q9 hs.compares hs.loans s (hs.piles c (cZ hc)).1 (hs.piles c (cZ hc)).2 hc),À,EW (fun u _=>Zh s u.1 u.2),À]
def ã (b:Þ):Int :=
 if !jJ b.1 0 1000000 then 1 else
 if 12<b.2.1.length then 2 else if 40<b.2.2.1.length then 2 else if 12<b.2.2.2.1.length then 2 else if 40<b.2.2.2.2.1.length then 2 else if 10<b.2.2.2.2.2.length then 2 else
 if jn b != 0 then jn b else
 match (xm b (ir b)).find? (fun e=>e != 0) with
 |some e=>e
 |none=>if 59<(Î b).length then 2 else if 300<2*b.2.1.length+2*((Î b).length-b.2.1.length:Int)+2*b.2.2.2.2.1.length then 2 else 0
def IJ {b:Þ} (hs:Ŷ b):(Î b).length≤2001000:=by
 have:=vN (fun g:í=>(á b g).map fun d=>((g.1,d):Int×Int)) 2001 (fun g=>by rw[List.length_map]; exact H7 hs g) b.2.1;have h2:=hs.gauges;unfold Î;omega
def ź {b:Þ} (hs:Ŷ b) (hr:∀g∈b.2.1,I64 g.2.2.2.2.1.1):ó b=some (ã b):=by
 unfold ó Qt ã;rw[Hy,À]
 cases jJ b.1 0 1000000 with
 |false=>rfl
 |true =>
 have h1:=hs.gauges;have h2:=hs.compares;have h3:=IJ hs;rw[Ó (show(!true)=false from rfl),if_neg (by simp)];simp only[å]
 by_cases c0:12<b.2.1.length
 ·rw[Ù (by simp[igt]; omega),if_pos c0]
 rw[Ó (by simp[igt]; omega),if_neg c0]
 by_cases c1:40<b.2.2.1.length
 ·rw[Ù (by simp[igt]; omega),if_pos c1]
 rw[Ó (by simp[igt]; omega),if_neg c1]
 by_cases c2:12<b.2.2.2.1.length
 ·rw[Ù (by simp[igt]; omega),if_pos c2]
 rw[Ó (by simp[igt]; omega),if_neg c2]
 by_cases c3:40<b.2.2.2.2.1.length
 ·rw[Ù (by simp[igt]; omega),if_pos c3]
 rw[Ó (by simp[igt]; omega),if_neg c3]
 by_cases c4:10<b.2.2.2.2.2.length
 ·rw[Ù (by simp[igt]; omega),if_pos c4]
 rw[Ó (by simp[igt]; omega),if_neg c4];rw[TC hr h1,À]
 cases hm:(jn b != 0) with
 |true =>
  have:ine (jn b) 0=true:=hm;rw[Ù this,if_pos rfl]
 |false =>
 have:ine (jn b) 0=false:=hm;rw[Ó this,if_neg (by simp)];rw[TO h1,À];unfold Za;rw[akV hs,À]
 cases(xm b (ir b)).find? (fun e=>e != 0) with
 |some e=>rfl
 |none =>
 dsimp only;rw[VS hs,À]
 by_cases c5:59<(Î b).length
 ·rw[Ù (by simp[igt]; omega),if_pos c5]
 rw[Ó (by simp[igt]; omega),if_neg c5];rw[Ö (by omega) (by omega),Ö (by omega) (by omega),Ö (by omega) (by omega),Ö (by omega) (by omega),Ö (by omega) (by omega),Ö (by omega) (by omega)]
 by_cases c6:300<2*b.2.1.length+2*((Î b).length-b.2.1.length:Int)+2*b.2.2.2.2.1.length
 ·rw[Ù (by simp[igt]; omega),if_pos c6]
 rw[Ó (by simp[igt]; omega),if_neg c6]
def wrapU {n:Nat} (h:n<18446744073709551616):IntKind.wrap .u64 (n:Int)=n:=by
 simp only[IntKind.wrap,IntKind.bits,IntKind.signed];simp;omega
def wrapI {n:Nat} (h:n<9223372036854775808):IntKind.wrap .i64 (n:Int)=n:=by
 simp only[IntKind.wrap,IntKind.bits,IntKind.signed];simp;omega
def iv (l:List (Int×Int)) (x d:Int):Option Nat:=l.findIdx? fun n=>decide (x=n.1)&&decide (d=n.2)
def ab8 {l:List (Int×Int)} (hn:l.length≤100000000) (x d:Int):ý l (x,d)=some (match iv l x d with|some j=>(j:Int)|none=>-1):=by
 unfold ý Ű;refine Eq.trans (gZ l (fun n=>decide (x=n.1)&&decide (d=n.2)) some (some (-1)) (fun i a hi ha kn=>?_) (fun kn=>?_)) ?_
 ·try dsimp only
  unfold ģ;rw[Ô hi,É ha,Í hi (by omega),ġ,Bool.and_true]
 ·try dsimp only
  unfold ģ;rw[â]
 ·unfold iv
  cases List.findIdx? (fun n=>decide (x=n.1)&&decide (d=n.2)) l<;>rfl
def atP (l:List (Int×Int)) (p:List Int) (d:Int):Int :=
 match p with
 |[]=>0
 |x::_=>match iv l x d with|some j=>(j:Int)+1|none=>0
def kq {l:List (Int×Int)} {x d:Int} {j:Nat} (h:iv l x d=some j):j<l.length∧l[j]?=some (x,d):=by
 unfold iv at h;obtain⟨hj,hp,_⟩:=List.findIdx?_eq_some_iff_getElem.1 h;refine⟨hj,?_⟩;rw[List.getElem?_eq_getElem hj];simp only[Bool.and_eq_true,decide_eq_true_eq] at hp;congr 1;exact Prod.ext hp.1.symm hp.2.symm
def ajV (m:Maker) (p:List Int) (d:Int) (hn:m.2.1.length≤100000000):iq m p d=some (atP m.2.1 p d):=by
 unfold iq yR atP
 cases p with
 |nil=>simp[å,ieq]
 |cons x p =>
  have h:ieq (Õ (x::p)) 0=false:=by
   rw[å];simp only[ieq,df,beq_eq_false_iff_ne,ne_eq];omega
  rw[h,é,show(0:Int)=((0:Nat):Int) from rfl,É (a:=x) rfl,ab8 hn,À]
  cases hx:iv m.2.1 x d with
  |none=>dsimp only; rw[Ö (by omega) (by omega)]; simp only[hx]; rfl
  |some j =>
   have:=(kq hx).1;dsimp only;rw[Ö (by omega) (by omega)];simp only[hx]
def Ex (s:List (Int×í)) (p:List Int):Int×Int :=
 match p with
 |[]=>(0,1)
 |x::_=>match sL (k:=tI) (v:=Ð) x s with
  |some g=>g.2.2.2.2.1
  |none=>(0,0)
def Y9 (s:List (Int×í)) (p:List Int):iT s p=some (Ex s p):=by
 unfold iT nw Ex
 cases p with
 |nil=>simp[å,ieq]
 |cons x p =>
  have h:ieq (Õ (x::p)) 0=false:=by
   rw[å];simp only[ieq,df,beq_eq_false_iff_ne,ne_eq];omega
  rw[h,é,show(0:Int)=((0:Nat):Int) from rfl,É (a:=x) rfl]
  cases hx:sL (k:=tI) (v:=Ð) x s with
  |none=>simp only[YD,hx]
  |some g=>simp only[YD,hx]
def aen {l:List (Int×Int)} (hr:∀r∈l,I64 r.1) (hn:l.length≤1000):jU l=some (if l.any (fun r=>!Kz r) then 1 else 0):=by
 unfold jU PX;refine Eq.trans (ķ l (fun r=>!Kz r) (fun _=>some 1) (some 1) (some 0) (fun _=>rfl) (fun i a hi ha kn=>?_) (fun kn=>?_)) ?_
 ·try dsimp only
  unfold rh;rw[Ô hi,É ha,Yw (hr a (List.mem_of_getElem? ha)),À,Í hi (by omega),ġ]
 ·try dsimp only
  unfold rh;rw[â]
 ·cases l.any (fun r=>!Kz r)<;>rfl
def nq (n d:Int):Int×Int:=(n / (Nat.gcd n.natAbs d.natAbs:Nat),d / (Nat.gcd n.natAbs d.natAbs:Nat))
def jY (r:Int×Int):Kz r=true↔1≤r.2∧r.2≤2147483647∧(r.1.natAbs:Int)≤2147483647∧Nat.gcd r.1.natAbs r.2.natAbs=1:=by
 simp[Kz]
def zH {n d:Int} (hd:0<d):∃g:Nat,0<g∧g=Nat.gcd n.natAbs d.natAbs∧n=(nq n d).1*g∧d=(nq n d).2*g:=by
 have hg:0<Nat.gcd n.natAbs d.natAbs:=Nat.gcd_pos_of_pos_right _ (by omega);refine⟨_,hg,rfl,?_,?_⟩
 ·exact(Int.ediv_mul_cancel (Int.ofNat_dvd_left.2 (Nat.gcd_dvd_left _ _))).symm
 ·exact(Int.ediv_mul_cancel (Int.ofNat_dvd_left.2 (Nat.gcd_dvd_right _ _))).symm
def Vu {n d:Int} (hd:0<d) (hn:n.natAbs≤2147483647) (hd2:d≤2147483647):Kz (nq n d)=true:=by
 obtain⟨g,h0,hg,h1,h2⟩:=zH (n:=n) hd;rw[jY]
 have a1:n.natAbs=(nq n d).1.natAbs*g:=by conv=>lhs; rw[h1]; rw[fF,fJ]
 have a2:d.natAbs=(nq n d).2.natAbs*g:=by conv=>lhs; rw[h2]; rw[fF,fJ]
 have p2:0<(nq n d).2:=by
  rcases Int.lt_trichotomy (nq n d).2 0 with h|h|h
  ·have:=Int.mul_neg_of_neg_of_pos h (show(0:Int)<g by omega); omega
  ·rw[h] at h2; simp at h2; omega
  ·exact h
 have b1:(nq n d).1.natAbs≤n.natAbs:=by rw[a1]; exact fV _ h0
 have b2:(nq n d).2.natAbs≤d.natAbs:=by rw[a2]; exact fV _ h0
 refine⟨by omega,by omega,by omega,?_⟩;have:=Nat.gcd_mul_right (nq n d).1.natAbs g (nq n d).2.natAbs;rw[←a1,←a2,←hg] at this
 have h3:(Nat.gcd (nq n d).1.natAbs (nq n d).2.natAbs)*g=1*g:=by omega
 exact Nat.eq_of_mul_eq_mul_right h0 h3
def TS {n d:Int} (hd:0<d) (hn:n.natAbs≤2147483647) (hd2:d≤2147483647):pR n d=some (nq n d,0):=by
 obtain⟨g,h0,hg,h1,h2⟩:=zH (n:=n) hd;have hr:=(jY _).1 (Vu hd hn hd2);unfold pR DT;rw[Vp ⟨by omega,by omega⟩,À,Vp ⟨by omega,by omega⟩,À,amq,À,←hg]
 have a1:n.natAbs=(nq n d).1.natAbs*g:=by conv=>lhs; rw[h1]; rw[fF,fJ]
 have a2:d.natAbs=(nq n d).2.natAbs*g:=by conv=>lhs; rw[h2]; rw[fF,fJ]
 have q1:Int.tdiv (n.natAbs:Int) (g:Int)=((nq n d).1.natAbs:Int):=by
  rw[a1,gM]; exact gj _ (by omega)
 have q2:Int.tdiv (d.natAbs:Int) (g:Int)=((nq n d).2.natAbs:Int):=by
  rw[a2,gM]; exact gj _ (by omega)
 have z:Ħ (g:Int) 0=false:=by simp[Ħ]; omega
 have g1:igt ((nq n d).1.natAbs:Int) 2147483647=false:=by simp[igt]; omega
 have g2:igt ((nq n d).2.natAbs:Int) 2147483647=false:=by simp[igt]; omega
 rw[Ó z,Ó z,q1,q2,wrapU (by omega),wrapU (by omega),wrapI (by omega),wrapI (by omega),Ó g1,Ó g2]
 have hd0:ilt d 0=false:=by simp[ilt]; omega
 rw[hd0]
 have e2:((nq n d).2.natAbs:Int)=(nq n d).2:=by omega
 rw[e2]
 by_cases hneg:n<0
 ·have hn0:ilt n 0=true:=by simp[ilt,hneg]
  have:(nq n d).1≤0:=by
   rcases Int.lt_or_le 0 (nq n d).1 with h|h
   ·have:=Int.mul_pos h (show(0:Int)<g by omega); omega
   ·exact h
  rw[hn0];rw[show(!true==false)=true from rfl,Ō,Ö (by omega) (by omega)]
  have:0-((nq n d).1.natAbs:Int)=(nq n d).1:=by omega
  rw[this]
 ·have hn0:ilt n 0=false:=by simp[ilt]; omega
  have:0≤(nq n d).1:=by
   rcases Int.lt_or_le (nq n d).1 0 with h|h
   ·have:=Int.mul_neg_of_neg_of_pos h (show(0:Int)<g by omega); omega
   ·exact h
  rw[hn0];rw[show(!false==false)=false from rfl,é]
  have:((nq n d).1.natAbs:Int)=(nq n d).1:=by omega
  rw[this]
structure qd (r:Int×Int) (n d:Int):Prop where
 rat:Kz r=true
 num : -n≤r.1∧r.1≤n
 den:r.2≤d
def qd.pos {r:Int×Int} {n d:Int} (h:qd r n d):1≤r.2:=((jY r).1 h.rat).1
def qd.i64 {r:Int×Int} {n d:Int} (h:qd r n d):I64 r.1:=by
 have:=((jY r).1 h.rat).2.2.1;exact⟨by omega,by omega⟩
def ahq {x y:Int×Int} (hx:Kz x=true) (hy:Kz y=true):jU [x,y]=some 0:=by
 rw[aen]
 ·simp[hx,hy]
 ·intro r hr
  have:Kz r=true:=by simp at hr; rcases hr with rfl|rfl<;>assumption
  have:=((jY r).1 this).2.2.1;exact⟨by omega,by omega⟩
 ·simp
def mw {a b m n:Int} (h1 : -m≤a∧a≤m) (h2 : -n≤b∧b≤n) : -(m*n)≤a*b∧a*b≤m*n:=by
 have hm:0≤m:=by omega
 have hn:0≤n:=by omega
 have h3:(a*b).natAbs≤(m*n).natAbs:=by
  rw[fF,fF];exact f8 (by omega) (by omega)
 have h4:0≤m*n:=fG hm hn;omega
def subP (x y:Int×Int):Int×Int:=nq (x.1*y.2-y.1*x.2) (x.2*y.2)
def Iq {x y:Int×Int} (hx:qd x 1000 100) (hy:qd y 1000 100):(x.1*y.2-y.1*x.2).natAbs≤200000∧0<x.2*y.2∧x.2*y.2≤10000:=by
 have h1:=mw hx.num (show -100≤y.2∧y.2≤100 from⟨by have:=hy.pos; omega,hy.den⟩);have h2:=mw hy.num (show -100≤x.2∧x.2≤100 from⟨by have:=hx.pos; omega,hx.den⟩);have h3:=mw (show -100≤x.2∧x.2≤100 from⟨by have:=hx.pos; omega,hx.den⟩) (show -100≤y.2∧y.2≤100 from⟨by have:=hy.pos; omega,hy.den⟩);have h4:=Int.mul_pos (show 0<x.2 by have:=hx.pos; omega) (show 0<y.2 by have:=hy.pos; omega);refine⟨by omega,h4,by omega⟩
def Sub_ok {x y:Int×Int} (hx:qd x 1000 100) (hy:qd y 1000 100):X3 x y=some (subP x y,0):=by
 obtain⟨b1,b2,b3⟩:=Iq hx hy;have h1:=mw hx.num (show -100≤y.2∧y.2≤100 from⟨by have:=hy.pos; omega,hy.den⟩);have h2:=mw hy.num (show -100≤x.2∧x.2≤100 from⟨by have:=hx.pos; omega,hx.den⟩);unfold X3 adk;rw[ahq hx.rat hy.rat,À];rw[show ine (0:Int) 0=false from rfl,é,Ö (by omega) (by omega),Ö (by omega) (by omega),Ö (by omega) (by omega),Ö (by omega) (by omega),TS b2 (by omega) (by omega),À];rfl
def ahP {n d:Int} (hd:0<d):(nq n d).1.natAbs≤n.natAbs∧(nq n d).2≤d:=by
 obtain⟨g,h0,hg,h1,h2⟩:=zH (n:=n) hd
 have a1:n.natAbs=(nq n d).1.natAbs*g:=by conv=>lhs; rw[h1]; rw[fF,fJ]
 have a2:d.natAbs=(nq n d).2.natAbs*g:=by conv=>lhs; rw[h2]; rw[fF,fJ]
 have b1:(nq n d).1.natAbs≤n.natAbs:=by rw[a1]; exact fV _ h0
 have b2:(nq n d).2.natAbs≤d.natAbs:=by rw[a2]; exact fV _ h0
 exact⟨b1,by omega⟩
def NI {x y:Int×Int} (hx:qd x 1000 100) (hy:qd y 1000 100):qd (subP x y) 200000 10000:=by
 obtain⟨b1,b2,b3⟩:=Iq hx hy;obtain⟨c1,c2⟩:=ahP (n:=x.1*y.2-y.1*x.2) b2;exact⟨Vu b2 (by omega) (by omega),by unfold subP; omega,by unfold subP; omega⟩
def ET (k:Int×Int) (n:Int):Int×Int:=nq (k.1*n) k.2
def IK {k:Int×Int} (hk:qd k 200000 10000) {n:Int} (hn : -10000≤n∧n≤10000):(k.1*n).natAbs≤2000000000:=by
 have:=mw hk.num hn;omega
def adz {n:Int} (hn : -10000≤n∧n≤10000):Kz (n,1)=true:=by
 rw[jY];exact⟨by simp,by simp,by simp; omega,by simp⟩
def amE {k:Int×Int} (hk:qd k 200000 10000) {n:Int} (hn : -10000≤n∧n≤10000):QW k (n,1)=some (ET k n,0):=by
 have b:=IK hk hn;have p:=hk.pos;have q:=hk.den;unfold QW adm;rw[ahq hk.rat (adz hn),À];rw[show ine (0:Int) 0=false from rfl,é,Ö (by simp only; omega) (by simp only; omega),Int.mul_one,Ö (by omega) (by omega),TS (by omega) (by simp only; omega) (by omega),À];rfl
def VW {k:Int×Int} (hk:qd k 200000 10000) {n:Int} (hn : -10000≤n∧n≤10000):qd (ET k n) 2000000000 10000:=by
 have b:=IK hk hn;have p:=hk.pos;have q:=hk.den;obtain⟨c1,c2⟩:=ahP (n:=k.1*n) (show 0<k.2 by omega);exact⟨Vu (by omega) (by omega) (by omega),by unfold ET; omega,by unfold ET; omega⟩
def amx (x y:Int×Int):Int:=if x=y then 0 else if x.1*y.2<y.1*x.2 then -1 else if y.1*x.2<x.1*y.2 then 1 else 0
def amw {x y:Int×Int} {m d:Int} (hx:qd x m d) (hy:qd y m d) (hm:m≤2000000000) (hd:d≤10000):QU x y=some (amx x y):=by
 have h1:=mw hx.num (show -d≤y.2∧y.2≤d from⟨by have:=hy.pos; have:=hy.den; omega,hy.den⟩);have h2:=mw hy.num (show -d≤x.2∧x.2≤d from⟨by have:=hx.pos; have:=hx.den; omega,hx.den⟩);have h0:0≤m∧0≤d:=⟨by have:=hx.num; omega,by have:=hx.pos; have:=hx.den; omega⟩;have h3:m*d≤2000000000*10000:=Int.mul_le_mul hm hd h0.2 (by omega);unfold QU adi amx;rw[Ö (by omega) (by omega),Ö (by omega) (by omega)];simp only[ġ,Bool.and_true,Bool.and_eq_true,decide_eq_true_eq,Ħ,ilt,igt,gt_iff_lt];have:(x.1=y.1∧x.2=y.2)↔x=y:=⟨fun h=>Prod.ext h.1 h.2,fun h=>by rw[h]; exact⟨rfl,rfl⟩⟩;simp only[this]
 (repeat' split)<;>rfl
def VM (k:Int×Int) (heat:Int×Int):(Int×Int)×(Int×Int) :=
 if 0<amx (ET k heat.1) (ET k heat.2) then(ET k heat.2,ET k heat.1) else(ET k heat.1,ET k heat.2)
def amY {k heat:Int×Int} (hk:qd k 200000 10000) (hh:jJ heat (-10000) 10000=true):oi k heat=some (VM k heat):=by
 simp only[jJ,Bool.and_eq_true,decide_eq_true_eq] at hh;obtain⟨h1,h2,h3⟩:=hh;have n1 : -10000≤heat.1∧heat.1≤10000:=⟨by omega,by omega⟩;have n2 : -10000≤heat.2∧heat.2≤10000:=⟨by omega,by omega⟩;have r1:qd (heat.1,1) 10000 10000:=⟨adz n1,n1,by simp⟩;have r2:qd (heat.2,1) 10000 10000:=⟨adz n2,n2,by simp⟩;unfold oi vp QV P6 sh rY;rw[ahq r1.rat r2.rat,À];have:ieq 0 0=true:=rfl;rw[Ù this,amw r1 r2 (by omega) (by omega),À]
 have hc:ile (amx (heat.1,1) (heat.2,1)) 0=true:=by
  unfold amx;simp only[ile,decide_eq_true_eq,Int.mul_one]
  split
  ·omega
  ·split
   ·omega
   ·rw[if_neg (by omega)]; omega
 rw[hc,À];simp only[Bool.not_true,é];rw[Yw hk.i64,hk.rat,À];simp only[Bool.not_true,é];rw[amE hk n1,À,amE hk n2,À];simp only[show ine (0:Int) 0=false from rfl,é];rw[amw (VW hk n1) (VW hk n2) (by omega) (by omega),À];unfold VM;rw[ġ]
 by_cases h:0<amx (ET k heat.1) (ET k heat.2)
 ·rw[if_pos h,if_pos (by simpa[igt] using h)]; rfl
 ·rw[if_neg h,if_neg (by simpa[igt] using h)]; rfl
def rateK (s:List (Int×í)) (c:Cmp):Int×Int:=subP (Ex s (ê c.2.2.1 c.2.2.2.1)) (Ex s (ê c.2.2.2.1 c.2.2.1))
def ĸ (b:Þ) (c:Cmp):(Int×Int)×(Int×Int):=VM (rateK (ir b) c) c.2.2.2.2.2.2
def abm {b:Þ} (hs:Ŷ b) {c:Cmp} (hA:c.2.2.1.length≤1000) (hB:c.2.2.2.1.length≤1000)
 (h1:qd (Ex (ir b) (ê c.2.2.1 c.2.2.2.1)) 1000 100) (h2:qd (Ex (ir b) (ê c.2.2.2.1 c.2.2.1)) 1000 100) (hh:jJ c.2.2.2.2.2.2 (-10000) 10000=true):oH b c=some (ĸ b c):=by
 unfold oH JL;rw[TO hs.gauges,À,sc (by omega) (by omega),À,Y9,À,sc (by omega) (by omega),À,Y9,À];unfold vU vq;rw[Sub_ok h1 h2,À,À]
 try dsimp only
 rw[amY (NI h1 h2) hh,À];rfl
def jG (b:Þ) (c:Cmp):Int×Int :=
 (((c.2.2.1.length-1:Nat):Int)*b.1.1-((c.2.2.2.1.length-1:Nat):Int)*b.1.2,((c.2.2.1.length-1:Nat):Int)*b.1.2-((c.2.2.2.1.length-1:Nat):Int)*b.1.1)
def afc {b:Þ} {c:Cmp} (hA:c.2.2.1.length≤1000) (hB:c.2.2.2.1.length≤1000) (h1:0≤b.1.1) (h2:b.1.1≤1000000) (h3:0≤b.1.2) (h4:b.1.2≤1000000):uj b c=some (jG b c):=by
 unfold uj Qp jG
 have e:∀n:Nat,Ek 0 ((n:Int)-1)=((n-1:Nat):Int):=by
  intro n;unfold Ek
  split<;>omega
 have bd:∀(n:Nat) (x:Int),n≤1000→0≤x→x≤1000000→0≤((n-1:Nat):Int)*x∧((n-1:Nat):Int)*x≤1000000000:=by
  intro n x hn h0 hx;refine⟨fG (by omega) h0,?_⟩;have:=fj (show((n-1:Nat):Int)≤1000 by omega) hx h0 (by omega);omega
 have b1:=bd _ _ hA h1 h2;have b2:=bd _ _ hA h3 h4;have b3:=bd _ _ hB h1 h2;have b4:=bd _ _ hB h3 h4;simp only[å];rw[Ö (by omega) (by omega),Ö (by omega) (by omega)];simp only[e];rw[Ö (by omega) (by omega),Ö (by omega) (by omega),Ö (by omega) (by omega),Ö (by omega) (by omega),Ö (by omega) (by omega),Ö (by omega) (by omega)]
def XY {n d:Int} (hd:1≤d) (hn : -4000000000≤n∧n≤4000000000):uf n d=some (n / d):=by
 unfold uf GO
 have z:Ħ d 0=false:=by simp[Ħ]; omega
 rw[Ó z];have t:=Int.mul_tdiv_add_tmod n d
 have b1 : -4000000000≤Int.tdiv n d∧Int.tdiv n d≤4000000000:=by
  have:=Int.natAbs_tdiv_le_natAbs n d;omega
 rw[Ö (by omega) (by omega),Ó z,ġ]
 by_cases h:Int.tmod n d<0
 ·rw[if_pos (by simpa[ilt] using h),Ö (by omega) (by omega)];congr 1
  have h5 : -d<Int.tmod n d:=by
   have h6:=gN n d;have h7:=gy n.natAbs (show 0<d.natAbs by omega);omega
  refine(f0 (by omega)).2 ⟨?_,?_⟩ |>.symm
  ·rw[Int.sub_mul,fI]; omega
  ·rw[Int.sub_mul,fI (Int.tdiv n d)]; omega
 ·rw[if_neg (by simpa[ilt] using h)];congr 1
  have h5:Int.tmod n d<d:=by
   have h6:=gN n d;have h7:=gy n.natAbs (show 0<d.natAbs by omega);omega
  refine(f0 (by omega)).2 ⟨?_,?_⟩ |>.symm
  ·rw[fI]; omega
  ·rw[fI (Int.tdiv n d)]; omega
def amg {x:Int×Int} (hx:Kz x=true):jU [x]=some 0:=by
 rw[aen]
 ·simp[hx]
 ·intro r hr
  have:Kz r=true:=by simp at hr; subst hr; assumption
  have:=((jY r).1 this).2.2.1;exact⟨by omega,by omega⟩
 ·simp
def Kg (r:Int×Int):Int:=-(-r.1 / r.2)
def afM {r:Int×Int} (h:Kz r=true):zn r=some (r.1 / r.2,0):=by
 unfold zn P9;have:=(jY r).1 h;rw[amg h,À];rw[show ine (0:Int) 0=false from rfl,é,XY (by omega) (by omega),À]
def Ka {n d:Int} (hd:1≤d):(n / d).natAbs≤n.natAbs:=by
 exact Int.natAbs_ediv_le_natAbs n d
def aks {r:Int×Int} (h:Kz r=true):HW r=some (Kg r,0):=by
 unfold HW Xn Kg;have:=(jY r).1 h;rw[amg h,À];rw[show ine (0:Int) 0=false from rfl,é,Ö (by omega) (by omega),XY (by omega) (by omega),À];have hb:=Ka (n:=0-r.1) (show 1≤r.2 by omega);rw[Ö (by omega) (by omega),Int.zero_sub,Int.zero_sub]
def Ν (b:Þ) (c:Cmp):Int×Int :=
 (c.2.2.2.2.1-c.2.2.2.2.2.1-(jG b c).2-(ĸ b c).2.1 / (ĸ b c).2.2,c.2.2.2.2.1+c.2.2.2.2.2.1-(jG b c).1-Kg (ĸ b c).1)
structure ė (b:Þ):Prop where
 film:0≤b.1.1∧b.1.1≤b.1.2∧b.1.2≤1000000
 nG:b.2.1.length≤12
 nU:b.2.2.1.length≤40
 nL:b.2.2.2.1.length≤12
 nC:b.2.2.2.2.1.length≤40
 nK:b.2.2.2.2.2.length≤10
 gauge:∀g∈b.2.1,pH g=true
 ids:b.2.1.Pairwise fun a b=>a.1<b.1
 uses:∀u∈b.2.2.1,afQ (ir b) u.1 u.2=0
 loans:∀i l,b.2.2.2.1[i]?=some l→TA b (ir b) i l=0
 compares:∀i c,b.2.2.2.2.1[i]?=some c→om b (ir b) i c=0
 looks:∀u∈b.2.2.2.2.2,afQ (ir b) u.1 u.2=0
 nodes:(Î b).length≤59
 links:2*(Î b).length+2*b.2.2.2.2.1.length≤300
def vI (b:Þ):jn b=0↔(∀g∈b.2.1,pH g=true)∧b.2.1.Pairwise fun a b=>a.1<b.1:=by
 have h0:ī (nM b.2.1) 0 b.2.1=none↔(∀g∈b.2.1,pH g=true)∧b.2.1.Pairwise fun a b=>a.1<b.1:=by
  rw[iE,←Yp (fun g:í=>g.1) b.2.1];constructor
  ·intro h
   have h1:∀(j:Nat) (a:í),b.2.1[j]?=some a→pH a=true∧Eh (fun g:í=>g.1) b.2.1 j a=false:=by
    intro j a ha;have:=h j a ha;rw[Nat.zero_add] at this;unfold nM at this
    split at this
    ·cases this
    ·split at this
     ·cases this
     ·rename_i h1 h2;exact⟨by simpa using h1,by simpa using h2⟩
   refine⟨fun x hx=>?_,fun i a ha=>(h1 i a ha).2⟩;obtain⟨j,hj,rfl⟩:=dj.1 hx;exact(h1 j _ (cO hj)).1
  ·rintro⟨h1,h2⟩ j a ha;rw[dm];simp[nM,h1 a (cZ ha),h2 j a ha]
 rw[←h0];unfold jn
 cases h:ī (nM b.2.1) 0 b.2.1 with
 |none=>simp
 |some e =>
  have:∀(m:List í) (j:Nat) (x:Int),ī (nM b.2.1) j m=some x→x≠0:=by
   intro m
   induction m with
   |nil=>intro j x h; cases h
   |cons a m ih =>
    intro j x h;unfold ī at h
    cases hp:nM b.2.1 j a with
    |none=>rw[hp] at h; exact ih _ _ h
    |some y =>
     rw[hp] at h;cases h;unfold nM at hp
     split at hp
     ·cases hp; omega
     ·split at hp
      ·cases hp; omega
      ·cases hp
  simp[this _ _ _ h]
def ä (b:Þ):ã b=0↔ė b:=by
 unfold ã;constructor
 ·intro h
  split at h
  ·omega
  rename_i h1
  (repeat' split at h)<;>try omega
  ·rename_i hg
   have hg':jn b≠0:=by simpa using hg
   exact(hg' h).elim
  ·rename_i hf;have:=fW hf;rename_i e;simp at this;exact(this h).elim
  ·rename_i hn1 hn2 hn3 hn4 hn5 hg e hf hn6 hn7
   have hg0:jn b=0:=by simpa using hg
   obtain⟨g1,g2⟩:=(vI b).1 hg0
   have hall:∀x∈xm b (ir b),x=0:=fun x hx=>by
    have:=eD.1 hf x hx;simpa using this
   simp only[xm,cY] at hall
   have hs:jJ b.1 0 1000000=true:=by simpa using h1
   simp only[jJ,cR,decide_eq_true_eq] at hs;refine⟨⟨hs.1,hs.2.1,hs.2.2⟩,by omega,by omega,by omega,by omega,by omega,g1,g2,fun u hu=>hall _ (.inl (d8.2 ⟨u,hu,rfl⟩)),fun i l hl=>?_,fun i c hc=>?_,fun u hu=>hall _ (.inr (.inr (.inr (d8.2 ⟨u,hu,rfl⟩)))),by omega,by omega⟩
   ·obtain⟨hi,rfl⟩:=cX.1 hl;exact hall _ (.inr (.inl (gL.2 ⟨i,hi,rfl⟩)))
   ·obtain⟨hi,rfl⟩:=cX.1 hc;exact hall _ (.inr (.inr (.inl (gL.2 ⟨i,hi,rfl⟩))))
 ·intro h
  have hs:jJ b.1 0 1000000=true:=by simp[jJ,h.film.1,h.film.2.1,h.film.2.2]
  have hg:jn b=0:=(vI b).2 ⟨h.gauge,h.ids⟩
  have hall:(xm b (ir b)).find? (fun e=>e != 0)=none:=by
   rw[eD];intro x hx;simp only[xm,cY,d8,gL] at hx
   have:x=0:=by
    rcases hx with⟨u,hu,rfl⟩|⟨i,hi,rfl⟩|⟨i,hi,rfl⟩|⟨u,hu,rfl⟩
    ·exact h.uses u hu
    ·exact h.loans i _ (cO hi)
    ·exact h.compares i _ (cO hi)
    ·exact h.looks u hu
   simp[this]
  have:=h.nG; have:=h.nU; have:=h.nL; have:=h.nC; have:=h.nK; have:=h.nodes; have:=h.links;rw[hs,hg,hall];simp only[dN,dl,if_false,bne_self_eq_false];rw[if_neg (by omega),if_neg (by omega),if_neg (by omega),if_neg (by omega),if_neg (by omega),if_neg (by omega),if_neg (by omega)]
section
variable {b:Þ}
def ĭ {l:List Int} (h:ic l=true):l.length≤6:=((sw l).1 h).2.2
def ė.nums (h:ė b) {c:Cmp} (hc:c∈b.2.2.2.2.1):L6 c=true:=by
 obtain⟨i,hi,rfl⟩:=List.mem_iff_getElem.1 hc;have:=h.compares i _ (List.getElem?_eq_getElem hi);unfold om at this
 split at this
 ·omega
 ·rename_i h; simpa using h
def ė.pilesOf (h:ė b) {c:Cmp} (hc:c∈b.2.2.2.2.1):Bc b (ir b) c=0:=by
 obtain⟨i,hi,rfl⟩:=List.mem_iff_getElem.1 hc;have:=h.compares i _ (List.getElem?_eq_getElem hi);unfold om at this
 split at this
 ·omega
 ·split at this
  ·omega
  ·exact this
def Ο (c:Cmp):L6 c=true↔(1≤c.1∧c.1≤1099511627776)∧(0≤c.2.1∧c.2.1≤20000)∧(-1125899906842624≤c.2.2.2.2.1∧c.2.2.2.2.1≤1125899906842624)∧(0≤c.2.2.2.2.2.1∧c.2.2.2.2.2.1≤1073741824)∧jJ c.2.2.2.2.2.2 (-10000) 10000=true∧ic c.2.2.1=true∧ic c.2.2.2.1=true:=by
 simp[L6,inP,Ct,and_assoc]
def ė.size (h:ė b):Ŷ b:=by
 have h1:=h.nG; have h2:=h.nU; have h3:=h.nL; have h4:=h.nC; have h5:=h.nK;refine⟨by omega,by omega,by omega,by omega,by omega,fun c hc=>?_⟩;have:=(Ο c).1 (h.nums hc);have a:=ĭ this.2.2.2.2.2.1;have b:=ĭ this.2.2.2.2.2.2;omega
def tX (g:í):pH g=true↔Kz g.2.2.2.2.1=true∧(-1000≤g.2.2.2.2.1.1∧g.2.2.2.2.1.1≤1000)∧g.2.2.2.2.1.2≤100∧(1≤g.1∧g.1≤1099511627776)∧(0≤g.2.1∧g.2.1≤20000)∧(1≤g.2.2.1∧g.2.2.1≤1125899906842624)∧(-1073741824≤g.2.2.2.1.1∧g.2.2.2.1.1≤g.2.2.2.1.2∧g.2.2.2.1.2≤1073741824)∧(0≤g.2.2.2.2.2∧g.2.2.2.2.2≤1048576):=by
 simp[pH,inP,Ct,jJ,and_assoc]
def nf {id:Int} {g:í} (h:ť b id=some g):g∈b.2.1∧g.1=id:=by
 unfold ť at h;exact⟨List.mem_of_find?_eq_some h,by simpa using List.find?_some h⟩
def vJ (hi:b.2.1.Pairwise fun a b=>a.1<b.1) {g:í} (hg:g∈b.2.1):ť b g.1=some g:=by
 unfold ť
 induction hl:b.2.1 generalizing b with
 |nil=>rw[hl] at hg; cases hg
 |cons a t ih =>
  rw[hl] at hg hi;rw[dH] at hi;rw[gp];rcases dc.1 hg with rfl|hg
  ·simp
  ·have h1:=hi.1 g hg
   have:(a.1==g.1)=false:=by simp; omega
   rw[this];have:=ih (b:=(b.1,t,b.2.2)) hi.2 hg rfl;exact this
def IL (h:ė b) {id day:Int} (hm:mJ (ir b) id day=0):∃g,ť b id=some g∧g.2.1≤day:=by
 unfold mJ at hm;rw[zL h.ids] at hm
 split at hm
 ·rename_i g hg
  split at hm
  ·omega
  ·exact⟨g,hg,by omega⟩
 ·omega
def Oq (s:List (Int×í)) (id day:Int):mJ s id day=0∨mJ s id day=4∨mJ s id day=5:=by
 unfold mJ
 split
 ·split<;>simp
 ·simp
def ė.pile (h:ė b) {c:Cmp} (hc:c∈b.2.2.2.2.1) {x:Int} (hx:x∈c.2.2.1++c.2.2.2.1):(∃g,ť b x=some g∧g.2.1≤c.2.1)∧lC b x c.2.1=none:=by
 have hp:=h.pilesOf hc;unfold Bc at hp
 split at hp
 ·omega
 rename_i h5
 split at hp
 ·omega
 rename_i h4
 split at hp
 ·omega
 rename_i h9;have a5:=(eV.1 (ez.2 h5)) x hx;have a4:=(eV.1 (ez.2 h4)) x hx;have a9:=(eV.1 (ez.2 h9)) x hx;simp at a5 a4 a9;refine⟨IL h ?_,a9⟩;rcases Oq (ir b) x c.2.1 with h0|h0|h0
 ·exact h0
 ·exact(a4 h0).elim
 ·exact(a5 h0).elim
def ė.lefts (h:ė b) {c:Cmp} (hc:c∈b.2.2.2.2.1):(ê c.2.2.1 c.2.2.2.1).length≤1∧(ê c.2.2.2.1 c.2.2.1).length≤1∧(ê c.2.2.1 c.2.2.2.1).length+(ê c.2.2.2.1 c.2.2.1).length≠0:=by
 have hp:=h.pilesOf hc;unfold Bc at hp
 (repeat' split at hp)<;>first|omega|exact⟨by omega,by omega,by omega⟩
def jP {a c:List Int} {x:Int}:x∈ê a c↔x∈a∧x∉c:=by
 simp[ê]
def ė.rate (h:ė b) {p:List Int} (hp:∀x∈p,∃g,ť b x=some g):qd (Ex (ir b) p) 1000 100:=by
 unfold Ex
 cases p with
 |nil =>
  have:qd (0,1) 1000 100:=⟨by decide,by decide,by decide⟩;exact this
 |cons x t =>
  obtain⟨g,hg⟩:=hp x (by simp)
  try dsimp only
  rw[zL h.ids,hg];have:=(tX g).1 (h.gauge g (nf hg).1);exact⟨this.1,this.2.1,this.2.2.1⟩
def ė.rates (h:ė b) {c:Cmp} (hc:c∈b.2.2.2.2.1):qd (Ex (ir b) (ê c.2.2.1 c.2.2.2.1)) 1000 100∧qd (Ex (ir b) (ê c.2.2.2.1 c.2.2.1)) 1000 100:=by
 constructor
 ·exact h.rate fun x hx=>by
   obtain⟨⟨g,hg,_⟩,_⟩:=h.pile hc (d9 _ (jP.1 hx).1);exact⟨g,hg⟩
 ·exact h.rate fun x hx=>by
   obtain⟨⟨g,hg,_⟩,_⟩:=h.pile hc (dR _ (jP.1 hx).1);exact⟨g,hg⟩
def ė.growth (h:ė b) {c:Cmp} (hc:c∈b.2.2.2.2.1):oH b c=some (ĸ b c):=by
 obtain⟨r1,r2⟩:=h.rates hc;have hn:=(Ο c).1 (h.nums hc);have a:=ĭ hn.2.2.2.2.2.1;have b:=ĭ hn.2.2.2.2.2.2;exact abm h.size (by omega) (by omega) r1 r2 hn.2.2.2.2.1
def ė.films (h:ė b) {c:Cmp} (hA:c.2.2.1.length≤1000) (hB:c.2.2.2.1.length≤1000):uj b c=some (jG b c):=by
 have:=h.film;exact afc hA hB (by omega) (by omega) (by omega) (by omega)
def VL {k heat:Int×Int} (hk:qd k 200000 10000) (hh:jJ heat (-10000) 10000=true):qd (VM k heat).1 2000000000 10000∧qd (VM k heat).2 2000000000 10000:=by
 simp only[jJ,Bool.and_eq_true,decide_eq_true_eq] at hh;have r1:=VW hk (n:=heat.1) ⟨by omega,by omega⟩;have r2:=VW hk (n:=heat.2) ⟨by omega,by omega⟩;unfold VM
 split
 ·exact⟨r2,r1⟩
 ·exact⟨r1,r2⟩
def vO {c:Cmp} (hA:c.2.2.1.length≤1000) (hB:c.2.2.2.1.length≤1000) (h1:0≤b.1.1) (h2:b.1.1≤1000000) (h3:0≤b.1.2) (h4:b.1.2≤1000000) :
 (-1000000000≤(jG b c).1∧(jG b c).1≤1000000000)∧(-1000000000≤(jG b c).2∧(jG b c).2≤1000000000):=by
 have bd:∀(n:Nat) (x:Int),n≤1000→0≤x→x≤1000000→0≤((n-1:Nat):Int)*x∧((n-1:Nat):Int)*x≤1000000000:=by
  intro n x hn h0 hx;refine⟨fG (by omega) h0,?_⟩;have:=fj (show((n-1:Nat):Int)≤1000 by omega) hx h0 (by omega);omega
 have b1:=bd _ _ hA h1 h2;have b2:=bd _ _ hA h3 h4;have b3:=bd _ _ hB h1 h2;have b4:=bd _ _ hB h3 h4;unfold jG
 try dsimp only
 omega
def vL {r:Int×Int} (h:qd r 2000000000 10000) : -2000000000≤r.1 / r.2∧r.1 / r.2≤2000000000:=by
 have:=Ka (n:=r.1) h.pos;have:=h.num;omega
def Ay {r:Int×Int} (h:qd r 2000000000 10000) : -2000000000≤Kg r∧Kg r≤2000000000:=by
 have:=Ka (n:=-r.1) h.pos;have:=h.num;unfold Kg;omega
def ė.says (h:ė b) {c:Cmp} (hc:c∈b.2.2.2.2.1):vT b c=some (Ν b c):=by
 obtain⟨r1,r2⟩:=h.rates hc;have hn:=(Ο c).1 (h.nums hc);have ha:=ĭ hn.2.2.2.2.2.1;have hb:=ĭ hn.2.2.2.2.2.2;have hf:=h.film;obtain⟨g1,g2⟩:=VL (NI r1 r2) hn.2.2.2.2.1;have fb:=vO (b:=b) (c:=c) (by omega) (by omega) (by omega) (by omega) (by omega) (by omega);have q1:qd (ĸ b c).1 2000000000 10000:=g1;have q2:qd (ĸ b c).2 2000000000 10000:=g2;have c1:=Ay q1;have c2:=vL q2;unfold vT Xr Ν;rw[h.growth hc,À,h.films (by omega) (by omega),À,afM q2.rat,À,aks q1.rat,À]
 try dsimp only
 have n3:=hn.2.2.1;have n4:=hn.2.2.2.1;rw[Ö (by omega) (by omega),Ö (by omega) (by omega),Ö (by omega) (by omega),Ö (by omega) (by omega),Ö (by omega) (by omega),Ö (by omega) (by omega)]
end
def ę (l:LV) (f t:Int):Int:=min l.2.1.2 (t-1)-max l.2.1.1 f+1
def į (id f t:Int):List LV→Int
 |[]=>0
 |l::r=>(if l.1=id∧0<ę l f t then ę l f t*l.2.2 else 0)+į id f t r
def yY (id f t:Int):∀(x y:List LV),į id f t (x++y)=į id f t x+į id f t y
 |[],y=>by simp[į]
 |l::r,y=>by
  simp only[eQ,į,yY id f t r y];omega
def i5 (b:Þ) (id f t:Int):List Int:=(b.2.2.1.filter fun u=>u.1==id&&inP u.2 f (t-1)).map fun u=>u.2
def iS (b:Þ) (g:í) (f t:Int):Int:=į g.1 f t b.2.2.2.1+(Y0 (i5 b g.1 f t)).length*g.2.2.2.2.2
def D9 (a c:Int):Ea a c=min a c:=by unfold Ea; split<;>omega
def XT (a c:Int):Ek a c=max a c:=by unfold Ek; split<;>omega
def JS {b:Þ} (h:ė b) {l:LV} (hl:l∈b.2.2.2.1):(0≤l.2.1.1∧l.2.1.1≤l.2.1.2∧l.2.1.2≤20000)∧(0≤l.2.2∧l.2.2≤1048576):=by
 obtain⟨i,hi,rfl⟩:=List.mem_iff_getElem.1 hl;have:=h.loans i _ (List.getElem?_eq_getElem hi);unfold TA at this
 split at this
 ·omega
 rename_i h1
 split at this
 ·omega
 rename_i h2;simp only[eN,Bool.not_eq_false,jJ,inP,cR,decide_eq_true_eq] at h1 h2;exact⟨h1,h2⟩
def UF {l:LV} (h:(0≤l.2.1.1∧l.2.1.1≤l.2.1.2∧l.2.1.2≤20000)∧(0≤l.2.2∧l.2.2≤1048576)) {f t:Int} (hf:0≤f) (hd:0<ę l f t):0≤ę l f t*l.2.2∧ę l f t*l.2.2≤20001*1048576:=by
 refine⟨Int.mul_nonneg (by omega) h.2.1,Int.mul_le_mul ?_ h.2.2 h.2.1 (by omega)⟩;unfold ę;omega
def sa {id f t:Int} (hf:0≤f):∀{x:List LV},(∀l∈x,(0≤l.2.1.1∧l.2.1.1≤l.2.1.2∧l.2.1.2≤20000)∧(0≤l.2.2∧l.2.2≤1048576))→0≤į id f t x∧į id f t x≤x.length*(20001*1048576)
 |[],_=>by simp[į]
 |l::r,h=>by
  have ih:=sa (id:=id) (t:=t) hf (x:=r) fun l hl=>h l (by simp[hl]);simp only[į,df,gF,gh,gD]
  split
  ·rename_i hc;have:=UF (h l (by simp)) hf hc.2;omega
  ·omega
def am6 {b:Þ} (h:ė b) {g:í} (hg:0≤g.2.2.2.2.2∧g.2.2.2.2.2≤1048576) {f t:Int} (hf:0≤f∧f≤100000) (ht:0≤t∧t≤100000):Ap b g f t=some (iS b g f t):=by
 have hL:=h.nL;have hU:=h.nU
 have hlb:∀i,0≤į g.1 f t (b.2.2.2.1.take i)∧į g.1 f t (b.2.2.2.1.take i)≤12*(20001*1048576):=by
  intro i;have h1:=sa (id:=g.1) (t:=t) hf.1 (x:=b.2.2.2.1.take i) fun l hl=>JS h (List.mem_of_mem_take hl);have h2:((b.2.2.2.1.take i).length:Int)*(20001*1048576)≤12*(20001*1048576):=fC (by rw[di]; omega) (by omega);omega
 unfold Ap Xu;refine ł (fun x:Int×Int=>∃i:Nat,i≤b.2.2.2.1.length∧x=(į g.1 f t (b.2.2.2.1.take i),(i:Int))) (fun x=>b.2.2.2.1.length-x.2.toNat) ?_ ⟨0,by omega,rfl⟩;rintro x ⟨i,hi,rfl⟩;rcases Nat.lt_or_ge i b.2.2.2.1.length with hlt|hge
 ·have hl:b.2.2.2.1[i]?=some b.2.2.2.1[i]:=cO hlt;have hz:=JS h (cZ hl);refine .inr ⟨(į g.1 f t (b.2.2.2.1.take (i+1)),(i:Int)+1),⟨i+1,hlt,by simp⟩,by simp; omega,fun kn=>?_⟩
  try dsimp only
  unfold vx;have b1:=hlb i;have b2:=hlb (i+1)
  have e1:į g.1 f t (b.2.2.2.1.take (i+1))=į g.1 f t (b.2.2.2.1.take i)+(if b.2.2.2.1[i].1=g.1∧0<ę b.2.2.2.1[i] f t then ę b.2.2.2.1[i] f t*b.2.2.2.1[i].2.2 else 0):=by
   rw[take_succ hl,yY]; simp[į]
  rw[Ô hlt,É hl,Ö (by omega) (by omega),D9,XT,Ö (by omega) (by omega),Ö (by omega) (by omega)];rw[show min b.2.2.2.1[i].2.1.2 (t-1)-max b.2.2.2.1[i].2.1.1 f+1=ę b.2.2.2.1[i] f t from rfl,ġ]
  by_cases hid:b.2.2.2.1[i].1=g.1
  ·rw[if_pos (by simpa[ieq] using hid),ġ]
   by_cases hd:0<ę b.2.2.2.1[i] f t
   ·have lb:=UF hz hf.1 hd;rw[if_pos ⟨hid,hd⟩] at e1;rw[if_pos (by simpa[igt] using hd),Ö (by omega) (by omega),Ö (by omega) (by omega),Í hlt (by omega),e1]
   ·rw[if_neg (fun hc=>hd hc.2)] at e1;rw[if_neg (by simpa[igt] using hd),Í hlt (by omega),e1,fP]
  ·rw[if_neg (fun hc=>hid hc.1)] at e1;rw[if_neg (by simpa[ieq] using hid),Í hlt (by omega),e1,fP]
 ·refine .inl fun kn=>?_
  have:i=b.2.2.2.1.length:=by omega
  subst this
  try dsimp only
  unfold vx;rw[â,List.take_length]
  have hud:∀x:List (Int×Int),x.length≤40→((x.filter fun u=>u.1==g.1&&inP u.2 f (t-1)).map fun u=>u.2).length≤40:=by
   intro x hx;rw[dX];exact dA (dJ _ _) hx
  refine ü b.2.2.1 (fun i=>((b.2.2.1.take i).filter fun u=>u.1==g.1&&inP u.2 f (t-1)).map fun u=>u.2) _ rfl (fun i u hi hu kn'=>?_) (fun kn'=>?_)
  ·try dsimp only
   unfold vw;have hx:=hud (b.2.2.1.take i) (by rw[List.length_take]; omega);rw[Ô hi,É hu,Ö (by omega) (by omega),gT,À,Ø (by simp only[List.length_singleton]; omega),Am.iff_true,Í hi (by omega),Í hi (by omega),take_succ hu,List.filter_append,List.map_append]
   cases h1:(u.1==g.1) with
   |false =>
    have:ieq u.1 g.1=false:=h1;simp only[this,é,dT,h1,Bool.false_and,dl,if_false,dW,ft,dK]
   |true =>
    have:ieq u.1 g.1=true:=h1;rw[this]
    cases h2:inP u.2 f (t-1) with
    |false=>simp only[Ō,é,dT,h1,h2,dO,dl,if_false,dW,ft,dK]
    |true=>simp only[Ō,dT,h1,h2,dO,if_true,dW,ft,eO]
  ·try dsimp only
   unfold vw;rw[â,List.take_length];rw[show((b.2.2.1.filter fun u=>u.1==g.1&&inP u.2 f (t-1)).map fun u=>u.2)=i5 b g.1 f t from rfl];have h40:(i5 b g.1 f t).length≤40:=hud _ hU
   have hc40:(Y0 (i5 b g.1 f t)).length≤40:=by
    have:=Es (i5 b g.1 f t);omega
   have hm:0≤((Y0 (i5 b g.1 f t)).length:Int)*g.2.2.2.2.2∧((Y0 (i5 b g.1 f t)).length:Int)*g.2.2.2.2.2≤40*1048576 :=
    ⟨fG (by omega) hg.1,fj (by omega) hg.2 hg.1 (by omega)⟩
   have b1:=hlb b.2.2.2.1.length;rw[List.take_length] at b1;dsimp only;rw[Ø (by omega),Am.iff_true,Ø (by rw[YW]; omega),Am.iff_true,ahC,å,Ö (by omega) (by omega),Ö (by omega) (by omega)];rfl
abbrev Lk:Type:=Int×Int×Int
inductive Wl (L:List Lk) (S:Int→Prop):List Int→Int→Int→Prop
 |nil {v:Int}:S v→Wl L S [] v 0
 |step {vs:List Int} {u v m d:Int}:Wl L S vs u d→(u,v,m)∈L→Wl L S (u::vs) v (d+m)
def Pot (L:List Lk) (p:Int→Int):Prop:=∀u v m,(u,v,m)∈L→p v≤p u+m
def InR (L:List Lk) (N:Nat):Prop:=∀l∈L,(0≤l.1∧l.1<N)∧(0≤l.2.1∧l.2.1<N)
section
variable {L:List Lk} {S:Int→Prop} {N:Nat} {p:Int→Int}
def Wl.cut (hp:Pot L p) {vs:List Int} {v d:Int} (h:Wl L S vs v d):∀x∈vs,∃vs1 d1,Wl L S vs1 x d1∧(x::vs1) <:+ vs∧d1+(p v-p x)≤d:=by
 induction h with
 |nil h=>intro x hx; cases hx
 | @step vs u v m d hw hl ih =>
  intro x hx;have h1:=hp u v m hl;rcases dc.1 hx with rfl|hx
  ·exact⟨vs,d,hw,List.suffix_refl _,by omega⟩
  ·obtain⟨vs1,d1,g1,g2,g3⟩:=ih x hx;exact⟨vs1,d1,g1,g2.trans (List.suffix_cons _ _),by omega⟩
def Wl.simple (hp:Pot L p) {vs:List Int} {v d:Int} (h:Wl L S vs v d):∃vs' d',Wl L S vs' v d'∧d'≤d∧(v::vs').Nodup:=by
 induction h with
 |nil h=>exact⟨[],0,.nil h,ee _,by simp⟩
 | @step vs u v m d hw hl ih =>
  obtain⟨vs1,d1,g1,g2,g3⟩:=ih;have hw1:=Wl.step g1 hl
  by_cases hv:v∈u::vs1
  ·obtain⟨vs2,d2,k1,k2,k3⟩:=hw1.cut hp v hv;exact⟨vs2,d2,k1,by omega,g3.sublist k2.sublist⟩
  ·exact⟨u::vs1,d1+m,hw1,by omega,gk.2 ⟨hv,g3⟩⟩
def Wl.range (hL:InR L N) (hS:∀v,S v→0≤v∧v<N) {vs:List Int} {v d:Int} (h:Wl L S vs v d):(0≤v∧v<N)∧∀u∈vs,0≤u∧u<N:=by
 induction h with
 |nil h=>exact⟨hS _ h,fun u hu=>by cases hu⟩
 | @step vs u v m d hw hl ih =>
  refine⟨(hL _ hl).2,fun w hw'=>?_⟩;rcases dc.1 hw' with rfl|h
  ·exact ih.1
  ·exact ih.2 w h
def aeF:∀(N:Nat) (l:List Int),l.Nodup→(∀x∈l,0≤x∧x<N)→l.length≤N
 |0,l,_,h=>by
  cases l with
  |nil=>simp
  |cons a l=>have:=h a (by simp); omega
 |N+1,l,hn,h=>by
  have h1:(l.erase (N:Int)).length≤N:=aeF N _ (hn.erase _) fun x hx=>by
   have h2:=(hn.mem_erase_iff).1 hx;have:=h x h2.2;have:=h2.1;omega
  have:=List.length_erase (a:=(N:Int)) (l:=l)
  split at this<;>omega
def Wl.short (hL:InR L N) (hS:∀v,S v→0≤v∧v<N) {vs:List Int} {v d:Int} (h:Wl L S vs v d) (hn:(v::vs).Nodup):vs.length+1≤N:=by
 have:=h.range hL hS
 exact aeF N (v::vs) hn fun x hx=>by
  rcases dc.1 hx with rfl|hx
  ·exact this.1
  ·exact this.2 x hx
def L7 (f:Lk→Bool):List Lk→Int
 |[]=>0
 |l::t=>(if f l then min l.2.2 0 else 0)+L7 f t
def aif (f:Lk→Bool):∀L:List Lk,L7 (fun _=>true) L≤L7 f L
 |[]=>ee _
 |l::t=>by
  have:=aif f t;simp only[L7,if_true]
  split<;>omega
def uF (f:Lk→Bool):∀L:List Lk,L7 f L≤0
 |[]=>ee _
 |l::t=>by
  have:=uF f t;simp only[L7]
  split<;>omega
def aeU {f:Lk→Bool} {l:Lk} (hf:f l=true):∀{L:List Lk},l∈L→L7 f L≤l.2.2
 |a::t,h=>by
  simp only[L7];rcases dc.1 h with rfl|h
  ·have:=uF f t;rw[if_pos hf]; omega
  ·have:=aeU hf h
   split<;>omega
def aie {f g:Lk→Bool} (h:∀l,f l=true→g l=false):∀L:List Lk,L7 (fun l=>f l||g l) L=L7 f L+L7 g L
 |[]=>rfl
 |l::t=>by
  have ih:=aie h t;simp only[L7,ih]
  by_cases hf:f l=true
  ·simp[hf,h l hf]; omega
  ·have hf':f l=false:=by simpa using hf
   by_cases hg:g l=true
   ·simp[hf',hg]; omega
   ·simp[hf',hg]
def Wl.low {vs:List Int} {v d:Int} (h:Wl L S vs v d):vs.Nodup→L7 (fun l=>vs.contains l.1) L≤d:=by
 induction h with
 |nil h=>intro _; exact uF _ _
 | @step vs u v m d hw hl ih =>
  intro hn;rw[gk] at hn;have h1:=ih hn.2;have h2:L7 (fun l=>l.1==u) L≤m:=aeU (f:=fun l=>l.1==u) (l:=(u,v,m)) (by simp) hl
  have h3:=aie (f:=fun l:Lk=>l.1==u) (g:=fun l=>vs.contains l.1) (fun l hf=>by
   simp only[beq_iff_eq] at hf;rw[hf]
   simpa using hn.1) L
  have h4:(fun l:Lk=>(u::vs).contains l.1)=fun l=>(l.1==u)||vs.contains l.1:=by funext l; rw[List.contains_cons]
  rw[h4,h3];omega
def Nj (L:List Lk):Int:=L7 (fun _=>true) L
def Wl.low' (hp:Pot L p) {vs:List Int} {v d:Int} (h:Wl L S vs v d):Nj L≤d:=by
 obtain⟨vs',d',h1,h2,h3⟩:=h.simple hp;have:=h1.low (List.nodup_cons.1 h3).2;have:=aif (fun l=>vs'.contains l.1) L;unfold Nj;omega
def Wl.high {M:Int} (hM:∀l∈L,l.2.2≤M) {vs:List Int} {v d:Int} (h:Wl L S vs v d):d≤vs.length*M:=by
 induction h with
 |nil h=>simp
 | @step vs u v m d hw hl ih =>
  have:=hM _ hl;simp only[df,gF,gh,gD];simp only at this;omega
def Wl.mono {S':Int→Prop} (hS:∀v,S v→S' v) {vs:List Int} {v d:Int} (h:Wl L S vs v d):Wl L S' vs v d:=by
 induction h with
 |nil h=>exact .nil (hS _ h)
 |step hw hl ih=>exact .step ih hl
def Wl.pot (hp:Pot L p) {vs:List Int} {v d:Int} (h:Wl L S vs v d):∃s,S s∧p v-p s≤d:=by
 induction h with
 | @nil v h=>exact⟨v,h,by omega⟩
 | @step vs u v m d hw hl ih =>
  obtain⟨s,h1,h2⟩:=ih;have:=hp u v m hl;exact⟨s,h1,by omega⟩
end
abbrev ig:Int:=1152921504606846976
structure ahl (L:List Lk) (S:Int→Prop) (N:Nat) (x:Int→Int):Prop where
 att:∀v:Int,0≤v→v<N→x v≠ig→∃vs,Wl L S vs v (x v)
 low:∀v vs d,Wl L S vs v d→x v≤d
 bd:∀v:Int,0≤v→v<N→x v≤ig
def ahl.uniq {L:List Lk} {S:Int→Prop} {N:Nat} {x y:Int→Int} (hx:ahl L S N x) (hy:ahl L S N y) {v:Int} (h0:0≤v) (h1:v<N):x v=y v:=by
 have key:∀{x y:Int→Int},ahl L S N x→ahl L S N y→x v≤y v:=by
  intro x y hx hy
  by_cases h:y v=ig
  ·rw[h]; exact hx.bd v h0 h1
  ·obtain⟨vs,hw⟩:=hy.att v h0 h1 h;exact hx.low v vs _ hw
 exact Int.le_antisymm (key hx hy) (key hy hx)
def gv (x:List Int) (v:Int):Int:=x[v.toNat]?.getD 0
def ae5 {x:List Int} {v:Int} (h:v.toNat<x.length):x[v.toNat]?=some (gv x v):=by
 unfold gv; rw[List.getElem?_eq_getElem h]; rfl
def zd {x:List Int} {u v:Int} (hu:0≤u) (hv:0≤v) (h:u.toNat<x.length) (y:Int):gv (x.set u.toNat y) v=if v=u then y else gv x v:=by
 unfold gv;rw[List.getElem?_set]
 by_cases hvu:v=u
 ·subst hvu; simp[h]
 ·have:¬u.toNat=v.toNat:=by omega
  simp[hvu,this]
def ae6 {x y:List Int} (hl:x.length=y.length) (h:∀v:Int,0≤v→v<x.length→gv x v=gv y v):x=y:=by
 refine List.ext_getElem hl fun i h1 h2=>?_;have:=h i (by omega) (by omega);unfold gv at this;simpa[h1,h2] using this
def lM (x:List Int) (l:Lk):List Int:=if gv x l.1<ig∧gv x l.1+l.2.2<gv x l.2.1 then x.set l.2.1.toNat (gv x l.1+l.2.2) else x
def L3 (L:List Lk) (x:List Int):List Int:=L.foldl lM x
def kL (L:List Lk):Nat→List Int→List Int
 |0,x=>x
 |n+1,x=>kL L n (L3 L x)
def nO (x:List Int) (l:Lk):(lM x l).length=x.length:=by unfold lM; split<;>simp
def xl (L:List Lk):∀x:List Int,(L3 L x).length=x.length:=by
 induction L with
 |nil=>intro x; rfl
 |cons l t ih=>intro x; show(L3 t (lM x l)).length=_; rw[ih,nO]
def ţ (L:List Lk):∀(n:Nat) (x:List Int),(kL L n x).length=x.length
 |0,x=>rfl
 |n+1,x=>by rw[kL,ţ L n,xl]
def CO (L:List Lk):∀(n:Nat) (x:List Int),kL L (n+1) x=L3 L (kL L n x)
 |0,x=>rfl
 |n+1,x=>by rw[kL,CO L n]; rfl
section
variable {L0:List Lk} {S:Int→Prop} {N:Nat}
def Y8 {x:List Int} {l:Lk} (hl:(0≤l.1∧l.1<N)∧(0≤l.2.1∧l.2.1<N)) (hx:x.length=N) (v:Int) (hv:0≤v):gv (lM x l) v≤gv x v:=by
 unfold lM
 split
 ·rename_i h;rw[zd hl.2.1 hv (by omega)]
  split
  ·rename_i h2; subst h2; omega
  ·exact ee _
 ·exact ee _
def EB:∀{L:List Lk},InR L N→∀{x:List Int},x.length=N→∀v,0≤v→gv (L3 L x) v≤gv x v
 |[],_,x,_,v,_=>ee _
 |l::t,hL,x,hx,v,hv=>by
  have h1:=Y8 (hL l (by simp)) hx v hv;have h2:=EB (L:=t) (fun l hl=>hL l (by simp[hl])) (x:=lM x l) (by rw[nO,hx]) v hv;show gv (L3 t (lM x l)) v≤_;omega
def IA:∀{L:List Lk},InR L N→∀{x:List Int},x.length=N→∀u v m,(u,v,m)∈L→gv x u<ig→gv (L3 L x) v≤gv x u+m
 |l::t,hL,x,hx,u,v,m,hm,hf=>by
  have ht:InR t N:=fun l hl=>hL l (by simp[hl])
  have hx':(lM x l).length=N:=by rw[nO,hx]
  show gv (L3 t (lM x l)) v≤_;rcases dc.1 hm with rfl|hm
  ·have hl:=hL (u,v,m) (by simp);have h2:=EB ht hx' v hl.2.1
   have h3:gv (lM x (u,v,m)) v≤gv x u+m:=by
    unfold lM
    split
    ·rw[zd hl.2.1 hl.2.1 (by simp only at hl; simp only; omega),if_pos rfl]; exact ee _
    ·rename_i h; simp only[not_and,Int.not_lt] at h; exact h hf
   omega
  ·have hl:=hL (u,v,m) (by simp[hm]);have h1:=Y8 (hL l (by simp)) hx u hl.1.1;have:=IA ht hx' u v m hm (by omega);omega
def Att (L0:List Lk) (S:Int→Prop) (N:Nat) (x:List Int):Prop:=∀v:Int,0≤v→v<N→gv x v<ig→∃vs,Wl L0 S vs v (gv x v)
def af2 {x:List Int} {l:Lk} (hl:(0≤l.1∧l.1<N)∧(0≤l.2.1∧l.2.1<N)) (hm:l∈L0) (hx:x.length=N) (h:Att L0 S N x):Att L0 S N (lM x l):=by
 unfold lM
 split
 ·rename_i hc;intro v h0 h1 hf;rw[zd hl.2.1 h0 (by omega)] at hf ⊢
  split
  ·rename_i h2;obtain⟨vs,hw⟩:=h l.1 hl.1.1 hl.1.2 hc.1;exact⟨_,h2▸Wl.step hw hm⟩
  ·rename_i h2;rw[if_neg h2] at hf;exact h v h0 h1 hf
 ·exact h
def Zg:∀{L:List Lk},InR L N→(∀l∈L,l∈L0)→∀{x:List Int},x.length=N→Att L0 S N x→Att L0 S N (L3 L x)
 |[],_,_,_,_,h=>h
 |l::t,hL,hsub,x,hx,h=>Zg (L:=t) (fun l hl=>hL l (by simp[hl])) (fun l hl=>hsub l (by simp[hl])) (x:=lM x l) (by rw[nO,hx]) (af2 (hL l (by simp)) (hsub l (by simp)) hx h)
def TW (hL:InR L0 N):∀(n:Nat) {x:List Int},x.length=N→Att L0 S N x→Att L0 S N (kL L0 n x)
 |0,_,_,h=>h
 |n+1,x,hx,h=>TW hL n (by rw[xl,hx]) (Zg hL (fun _ h=>h) hx h)
def EA (hL:InR L0 N):∀(n:Nat) {x:List Int},x.length=N→∀v,0≤v→gv (kL L0 n x) v≤gv x v
 |0,_,_,_,_=>ee _
 |n+1,x,hx,v,hv=>Int.le_trans (EA hL n (by rw[xl,hx]) v hv) (EB hL hx v hv)
def uw (S:Int→Bool) (N:Nat):List Int:=(List.range N).map fun(i:Nat)=>if S i then 0 else ig
def i6 (S:Int→Bool) {N:Nat} {v:Int} (h0:0≤v) (h1:v<N):gv (uw S N) v=if S v then 0 else ig:=by
 unfold gv uw
 have:v.toNat<N:=by omega
 rw[gC,fT this];simp only[dS,fH];rw[Int.toNat_of_nonneg h0]
def Č (S:Int→Bool) (N:Nat):(uw S N).length=N:=by simp[uw]
end
def Iz {L:List Lk} {S:Int→Bool} {N:Nat} {M:Int} (hL:InR L N) (hS:∀v,S v=true→0≤v∧v<N) (hM:∀l∈L,l.2.2≤M):∀(n:Nat),n*M<ig→0≤M→∀vs v d,Wl L (fun v=>S v=true) vs v d→vs.length≤n→gv (kL L n (uw S N)) v≤d
 |0,_,_,vs,v,d,hw,hl=>by
  cases hw with
  |nil h =>
   have:=hS v h;rw[kL,i6 S this.1 this.2,if_pos h]; exact ee _
  |step=>simp at hl
 |n+1,hn,hM0,vs,v,d,hw,hl=>by
  have hn':n*M<ig:=by rw[gF,gh,gD] at hn; omega
  have hlen:(kL L n (uw S N)).length=N:=by rw[ţ,Č]
  rw[CO]
  cases hw with
  |nil h =>
   have h1:=EB hL hlen v (hS v h).1;have h2:=Iz hL hS hM n hn' hM0 [] v 0 (.nil h) (by simp);omega
  | @step vs u _ m d hw hlk =>
   have h2:=Iz hL hS hM n hn' hM0 vs u d hw (by simpa using hl);have h3:=hw.high hM;have h4:(vs.length:Int)*M≤n*M:=fC (by simp at hl; omega) hM0;have:=IA hL hlen u v m hlk (by omega);omega
def NZ {L:List Lk} {S:Int→Bool} {N:Nat} {M:Int} {p:Int→Int} (hp:Pot L p) (hL:InR L N) (hS:∀v,S v=true→0≤v∧v<N) (hM:∀l∈L,l.2.2≤M) (hM0:0≤M) (hN:N*M<ig) (n:Nat) (hn:N≤n+1):ahl L (fun v=>S v=true) N (gv (kL L n (uw S N))):=by
 have hatt:Att L (fun v=>S v=true) N (uw S N):=fun v h0 h1 hf=>by
  rw[i6 S h0 h1] at hf ⊢
  split
  ·rename_i h; exact⟨[],.nil h⟩
  ·rename_i h; rw[if_neg h] at hf; omega
 have hbd:∀v:Int,0≤v→v<N→gv (kL L n (uw S N)) v≤ig:=fun v h0 h1=>by
  have:=EA hL n (Č S N) v h0;rw[i6 S h0 h1] at this
  have hF:(0:Int)≤ig:=by decide
  split at this<;>omega
 have hlow:∀(n:Nat),N≤n+1→∀v vs d,Wl L (fun v=>S v=true) vs v d→gv (kL L n (uw S N)) v≤d:=by
  intro n hn v vs d hw;obtain⟨vs',d',h1,h2,h3⟩:=hw.simple hp;have h4:=h1.short hL hS h3
  have hpos:0<N:=by omega
  obtain⟨k,rfl⟩:∃k,N=k+1:=⟨N-1,by omega⟩
  have hk:(k:Int)*M<ig:=by rw[gF,gh,gD] at hN; omega
  have h5:=Iz hL hS hM k hk hM0 vs' v d' h1 (by omega);obtain⟨j,rfl⟩:∃j,n=k+j:=⟨n-k,by omega⟩
  have h6:∀(j:Nat),gv (kL L (k+j) (uw S (k+1))) v≤gv (kL L k (uw S (k+1))) v:=by
   intro j
   induction j with
   |zero=>exact ee _
   |succ j ih =>
    rw[←fg,CO];have:=EB hL (x:=kL L (k+j) (uw S (k+1))) (by rw[ţ,Č]) v (h1.range hL hS).1.1;omega
  have:=h6 j;omega
 exact⟨fun v h0 h1 hne=>TW hL n (Č S N) hatt v h0 h1 (by have:=hbd v h0 h1; omega),hlow n hn,hbd⟩
def ahl.pot {L:List Lk} {S:Int→Prop} {N:Nat} {x:Int→Int} (h:ahl L S N x) (hL:InR L N) {u v m:Int} (hl:(u,v,m)∈L) (hf:x u≠ig):x v≤x u+m:=by
 obtain⟨vs,hw⟩:=h.att u (hL _ hl).1.1 (hL _ hl).1.2 hf;exact h.low v _ _ (.step hw hl)
def ú (b:Þ) (g:í):List Lk :=
 [(0,atP (Î b) [g.1] g.2.1,g.2.2.1+g.2.2.2.1.2),(atP (Î b) [g.1] g.2.1,0,-(g.2.2.1+g.2.2.2.1.1))] ++
 (List.range ((á b g).length-1)).flatMap fun(k:Nat)=>[(atP (Î b) [g.1] g.2.1+k,atP (Î b) [g.1] g.2.1+k+1,0),(atP (Î b) [g.1] g.2.1+k+1,atP (Î b) [g.1] g.2.1+k,iS b g ((á b g)[k]?.getD 0) ((á b g)[k+1]?.getD 0))]
def cx (b:Þ) (c:Cmp):Int:=atP (Î b) (ê c.2.2.1 c.2.2.2.1) c.2.1
def cy (b:Þ) (c:Cmp):Int:=atP (Î b) (ê c.2.2.2.1 c.2.2.1) c.2.1
def ą (b:Þ) (c:Cmp):List Lk:=[(cy b c,cx b c,(Ν b c).2),(cx b c,cy b c,-(Ν b c).1)]
def æ (b:Þ):List Lk:=b.2.1.flatMap (ú b)++b.2.2.2.2.1.flatMap (ą b)
def ø (b:Þ) (i:Nat) (g:í):List (Int×Int):=[(1,(i:Int)),(1,(i:Int))]++(List.range ((á b g).length-1)).flatMap fun _=>[(2,(i:Int)),(2,(i:Int))]
def Ŕ (b:Þ):List (Int×Int):=(b.2.1.mapIdx (ø b)).flatten++(b.2.2.2.2.1.mapIdx fun i _=>[(3,(i:Int)),(3,(i:Int))]).flatten
section
variable {b:Þ}
def YI (h:ė b) {id day:Int} (hu:afQ (ir b) id day=0):(0≤day∧day≤20000)∧∃g,ť b id=some g∧g.2.1≤day:=by
 unfold afQ at hu
 split at hu
 ·omega
 ·rename_i hd;simp only[eN,Bool.not_eq_false,Ct,inP,cR,decide_eq_true_eq] at hd;exact⟨hd,IL h hu⟩
def jV {g:í} {d:Int}:d∈á b g↔d=g.2.1∨(∃c∈b.2.2.2.2.1,(c.2.2.1.contains g.1)≠(c.2.2.2.1.contains g.1)∧c.2.1=d)∨(∃n∈b.2.2.2.2.2,n.1=g.1∧n.2=d):=by
 unfold á;rw[qi,X6];simp only[List.mem_append,List.mem_singleton,List.mem_map,List.mem_filter];constructor
 ·rintro((h|⟨c,⟨h1,h2⟩,h3⟩)|⟨n,⟨h1,h2⟩,h3⟩)
  ·exact .inl h
  ·exact .inr (.inl ⟨c,h1,by simpa using h2,h3⟩)
  ·exact .inr (.inr ⟨n,h1,by simpa using h2,h3⟩)
 ·rintro(h|⟨c,h1,h2,h3⟩|⟨n,h1,h2,h3⟩)
  ·exact .inl (.inl h)
  ·exact .inl (.inr ⟨c,⟨h1,by simpa using h2⟩,h3⟩)
  ·exact .inr ⟨n,⟨h1,by simpa using h2⟩,h3⟩
def ė.gaugeR (h:ė b) {g:í} (hg:g∈b.2.1):Kz g.2.2.2.2.1=true∧(-1000≤g.2.2.2.2.1.1∧g.2.2.2.2.1.1≤1000)∧g.2.2.2.2.1.2≤100∧(1≤g.1∧g.1≤1099511627776)∧(0≤g.2.1∧g.2.1≤20000)∧(1≤g.2.2.1∧g.2.2.1≤1125899906842624)∧(-1073741824≤g.2.2.2.1.1∧g.2.2.2.1.1≤g.2.2.2.1.2∧g.2.2.2.1.2≤1073741824)∧(0≤g.2.2.2.2.2∧g.2.2.2.2.2≤1048576):=(tX g).1 (h.gauge g hg)
def ė.day (h:ė b) {g:í} (hg:g∈b.2.1) {d:Int} (hd:d∈á b g):g.2.1≤d∧0≤d∧d≤20000:=by
 have hr:=h.gaugeR hg;have hgo:=vJ h.ids hg;rcases jV.1 hd with rfl|⟨c,hc,h1,rfl⟩|⟨n,hn,h1,rfl⟩
 ·have:=hr.2.2.2.2.1; omega
 ·have hn:=(Ο c).1 (h.nums hc)
  have hx:g.1∈c.2.2.1++c.2.2.2.1:=by
   rw[cY]
   by_cases h2:g.1∈c.2.2.1
   ·exact .inl h2
   ·refine .inr ?_
    have e1:c.2.2.1.contains g.1=false:=by simpa using h2
    rw[e1] at h1
    have:c.2.2.2.1.contains g.1=true:=by cases hh:c.2.2.2.1.contains g.1<;>simp_all
    simpa using this
  obtain⟨⟨g',h3,h4⟩,_⟩:=h.pile hc hx;rw[hgo] at h3; cases h3;have:=hn.2.1;omega
 ·obtain⟨h2,g',h3,h4⟩:=YI h (h.looks n hn);rw[h1,hgo] at h3; cases h3;omega
def j4 (g:í):g.2.1∈á b g:=jV.2 (.inl rfl)
def H6 (h:ė b) {g:í} (hg:g∈b.2.1):(á b g).length≤59:=by
 have h1:∀l:List í,g∈l→(á b g).length≤(l.flatMap fun g=>(á b g).map fun d=>((g.1,d):Int×Int)).length:=by
  intro l
  induction l with
  |nil=>intro hg; cases hg
  |cons a t ih =>
   intro hg;rw[dU,cW,dX];rcases dc.1 hg with rfl|hg
   ·omega
   ·have:=ih hg; omega
 have:=h1 b.2.1 hg;have:=h.nodes;unfold Î at this;omega
def ajX {p:List Int} {d:Int}:0≤atP (Î b) p d∧atP (Î b) p d≤(Î b).length:=by
 unfold atP
 cases p with
 |nil=>simp
 |cons x t =>
  try dsimp only
  cases h:iv (Î b) x d with
  |none=>simp
  |some j=>have:=(kq h).1; dsimp only; omega
def CH (h:ė b) {c:Cmp} (hc:c∈b.2.2.2.2.1):(-1125904000000000≤(Ν b c).1∧(Ν b c).1≤1125904000000000)∧(-1125904000000000≤(Ν b c).2∧(Ν b c).2≤1125904000000000):=by
 obtain⟨r1,r2⟩:=h.rates hc;have hn:=(Ο c).1 (h.nums hc);have ha:=ĭ hn.2.2.2.2.2.1;have hb:=ĭ hn.2.2.2.2.2.2;have hf:=h.film;obtain⟨g1,g2⟩:=VL (NI r1 r2) hn.2.2.2.2.1;have fb:=vO (b:=b) (c:=c) (by omega) (by omega) (by omega) (by omega) (by omega) (by omega);have q1:qd (ĸ b c).1 2000000000 10000:=g1;have q2:qd (ĸ b c).2 2000000000 10000:=g2;have c1:=Ay q1;have c2:=vL q2;have n3:=hn.2.2.1;have n4:=hn.2.2.2.1;unfold Ν
 try dsimp only
 omega
def kh (h:ė b) {g:í} (hg:g∈b.2.1) {f t:Int} (hf:0≤f):0≤iS b g f t∧iS b g f t≤12*(20001*1048576)+40*1048576:=by
 have hr:=(h.gaugeR hg).2.2.2.2.2.2.2;have h1:=sa (id:=g.1) (t:=t) hf (x:=b.2.2.2.1) fun l hl=>JS h hl;have h2:(b.2.2.2.1.length:Int)*(20001*1048576)≤12*(20001*1048576):=fC (by have:=h.nL; omega) (by omega)
 have h3:(i5 b g.1 f t).length≤40:=by
  unfold i5;rw[List.length_map];exact Nat.le_trans (List.length_filter_le _ _) h.nU
 have h4:=Es (i5 b g.1 f t)
 have hm:0≤((Y0 (i5 b g.1 f t)).length:Int)*g.2.2.2.2.2∧((Y0 (i5 b g.1 f t)).length:Int)*g.2.2.2.2.2≤40*1048576 :=
  ⟨fG (by omega) hr.1,fj (by omega) hr.2 hr.1 (by omega)⟩
 unfold iS;omega
end
def iy {α β:Type} (f:Nat→α→β) {l:List α} {i:Nat} {a:α} (h:l[i]?=some a):(l.take (i+1)).mapIdx f=(l.take i).mapIdx f++[f i a]:=by
 have hi:i<l.length:=(cX.1 h).1
 have:(l.take i).length=i:=by rw[di]; omega
 rw[take_succ h,List.mapIdx_append];simp[this]
def sv {α:Type} (f:Nat→List α) (j:Nat):(List.range (j+1)).flatMap f=(List.range j).flatMap f++f j:=by
 rw[List.range_succ,eX]; simp
def ŭ {α:Type} (f:Nat→List α) (n:Nat) (h:∀k,(f k).length=2):((List.range n).flatMap f).length=2*n:=by
 induction n with
 |zero=>rfl
 |succ n ih=>rw[sv,cW,ih,h]; omega
set_option maxHeartbeats 2000000 in
def aeZ {b:Þ} (h:ė b):HY b=some (b,Î b,(((Î b).length:Int)+1,æ b),Ŕ b):=by
 unfold HY Xt;have hN:=h.nodes;have hG:=h.nG;have hC:=h.nC;rw[VS h.size,À,å,Ö (by omega) (by omega)]
 -- lengths of what comes
 have gl:∀g∈b.2.1,(ú b g).length≤120∧∀i,(ø b i g).length≤120:=by
  intro g hg;have:=H6 h hg;constructor
  ·unfold ú;rw[List.length_append,ŭ _ _ (fun _=>rfl)];simp only[List.length_cons,List.length_nil]; omega
  ·intro i;unfold ø;rw[List.length_append,ŭ _ _ (fun _=>rfl)];simp only[List.length_cons,List.length_nil]; omega
 have gls:∀i,((b.2.1.take i).flatMap (ú b)).length≤1440∧(((b.2.1.take i).mapIdx (ø b)).flatten).length≤1440:=by
  intro i
  induction i with
  |zero=>simp
  |succ i ih =>
   have key:∀i,i≤b.2.1.length→((b.2.1.take i).flatMap (ú b)).length≤i*120∧(((b.2.1.take i).mapIdx (ø b)).flatten).length≤i*120:=by
    intro i
    induction i with
    |zero=>intro _; simp
    |succ i ih =>
     intro hi;have ih:=ih (by omega);have hg:b.2.1[i]?=some b.2.1[i]:=cO hi;have h2:=gl _ (cZ hg);have h3:=h2.2 i;rw[iy _ hg,take_succ hg,eX,fE,cW,cW];simp only[dU,gG,dK,f5,gd];omega
   rcases dE b.2.1.length (i+1) with h1|h1
   ·rw[dV (by omega)];have:=key b.2.1.length (cQ _);rw[List.take_length] at this;omega
   ·have:=key (i+1) h1;omega
 refine ü b.2.1 (fun i=>((b.2.1.take i).flatMap (ú b),((b.2.1.take i).mapIdx (ø b)).flatten)) _ rfl (fun i g hi hg kn=>?_) (fun kn=>?_)
 ·try dsimp only
  unfold vv;have hgm:=List.mem_of_getElem? hg;have hr:=h.gaugeR hgm;have hd:=H6 h hgm;have hls:=gls i;have hat:=ajX (b:=b) (p:=[g.1]) (d:=g.2.1);rw[Ô hi,É hg];rw[show oj ((b.1.1,b.1.2),b.2.1,b.2.2.1,b.2.2.2.1,b.2.2.2.2.1,b.2.2.2.2.2) g=oj b g from rfl,aje h.size,À];rw[ajV _ _ _ (by dsimp only; omega),À]
  try dsimp only
  have r1:=hr.2.2.2.2.2.1;have r2:=hr.2.2.2.2.2.2.1;rw[Ö (by omega) (by omega),Ö (by omega) (by omega),Ö (by omega) (by omega),Ø (by simp only[df,du]; omega),Am.iff_true,Ø (by simp only[df,du]; omega),Am.iff_true]
  refine ł (fun x:Int×List Lk×List (Int×Int)=>∃j:Nat,j+1≤(á b g).length∧x.1=(j:Int)+1 ∧
   x.2.1=(b.2.1.take i).flatMap (ú b)++([(0,atP (Î b) [g.1] g.2.1,g.2.2.1+g.2.2.2.1.2),(atP (Î b) [g.1] g.2.1,0,-(g.2.2.1+g.2.2.2.1.1))] ++
    (List.range j).flatMap fun(k:Nat)=>[(atP (Î b) [g.1] g.2.1+k,atP (Î b) [g.1] g.2.1+k+1,0),(atP (Î b) [g.1] g.2.1+k+1,atP (Î b) [g.1] g.2.1+k,iS b g ((á b g)[k]?.getD 0) ((á b g)[k+1]?.getD 0))]) ∧
   x.2.2=((b.2.1.take i).mapIdx (ø b)).flatten++([(1,(i:Int)),(1,(i:Int))]++(List.range j).flatMap fun _=>[(2,(i:Int)),(2,(i:Int))])) (fun x=>(á b g).length-x.1.toNat) ?_
   ⟨0,fY (j4 g),rfl,by simp,by simp⟩
  rintro⟨x1,ls,ss⟩ ⟨j,hj,e1,e2,e3⟩;dsimp only at e1 e2 e3 ⊢;subst e1
  have hlls:ls.length≤1562:=by
   rw[e2,cW,cW,ŭ _ _ (fun _=>rfl)];simp only[df,du]; omega
  have hlss:ss.length≤1562:=by
   rw[e3,cW,cW,ŭ _ _ (fun _=>rfl)];simp only[df,du]; omega
  rcases dE (j+1) (á b g).length with hlt|hge
  ·refine .inr ⟨((j:Int)+1+1,_,_),⟨j+1,hlt,by push_cast; rfl,rfl,rfl⟩,by dsimp only; omega,fun kn'=>?_⟩
   try dsimp only
   unfold vu
   have g1:(á b g)[j]?=some ((á b g)[j]?.getD 0):=by rw[cO (by omega)]; rfl
   have g2:(á b g)[j+1]?=some ((á b g)[j+1]?.getD 0):=by rw[cO hlt]; rfl
   have d1:=h.day hgm (cZ g1);have d2:=h.day hgm (cZ g2);have lb:=kh h hgm (t:=(á b g)[j+1]?.getD 0) d1.2.1
   have ec:((j:Int)+1)=((j+1:Nat):Int):=by push_cast; rfl
   rw[ec,Ô hlt,Ö (by omega) (by omega),Ö (by omega) (by omega),Ö (by omega) (by omega),Ö (by omega) (by omega)];rw[show(((j+1:Nat):Int)-1)=((j:Nat):Int) by omega,É g1,É g2];rw[show Ap ((b.1.1,b.1.2),b.2.1,b.2.2.1,b.2.2.2.1,b.2.2.2.2.1,b.2.2.2.2.2) (g.1,g.2.1,g.2.2.1,(g.2.2.2.1.1,g.2.2.2.1.2),(g.2.2.2.2.1.1,g.2.2.2.2.1.2),g.2.2.2.2.2) ((á b g)[j]?.getD 0) ((á b g)[j+1]?.getD 0)=Ap b g ((á b g)[j]?.getD 0) ((á b g)[j+1]?.getD 0) from rfl];rw[am6 h hr.2.2.2.2.2.2.2 ⟨by omega,by omega⟩ ⟨by omega,by omega⟩,À,Ö (by omega) (by omega),Ö (by omega) (by omega),Ø (by simp only[df,du]; omega),Am.iff_true,Ø (by simp only[df,du]; omega),Am.iff_true,Í hlt (by omega)];rw[sv,sv,e2,e3]
   have a1:atP (Î b) [g.1] g.2.1+((j+1:Nat):Int)-1=atP (Î b) [g.1] g.2.1+(j:Int):=by push_cast; omega
   have a2:atP (Î b) [g.1] g.2.1+((j+1:Nat):Int)=atP (Î b) [g.1] g.2.1+(j:Int)+1:=by push_cast; omega
   have a3:0-(0-iS b g ((á b g)[j]?.getD 0) ((á b g)[j+1]?.getD 0))=iS b g ((á b g)[j]?.getD 0) ((á b g)[j+1]?.getD 0):=by omega
   rw[a1,a2,a3];simp only[dn]
  ·refine .inl fun kn'=>?_
   have hje:j+1=(á b g).length:=by omega
   unfold vu;rw[show((j:Int)+1)=(((á b g).length:Nat):Int) by rw[←hje]; push_cast; rfl,â];dsimp only;rw[Í hi (by omega)];rw[iy _ hg,take_succ hg,List.flatMap_append,List.flatten_append,e2,e3,show j=(á b g).length-1 by omega];simp only[List.flatMap_cons,List.flatMap_nil,List.append_nil,List.flatten_cons,List.flatten_nil];rfl
 ·try dsimp only
  unfold vv;rw[â,List.take_length];have hls:=gls b.2.1.length;rw[List.take_length] at hls
  have cl:∀i,i≤b.2.2.2.2.1.length→((b.2.2.2.2.1.take i).flatMap (ą b)).length=2*i∧(((b.2.2.2.2.1.take i).mapIdx fun i _=>[((3:Int),(i:Int)),((3:Int),(i:Int))]).flatten).length=2*i:=by
   intro i
   induction i with
   |zero=>intro _; simp
   |succ i ih =>
    intro hi;have ih:=ih (by omega);have hg:b.2.2.2.2.1[i]?=some b.2.2.2.2.1[i]:=cO hi;rw[iy _ hg,take_succ hg,eX,fE,cW,cW];simp only[dU,gG,dK,f5,gd,ą,df,du];omega
  refine ü b.2.2.2.2.1 (fun i=>(b.2.1.flatMap (ú b)++(b.2.2.2.2.1.take i).flatMap (ą b),(b.2.1.mapIdx (ø b)).flatten++((b.2.2.2.2.1.take i).mapIdx fun i _=>[((3:Int),(i:Int)),((3:Int),(i:Int))]).flatten)) _ (by simp) (fun i c hi hc kn'=>?_) (fun kn'=>?_)
  ·try dsimp only
   unfold vt;have hcm:=List.mem_of_getElem? hc;have hn:=(Ο c).1 (h.nums hcm);have ha:=ĭ hn.2.2.2.2.2.1;have hb:=ĭ hn.2.2.2.2.2.2;have sb:=CH h hcm;have c1:=cl i (by omega);rw[Ô hi,É hc,sc (by omega) (by omega),À,ajV _ _ _ (by dsimp only; omega),À,sc (by omega) (by omega),À,ajV _ _ _ (by dsimp only; omega),À];rw[show vT ((b.1.1,b.1.2),b.2.1,b.2.2.1,b.2.2.2.1,b.2.2.2.2.1,b.2.2.2.2.2) c=vT b c from rfl,h.says hcm,À];rw[Ö (by omega) (by omega),Ø (by simp only[List.length_append,List.length_cons,List.length_nil]; omega),Am.iff_true,Ø (by simp only[List.length_append,List.length_cons,List.length_nil]; omega),Am.iff_true,Í hi (by omega),iy _ hc,take_succ hc,List.flatMap_append,List.flatten_append];simp only[List.flatMap_cons,List.flatMap_nil,List.append_nil,List.flatten_cons,List.flatten_nil,List.append_assoc,Int.zero_sub];rfl
  ·try dsimp only
   unfold vt;rw[â,List.take_length];rfl
section
variable {ρ:Type}
def wv (w:List Bool) (v:Int):Bool:=w[v.toNat]?.getD false
def aeh {w:List Bool} {u v:Int} (hu:0≤u) (hv:0≤v) (h:u.toNat<w.length) (y:Bool):wv (w.set u.toNat y) v=if v=u then y else wv w v:=by
 unfold wv;rw[List.getElem?_set]
 by_cases hvu:v=u
 ·subst hvu; simp[h]
 ·have:¬u.toNat=v.toNat:=by omega
  simp[hvu,this]
def j7 {x:List Int} {v:Int} (h:v.toNat<x.length) (f:Int→Option ρ):ĩ x v.toNat f=f (gv x v):=uE (ae5 h) f
def VU {w:List Bool} {v:Int} (h:v.toNat<w.length) (f:Bool→Option ρ):ĩ w v.toNat f=f (wv w v):=by
 refine uE ?_ f;unfold wv; rw[List.getElem?_eq_getElem h]; rfl
def jm {v:Int} {n:Nat} (h0:0≤v) (h1:v<n) (x:Option ρ):ë ((ile 0 v)&&(ilt v (n:Int))) x=x:=by
 have:((ile 0 v)&&(ilt v (n:Int)))=true:=by simp[ile,ilt,h0,h1]
 rw[this,Am.iff_true]
end
def pE (n least:Int):List Lk→List Int→List Bool→List Int→Bool×List Int×List Bool×List Int
 |[],x,w,q=>(true,x,w,q)
 |l::t,x,w,q =>
  if l.1≠n then pE n least t x w q else
  if gv x l.2.1≤gv x n+l.2.2 then pE n least t x w q else
  if gv x n+l.2.2<least then(false,x.set l.2.1.toNat (gv x n+l.2.2),w,q) else
  if wv w l.2.1 then pE n least t (x.set l.2.1.toNat (gv x n+l.2.2)) w q else pE n least t (x.set l.2.1.toNat (gv x n+l.2.2)) (w.set l.2.1.toNat true) (q++[l.2.1])
structure iJ (L:List Lk) (N:Nat) (M:Int):Prop where
 inr:InR L N
 noloop:∀l∈L,l.1≠l.2.1
 most:∀l∈L,-M≤l.2.2∧l.2.2≤M
 len:L.length≤400
 nodes:N≤1000
 m0:0≤M
 m1:M≤4503599627370496
set_option maxHeartbeats 1000000 in
def alg {ρ:Type} {L:List Lk} {N:Nat} {M:Int} (hL:iJ L N M) {n least:Int} (hn:0≤n∧n<N) {x:List Int} {w:List Bool} {q:List Int} (hx:x.length=N) (hw:w.length=N) (hq:q.length≤1000000)
 (hb : -2305843009213693952≤gv x n∧gv x n≤2305843009213693952) (K0:(Val (.pair .bool (.pair (.slice tI) (.pair (.slice .bool) (.slice tI)))))→Option ρ) (K1:(Val (.pair (.slice tI) (.pair (.slice .bool) (.slice tI))))→Option ρ) :
 Ï (fun(v47:(Val (.pair tI (.pair (.slice tI) (.pair (.slice .bool) (.slice tI)))))) kk52=>jj [] least n L (Õ L) v47.1 v47.2.1 v47.2.2.1 v47.2.2.2 (fun u48 u49 u50 u51=>kk52 (u48,u49,u50,u51)) K0 K1) ((0:Int),x,w,q) =
  match pE n least L x w q with
  |(true,r)=>K1 r
  |(false,r)=>K0 (false,r):=by
 have hlen:=hL.len
 refine Hv L (fun i (s:List Int×List Bool×List Int) t=>match pE n least t s.1 s.2.1 s.2.2 with|(true,r)=>K1 r|(false,r)=>K0 (false,r))
  (fun i s=>s.1.length=N∧s.2.1.length=N∧gv s.1 n=gv x n∧s.2.2.length≤1000000+i) (fun s hs kn=>?_) (fun i l t s hd hi hl hI kn hk=>?_) (s:=(x,w,q)) ⟨hx,hw,rfl,by simpa using hq⟩
 ·try dsimp only
  unfold jj;rw[â];rfl
 ·obtain⟨y,u,p⟩:=s;obtain⟨h1,h2,h3,h4⟩:=hI;dsimp only at h1 h2 h3 h4 hk ⊢;have hmem:l∈L:=List.mem_of_getElem? hl;have hr:=hL.inr l hmem;have hm:=hL.most l hmem;have hm1:=hL.m1;have hnl:=hL.noloop l hmem;unfold jj;rw[Ô hi,É hl];unfold pE
  by_cases hln:l.1=n
  ·have e0:ine l.1 n=false:=by simp[ine,hln]
   rw[Ó e0];have e1:∀(f:Bool→Option ρ) (g:Option ρ),YD (k:=tI) (v:=.bool) (i:Int) [] f g=g:=fun f g=>rfl;rw[e1,if_neg (by simp[hln])]
   have tn:n.toNat<y.length:=by omega
   have tt:l.2.1.toNat<y.length:=by omega
   have tu:l.2.1.toNat<u.length:=by omega
   rw[jm hn.1 (by omega),j7 tn,Ö (by omega) (by omega),jm hr.2.1 (by omega),j7 tt,ġ]
   by_cases hge:gv y l.2.1≤gv y n+l.2.2
   ·rw[if_pos (by simpa[ige] using hge),if_pos hge,Í hi (by omega)];exact hk (y,u,p) ⟨h1,h2,h3,by dsimp only; omega⟩
   ·rw[if_neg (by simpa[ige] using hge),if_neg hge]
    have hset:gv (y.set l.2.1.toNat (gv y n+l.2.2)) n=gv x n:=by
     rw[zd hr.2.1 hn.1 tt,if_neg (fun h=>hnl (hln.trans h)),h3]
    have hself:gv (y.set l.2.1.toNat (gv y n+l.2.2)) l.2.1=gv y n+l.2.2:=by
     rw[zd hr.2.1 hr.2.1 tt,if_pos rfl]
    rw[jm hn.1 (by omega),j7 tn,Ö (by omega) (by omega),jm hr.2.1 (by omega),j7 tt];rw[show(ă (List.set y l.2.1.toNat (gv y n+l.2.2)))=((y.length:Nat):Int) by simp[ă]];rw[jm hr.2.1 (by omega),j7 (by simpa using tt),hself,ġ]
    by_cases hlt:gv y n+l.2.2<least
    ·rw[if_pos (by simpa[ilt] using hlt),if_pos hlt]
    ·rw[if_neg (by simpa[ilt] using hlt),if_neg hlt,jm hr.2.1 (by omega),VU tu,ġ]
     cases hwv:wv u l.2.1 with
     |true =>
      rw[if_neg (by simp),if_pos rfl,Í hi (by omega)];exact hk (y.set l.2.1.toNat (gv y n+l.2.2),u,p) ⟨by simpa using h1,h2,hset,by dsimp only; omega⟩
     |false =>
      rw[if_pos (by simp),if_neg (by simp),Ø (by simp only[dF]; omega),Am.iff_true,jm hr.2.1 (by omega),VU tu,Í hi (by omega)];exact hk (y.set l.2.1.toNat (gv y n+l.2.2),u.set l.2.1.toNat true,p++[l.2.1]) ⟨by simpa using h1,by simpa using h2,hset,by simp only[cW,dF]; omega⟩
  ·have e0:ine l.1 n=true:=by simp[ine,hln]
   rw[Ù e0,if_pos hln,Í hi (by omega)];exact hk (y,u,p) ⟨h1,h2,h3,by dsimp only; omega⟩
structure amf (N:Nat) (n least:Int) (L:List Lk) (x:List Int) (q:List Int) (x':List Int) (w':List Bool) (q':List Int):Prop where
 lx:x'.length=N
 lw:w'.length=N
 same:gv x' n=gv x n
 le:∀v:Int,0≤v→v<N→gv x' v≤gv x v
 link:∀v m,(n,v,m)∈L→gv x' v≤gv x n+m
 chg:∀v:Int,0≤v→v<N→gv x' v=gv x v∨(v∈q'∧gv x' v<gv x v∧∃m,(n,v,m)∈L∧gv x' v=gv x n+m∧least≤gv x' v)
 new:∃l,q'=q++l∧∀v∈l,(0≤v∧v<N)∧gv x' v<gv x v
 nodup:q'.Nodup
 waits:∀v:Int,0≤v→v<N→(wv w' v=true↔v∈q')
def kz {N:Nat} {n least:Int} (hn:0≤n∧n<N):∀{L:List Lk},InR L N→(∀l∈L,l.1≠l.2.1)→∀{x:List Int} {w:List Bool} {q:List Int},x.length=N→w.length=N→q.Nodup→(∀v:Int,0≤v→v<N→(wv w v=true↔v∈q)) →
 ∀{x':List Int} {w':List Bool} {q':List Int},pE n least L x w q=(true,x',w',q')→amf N n least L x q x' w' q'
 |[],_,_,x,w,q,hx,hw,hq,hwq,x',w',q',h=>by
  cases h;exact⟨hx,hw,rfl,fun _ _ _=>ee _,fun _ _ h=>(by cases h),fun _ _ _=>.inl rfl,⟨[],by simp,fun _ h=>by cases h⟩,hq,hwq⟩
 |l::t,hL,hnl,x,w,q,hx,hw,hq,hwq,x',w',q',h=>by
  have hLt:InR t N:=fun l hl=>hL l (by simp[hl]);have hnt:∀l∈t,l.1≠l.2.1:=fun l hl=>hnl l (by simp[hl]);have hr:=hL l (by simp);have hl0:=hnl l (by simp);unfold pE at h
  split at h
  ·rename_i hne;have a:=kz hn hLt hnt hx hw hq hwq h
   exact⟨a.lx,a.lw,a.same,a.le,fun v m hm=>by
    rcases dc.1 hm with rfl|hm
    ·exact(hne rfl).elim
    ·exact a.link v m hm,fun v h0 h1=>(a.chg v h0 h1).imp id fun⟨g1,g2,m,g3,g4⟩=>⟨g1,g2,m,by simp[g3],g4⟩,a.new,a.nodup,a.waits⟩
  ·rename_i hne
   have hln:l.1=n:=by simpa using hne
   split at h
   ·rename_i hle;have a:=kz hn hLt hnt hx hw hq hwq h
    exact⟨a.lx,a.lw,a.same,a.le,fun v m hm=>by
     rcases dc.1 hm with rfl|hm
     ·have:=a.le v hr.2.1 hr.2.2; simp only at hle; omega
     ·exact a.link v m hm,fun v h0 h1=>(a.chg v h0 h1).imp id fun⟨g1,g2,m,g3,g4⟩=>⟨g1,g2,m,by simp[g3],g4⟩,a.new,a.nodup,a.waits⟩
   ·rename_i hgt
    split at h
    ·cases h
    ·rename_i hls
     have tt:l.2.1.toNat<x.length:=by omega
     have tw:l.2.1.toNat<w.length:=by omega
     have hy:(x.set l.2.1.toNat (gv x n+l.2.2)).length=N:=by simpa using hx
     have hyn:gv (x.set l.2.1.toNat (gv x n+l.2.2)) n=gv x n:=by
      rw[zd hr.2.1 hn.1 tt,if_neg (fun h=>hl0 (hln.trans h))]
     have hyv:∀v,0≤v→gv (x.set l.2.1.toNat (gv x n+l.2.2)) v=if v=l.2.1 then gv x n+l.2.2 else gv x v:=fun v h0=>zd hr.2.1 h0 tt _
     have hlm:(n,l.2.1,l.2.2)∈l::t:=by rw[←hln]; simp
     -- what both ways have in common
     have fin:∀{w1:List Bool} {q1:List Int},amf N n least t (x.set l.2.1.toNat (gv x n+l.2.2)) q1 x' w' q'→l.2.1∈q1→(∃l',q1=q++l'∧∀v∈l',v=l.2.1)→amf N n least (l::t) x q x' w' q':=by
      intro w1 q1 a hmem hq1;obtain⟨new,hnew,hnv⟩:=a.new;obtain⟨l',hl',hlv⟩:=hq1
      have hto:gv x' l.2.1≤gv x n+l.2.2:=by
       have:=a.le l.2.1 hr.2.1 hr.2.2;rw[hyv _ hr.2.1,if_pos rfl] at this;exact this
      refine⟨a.lx,a.lw,a.same.trans hyn,fun v h0 h1=>?_,fun v m hm=>?_,fun v h0 h1=>?_,⟨l'++new,by rw[hnew,hl',dn],fun v hv=>?_⟩,a.nodup,a.waits⟩
      ·have:=a.le v h0 h1;rw[hyv v h0] at this
       split at this
       ·rename_i e; subst e; omega
       ·exact this
      ·rcases dc.1 hm with rfl|hm
       ·exact hto
       ·have:=a.link v m hm
        rwa [hyn] at this
      ·rcases a.chg v h0 h1 with g|⟨g1,g2,m,g3,g4,g5⟩
       ·rw[hyv v h0] at g
        split at g
        ·rename_i e;subst e;exact .inr ⟨by rw[hnew]; exact d9 _ hmem,by omega,l.2.2,hlm,g,by omega⟩
        ·exact .inl g
       ·rw[hyv v h0] at g2;rw[hyn] at g4;refine .inr ⟨g1,?_,m,by simp[g3],g4,g5⟩
        split at g2
        ·rename_i e; subst e; omega
        ·exact g2
      ·rcases cY.1 hv with hv|hv
       ·rw[hlv v hv]; exact⟨hr.2,by omega⟩
       ·obtain⟨g1,g2⟩:=hnv v hv;rw[hyv v g1.1] at g2;refine⟨g1,?_⟩
        split at g2
        ·rename_i e; subst e; omega
        ·exact g2
     split at h
     ·rename_i hwt;exact fin (w1:=w) (kz hn hLt hnt hy hw hq hwq h) ((hwq _ hr.2.1 hr.2.2).1 hwt) ⟨[],by simp,fun _ h=>by cases h⟩
     ·rename_i hwt;have hnq:l.2.1∉q:=fun hc=>hwt ((hwq _ hr.2.1 hr.2.2).2 hc);refine fin (w1:=w.set l.2.1.toNat true) (kz hn hLt hnt hy (by simpa using hw) ?_ ?_ h) (by simp) ⟨[l.2.1],rfl,fun v hv=>by simpa using hv⟩
      ·rw[List.nodup_append];exact⟨hq,by simp,fun a ha b hb=>by simp at hb; subst hb; exact fun e=>hnq (e▸ha)⟩
      ·intro v h0 h1;rw[aeh hr.2.1 h0 tw]
       by_cases hv:v=l.2.1
       ·simp[hv]
       ·simp only[hv,if_false,cY,dg,or_false];exact hwq v h0 h1
def m9 {n least:Int}:∀{L:List Lk},(∀l∈L,l.1≠l.2.1)→(∀l∈L,0≤l.2.1)→0≤n→∀{x:List Int} {w:List Bool} {q:List Int} {r},pE n least L x w q=(false,r)→∃v m,(n,v,m)∈L∧gv x n+m<least
 |[],_,_,_,x,w,q,r,h=>by cases h
 |l::t,hnl,h0,hn,x,w,q,r,h=>by
  have hnt:∀l∈t,l.1≠l.2.1:=fun l hl=>hnl l (by simp[hl]);have h0t:∀l∈t,0≤l.2.1:=fun l hl=>h0 l (by simp[hl]);have up:(∃v m,(n,v,m)∈t∧gv x n+m<least)→∃v m,(n,v,m)∈l::t∧gv x n+m<least:=fun⟨v,m,g1,g2⟩=>⟨v,m,by simp[g1],g2⟩;unfold pE at h
  split at h
  ·exact up (m9 hnt h0t hn h)
  ·rename_i hne
   have hln:l.1=n:=by simpa using hne
   split at h
   ·exact up (m9 hnt h0t hn h)
   ·split at h
    ·rename_i hlt;exact⟨l.2.1,l.2.2,by rw[←hln]; simp,hlt⟩
    ·have hyn:gv (x.set l.2.1.toNat (gv x n+l.2.2)) n=gv x n:=by
      unfold gv;rw[List.getElem?_set];have h1:=hnl l (by simp);have h2:=h0 l (by simp)
      have:¬l.2.1.toNat=n.toNat:=by omega
      simp[this]
     split at h
     ·have:=m9 hnt h0t hn h;rw[hyn] at this;exact up this
     ·have:=m9 hnt h0t hn h;rw[hyn] at this;exact up this
def aeS {ρ:Type} {L:List Lk} {N:Nat} {M:Int} (hL:iJ L N M) {n least:Int} (hn:0≤n∧n<N) {x:List Int} {w:List Bool} {t rest:List Int} (hx:x.length=N) (hw:w.length=N) (ht:t.length=N) (hq:rest.length≤1000000)
 (hb : -2305843009213693952≤gv x n∧gv x n≤2305843009213693952) (htn:0≤gv t n∧gv t n≤1000000) (kn:List Int→List Bool→List Int→List Int→Option ρ) (k0:(Val (.pair .bool (.pair (.slice tI) (.pair (.slice .bool) (.pair (.slice tI) (.slice tI))))))→Option ρ) :
 ĥ [] least (N:Int) L x w t (n::rest) kn k0 =
  if (N:Int)+1<gv t n+1 then k0 (false,x,w.set n.toNat false,t.set n.toNat (gv t n+1),rest) else
  match pE n least L x (w.set n.toNat false) rest with
  |(true,x',w',q')=>kn x' w' (t.set n.toNat (gv t n+1)) q'
  |(false,x',w',q')=>k0 (false,x',w',t.set n.toNat (gv t n+1),q'):=by
 have hN:=hL.nodes
 have tn:n.toNat<x.length:=by omega
 have tw:n.toNat<w.length:=by omega
 have tt:n.toNat<t.length:=by omega
 unfold ĥ
 have e0:ieq (Õ (n::rest)) 0=false:=by
  rw[å];simp only[ieq,df,beq_eq_false_iff_ne,ne_eq];omega
 have e1:ilt (0:Int) (ă (n::rest))=true:=by simp[ilt,ă]
 have e2:ile (1:Int) (ă (n::rest))=true:=by simp[ile,ă]; omega
 have e3:decide (1+(List.length (n::rest)-1)=List.length (n::rest))=true:=by simp; omega
 rw[Ó e0,Ī e1];rw[show ĩ (n::rest) 0=fun(f:Int→Option ρ)=>f n from rfl]
 try dsimp only
 rw[Ī e2,Ī e3,jm hn.1 (by omega),VU tw,jm hn.1 (by omega),j7 tt,Ö (by omega) (by omega),jm hn.1 (by omega),j7 tt];rw[show(ă (List.set t n.toNat (gv t n+1)))=((t.length:Nat):Int) by simp[ă]];rw[jm hn.1 (by omega),j7 (by simpa using tt),zd hn.1 hn.1 tt,if_pos rfl,Ö (by omega) (by omega),ġ];rw[show List.drop 1 (n::rest)=rest from rfl]
 by_cases hlt:(N:Int)+1<gv t n+1
 ·rw[if_pos (by simpa[igt] using hlt),if_pos hlt]
 ·rw[if_neg (by simpa[igt] using hlt),if_neg hlt];rw[alg hL hn hx (w:=w.set n.toNat false) (by simpa using hw) hq hb];generalize pE n least L x (w.set n.toNat false) rest=r;obtain⟨b,x',w',q'⟩:=r
  cases b<;>rfl
def ahV {ρ:Type} {L:List Lk} {N:Int} {least:Int} {x:List Int} {w:List Bool} {t:List Int} (kn:List Int→List Bool→List Int→List Int→Option ρ) (k0:(Val (.pair .bool (.pair (.slice tI) (.pair (.slice .bool) (.pair (.slice tI) (.slice tI))))))→Option ρ) :
 ĥ [] least N L x w t [] kn k0=k0 (true,x,w,t,[]):=by
 unfold ĥ
 have e0:ieq (Õ ([]:List Int)) 0=true:=by rw[å]; rfl
 rw[Ù e0]
def XO (N:Nat) (t:List Int):Nat:=(t.map fun a=>((N:Int)+2-a).toNat).sum
def ae2 (N:Nat):∀(t:List Int) (i:Nat) (a b:Int),t[i]?=some a→a<b→a<(N:Int)+2→XO N (t.set i b)<XO N t
 |a0::t,0,a,b,h,h1,h2=>by
  simp at h; subst h;simp only[XO,List.set_cons_zero,eO,List.sum_cons];omega
 |a0::t,i+1,a,b,h,h1,h2=>by
  have:=ae2 N t i a b (by simpa using h) h1 h2;simp only[XO] at this;simp only[XO,List.set_cons_succ,eO,List.sum_cons];omega
def abd {N:Nat} {t:List Int} {n:Int} (hn:n.toNat<t.length) (h:gv t n≤(N:Int)+1):XO N (t.set n.toNat (gv t n+1))<XO N t :=
 ae2 N t n.toNat (gv t n) _ (ae5 hn) (by omega) (by omega)
structure ahj (L:List Lk) (S:Int→Prop) (N:Nat) (M:Int) (k:Nat) (A B:List Int) (x:List Int) (w:List Bool) (t q:List Int):Prop where
 q_eq:q=A++B
 lx:x.length=N
 lw:w.length=N
 lt:t.length=N
 nodup:q.Nodup
 rng:∀v∈q,0≤v∧v<N
 waits:∀v:Int,0≤v→v<N→(wv w v=true↔v∈q)
 t0:∀v:Int,0≤v→v<N→0≤gv t v∧gv t v≤(k:Int)+1
 tA:∀v∈A,gv t v≤k
 low:∀vs v d,Wl L S vs v d→vs.length≤k→gv x v≤d
 nxt:∀vs u d,Wl L S vs u d→vs.length≤k→u∉A→∀v m,(u,v,m)∈L→gv x v≤d+m
 rel:∀u:Int,0≤u→u<N→u∉q→gv x u≠ig→∀v m,(u,v,m)∈L→gv x v≤gv x u+m
 att:∀v:Int,0≤v→v<N→gv x v≠ig→∃vs,Wl L S vs v (gv x v)
 bd:∀v:Int,0≤v→v<N→gv x v=ig∨gv x v≤((k:Int)+1)*M
 bA:∀v∈A,gv x v≤(k:Int)*M
 fin:∀v∈q,gv x v<ig
 kN:k+1≤N
 last:k+1=N→B=[]
section
variable {L:List Lk} {S:Int→Prop} {N:Nat} {M:Int} {p:Int→Int} {k:Nat} {A B x:List Int} {w:List Bool} {t q:List Int}
def Nk {a b:Nat} {M:Int} (h:a≤b) (hM:0≤M):(a:Int)*M≤(b:Int)*M:=fC (by omega) hM
def Wl.lt_free (hL:iJ L N M) (hNM:N*M<ig) {vs:List Int} {v d:Int} (hw:Wl L S vs v d) (h:vs.length≤N):d<ig:=by
 have h1:=hw.high fun l hl=>(hL.most l hl).2;have h2:=Nk h hL.m0;omega
def ahj.next (hL:iJ L N M) (hNM:N*M<ig) (hS:∀v,S v→0≤v∧v<N) (h:ahj L S N M k [] B x w t q) (hB:B≠[]):ahj L S N M (k+1) B [] x w t q:=by
 have hM:=hL.m0
 have hq:q=B:=by simpa using h.q_eq
 have hk:k+1≠N:=fun e=>hB (h.last e);have hkN:=h.kN
 have low':∀vs v d,Wl L S vs v d→vs.length≤k+1→gv x v≤d:=by
  intro vs v d hw hl
  cases hw with
  |nil hs=>exact h.low [] v 0 (.nil hs) (by simp)
  | @step vs u _ m d hw hlk=>exact h.nxt vs u d hw (by simpa using hl) (by simp) v m hlk
 refine⟨by simp[hq],h.lx,h.lw,h.lt,h.nodup,h.rng,h.waits,fun v h0 h1=>⟨(h.t0 v h0 h1).1,by have:=(h.t0 v h0 h1).2; push_cast; omega⟩,fun v hv=>?_,low',fun vs u d hw hl hu v m hlk=>?_,h.rel,h.att,fun v h0 h1=>?_,fun v hv=>?_,h.fin,by omega,fun _=>rfl⟩
 ·have:=h.rng v (by rw[hq]; exact hv);have:=(h.t0 v this.1 this.2).2;push_cast; omega
 ·have h1:=low' vs u d hw hl;have h2:=hw.lt_free hL hNM (by omega);have h3:=(hw.range hL.inr hS).1;have:=h.rel u h3.1 h3.2 (by rw[hq]; exact hu) (by omega) v m hlk;omega
 ·rcases h.bd v h0 h1 with h2|h2
  ·exact .inl h2
  ·refine .inr ?_;have:=Nk (show k+1≤k+1+1 by omega) hM;push_cast at this ⊢;omega
 ·have h1:=h.rng v (by rw[hq]; exact hv);have h2:=h.fin v (by rw[hq]; exact hv);rcases h.bd v h1.1 h1.2 with h3|h3
  ·omega
  ·push_cast; exact h3
def ahj.step {n:Int} {A':List Int} {least:Int} {x':List Int} {w':List Bool} {q':List Int} (hL:iJ L N M) (hNM:N*M<ig) (hp:Pot L p) (hS:∀v,S v→0≤v∧v<N) (h:ahj L S N M k (n::A') B x w t q)
 (ha:amf N n least L x (A'++B) x' w' q'):∃B',ahj L S N M k A' B' x' w' (t.set n.toNat (gv t n+1)) q':=by
 have hM:=hL.m0
 have hq:q=n::(A'++B):=by simpa using h.q_eq
 have hkN:=h.kN;have hnr:=h.rng n (by rw[hq]; simp);have hnf:=h.fin n (by rw[hq]; simp)
 have hnd:n∉A'++B:=by have:=h.nodup; rw[hq,gk] at this; exact this.1
 have htn:n.toNat<t.length:=by have:=h.lt; omega
 have tset:∀v,0≤v→gv (t.set n.toNat (gv t n+1)) v=if v=n then gv t n+1 else gv t v:=fun v h0=>zd hnr.1 h0 htn _
 have hkM:((k:Int)+1)*M<ig:=by
  have:=Nk hkN hM;push_cast at this;omega
 have xle:∀v:Int,0≤v→v<N→gv x v≤ig:=fun v h0 h1=>by rcases h.bd v h0 h1 with h2|h2<;>omega
 obtain⟨l,hl,hlv⟩:=ha.new
 have att':∀v:Int,0≤v→v<N→gv x' v≠ig→∃vs,Wl L S vs v (gv x' v):=by
  intro v h0 h1 hne;rcases ha.chg v h0 h1 with g|⟨_,_,m,g3,g4,_⟩
  ·rw[g] at hne ⊢; exact h.att v h0 h1 hne
  ·obtain⟨vs,hw⟩:=h.att n hnr.1 hnr.2 (by omega);rw[g4]; exact⟨_,hw.step g3⟩
 refine⟨B++l,by rw[hl,dn],ha.lx,ha.lw,by rw[fm]; exact h.lt,ha.nodup,fun v hv=>?_,ha.waits,fun v h0 h1=>?_,fun v hv=>?_,fun vs v d hw hlen=>?_,fun vs u d hw hlen hu v m hlk=>?_,
  fun u h0 h1 hu hf v m hlk=>?_,att',fun v h0 h1=>?_,fun v hv=>?_,fun v hv=>?_,hkN,fun hk=>?_⟩
 ·rw[hl] at hv;rcases cY.1 hv with hv|hv
  ·exact h.rng v (by rw[hq]; simp only[dc]; exact .inr hv)
  ·exact(hlv v hv).1
 ·rw[tset v h0];have h2:=h.t0 v h0 h1
  split
  ·have h3:=h.tA n (by simp);have h4:=h.t0 n hnr.1 hnr.2;omega
  ·exact h2
 ·have h1:=h.rng v (by rw[hq]; simp[hv]);rw[tset v h1.1,if_neg (fun e=>hnd (by rw[←e]; simp[hv]))];exact h.tA v (by simp[hv])
 ·have h1:=h.low vs v d hw hlen;have h2:=(hw.range hL.inr hS).1;have:=ha.le v h2.1 h2.2;omega
 ·have hvr:=(hL.inr _ hlk).2
  by_cases hun:u=n
  ·subst hun;have h1:=ha.link v m hlk;have h2:=h.low vs u d hw hlen;omega
  ·have h1:=h.nxt vs u d hw hlen (by simp[hun,hu]) v m hlk;have:=ha.le v hvr.1 hvr.2;omega
 ·have hvr:=(hL.inr _ hlk).2
  have heq:gv x' u=gv x u:=by
   rcases ha.chg u h0 h1 with g|⟨g,_⟩
   ·exact g
   ·exact(hu g).elim
  by_cases hun:u=n
  ·subst hun;have h1:=ha.link v m hlk;omega
  ·have hur:u∉q:=by
    rw[hq];intro hc;rcases dc.1 hc with e|hc
    ·exact hun e
    ·exact hu (by rw[hl]; exact d9 _ hc)
   have h2:=h.rel u h0 h1 hur (by rw[←heq]; exact hf) v m hlk;have:=ha.le v hvr.1 hvr.2;omega
 ·rcases ha.chg v h0 h1 with g|⟨_,_,m,g3,g4,_⟩
  ·rw[g]; exact h.bd v h0 h1
  ·have h2:=h.bA n (by simp);have h3:=(hL.most _ g3).2;simp only at h3;refine .inr ?_;rw[g4,gh,gD];omega
 ·have h1:=h.rng v (by rw[hq]; simp[hv]);have h2:=h.bA v (by simp[hv]);have:=ha.le v h1.1 h1.2;omega
 ·rw[hl] at hv;rcases cY.1 hv with hv|hv
  ·have h1:=h.rng v (by rw[hq]; simp only[dc]; exact .inr hv);have h2:=h.fin v (by rw[hq]; simp only[dc]; exact .inr hv);have:=ha.le v h1.1 h1.2;omega
  ·obtain⟨g1,g2⟩:=hlv v hv;have:=xle v g1.1 g1.2;omega
 ·rw[h.last hk]
  cases l with
  |nil=>rfl
  |cons v l =>
   exfalso;obtain⟨g1,g2⟩:=hlv v (by simp);have:=xle v g1.1 g1.2;obtain⟨vs,hw⟩:=att' v g1.1 g1.2 (by omega);obtain⟨vs',d',k1,k2,k3⟩:=hw.simple hp;have k4:=k1.short hL.inr hS k3;have:=h.low vs' v d' k1 (by omega);omega
def ahj.done (hL:iJ L N M) (hNM:N*M<ig) (hp:Pot L p) (hS:∀v,S v→0≤v∧v<N) (h:ahj L S N M k A B x w t []):ahl L S N (gv x):=by
 have hkN:=h.kN;have hM:=hL.m0
 have hkM:((k:Int)+1)*M<ig:=by
  have:=Nk hkN hM;push_cast at this;omega
 have key:∀vs v d,Wl L S vs v d→vs.length+1≤N→gv x v≤d:=by
  intro vs v d hw
  induction hw with
  |nil hs=>intro _; exact h.low [] _ 0 (.nil hs) (by simp)
  | @step vs u v m d hw hlk ih =>
   intro hlen;simp only[df] at hlen;have h1:=ih (by omega);have h2:=hw.lt_free hL hNM (by omega);have h3:=(hw.range hL.inr hS).1;have:=h.rel u h3.1 h3.2 (by simp) (by omega) v m hlk;omega
 refine⟨h.att,fun v vs d hw=>?_,fun v h0 h1=>?_⟩
 ·obtain⟨vs',d',k1,k2,k3⟩:=hw.simple hp;have:=key vs' v d' k1 (k1.short hL.inr hS k3);omega
 ·rcases h.bd v h0 h1 with h2|h2<;>omega
def YV {ρ:Type} {r:Option ρ} (hL:iJ L N M) (hNM:N*M<ig) (hp:Pot L p) (hS:∀v,S v→0≤v∧v<N) (k0:(Val (.pair .bool (.pair (.slice tI) (.pair (.slice .bool) (.pair (.slice tI) (.slice tI))))))→Option ρ)
 (hK:∀x w t q,x.length=N→ahl L S N (gv x)→k0 (true,x,w,t,q)=r) (h:ahj L S N M k A B x w t q) :
 Ï (fun(v64:(Val (.pair (.slice tI) (.pair (.slice .bool) (.pair (.slice tI) (.slice tI)))))) kk69=>ĥ [] (Nj L) (N:Int) L v64.1 v64.2.1 v64.2.2.1 v64.2.2.2 (fun u65 u66 u67 u68=>kk69 (u65,u66,u67,u68)) k0) (x,w,t,q)=r:=by
 refine ł (fun s:List Int×List Bool×List Int×List Int=>∃k A B,ahj L S N M k A B s.1 s.2.1 s.2.2.1 s.2.2.2) (fun s=>XO N s.2.2.1) ?_ ⟨k,A,B,h⟩;rintro⟨x,w,t,q⟩ ⟨k,A,B,h⟩;dsimp only at h ⊢;have hN:=hL.nodes
 cases q with
 |nil=>exact .inl fun kn=>by rw[ahV]; exact hK x w t [] h.lx (h.done hL hNM hp hS)
 |cons n rest =>
  -- the phase in which the first one is
  have hph:∃k A' B,ahj L S N M k (n::A') B x w t (n::rest):=by
   cases A with
   |nil =>
    have hB:B=n::rest:=by simpa using h.q_eq.symm
    subst hB;exact⟨k+1,rest,[],h.next hL hNM hS (by simp)⟩
   |cons a A' =>
    have:=h.q_eq;simp only[eQ,List.cons.injEq] at this;obtain⟨rfl,_⟩:=this;exact⟨k,A',B,h⟩
  clear h k A B;obtain⟨k,A',B,h⟩:=hph
  have hrest:rest=A'++B:=by have:=h.q_eq; simpa using this
  have hnr:=h.rng n (by simp);have hnf:=h.fin n (by simp);have hkN:=h.kN;have h1:=h.tA n (by simp);have h2:=h.t0 n hnr.1 hnr.2;obtain⟨vs,hw⟩:=h.att n hnr.1 hnr.2 (by omega);have hlow:=hw.low' hp
  have hneg : -(400*4503599627370496)≤Nj L:=by
   have:∀L':List Lk,(∀l∈L',-M≤l.2.2)→-((L'.length:Int)*M)≤Nj L':=by
    intro L'
    induction L' with
    |nil=>intro _; simp[Nj,L7]
    |cons l t ih =>
     intro hh;have i1:=ih fun l hl=>hh l (by simp[hl]);have i2:=hh l (by simp);have i3:=hL.m0;unfold Nj at i1 ⊢;simp only[L7,if_true,List.length_cons,Int.natCast_succ,Int.add_mul,Int.one_mul];omega
   have h3:=this L fun l hl=>(hL.most l hl).1;have h4:(L.length:Int)*M≤400*4503599627370496:=fj (by have:=hL.len; omega) hL.m1 hL.m0 (by omega);omega
  have hrl:rest.length≤1000000:=by
   have:=aeF N (n::rest) h.nodup h.rng;simp only[df] at this;omega
  refine .inr ?_
  have hw':(w.set n.toNat false).length=N:=by rw[fm]; exact h.lw
  cases hr:pE n (Nj L) L x (w.set n.toNat false) rest with
  |mk b r' =>
  obtain⟨x',w',q'⟩:=r'
  cases b with
  |false =>
   exfalso;obtain⟨v,m,g1,g2⟩:=m9 hL.noloop (fun l hl=>(hL.inr l hl).2.1) hnr.1 hr;have:=(hw.step g1).low' hp;omega
  |true =>
   have hnd:=h.nodup;rw[gk] at hnd
   have ha:=kz hnr hL.inr hL.noloop h.lx hw' hnd.2 (fun v h0 h1=>by
    rw[aeh hnr.1 h0 (by have:=h.lw; omega)]
    by_cases hv:v=n
    ·subst hv; simp[hnd.1]
    ·rw[if_neg hv,h.waits v h0 h1]
     simp[hv]) hr
   rw[hrest] at ha;obtain⟨B',hB'⟩:=h.step hL hNM hp hS ha;refine⟨(x',w',t.set n.toNat (gv t n+1),q'),⟨k,A',B',hB'⟩,abd (by have:=h.lt; omega) (by omega),fun kn=>?_⟩;have hF:ig=1152921504606846976:=rfl
   rw[aeS hL hnr h.lx h.lw h.lt hrl (by constructor<;>omega) (by constructor<;>omega),if_neg (by omega),hr]
end
def Og (f:Lk→Bool):∀(L L':List Lk),L7 f (L++L')=L7 f L+L7 f L'
 |[],L'=>by simp[L7]
 |l::t,L'=>by
  simp only[eQ,L7,Og f t L'];omega
def ZI {L:List Lk} {i:Nat} {l:Lk} (h:L[i]?=some l):Nj (L.take (i+1))=Nj (L.take i)+min l.2.2 0:=by
 rw[take_succ h,Nj,Nj,Og];simp[L7]
def imin0 (e:Int):Ea e 0=min e 0:=by
 unfold Ea
 split<;>omega
def VV {L:List Lk} {M:Int} (h:∀l∈L,-M≤l.2.2) (hM:0≤M) : -((L.length:Int)*M)≤Nj L:=by
 induction L with
 |nil=>simp[Nj,L7]
 |cons l t ih =>
  have i1:=ih fun l hl=>h l (by simp[hl]);have i2:=h l (by simp);unfold Nj at i1 ⊢;simp only[L7,if_true,List.length_cons,Int.natCast_succ,Int.add_mul,Int.one_mul];omega
def am2 (L:List Lk):Nj L≤0:=uF _ L
section
variable {ρ:Type} {L:List Lk} {N:Nat} {M:Int}
def ae3 (hL:iJ L N M) (k0:Int→Option ρ):Ï (fun(v75:Val Ã) kk78=>gY L (Õ L) v75.1 v75.2 (fun u76 u77=>kk78 (u76,u77)) k0) ((0:Int),(0:Int))=k0 (Nj L):=by
 refine ł (fun x:Int×Int=>∃i:Nat,i≤L.length∧x=(Nj (L.take i),(i:Int))) (fun x=>L.length-x.2.toNat) ?_ ⟨0,by omega,rfl⟩;rintro x ⟨i,hi,rfl⟩;have hlen:=hL.len;rcases dE i L.length with h|h
 ·have hl:L[i]?=some L[i]:=cO h;refine .inr ⟨(Nj (L.take (i+1)),(i:Int)+1),⟨i+1,h,by simp⟩,by simp; omega,fun kn=>?_⟩
  try dsimp only
  unfold gY
  have hb:∀j,j≤L.length→-(400*4503599627370496)≤Nj (L.take j):=by
   intro j hj;have h1:=VV (L:=L.take j) (fun l hl=>(hL.most l (List.mem_of_mem_take hl)).1) hL.m0;have h2:((L.take j).length:Int)*M≤400*4503599627370496:=fj (by rw[di]; omega) hL.m1 hL.m0 (by omega);omega
  have h1:=hb i hi;have h2:=hb (i+1) h;have h3:=am2 (L.take i);rw[ZI hl] at h2;rw[Ô h,É hl,imin0,Ö (by omega) (by omega),Í h (by omega),ZI hl]
 ·refine .inl fun kn=>?_
  have:i=L.length:=by omega
  subst this
  try dsimp only
  unfold gY;rw[â,List.take_length]
def ahz {x:List Int} (hx:x.length=N) (hN:N≤1000) {r:Option ρ} (k0:(Val (.pair (.slice .bool) (.slice tI)))→Option ρ)
 (hK:∀(w:List Bool) (q:List Int),w.length=N→q.Nodup→(∀v∈q,0≤v∧v<N)→(∀v:Int,0≤v→v<N→(wv w v=true↔v∈q))→(∀v:Int,0≤v→v<N→(v∈q↔gv x v≠ig))→k0 (w,q)=r) :
 Ï (fun(v70:(Val (.pair tI (.pair (.slice .bool) (.slice tI))))) kk74=>ő (N:Int) x v70.1 v70.2.1 v70.2.2 (fun u71 u72 u73=>kk74 (u71,u72,u73)) k0) ((0:Int),(List.replicate N false),([]:List Int))=r:=by
 refine ł (fun s:Int×List Bool×List Int=>∃i:Nat,i≤N∧s.1=i∧s.2.1.length=N∧s.2.2.Nodup∧s.2.2.length≤i∧(∀v∈s.2.2,0≤v∧v<i)∧(∀v:Int,0≤v→v<N→(wv s.2.1 v=true↔v∈s.2.2))∧(∀v:Int,0≤v→v<i→(v∈s.2.2↔gv x v≠ig))) (fun s=>N-s.1.toNat) ?_
  ⟨0,by omega,rfl,by simp,by simp,by simp,by simp,fun v h0 h1=>?_,fun v h0 h1=>by omega⟩
 ·rintro⟨s,w,q⟩ ⟨i,hi,h1,h2,h3,h4,h5,h6,h7⟩;simp only at h1 h2 h3 h4 h5 h6 h7;subst h1;rcases dE i N with h|h
  ·refine .inr ?_
   have hix:i<x.length:=by omega
   have hiw:i<w.length:=by omega
   have hnq:((i:Int))∉q:=fun hc=>by have:=(h5 _ hc).2; omega
   by_cases hf:gv x i=ig
   ·refine⟨((i:Int)+1,w,q),⟨i+1,h,by simp,h2,h3,by simp only; omega,fun v hv=>⟨(h5 v hv).1,by have:=(h5 v hv).2; push_cast; omega⟩,h6,fun v h0 h1=>?_⟩,by simp; omega,fun kn=>?_⟩
    ·by_cases hv:v=i
     ·subst hv; simp[hf,hnq]
     ·exact h7 v h0 (by push_cast at h1; omega)
    ·try dsimp only
     unfold ő
     have e:ilt (i:Int) (N:Int)=true:=by simp[ilt,h]
     rw[Ù e,g9 hix,j7 (by simpa using hix)]
     have e2:ine (gv x i) 1152921504606846976=false:=by simp[ine,hf]
     rw[Ó e2,Í h (by omega)]
   ·refine⟨((i:Int)+1,w.set i true,q++[(i:Int)]),⟨i+1,h,by simp,by simpa using h2,?_,by simp; omega,fun v hv=>?_,fun v h0 h1=>?_,fun v h0 h1=>?_⟩,by simp; omega,fun kn=>?_⟩
    ·rw[List.nodup_append];exact⟨h3,by simp,fun a ha b hb=>by simp at hb; subst hb; exact fun e=>hnq (e▸ha)⟩
    ·rcases cY.1 hv with hv|hv
     ·exact⟨(h5 v hv).1,by have:=(h5 v hv).2; push_cast; omega⟩
     ·simp at hv; subst hv; push_cast; omega
    ·have:=aeh (w:=w) (u:=(i:Int)) (by omega) h0 (by simpa using hiw) true;rw[dt] at this;show wv (w.set i true) v=true↔v∈q++[(i:Int)];rw[this]
     by_cases hv:v=i
     ·simp[hv]
     ·simp only[hv,if_false,cY,dg,or_false];exact h6 v h0 h1
    ·show v∈q++[(i:Int)]↔_
     by_cases hv:v=i
     ·subst hv; simp[hf]
     ·simp only[cY,dg,hv,or_false];exact h7 v h0 (by push_cast at h1; omega)
    ·try dsimp only
     unfold ő
     have e:ilt (i:Int) (N:Int)=true:=by simp[ilt,h]
     rw[Ù e,g9 hix,j7 (by simpa using hix)]
     have e2:ine (gv x i) 1152921504606846976=true:=by simp[ine,hf]
     rw[Ù e2,Ø (by simp only[dF]; omega),Am.iff_true,g9 hiw,VU (by simpa using hiw),Í h (by omega),dt]
  ·refine .inl fun kn=>?_
   have:i=N:=by omega
   subst this
   try dsimp only
   unfold ő
   have e:ilt (i:Int) (i:Int)=false:=by simp[ilt]
   rw[Ó e];exact hK w q h2 h3 h5 h6 h7
 ·have:wv (List.replicate N false) v=false:=by
   unfold wv;rw[List.getElem?_replicate]
   split<;>rfl
  simp[this]
def TM (hL:iJ L N M) (hN:1≤N) {S:Int→Bool} (hS:∀v,S v=true→0≤v∧v<N) {w:List Bool} {q:List Int} (hw:w.length=N) (hq:q.Nodup) (hr:∀v∈q,0≤v∧v<N) (hwq:∀v:Int,0≤v→v<N→(wv w v=true↔v∈q)) (hqs:∀v:Int,0≤v→v<N→(v∈q↔gv (uw S N) v≠ig)) :
 ahj L (fun v=>S v=true) N M 0 q [] (uw S N) w (List.replicate N 0) q:=by
 have ht:∀v:Int,0≤v→v<N→gv (List.replicate N (0:Int)) v=0:=by
  intro v h0 h1;unfold gv;rw[List.getElem?_replicate]
  split<;>rfl
 have hg:∀v:Int,0≤v→v<N→(v∈q↔S v=true):=by
  intro v h0 h1;rw[hqs v h0 h1,i6 S h0 h1]
  cases S v<;>simp[ig]
 have hM:=hL.m0;refine⟨by simp,Č S N,hw,by simp,hq,hr,hwq,fun v h0 h1=>?_,fun v hv=>?_,fun vs v d hw hl=>?_,fun vs u d hw hl hu v m hlk=>?_,fun u h0 h1 hu hf v m hlk=>?_,fun v h0 h1 hf=>?_,fun v h0 h1=>?_,fun v hv=>?_,fun v hv=>?_,by omega,fun _=>rfl⟩
 ·rw[ht v h0 h1]; omega
 ·have:=hr v hv;rw[ht v this.1 this.2]; omega
 ·cases hw with
  |nil hs =>
   have:=hS v hs;rw[i6 S this.1 this.2,if_pos hs]; omega
  |step=>simp at hl
 ·cases hw with
  |nil hs =>
   have:=hS u hs;exact(hu ((hg u this.1 this.2).2 hs)).elim
  |step=>simp at hl
 ·rw[i6 S h0 h1] at hf;have:=mt (hg u h0 h1).2 hu;rw[if_neg this] at hf;exact(hf rfl).elim
 ·rw[i6 S h0 h1] at hf ⊢
  split at hf
  ·rename_i hs;rw[if_pos hs]; exact⟨[],.nil hs⟩
  ·exact(hf rfl).elim
 ·rw[i6 S h0 h1]
  split
  ·exact .inr (by simp[hM])
  ·exact .inl rfl
 ·have h1:=hr v hv;rw[i6 S h1.1 h1.2,if_pos ((hg v h1.1 h1.2).1 hv)]; simp
 ·have h1:=hr v hv;rw[i6 S h1.1 h1.2,if_pos ((hg v h1.1 h1.2).1 hv)]; simp[ig]
structure Bad (L:List Lk) (N:Nat) (x:List Int) (w:List Bool) (t q:List Int):Prop where
 lx:x.length=N
 lw:w.length=N
 lt:t.length=N
 nodup:q.Nodup
 rng:∀v∈q,0≤v∧v<N
 waits:∀v:Int,0≤v→v<N→(wv w v=true↔v∈q)
 t0:∀v:Int,0≤v→v<N→0≤gv t v∧gv t v≤(N:Int)+1
 bd:∀v:Int,0≤v→v<N→-2305843009213693952≤gv x v∧gv x v≤0
 rel:∀u:Int,0≤u→u<N→u∉q→∀v m,(u,v,m)∈L→gv x v≤gv x u+m
def akF {r:Option ρ} {x:List Int} {w:List Bool} {t q:List Int} (hL:iJ L N M) (hp:¬∃p,Pot L p) (k0:(Val (.pair .bool (.pair (.slice tI) (.pair (.slice .bool) (.pair (.slice tI) (.slice tI))))))→Option ρ)
 (hK:∀x w t q,k0 (false,x,w,t,q)=r) (h:Bad L N x w t q) :
 Ï (fun(v64:(Val (.pair (.slice tI) (.pair (.slice .bool) (.pair (.slice tI) (.slice tI)))))) kk69=>ĥ [] (Nj L) (N:Int) L v64.1 v64.2.1 v64.2.2.1 v64.2.2.2 (fun u65 u66 u67 u68=>kk69 (u65,u66,u67,u68)) k0) (x,w,t,q)=r:=by
 refine ł (fun s:List Int×List Bool×List Int×List Int=>Bad L N s.1 s.2.1 s.2.2.1 s.2.2.2) (fun s=>XO N s.2.2.1) ?_ h;rintro⟨x,w,t,q⟩ h;dsimp only at h ⊢;have hN:=hL.nodes
 cases q with
 |nil =>
  exfalso;exact hp ⟨gv x,fun u v m hl=>h.rel u (hL.inr _ hl).1.1 (hL.inr _ hl).1.2 (by simp) v m hl⟩
 |cons n rest =>
  have hnr:=h.rng n (by simp);have hb:=h.bd n hnr.1 hnr.2;have ht:=h.t0 n hnr.1 hnr.2
  have hrl:rest.length≤1000000:=by
   have:=aeF N (n::rest) h.nodup h.rng;simp only[df] at this;omega
  have hout:=fun(kn:List Int→List Bool→List Int→List Int→Option ρ)=>aeS (ρ:=ρ) hL (least:=Nj L) hnr h.lx h.lw h.lt hrl ⟨hb.1,by omega⟩ ⟨ht.1,by omega⟩ kn k0
  by_cases hlt:(N:Int)+1<gv t n+1
  ·exact .inl fun kn=>by rw[hout,if_pos hlt]; exact hK _ _ _ _
  ·have hw':(w.set n.toNat false).length=N:=by rw[fm]; exact h.lw
   cases hr:pE n (Nj L) L x (w.set n.toNat false) rest with
   |mk b r' =>
   obtain⟨x',w',q'⟩:=r'
   cases b with
   |false=>exact .inl fun kn=>by rw[hout,if_neg hlt,hr]; exact hK _ _ _ _
   |true =>
    have hnd:=h.nodup;rw[gk] at hnd
    have htl:n.toNat<t.length:=by have:=h.lt; omega
    have ha:=kz hnr hL.inr hL.noloop h.lx hw' hnd.2 (fun v h0 h1=>by
     rw[aeh hnr.1 h0 (by have:=h.lw; omega)]
     by_cases hv:v=n
     ·subst hv; simp[hnd.1]
     ·rw[if_neg hv,h.waits v h0 h1]
      simp[hv]) hr
    obtain⟨l,hl,hlv⟩:=ha.new;refine .inr ⟨(x',w',t.set n.toNat (gv t n+1),q'),⟨ha.lx,ha.lw,by rw[fm]; exact h.lt,ha.nodup,fun v hv=>?_,ha.waits,fun v h0 h1=>?_,fun v h0 h1=>?_,fun u h0 h1 hu v m hlk=>?_⟩,abd htl (by omega),fun kn=>by rw[hout,if_neg hlt,hr]⟩
    ·dsimp only at hv;rw[hl] at hv;rcases List.mem_append.1 hv with hv|hv
     ·exact h.rng v (by simp[hv])
     ·exact(hlv v hv).1
    ·try dsimp only
     rw[zd hnr.1 h0 htl];have:=h.t0 v h0 h1
     split<;>omega
    ·try dsimp only
     have h2:=h.bd v h0 h1;rcases ha.chg v h0 h1 with g|⟨_,g2,m,g3,g4,g5⟩
     ·rw[g]; exact h2
     ·have h3:=VV (L:=L) (fun l hl=>(hL.most l hl).1) hL.m0;have h4:(L.length:Int)*M≤400*4503599627370496:=fj (by have:=hL.len; omega) hL.m1 hL.m0 (by omega);omega
    ·dsimp only at hu ⊢;have hvr:=(hL.inr _ hlk).2
     have heq:gv x' u=gv x u:=by
      rcases ha.chg u h0 h1 with g|⟨g,_⟩
      ·exact g
      ·exact(hu g).elim
     by_cases hun:u=n
     ·subst hun;have h1:=ha.link v m hlk;omega
     ·have hur:u∉n::rest:=by
       intro hc;rcases dc.1 hc with e|hc
       ·exact hun e
       ·exact hu (by rw[hl]; exact d9 _ hc)
      have h2:=h.rel u h0 h1 hur v m hlk;have:=ha.le v hvr.1 hvr.2;omega
end
def ahi (N:Nat) (v:Int):Bool:=decide (0≤v)&&decide (v<(N:Int))
def ah4 (s:Int) (v:Int):Bool:=v==s
def YU (N:Nat):uw (ahi N) N=List.replicate N 0:=by
 refine ae6 (by simp[Č]) fun v h0 h1=>?_;rw[Č] at h1;rw[i6 _ h0 h1]
 have:ahi N v=true:=by simp[ahi,h0,h1]
 rw[if_pos this];unfold gv;rw[List.getElem?_replicate]
 split<;>rfl
def i7 (L:List Lk) (N:Nat):List Int:=kL L N (uw (ahi N) N)
def ŏ (L:List Lk) (N:Nat):Bool:=decide (L3 L (i7 L N)=i7 L N)
def sm (L:List Lk) (N:Nat) (s:Int):List Int:=kL L N (uw (ah4 s) N)
section
variable {L:List Lk} {N:Nat} {M:Int}
def ak2 (hL:iJ L N M) (hN:N≤200):N*M<ig:=by
 have:(N:Int)*M≤200*4503599627370496:=Int.mul_le_mul (by omega) hL.m1 hL.m0 (by omega);unfold ig;omega
def Ir {p:Int→Int} (hL:iJ L N M) (hN:N≤200) (hp:Pot L p):ahl L (fun v=>ahi N v=true) N (gv (i7 L N)) :=
 NZ hp hL.inr (fun v h=>by simpa[ahi] using h) (fun l hl=>(hL.most l hl).2) hL.m0 (ak2 hL hN) N (by omega)
def jq {p:Int→Int} (hL:iJ L N M) (hN:N≤200) (hp:Pot L p) {s:Int} (hs:0≤s∧s<N):ahl L (fun v=>ah4 s v=true) N (gv (sm L N s)) :=
 NZ hp hL.inr (fun v h=>by simp[ah4] at h; subst h; exact hs) (fun l hl=>(hL.most l hl).2) hL.m0 (ak2 hL hN) N (by omega)
def Zf:∀{L:List Lk} {x:List Int},(∀u v m,(u,v,m)∈L→gv x u<ig→gv x v≤gv x u+m)→L3 L x=x
 |[],x,_=>rfl
 |l::t,x,h=>by
  have h1:lM x l=x:=by
   unfold lM
   split
   ·rename_i hc;have:=h l.1 l.2.1 l.2.2 (by simp) hc.1;omega
   ·rfl
  show L3 t (lM x l)=x;rw[h1];exact Zf fun u v m hm=>h u v m (by simp[hm])
def Ξ (hL:iJ L N M) (hN:N≤200):ŏ L N=true↔∃p,Pot L p:=by
 unfold ŏ;rw[decide_eq_true_eq]
 have hle:∀v:Int,0≤v→v<N→gv (i7 L N) v≤0:=by
  intro v h0 h1;have:=EA hL.inr N (Č (ahi N) N) v h0;rw[i6 _ h0 h1,if_pos (by simp[ahi,h0,h1])] at this;exact this
 constructor
 ·intro h;refine⟨gv (i7 L N),fun u v m hl=>?_⟩;have hr:=(hL.inr _ hl).1;have:=IA hL.inr (x:=i7 L N) (by unfold i7; rw[ţ,Č]) u v m hl (by have:=hle u hr.1 hr.2; unfold ig; omega)
  rwa [h] at this
 ·rintro⟨p,hp⟩;have hd:=Ir hL hN hp;exact Zf fun u v m hl hf=>hd.pot hL.inr hl (by omega)
end
section
variable {ρ:Type} {L:List Lk} {N:Nat} {M:Int}
def HC (hN:N≤1000) (x:Option ρ):ë ((ile (0:Int) (N:Int))&&(ì (Int.toNat (N:Int)))) x=x:=by
 rw[dt,Ø (by omega)]
 have:((ile (0:Int) (N:Int))&&true)=true:=by simp[ile]
 rw[this,Am.iff_true]
def acz (hL:iJ L N M) (h1:1≤N) (hN:N≤200) (k0:(Val (.pair .bool (.pair (.slice tI) (.pair (.slice .bool) (.pair (.slice tI) (.slice tI))))))→Option ρ) {rT rF:Option ρ}
 (hT:ŏ L N=true→∀w t q,k0 (true,i7 L N,w,t,q)=rT) (hF:∀x w t q,k0 (false,x,w,t,q)=rF) :
 (Ï (fun(v70:(Val (.pair tI (.pair (.slice .bool) (.slice tI))))) kk74=>ő (N:Int) (List.replicate N (0:Int)) v70.1 v70.2.1 v70.2.2 (fun u71 u72 u73=>kk74 (u71,u72,u73)) (fun z9=>Ï (fun(v64:(Val (.pair (.slice tI) (.pair (.slice .bool) (.pair (.slice tI) (.slice tI)))))) kk69=>ĥ [] (Nj L) (N:Int) L v64.1 v64.2.1 v64.2.2.1 v64.2.2.2 (fun u65 u66 u67 u68=>kk69 (u65,u66,u67,u68)) k0) ((List.replicate N (0:Int)),z9.1,(List.replicate N (0:Int)),z9.2))) ((0:Int),(List.replicate N false),([]:List Int)))=if ŏ L N then rT else rF:=by
 refine ahz (by simp) (by omega) _ fun w q hw hq hr hwq hqs=>?_
 try dsimp only
 have hS:∀v,ahi N v=true→0≤v∧v<N:=fun v h=>by simpa[ahi] using h
 by_cases ho:ŏ L N=true
 ·rw[if_pos ho];obtain⟨p,hp⟩:=(Ξ hL hN).1 ho;have hs:=TM hL h1 hS hw hq hr hwq (fun v a b=>by rw[YU]; exact hqs v a b);rw[YU] at hs;refine YV hL (ak2 hL hN) hp hS k0 (fun x w t q hx hd=>?_) hs
  have:x=i7 L N:=by
   refine ae6 (by rw[hx]; unfold i7; rw[ţ,Č]) fun v a b=>?_;exact hd.uniq (Ir hL hN hp) a (by omega)
  rw[this]; exact hT ho w t q
 ·rw[if_neg ho];refine akF hL (fun hp=>ho ((Ξ hL hN).2 hp)) k0 hF ?_
  have hg:∀v,gv (List.replicate N (0:Int)) v=0:=by
   intro v;unfold gv;rw[List.getElem?_replicate]
   split<;>rfl
  refine⟨by simp,hw,by simp,hq,hr,hwq,fun v a b=>?_,fun v a b=>?_,fun u a b hu v m hl=>?_⟩
  ·rw[hg]; omega
  ·rw[hg]; omega
  ·exact(hu ((hqs u a b).2 (by rw[hg]; unfold ig; omega))).elim
end
def shift_ok {ρ:Type} {x:List Int} (f:Int) (hx:x.length≤1000) (hf : -2305843009213693952≤f∧f≤2305843009213693952) (hb:∀a∈x,-2305843009213693952≤a∧a≤2305843009213693952) (k0:List Int→Option ρ) :
 Ï (fun(v60:(Val (.pair tI (.slice tI)))) kk63=>ji f (Õ x) v60.1 v60.2 (fun u61 u62=>kk63 (u61,u62)) k0) ((0:Int),x)=k0 (x.map fun a=>a-f):=by
 refine ü x (fun i=>(x.take i).map (fun a=>a-f)++x.drop i) _ (by simp) (fun i a hi ha kn=>?_) (fun kn=>?_)
 ·try dsimp only
  unfold ji
  have hlen:((x.take i).map (fun a=>a-f)++x.drop i).length=x.length:=by simp; omega
  have hget:((x.take i).map (fun a=>a-f)++x.drop i)[i]?=some a:=by
   rw[gg (by simp; omega)];simp only[dX,di,ff];rw[←ha]; congr 1; omega
  have hi':i<((x.take i).map (fun a=>a-f)++x.drop i).length:=by omega
  have ha':=hb a (cZ ha);rw[Ô hi,g9 hi',Ĥ hget,Ö (by omega) (by omega),g9 hi',Ĥ hget,Í hi (by omega),dt,take_succ ha];congr 2;rw[eZ hi,gP,dn,List.set_append_right _ _ (by simp; omega)]
  have:i-(List.map (fun a=>a-f) (List.take i x)).length=0:=by simp; omega
  rw[this]
  have h1:x[i]=a:=by rw[cO hi] at ha; simpa using ha
  simp[h1]
 ·try dsimp only
  unfold ji;rw[â];simp
section
variable {L:List Lk} {N:Nat} {M:Int}
def akH (hL:iJ L N M) (hN:N≤200) (ho:ŏ L N=true):∀a∈i7 L N,-2305843009213693952≤a∧a≤0:=by
 obtain⟨p,hp⟩:=(Ξ hL hN).1 ho;have hd:=Ir hL hN hp;intro a ha;obtain⟨i,hi,rfl⟩:=dj.1 ha
 have hlen:(i7 L N).length=N:=by unfold i7; rw[ţ,Č]
 have h0:gv (i7 L N) i=(i7 L N)[i]:=by unfold gv; simp[hi]
 have hle:=EA hL.inr N (Č (ahi N) N) (i:Int) (by omega);rw[i6 _ (by omega) (by omega),if_pos (by simp[ahi]; omega)] at hle;have hle':gv (i7 L N) i≤0:=hle;obtain⟨vs,hw⟩:=hd.att i (by omega) (by omega) (by unfold ig; omega);have h1:=hw.low' hp;have h3:=VV (L:=L) (fun l hl=>(hL.most l hl).1) hL.m0;have h4:(L.length:Int)*M≤400*4503599627370496:=Int.mul_le_mul (by have:=hL.len; omega) hL.m1 hL.m0 (by omega);omega
def solP (L:List Lk) (N:Nat):List Int:=(i7 L N).map fun a=>a-gv (i7 L N) 0
def CD (hL:iJ L N M) (h1:1≤N) (hN:N≤200):kE ((N:Int),L) []=some (if ŏ L N then(solP L N,true) else([],false)):=by
 unfold kE yA
 try dsimp only
 rw[HC (by omega),HC (by omega),HC (by omega),dt];refine eY (ae3 hL _) ?_;refine eY (acz hL h1 hN _ (rT:=some (solP L N,true)) (rF:=some ([],false)) (fun ho w t q=>?_) (fun x w t q=>?_)) ?_
 ·try dsimp only
  have hlen:(i7 L N).length=N:=by unfold i7; rw[ţ,Č]
  have hb:=akH hL hN ho;have h0:ilt (0:Int) (ă (i7 L N))=true:=decide_eq_true (show(0:Int)<((i7 L N).length:Int) by omega);have hg:(i7 L N)[0]?=some (gv (i7 L N) 0):=ae5 (v:=0) (show 0<_ by omega);have hm:=hb _ (cZ hg);rw[show(!true)=false from rfl,é,Ī h0,uE hg];exact shift_ok _ (by omega) ⟨hm.1,by omega⟩ (fun a ha=>⟨(hb a ha).1,by have:=(hb a ha).2; omega⟩) _
 ·rfl
 ·cases ŏ L N<;>rfl
structure iI (L:List Lk) (N:Nat):Prop where
 n1:1≤N
 n60:N≤60
 len:L.length≤300
 inr:InR L N
 noloop:∀l∈L,l.1≠l.2.1
 most:∀l∈L,-4503599627370496≤l.2.2∧l.2.2≤4503599627370496
def iI.links (h:iI L N):iJ L N 4503599627370496 :=
 ⟨h.inr,h.noloop,h.most,by have:=h.len; omega,by have:=h.n60; omega,by omega,by omega⟩
def iI.sub {L':List Lk} (h:iI L N) (hs:∀l∈L',l∈L) (hl:L'.length≤L.length):iI L' N :=
 ⟨h.n1,h.n60,by have:=h.len; omega,fun l hm=>h.inr l (hs l hm),fun l hm=>h.noloop l (hs l hm),fun l hm=>h.most l (hs l hm)⟩
def Oe (n:Int) (L:List Lk) (v:Int):rA (n,L) v=some (decide (0≤v)&&decide (v<n)):=by
 unfold rA W8 ige
 by_cases h:0≤v
 ·have:decide (v≥0)=true:=by simpa using h
  rw[Ù this]; simp[h]
 ·have:decide (v≥0)=false:=by simpa using h
  rw[Ó this]; simp[h]
def lG (h:iI L N):ni ((N:Int),L)=some (0,-1):=by
 have h1:=h.n1;have h2:=h.n60;have h3:=h.len;unfold ni PP
 try dsimp only
 rw[Ó (by simp[ilt]; omega),Ó (by simp[igt]; omega),Ó (by rw[å]; simp[igt]; omega)];refine eY (gZ L (fun _=>false) (fun i=>some (1,i)) (some (0,-1)) (fun i l hi hl kn=>?_) (fun kn=>?_)) ?_
 ·try dsimp only
  unfold qZ;have hm:=List.mem_of_getElem? hl;have a:=h.inr l hm;have b:=h.noloop l hm;have c:=h.most l hm
  have e1:(decide (0≤l.1)&&decide (l.1<(N:Int)))=true:=by simp[a.1.1,a.1.2]
  have e2:(decide (0≤l.2.1)&&decide (l.2.1<(N:Int)))=true:=by simp[a.2.1,a.2.2]
  rw[Ô hi,É hl,Oe,À,e1,Oe,À,e2];simp only[dN,é,dl,if_false];rw[Ó (by simp[ieq,b]),Ó (by simp[ilt]; omega),Ó (by simp[igt]; omega),Í hi (by omega)]
 ·try dsimp only
  unfold qZ;rw[â]
 ·rw[eG.2 (by simp)]
def zc {ρ:Type} {x:List Int} {v:Int} (h0:0≤v) (h:v.toNat<x.length) (f:Int→Option ρ):ò x v f=f (gv x v):=by
 obtain⟨i,rfl⟩:=gA h0;exact É (ae5 h) f
end
section
variable {b:Þ}
def vY (b:Þ) (g:í):(á b g).Pairwise (·<·):=CG _
def Q3 (h:ė b) {g:í} (hg:g∈b.2.1):∃t,á b g=g.2.1::t:=by
 have h1:=vY b g;have h2:=j4 (b:=b) g;have h3:∀d∈á b g,g.2.1≤d:=fun d hd=>(h.day hg hd).1
 cases hd:á b g with
 |nil=>rw[hd] at h2; cases h2
 |cons a t =>
  rw[hd] at h1 h2 h3;rw[dH] at h1;rcases dc.1 h2 with e|e
  ·exact⟨t,by rw[e]⟩
  ·have:=h1.1 _ e;have:=h3 a (by simp);omega
def off (b:Þ) (i:Nat):Nat:=((b.2.1.take i).flatMap fun g=>(á b g).map fun d=>((g.1,d):Int×Int)).length
def CX {i:Nat} {g:í} (hg:b.2.1[i]?=some g):Î b=((b.2.1.take i).flatMap fun g=>(á b g).map fun d=>((g.1,d):Int×Int))++(((á b g).map fun d=>((g.1,d):Int×Int))++((b.2.1.drop (i+1)).flatMap fun g=>(á b g).map fun d=>((g.1,d):Int×Int))):=by
 obtain⟨hi,rfl⟩:=cX.1 hg
 have h1:b.2.1=b.2.1.take i++(b.2.1[i]::b.2.1.drop (i+1)):=by
  rw[←eZ hi,List.take_append_drop]
 unfold Î
 conv=>lhs; rw[h1]
 rw[eX,dU]
def VT (h:ė b) {i:Nat} {g:í} (hg:b.2.1[i]?=some g) {k:Nat} {d:Int} (hk:(á b g)[k]?=some d):iv (Î b) g.1 d=some (off b i+k):=by
 obtain⟨hi,hgi⟩:=List.getElem?_eq_some_iff.1 hg;obtain⟨hkl,hkd⟩:=List.getElem?_eq_some_iff.1 hk;unfold iv;rw[CX hg,List.findIdx?_append,List.findIdx?_append]
 have h1:List.findIdx? (fun n:Int×Int=>decide (g.1=n.1)&&decide (d=n.2)) ((b.2.1.take i).flatMap fun g=>(á b g).map fun d=>((g.1,d):Int×Int))=none:=by
  rw[eG];intro x hx;obtain⟨g',hg',hx⟩:=dw.1 hx;obtain⟨d',_,rfl⟩:=d8.1 hx;obtain⟨j,hj,rfl⟩:=dj.1 hg';rw[di] at hj;rw[List.getElem_take];have:=(dI.1 h.ids) j i (by omega) hi (by omega);rw[hgi] at this;simp only[Bool.and_eq_false_iff,decide_eq_false_iff_not];exact .inl (by omega)
 have h2:List.findIdx? (fun n:Int×Int=>decide (g.1=n.1)&&decide (d=n.2)) ((á b g).map fun d=>((g.1,d):Int×Int))=some k:=by
  rw[dL];refine⟨by simpa using hkl,by simp[hkd],fun j hj=>?_⟩;have:=(dI.1 (vY b g)) j k (by omega) hkl hj;rw[hkd] at this;simp only[List.getElem_map,cR,decide_eq_true_eq,not_and];intro _;omega
 rw[h1,h2];simp only[Option.map_some,Option.some_or,Option.none_or];unfold off;congr 1;omega
def Ni {i:Nat} {g:í} (hg:b.2.1[i]?=some g) {k:Nat} {d:Int} (hk:(á b g)[k]?=some d):(Î b)[off b i+k]?=some (g.1,d):=by
 obtain⟨hkl,hkd⟩:=List.getElem?_eq_some_iff.1 hk;rw[CX hg,List.getElem?_append_right (by unfold off; omega),List.getElem?_append_left (by unfold off; simp; omega)];unfold off;simp[hk]
def afB (h:ė b) {i:Nat} {g:í} (hg:b.2.1[i]?=some g):atP (Î b) [g.1] g.2.1=(off b i:Int)+1:=by
 obtain⟨t,ht⟩:=Q3 h (List.mem_of_getElem? hg);have:=VT h hg (k:=0) (d:=g.2.1) (by rw[ht]; rfl);unfold atP;simp only[this];rfl
def ah6 (h:ė b) {i:Nat} {g:í} (hg:b.2.1[i]?=some g):off b i+(á b g).length≤(Î b).length:=by
 rw[CX hg];unfold off;simp only[List.length_append,List.length_map];omega
def akZ {i:Nat} {g:í} (hg:b.2.1[i]?=some g):off b (i+1)=off b i+(á b g).length:=by
 unfold off;rw[take_succ hg,List.flatMap_append];simp
def ZH (h:ė b) {c:Cmp} (hc:c∈b.2.2.2.2.1) {x:Int} (hx:(x∈c.2.2.1∧x∉c.2.2.2.1)∨(x∈c.2.2.2.1∧x∉c.2.2.1)):∃j,iv (Î b) x c.2.1=some j:=by
 have hm:x∈c.2.2.1++c.2.2.2.1:=by rw[cY]; exact hx.imp (·.1) (·.1)
 obtain⟨⟨g,hg,_⟩,_⟩:=h.pile hc hm;obtain⟨hgm,hgx⟩:=nf hg;obtain⟨i,hi,hgi⟩:=dj.1 hgm
 have hd:c.2.1∈á b g:=jV.2 (.inr (.inl ⟨c,hc,by
  rw[hgx];rcases hx with⟨h1,h2⟩|⟨h1,h2⟩
  ·have e1:c.2.2.1.contains x=true:=by simpa using h1
   have e2:c.2.2.2.1.contains x=false:=by simpa using h2
   rw[e1,e2]; simp
  ·have e1:c.2.2.2.1.contains x=true:=by simpa using h1
   have e2:c.2.2.1.contains x=false:=by simpa using h2
   rw[e1,e2]; simp,rfl⟩))
 obtain⟨k,hk,hkd⟩:=dj.1 hd;have:=VT h (g:=g) (i:=i) (by rw[cO hi,hgi]) (k:=k) (d:=c.2.1) (by rw[cO hk,hkd]);rw[hgx] at this;exact⟨_,this⟩
inductive ahd (b:Þ) (p:List Int) (d:Int) (n:Int):Prop
 |none:p=[]→n=0→ahd b p d n
 |one (x:Int) (j:Nat):p=[x]→iv (Î b) x d=some j→n=(j:Int)+1→ahd b p d n
def X8 (h:ė b) {c:Cmp} (hc:c∈b.2.2.2.2.1):ahd b (ê c.2.2.1 c.2.2.2.1) c.2.1 (cx b c):=by
 have hl:=(h.lefts hc).1
 cases hp:ê c.2.2.1 c.2.2.2.1 with
 |nil=>exact .none rfl (by unfold cx atP; rw[hp])
 |cons x t =>
  rw[hp] at hl
  have:t=[]:=by cases t with|nil=>rfl|cons=>simp at hl
  subst this;obtain⟨j,hj⟩:=ZH h hc (x:=x) (.inl (jP.1 (by rw[hp]; simp)));exact .one x j rfl hj (by unfold cx atP; rw[hp]; simp only[hj])
def Q4 (h:ė b) {c:Cmp} (hc:c∈b.2.2.2.2.1):ahd b (ê c.2.2.2.1 c.2.2.1) c.2.1 (cy b c):=by
 have hl:=(h.lefts hc).2.1
 cases hp:ê c.2.2.2.1 c.2.2.1 with
 |nil=>exact .none rfl (by unfold cy atP; rw[hp])
 |cons x t =>
  rw[hp] at hl
  have:t=[]:=by cases t with|nil=>rfl|cons=>simp at hl
  subst this;obtain⟨j,hj⟩:=ZH h hc (x:=x) (.inr (jP.1 (by rw[hp]; simp)));exact .one x j rfl hj (by unfold cy atP; rw[hp]; simp only[hj])
def ahd.rng {p:List Int} {d n:Int} (h:ahd b p d n):0≤n∧n<((Î b).length+1:Nat):=by
 rcases h with⟨_,h⟩|⟨x,j,_,h1,h2⟩
 ·omega
 ·have:=(kq h1).1;omega
def alA (h:ė b) {c:Cmp} (hc:c∈b.2.2.2.2.1):cx b c≠cy b c:=by
 have hl:=(h.lefts hc).2.2;rcases X8 h hc with⟨h1,h2⟩|⟨x,j,h1,h2,h3⟩
 ·rcases Q4 h hc with⟨g1,g2⟩|⟨y,k,g1,g2,g3⟩
  ·rw[h1,g1] at hl; simp at hl
  ·omega
 ·rcases Q4 h hc with⟨g1,g2⟩|⟨y,k,g1,g2,g3⟩
  ·omega
  ·intro e
   have:j=k:=by omega
   subst this;have e1:=(kq h2).2;have e2:=(kq g2).2;rw[e1] at e2;simp only[Option.some.injEq,Prod.mk.injEq] at e2
   have m1:x∈ê c.2.2.1 c.2.2.2.1:=by rw[h1]; simp
   have m2:y∈ê c.2.2.2.1 c.2.2.1:=by rw[g1]; simp
   rw[e2.1] at m1;exact(jP.1 m1).2 (jP.1 m2).1
def Qw (h:ė b):(æ b).length=2*(Î b).length+2*b.2.2.2.2.1.length:=by
 have h1:∀l:List í,(∀g∈l,g∈b.2.1)→(l.flatMap (ú b)).length=2*(l.flatMap fun g=>(á b g).map fun d=>((g.1,d):Int×Int)).length:=by
  intro l
  induction l with
  |nil=>intro _; rfl
  |cons g t ih =>
   intro hm;have:=ih fun g hg=>hm g (by simp[hg]);have hp:=List.length_pos_of_mem (j4 (b:=b) g);simp only[List.flatMap_cons,List.length_append,List.length_map,this];unfold ú;rw[List.length_append,ŭ _ _ (fun _=>rfl)];simp only[List.length_cons,List.length_nil];omega
 have h2:∀l:List Cmp,(l.flatMap (ą b)).length=2*l.length:=by
  intro l
  induction l with
  |nil=>rfl
  |cons c t ih =>
   simp only[dU,cW,ih,ą,df,du];omega
 unfold æ;rw[List.length_append,h1 _ fun _ h=>h,h2];rfl
def ĵ (h:ė b) {i:Nat} {g:í} (hg:b.2.1[i]?=some g) {l:Lk}:l∈ú b g ↔
 l=(0,(off b i:Int)+1,g.2.2.1+g.2.2.2.1.2)∨l=((off b i:Int)+1,0,-(g.2.2.1+g.2.2.2.1.1)) ∨
 ∃(k:Nat) (d e:Int),(á b g)[k]?=some d∧(á b g)[k+1]?=some e∧(l=((off b i:Int)+k+1,(off b i:Int)+k+2,0)∨l=((off b i:Int)+k+2,(off b i:Int)+k+1,iS b g d e)):=by
 unfold ú;rw[afB h hg];simp only[List.mem_append,List.mem_cons,List.not_mem_nil,or_false,List.mem_flatMap,List.mem_range];constructor
 ·rintro((h1|h1)|⟨k,hk,h1⟩)
  ·exact .inl h1
  ·exact .inr (.inl h1)
  ·refine .inr (.inr ⟨k,(á b g)[k],(á b g)[k+1],cO (by omega),cO (by omega),?_⟩);rw[cO (show k<(á b g).length by omega),cO (show k+1<(á b g).length by omega)] at h1;simp only[fH] at h1
   have e1:(off b i:Int)+1+k=(off b i:Int)+k+1:=by omega
   have e2:(off b i:Int)+k+1+1=(off b i:Int)+k+2:=by omega
   rw[e1,e2] at h1;exact h1
 ·rintro(h1|h1|⟨k,d,e,hd,he,h1⟩)
  ·exact .inl (.inl h1)
  ·exact .inl (.inr h1)
  ·obtain⟨h2,rfl⟩:=cX.1 hd;obtain⟨h3,rfl⟩:=cX.1 he;refine .inr ⟨k,by omega,?_⟩;rw[hd,he];simp only[fH]
   have e1:(off b i:Int)+1+k=(off b i:Int)+k+1:=by omega
   have e2:(off b i:Int)+k+1+1=(off b i:Int)+k+2:=by omega
   rw[e1,e2];exact h1
def oD {l:Lk}:l∈æ b↔(∃(i:Nat) (g:í),b.2.1[i]?=some g∧l∈ú b g)∨∃c∈b.2.2.2.2.1,l=(cy b c,cx b c,(Ν b c).2)∨l=(cx b c,cy b c,-(Ν b c).1):=by
 unfold æ;simp only[List.mem_append,List.mem_flatMap,ą,List.mem_cons,List.not_mem_nil,or_false];constructor
 ·rintro(⟨g,hg,h⟩|h)
  ·obtain⟨i,hi,rfl⟩:=dj.1 hg;exact .inl ⟨i,_,cO hi,h⟩
  ·exact .inr h
 ·rintro(⟨i,g,hg,h⟩|h)
  ·exact .inl ⟨g,cZ hg,h⟩
  ·exact .inr h
def ė.sys (h:ė b):iI (æ b) ((Î b).length+1):=by
 have hN:=h.nodes;have hL:=h.links
 have key:∀l∈æ b,((0≤l.1∧l.1<((Î b).length+1:Nat))∧(0≤l.2.1∧l.2.1<((Î b).length+1:Nat)))∧l.1≠l.2.1∧(-4503599627370496≤l.2.2∧l.2.2≤4503599627370496):=by
  intro l hl;rcases oD.1 hl with⟨i,g,hg,hl⟩|⟨c,hc,hl⟩
  ·have hgm:=cZ hg;have hr:=h.gaugeR hgm;have ho:=ah6 h hg;have hp:=fY (j4 (b:=b) g);have r1:=hr.2.2.2.2.2.1;have r2:=hr.2.2.2.2.2.2.1;rcases(ĵ h hg).1 hl with rfl|rfl|⟨k,d,e,hd,he,h1⟩
   ·dsimp only; omega
   ·dsimp only; omega
   ·obtain⟨h2,_⟩:=cX.1 he;have d1:=h.day hgm (cZ hd);have lb:=kh h hgm (t:=e) d1.2.1;rcases h1 with rfl|rfl
    ·dsimp only; omega
    ·dsimp only; omega
  ·have a:=(X8 h hc).rng;have b':=(Q4 h hc).rng;have ne:=alA h hc;have sb:=CH h hc;rcases hl with rfl|rfl
   ·dsimp only; omega
   ·dsimp only; omega
 exact⟨by omega,by omega,by rw[Qw h]; omega,fun l hl=>(key l hl).1,fun l hl=>(key l hl).2.1,fun l hl=>(key l hl).2.2⟩
end
def ajS {ρ:Type}:@vl ρ=@gY ρ:=rfl
def ajR {ρ:Type}:@vk ρ=@ő ρ:=rfl
def ajQ {ρ:Type}:@vh ρ=@ĥ ρ:=rfl
def abj {ρ:Type} {N:Nat} (hN:N≤1000) (x:Option ρ):ë ((ile (0:Int) (N:Int))&&(ì N)) x=x:=by
 have:=HC hN x
 rwa [dt] at this
section
variable {L:List Lk} {N:Nat} {M:Int}
def ahy {s:Int} (hs:0≤s∧s<N):(List.replicate N ig).set s.toNat 0=uw (ah4 s) N:=by
 refine ae6 (by simp[Č]) fun v h0 h1=>?_
 have hv:v<N:=by simpa using h1
 rw[i6 _ h0 hv,zd hs.1 h0 (by simp; omega)];unfold ah4
 by_cases h:v=s
 ·simp[h]
 ·simp only[h,if_false,beq_iff_eq];unfold gv;rw[List.getElem?_replicate]
  have:v.toNat<N:=by omega
  simp[this]
def ajP (hL:iJ L N M) (h1:1≤N) (hN:N≤200) (ho:ŏ L N=true) {s:Int} (hs:0≤s∧s<N):Ao ((N:Int),L) [] s=some (sm L N s):=by
 obtain⟨p,hp⟩:=(Ξ hL hN).1 ho;unfold Ao Jz;rw[ajS,ajR,ajQ];dsimp only;rw[HC (by omega),Int.toNat_natCast];refine ü (List.replicate N (0:Int)) (fun i=>List.replicate i ig++List.replicate (N-i) 0) _ (by simp) (fun i a hi ha kn=>?_) (fun kn=>?_)
 ·dsimp only;unfold oa
  have hiN:i<N:=by simpa using hi
  have hl:i<(List.replicate i ig++List.replicate (N-i) (0:Int)).length:=by simp; omega
  rw[Ô hi,g9 hl,Ĥ (cO hl),Í hiN (by omega),dt];congr 2;rw[List.set_append_right _ _ (by simp)]
  have:N-i=(N-(i+1))+1:=by omega
  rw[this,fK,Nat.sub_self,List.replicate_succ,List.set_cons_zero,List.replicate_succ'];simp
 ·try dsimp only
  unfold oa;rw[â];dsimp only
  have e0:List.replicate (List.replicate N (0:Int)).length ig++List.replicate (N-(List.replicate N (0:Int)).length) 0=List.replicate N ig:=by simp
  rw[e0]
  have hlen:s.toNat<(List.replicate N ig).length:=by simp; omega
  rw[show ă (List.replicate N ig)=((N:Nat):Int) by simp[ă],jm hs.1 hs.2,j7 hlen,abj (by omega),abj (by omega),ahy hs];refine eY (ae3 hL _) ?_
  have hS:∀v,ah4 s v=true→0≤v∧v<N:=fun v h=>by simp[ah4] at h; subst h; exact hs
  refine ahz (Č _ _) (by omega) _ fun w q hw hq hr hwq hqs=>?_;have hs0:=TM hL h1 hS hw hq hr hwq hqs;refine YV hL (ak2 hL hN) hp hS _ (fun x w t q hx hd=>?_) hs0
  have:x=sm L N s:=by
   refine ae6 (by rw[hx]; unfold sm; rw[ţ,Č]) fun v a b=>?_;exact hd.uniq (jq hL hN hp hs) a (by omega)
  dsimp only;rw[this]
def hZ (L:List Lk) (N:Nat) (s t:Int):Int×Int :=
 if !ŏ L N then(0,9) else if gv (sm L N s) t=ig then(0,5) else(gv (sm L N s) t,0)
def al0 (h:iI L N) {ns:List Int} (hn:∀n∈ns,0≤n∧n<N) (hl:ns.length≤1000):HV ((N:Int),L) ns=some (if ŏ L N then 0 else 9):=by
 have h2:=h.n60;unfold HV PH;rw[lG h,À];dsimp only;rw[Ó (by rfl)];refine Eq.trans (gZ ns (fun _=>false) (fun _=>some 1) (some (if ŏ L N then 0 else 9)) (fun i n hi hm kn=>?_) (fun kn=>?_)) ?_
 ·try dsimp only
  unfold qX;have a:=hn n (List.mem_of_getElem? hm)
  have e:(decide (0≤n)&&decide (n<(N:Int)))=true:=by simp[a.1,a.2]
  rw[Ô hi,É hm,Oe,À,e,Í hi (by omega)];simp
 ·try dsimp only
  unfold qX;rw[â,CD h.links h.n1 (by omega),À]
  cases ŏ L N<;>rfl
 ·rw[eG.2 (by simp)]
def ND (h:iI L N) {s t:Int} (hs:0≤s∧s<N) (ht:0≤t∧t<N):pQ ((N:Int),L) s t=some (hZ L N s t):=by
 have h2:=h.n60;unfold pQ PV hZ
 rw[al0 h (fun n hn=>by simp at hn; rcases hn with rfl|rfl<;>assumption) (by simp),À]
 by_cases ho:ŏ L N=true
 ·rw[if_pos ho,Ó (by rfl),ajP h.links h.n1 (by omega) ho hs,À,zc ht.1 (by unfold sm; rw[ţ,Č]; omega),ġ,if_neg (show ¬(!ŏ L N)=true by simp[ho])]
  by_cases hf:gv (sm L N s) t=ig
  ·rw[if_pos (by simpa[ieq] using hf),if_pos hf]
  ·rw[if_neg (by simpa[ieq] using hf),if_neg hf]
 ·rw[if_neg ho,Ù (by rfl),if_pos (show(!ŏ L N)=true by simpa using ho)]
end
def î (b:Þ) (c:Cmp):Þ:=(b.1,b.2.1,b.2.2.1,b.2.2.2.1,b.2.2.2.2.1++[c],b.2.2.2.2.2)
def ou:Þ:=((0,0),[],[],[],[],[])
def zB (b:Þ) (c:Cmp):Þ×Int:=if ã b≠0 then(ou,ã b) else if ã (î b c)≠0 then(ou,ã (î b c)) else(î b c,0)
def aij {b:Þ} (h:ė b) {c:Cmp} (hA:c.2.2.1.length≤1000) (hB:c.2.2.2.1.length≤1000):Ŷ (î b c):=by
 have hs:=h.size;have:=h.nC;refine⟨hs.gauges,hs.uses,hs.loans,by simp[î]; omega,hs.looks,fun d hd=>?_⟩;rcases cY.1 (show d∈b.2.2.2.2.1++[c] from hd) with hd|hd
 ·exact hs.piles d hd
 ·simp at hd; subst hd; exact⟨hA,hB⟩
def aj3 {b:Þ} (hs:Ŷ b) (hr:∀g∈b.2.1,I64 g.2.2.2.2.1.1) {c:Cmp} (hA:c.2.2.1.length≤1000) (hB:c.2.2.2.1.length≤1000):ol b c=some (zB b c):=by
 unfold ol XG zB;have h1:=hs.gauges; have h2:=hs.uses; have h3:=hs.loans; have h4:=hs.compares; have h5:=hs.looks;rw[Ø (by omega),Am.iff_true,Ø (by omega),Am.iff_true,ź hs hr,À]
 by_cases hc:ã b=0
 ·have h:=(ä b).1 hc;rw[Ó (by simp[ine,hc]),Ø (by omega),Am.iff_true,Ø (by omega),Am.iff_true,Ø (by omega),Am.iff_true,Ø (by omega),Am.iff_true,Ø (by omega),Am.iff_true,if_neg (show ¬(ã b≠0) from fun h=>h hc)];refine ü b.2.2.2.2.1 (fun _=>b.2.2.2.2.1) _ rfl (fun i d hi hd kn=>?_) (fun kn=>?_)
  ·dsimp only;unfold vD;obtain⟨p1,p2⟩:=hs.piles d (List.mem_of_getElem? hd)
   have e1:b.2.2.2.2.1.set i d=b.2.2.2.2.1:=by
    obtain⟨h,rfl⟩:=cX.1 hd;exact gJ h
   rw[Ô hi,g9 hi,Ĥ hd,Ø (by omega),Am.iff_true,Ø (by omega),Am.iff_true,g9 hi,Ĥ hd,dt];rw[show(d.1,d.2.1,d.2.2.1,d.2.2.2)=d from rfl,e1,g9 hi,uE hd,Í hi (by omega)];rw[show(d.1,d.2.1,d.2.2.1,d.2.2.2.1,d.2.2.2.2)=d from rfl,e1]
  ·try dsimp only
   unfold vD;rw[â];dsimp only;rw[Ø (by simp only[List.length_singleton]; omega),Am.iff_true];rw[show ó (b.1,b.2.1,b.2.2.1,b.2.2.2.1,b.2.2.2.2.1++[c],b.2.2.2.2.2)=ó (î b c) from rfl,ź (aij h hA hB) hr,À]
   by_cases hc2:ã (î b c)=0
   ·rw[Ó (by simp[ine,hc2]),if_neg (show ¬(ã (î b c)≠0) from fun h=>h hc2)];rfl
   ·rw[Ù (by simp[ine,hc2]),if_pos hc2];rfl
 ·rw[Ù (by simp[ine,hc]),if_pos hc];rfl
def Ê (c:Cmp):Cmp:=(c.1,c.2.1,c.2.2.1,c.2.2.2.1,0,c.2.2.2.2.2)
def adx (b:Þ) (c:Cmp):Int:=Kg (ĸ b c).1+(jG b c).1-c.2.2.2.2.2.1
def Eb (b:Þ) (c:Cmp):Int:=(ĸ b c).2.1 / (ĸ b c).2.2+(jG b c).2+c.2.2.2.2.2.1
def NS (b:Þ) (c:Cmp) (s:Int×Int):(Int×Int)×Int:=if Eb b c<adx b c then((0,0),5) else((s.1+adx b c,s.2+Eb b c),0)
structure aef (b:Þ) (c:Cmp):Prop where
 nums:L6 c=true
 r1:qd (Ex (ir b) (ê c.2.2.1 c.2.2.2.1)) 1000 100
 r2:qd (Ex (ir b) (ê c.2.2.2.1 c.2.2.1)) 1000 100
def ė.cmp {b:Þ} (h:ė b) {c:Cmp} (hc:c∈b.2.2.2.2.1):aef b c:=⟨h.nums hc,(h.rates hc).1,(h.rates hc).2⟩
def xg {b:Þ} (hf:0≤b.1.1∧b.1.1≤b.1.2∧b.1.2≤1000000) {c:Cmp} (h:aef b c):qd (ĸ b c).1 2000000000 10000∧qd (ĸ b c).2 2000000000 10000∧(-3000000000≤Kg (ĸ b c).1+(jG b c).1∧Kg (ĸ b c).1+(jG b c).1≤3000000000) ∧
 (-3000000000≤(ĸ b c).2.1 / (ĸ b c).2.2+(jG b c).2∧(ĸ b c).2.1 / (ĸ b c).2.2+(jG b c).2≤3000000000)∧(0≤c.2.2.2.2.2.1∧c.2.2.2.2.2.1≤1073741824):=by
 have hn:=(Ο c).1 h.nums;have ha:=ĭ hn.2.2.2.2.2.1;have hb:=ĭ hn.2.2.2.2.2.2;obtain⟨g1,g2⟩:=VL (NI h.r1 h.r2) hn.2.2.2.2.1;have fb:=vO (b:=b) (c:=c) (by omega) (by omega) (by omega) (by omega) (by omega) (by omega);have q1:qd (ĸ b c).1 2000000000 10000:=g1;have q2:qd (ĸ b c).2 2000000000 10000:=g2;have c1:=Ay q1;have c2:=vL q2;exact⟨q1,q2,by omega,by omega,hn.2.2.2.1⟩
def akJ {b:Þ} (hs:Ŷ b) (hf:0≤b.1.1∧b.1.1≤b.1.2∧b.1.2≤1000000) {c:Cmp} (h:aef b c) {s:Int×Int} (h1 : -2305843009213693952≤s.1∧s.1≤2305843009213693952) (h2 : -2305843009213693952≤s.2∧s.2≤2305843009213693952):uh b c s=some (NS b c s):=by
 have hn:=(Ο c).1 h.nums;have ha:=ĭ hn.2.2.2.2.2.1;have hb:=ĭ hn.2.2.2.2.2.2;obtain⟨q1,q2,b1,b2,b3⟩:=xg hf h;unfold uh Qd NS adx Eb;rw[abm hs (by omega) (by omega) h.r1 h.r2 hn.2.2.2.2.1,À,afc (by omega) (by omega) (by omega) (by omega) (by omega) (by omega),À,aks q1.rat,À,afM q2.rat,À];dsimp only;rw[Ö (by omega) (by omega),Ö (by omega) (by omega),Ö (by omega) (by omega),Ö (by omega) (by omega),ġ]
 by_cases hlt:(ĸ b c).2.1 / (ĸ b c).2.2+(jG b c).2+c.2.2.2.2.2.1<Kg (ĸ b c).1+(jG b c).1-c.2.2.2.2.2.1
 ·rw[if_pos (by simpa[igt] using hlt),if_pos hlt]
 ·rw[if_neg (by simpa[igt] using hlt),if_neg hlt,Ö (by omega) (by omega),Ö (by omega) (by omega)]
def û (b:Þ):List Lk:=(æ b).take ((æ b).length-2)
def Ĵ (b:Þ) (c:Cmp):(Int×Int)×Int :=
 if (zB b (Ê c)).2≠0 then((0,0),(zB b (Ê c)).2) else
 if (hZ (û (î b (Ê c))) ((Î (î b (Ê c))).length+1) (cy (î b (Ê c)) (Ê c)) (cx (î b (Ê c)) (Ê c))).2≠0 then
  ((0,0),(hZ (û (î b (Ê c))) ((Î (î b (Ê c))).length+1) (cy (î b (Ê c)) (Ê c)) (cx (î b (Ê c)) (Ê c))).2) else
 if (hZ (û (î b (Ê c))) ((Î (î b (Ê c))).length+1) (cx (î b (Ê c)) (Ê c)) (cy (î b (Ê c)) (Ê c))).2≠0 then
  ((0,0),(hZ (û (î b (Ê c))) ((Î (î b (Ê c))).length+1) (cx (î b (Ê c)) (Ê c)) (cy (î b (Ê c)) (Ê c))).2) else
 NS b (Ê c) (-(hZ (û (î b (Ê c))) ((Î (î b (Ê c))).length+1) (cx (î b (Ê c)) (Ê c)) (cy (î b (Ê c)) (Ê c))).1,
  (hZ (û (î b (Ê c))) ((Î (î b (Ê c))).length+1) (cy (î b (Ê c)) (Ê c)) (cx (î b (Ê c)) (Ê c))).1)
def acf {L:List Lk} {N:Nat} (h:iI L N) {s t:Int} (hs:0≤s∧s<N) (ht:0≤t∧t<N) : -2305843009213693952≤(hZ L N s t).1∧(hZ L N s t).1≤2305843009213693952:=by
 unfold hZ;have h2:=h.n60
 split
 ·simp
 ·rename_i ho
  have ho':ŏ L N=true:=by simpa using ho
  obtain⟨p,hp⟩:=(Ξ h.links (by omega)).1 ho';have hd:=jq h.links (by omega) hp hs
  split
  ·simp
  ·rename_i hne;dsimp only;have hb:=hd.bd t ht.1 ht.2;obtain⟨vs,hw⟩:=hd.att t ht.1 ht.2 hne;have h3:=hw.low' hp;have h4:=VV (L:=L) (fun l hl=>(h.most l hl).1) (M:=4503599627370496) (by omega);have h5:=h.len;unfold ig at hb
   constructor<;>omega
def ahb {b:Þ} (hs:Ŷ b) (hr:∀g∈b.2.1,I64 g.2.2.2.2.1.1) {c:Cmp} (hA:c.2.2.1.length≤1000) (hB:c.2.2.2.1.length≤1000):vW b c=some (Ĵ b c):=by
 unfold vW D4 Ĵ;rw[show ol b (c.1,c.2.1,c.2.2.1,c.2.2.2.1,0,c.2.2.2.2.2)=ol b (Ê c) from rfl,aj3 hs hr (c:=Ê c) hA hB,À]
 by_cases hw:(zB b (Ê c)).2=0
 ·rw[Ó (by simp[ine,hw]),if_neg (show ¬((zB b (Ê c)).2≠0) from fun h=>h hw)]
  -- the book is valid, and so is the greater one
  have hb:ã b=0:=by
   unfold zB at hw
   split at hw
   ·rename_i h; exact(h hw).elim
   ·rename_i h; simpa using h
  have hm:ã (î b (Ê c))=0:=by
   unfold zB at hw;rw[if_neg (by simp[hb])] at hw
   split at hw
   ·rename_i h; exact(h hw).elim
   ·rename_i h; simpa using h
  have he:zB b (Ê c)=(î b (Ê c),0):=by
   unfold zB;rw[if_neg (by simp[hb]),if_neg (by simp[hm])]
  have g:=(ä b).1 hb;have gm:=(ä _).1 hm
  have hmem:Ê c∈(î b (Ê c)).2.2.2.2.1:=by simp[î]
  have hN:=gm.nodes;have hll:=Qw gm
  have hcl:(î b (Ê c)).2.2.2.2.1.length=b.2.2.2.2.1.length+1:=by simp[î]
  have hlk:=gm.links;have hsys:iI (û (î b (Ê c))) ((Î (î b (Ê c))).length+1):=gm.sys.sub (fun l hl=>List.mem_of_mem_take hl) (by unfold û; rw[List.length_take]; omega);have hx:=(X8 gm hmem).rng;have hy:=(Q4 gm hmem).rng;have lA:c.2.2.1.length≤1000:=hA;rw[he];dsimp only;rw[aeZ gm,À];dsimp only;rw[å,Ö (by omega) (by omega)]
  have e1:((ile (0:Int) (((æ (î b (Ê c))).length:Int)-2))&&(ile (((æ (î b (Ê c))).length:Int)-2) (ă (æ (î b (Ê c))))))=true:=by
   simp[ile,ă]; omega
  have e2:(((æ (î b (Ê c))).length:Int)-2).toNat=(æ (î b (Ê c))).length-2:=by omega
  rw[Ī e1,sc (by omega) (by omega),À,ajV _ _ _ (by dsimp only; omega),À,sc (by omega) (by omega),À,ajV _ _ _ (by dsimp only; omega),À,e2]
  have e3:(((Î (î b (Ê c))).length:Int)+1)=(((Î (î b (Ê c))).length+1:Nat):Int):=by push_cast; rfl
  rw[e3];rw[show List.take ((æ (î b (Ê c))).length-2) (æ (î b (Ê c)))=û (î b (Ê c)) from rfl];dsimp only;rw[show atP (Î (î b (Ê c))) (ê c.2.2.1 c.2.2.2.1) c.2.1=cx (î b (Ê c)) (Ê c) from rfl,show atP (Î (î b (Ê c))) (ê c.2.2.2.1 c.2.2.1) c.2.1=cy (î b (Ê c)) (Ê c) from rfl];rw[ND hsys hy hx,À,ND hsys hx hy];have b1:=acf hsys hy hx;have b2:=acf hsys hx hy;generalize hB1:hZ (û (î b (Ê c))) ((Î (î b (Ê c))).length+1) (cy (î b (Ê c)) (Ê c)) (cx (î b (Ê c)) (Ê c))=B1 at b1 ⊢;generalize hB2:hZ (û (î b (Ê c))) ((Î (î b (Ê c))).length+1) (cx (î b (Ê c)) (Ê c)) (cy (î b (Ê c)) (Ê c))=B2 at b2 ⊢
  by_cases h1:B1.2=0
  ·rw[Ó (by simp[ine,h1]),if_neg (show ¬(B1.2≠0) from fun h=>h h1),À]
   by_cases h2:B2.2=0
   ·rw[Ó (by simp[ine,h2]),if_neg (show ¬(B2.2≠0) from fun h=>h h2),Ö (by omega) (by omega)];have hck:aef b (Ê c):=⟨(gm.cmp hmem).nums,(gm.cmp hmem).r1,(gm.cmp hmem).r2⟩;rw[show uh b (c.1,c.2.1,c.2.2.1,c.2.2.2.1,0,c.2.2.2.2.2) (0-B2.1,B1.1)=uh b (Ê c) (0-B2.1,B1.1) from rfl,akJ g.size g.film hck (by dsimp only; omega) (by dsimp only; omega),À,Int.zero_sub]
   ·rw[Ù (by simp[ine,h2]),if_pos h2]
  ·rw[Ù (by simp[ine,h1]),if_pos h1]
 ·rw[Ù (by simp[ine,hw]),if_pos hw]
structure In (b:Þ):Prop where
 size:Ŷ b
 num:∀g∈b.2.1,I64 g.2.2.2.2.1.1
def Yx (b:Þ):Sys×List (Int×Int)×Int:=if ã b≠0 then((0,[]),[],ã b) else((((Î b).length:Int)+1,æ b),Ŕ b,0)
def pW {b:Þ} (h:In b):ē b=some (Yx b):=by
 unfold ē JP Yx;rw[ź h.size h.num,À]
 by_cases hc:ã b=0
 ·rw[Ó (by simp[ine,hc]),aeZ ((ä b).1 hc),À,if_neg (show ¬(ã b≠0) from fun h=>h hc)]
 ·rw[Ù (by simp[ine,hc]),if_pos hc]
def cmp0:Cmp:=(0,0,[],[],0,0,0,0)
def sq (b:Þ) (i:Int):Cmp×Int:=if ã b≠0 then(cmp0,ã b) else if i<0∨(b.2.2.2.2.1.length:Int)≤i then(cmp0,1) else(b.2.2.2.2.1[i.toNat]?.getD cmp0,0)
def akA {b:Þ} (h:In b) (i:Int):HX b i=some (sq b i):=by
 unfold HX Qb sq;rw[ź h.size h.num,À]
 by_cases hc:ã b=0
 ·rw[Ó (by simp[ine,hc]),if_neg (show ¬(ã b≠0) from fun h=>h hc),å]
  by_cases h1:i<0
  ·rw[Ù (by simp[ilt,h1]),if_pos (.inl h1)]; rfl
  ·rw[Ó (by simp[ilt]; omega)]
   by_cases h2:(b.2.2.2.2.1.length:Int)≤i
   ·rw[Ù (by simp[ige,h2]),if_pos (.inr h2)]; rfl
   ·rw[Ó (by simp[ige]; omega),if_neg (by omega)];obtain⟨j,rfl⟩:=gA (show 0≤i by omega)
    have hj:j<b.2.2.2.2.1.length:=by omega
    rw[É (cO hj),dt,cO hj];rfl
 ·rw[Ù (by simp[ine,hc]),if_pos hc]; rfl
def ack {b:Þ} {i:Int} (h:(sq b i).2=0):ė b∧(sq b i).1∈b.2.2.2.2.1∧b.2.2.2.2.1[i.toNat]?=some (sq b i).1∧0≤i:=by
 unfold sq at h ⊢
 split at h
 ·rename_i hc; exact(hc h).elim
 ·rename_i hc
  have hc0:ã b=0:=by simpa using hc
  split at h
  ·simp at h
  ·rename_i hi
   have hj:i.toNat<b.2.2.2.2.1.length:=by omega
   rw[if_neg hc,if_neg hi,cO hj];exact⟨(ä b).1 hc0,eE hj,rfl,by omega⟩
def al4 (b:Þ) (i:Int):(Int×Int)×Int:=if (sq b i).2≠0 then((0,0),(sq b i).2) else(Ν b (sq b i).1,0)
def anH {b:Þ} (h:In b) (i:Int):Ny b i=some (al4 b i):=by
 unfold Ny XI al4;rw[akA h,À]
 by_cases hw:(sq b i).2=0
 ·obtain⟨g,hm,_,_⟩:=ack hw;rw[Ó (by simp[ine,hw]),g.says hm,À,if_neg (show ¬((sq b i).2≠0) from fun h=>h hw)]
 ·rw[Ù (by simp[ine,hw]),if_pos hw]
def exB:Þ:=((0,2),[(1,0,1000,(-5,5),(1,10),1),(2,0,1000,(-50,50),(1,4),0)],[(1,10)],[(1,(20,29),3)],[(7,10,[1],[2],-20,1,100,200)],[])
def zo:In exB:=⟨⟨by decide,by decide,by decide,by decide,by decide,by decide⟩,by
 intro g hg;simp[exB] at hg
 rcases hg with rfl|rfl<;>exact⟨by decide,by decide⟩⟩
def exC:Cmp:=(8,10,[1],[2],0,0,0,0)
def sn (b:Þ) (x d:Int):Int:=match iv (Î b) x d with|some j=>(j:Int)+1|none=>0
def Vg (b:Þ) (n:Int×Int):Int×Int:=if ã b≠0 then(0,ã b) else if sn b n.1 n.2=0 then(0,5) else(sn b n.1 n.2,0)
def zD {b:Þ} (h:In b) (n:Int×Int):Ģ b n=some (Vg b n):=by
 have hl:=IJ h.size;unfold Ģ Qs Vg;rw[ź h.size h.num,À]
 by_cases hc:ã b=0
 ·rw[Ó (by simp[ine,hc]),if_neg (show ¬(ã b≠0) from fun h=>h hc),VS h.size,À,show ý (Î b) n=ý (Î b) (n.1,n.2) from rfl,ab8 (by omega),À];unfold sn
  cases hx:iv (Î b) n.1 n.2 with
  |none=>rfl
  |some j =>
   have:=(kq hx).1;simp only;rw[Ó (by simp[ilt]),Ö (by omega) (by omega),if_neg (by omega)]
 ·rw[Ù (by simp[ine,hc]),if_pos hc]
def kK (b:Þ) (n:Int×Int):Þ:=(b.1,b.2.1,b.2.2.1,b.2.2.2.1,b.2.2.2.2.1,b.2.2.2.2.2++[n])
def aiy {b:Þ} (h:ė b) (n:Int×Int):Ŷ (kK b n):=by
 have hs:=h.size;have:=h.nK;exact⟨hs.gauges,hs.uses,hs.loans,hs.compares,by simp[kK]; omega,hs.piles⟩
def M5 (b:Þ) (n:Int×Int):Þ×Int:=if ã b≠0 then(ou,ã b) else if ã (kK b n)≠0 then(ou,ã (kK b n)) else(kK b n,0)
def aec {b:Þ} (h:In b) (n:Int×Int):Ÿ b n=some (M5 b n):=by
 have hs:=h.size;have h1:=hs.gauges; have h2:=hs.uses; have h3:=hs.loans; have h4:=hs.compares; have h5:=hs.looks;unfold Ÿ XJ M5;rw[ź hs h.num,À]
 by_cases hc:ã b=0
 ·have hg:=(ä b).1 hc;rw[Ó (by simp[ine,hc]),Ø (by omega),Am.iff_true,Ø (by omega),Am.iff_true,Ø (by omega),Am.iff_true,Ø (by omega),Am.iff_true,Ø (by omega),Am.iff_true,if_neg (show ¬(ã b≠0) from fun h=>h hc)];refine ü b.2.2.2.2.1 (fun _=>b.2.2.2.2.1) _ rfl (fun i d hi hd kn=>?_) (fun kn=>?_)
  ·dsimp only;unfold vE;obtain⟨p1,p2⟩:=hs.piles d (List.mem_of_getElem? hd)
   have e1:b.2.2.2.2.1.set i d=b.2.2.2.2.1:=by
    obtain⟨h,rfl⟩:=cX.1 hd;exact gJ h
   rw[Ô hi,g9 hi,Ĥ hd,Ø (by omega),Am.iff_true,Ø (by omega),Am.iff_true,g9 hi,Ĥ hd,dt];rw[show(d.1,d.2.1,d.2.2.1,d.2.2.2)=d from rfl,e1,g9 hi,uE hd,Í hi (by omega)];rw[show(d.1,d.2.1,d.2.2.1,d.2.2.2.1,d.2.2.2.2)=d from rfl,e1]
  ·try dsimp only
   unfold vE;rw[â];dsimp only;rw[Ø (by simp only[List.length_singleton]; omega),Am.iff_true];rw[show ó (b.1,b.2.1,b.2.2.1,b.2.2.2.1,b.2.2.2.2.1,b.2.2.2.2.2++[n])=ó (kK b n) from rfl,ź (aiy hg n) h.num,À]
   by_cases hc2:ã (kK b n)=0
   ·rw[Ó (by simp[ine,hc2]),if_neg (show ¬(ã (kK b n)≠0) from fun h=>h hc2)];rfl
   ·rw[Ù (by simp[ine,hc2]),if_pos hc2];rfl
 ·rw[Ù (by simp[ine,hc]),if_pos hc];rfl
section
variable {b:Þ}
def ah7:off b b.2.1.length=(Î b).length:=by unfold off Î; rw[List.take_length]
def aeT:∀n,n≤b.2.1.length→∀j,j<off b n→∃(i:Nat) (g:í) (k:Nat),b.2.1[i]?=some g∧k<(á b g).length∧j=off b i+k:=by
 intro n
 induction n with
 |zero=>intro _ j hj; simp[off] at hj
 |succ n ih =>
  intro hn j hj;have hg:b.2.1[n]?=some b.2.1[n]:=cO (by omega);rw[akZ hg] at hj
  by_cases h:j<off b n
  ·exact ih (by omega) j h
  ·exact⟨n,_,j-off b n,hg,by omega,by omega⟩
def Ud {v:Int} (h0:1≤v) (h1:v<((Î b).length+1:Nat)):∃(i:Nat) (g:í) (k:Nat),b.2.1[i]?=some g∧k<(á b g).length∧v=(off b i:Int)+k+1:=by
 obtain⟨i,g,k,h2,h3,h4⟩:=aeT (b:=b) b.2.1.length (cQ _) (v-1).toNat (by rw[ah7]; omega);exact⟨i,g,k,h2,h3,by omega⟩
def GL (b:Þ) (L:List Lk):Prop:=∀(i:Nat) (g:í),b.2.1[i]?=some g→∀l∈ú b g,l∈L
def ae7:GL b (æ b):=fun i g hg l hl=>oD.2 (.inl ⟨i,g,hg,hl⟩)
def ahu {L:List Lk} (h:ė b) (hL:GL b L) {v:Int} (h0:0≤v) (h1:v<((Î b).length+1:Nat)):∃vs d,Wl L (fun u=>u=0) vs v d∧d≤4503599627370496:=by
 by_cases hv:v=0
 ·exact⟨[],0,.nil hv,by omega⟩
 obtain⟨i,g,k,hg,hk,rfl⟩:=Ud (by omega) h1;have hr:=h.gaugeR (cZ hg);have r1:=hr.2.2.2.2.2.1;have r2:=hr.2.2.2.2.2.2.1
 have key:∀k:Nat,k<(á b g).length→∃vs,Wl L (fun u=>u=0) vs ((off b i:Int)+k+1) (g.2.2.1+g.2.2.2.1.2):=by
  intro k
  induction k with
  |zero =>
   intro _;have hw:Wl L (fun u=>u=0) [0] ((off b i:Int)+1) (0+(g.2.2.1+g.2.2.2.1.2)):=Wl.step (.nil rfl) (hL i g hg _ ((ĵ h hg).2 (.inl rfl)));rw[Int.zero_add] at hw;exact⟨[0],by simpa using hw⟩
  |succ k ih =>
   intro hk;obtain⟨vs,hw⟩:=ih (by omega);have hw':=Wl.step hw (hL i g hg _ ((ĵ h hg).2 (.inr (.inr ⟨k,_,_,cO (show k<_ by omega),cO hk,.inl rfl⟩))));rw[fP] at hw'
   have e:(off b i:Int)+((k+1:Nat):Int)+1=(off b i:Int)+k+2:=by push_cast; omega
   exact⟨_,by rw[e]; exact hw'⟩
 obtain⟨vs,hw⟩:=key k hk;exact⟨vs,_,hw,by omega⟩
def YP {L:List Lk} (h:ė b) (hL:GL b L) {v:Int} (h0:0≤v) (h1:v<((Î b).length+1:Nat)):∃vs d,Wl L (fun u=>u=v) vs 0 d∧d≤4503599627370496:=by
 by_cases hv:v=0
 ·exact⟨[],0,.nil hv.symm,by omega⟩
 obtain⟨i,g,k,hg,hk,rfl⟩:=Ud (by omega) h1;have hgm:=cZ hg;have hr:=h.gaugeR hgm;have r1:=hr.2.2.2.2.2.1;have r2:=hr.2.2.2.2.2.2.1;have hd:=H6 h hgm
 have key:∀m:Nat,m≤k→∃vs d,Wl L (fun u=>u=(off b i:Int)+k+1) vs ((off b i:Int)+(k-m:Nat)+1) d∧d≤m*(12*(20001*1048576)+40*1048576):=by
  intro m
  induction m with
  |zero=>intro _; exact⟨[],0,.nil (by simp),by simp⟩
  |succ m ih =>
   intro hm;obtain⟨vs,d,hw,hd⟩:=ih (by omega)
   have e1:((k-m:Nat):Int)=((k-(m+1):Nat):Int)+1:=by omega
   have hl:(((off b i:Int)+(k-(m+1):Nat)+2,(off b i:Int)+(k-(m+1):Nat)+1,iS b g ((á b g)[k-(m+1)]'(by omega)) ((á b g)[k-(m+1)+1]'(by omega))):Lk)∈L :=
    hL i g hg _ ((ĵ h hg).2 (.inr (.inr ⟨k-(m+1),_,_,cO (by omega),cO (by omega),.inr rfl⟩)))
   have hb:=kh h hgm (f:=(á b g)[k-(m+1)]'(by omega)) (t:=(á b g)[k-(m+1)+1]'(by omega)) (h.day hgm (eE _)).2.1
   have e2:(off b i:Int)+(k-m:Nat)+1=(off b i:Int)+(k-(m+1):Nat)+2:=by omega
   rw[e2] at hw;exact⟨_,_,.step hw hl,by push_cast; omega⟩
 obtain⟨vs,d,hw,hdb⟩:=key k (cQ _)
 have e:(off b i:Int)+(k-k:Nat)+1=(off b i:Int)+1:=by omega
 rw[e] at hw;have hw':=Wl.step hw (hL i g hg _ ((ĵ h hg).2 (.inr (.inl rfl))));exact⟨_,_,hw',by omega⟩
end
structure M4 (L:List Lk) (N:Nat):Prop where
 to:∀v:Int,0≤v→v<N→∃vs d,Wl L (fun u=>u=0) vs v d∧d≤4503599627370496
 from':∀v:Int,0≤v→v<N→∃vs d,Wl L (fun u=>u=v) vs 0 d∧d≤4503599627370496
def ė.tied {b:Þ} (h:ė b):M4 (æ b) ((Î b).length+1):=⟨fun v h0 h1=>ahu h ae7 h0 h1,fun v h0 h1=>YP h ae7 h0 h1⟩
def ė.tiedL {b:Þ} {L:List Lk} (h:ė b) (hL:GL b L):M4 L ((Î b).length+1):=⟨fun v h0 h1=>ahu h hL h0 h1,fun v h0 h1=>YP h hL h0 h1⟩
section
variable {L:List Lk} {N:Nat}
def ZF {L:List Lk} {s:Int} {vs:List Int} {v d:Int}:Wl L (fun v=>ah4 s v=true) vs v d↔Wl L (fun u=>u=s) vs v d :=
 ⟨fun h=>h.mono fun u hu=>by simpa[ah4] using hu,fun h=>h.mono fun u hu=>by simpa[ah4] using hu⟩
def ad5 (h:iI L N) (ho:ŏ L N=true) {v:Int} (h0:0≤v) (h1:v<N):gv (sm L N v) v=0:=by
 have h2:=h.n60;obtain⟨p,hp⟩:=(Ξ h.links (by omega)).1 ho;have hd:=jq h.links (by omega) hp (s:=v) ⟨h0,h1⟩;have h3:=hd.low v [] 0 (.nil (by simp[ah4]));obtain⟨vs,hw⟩:=hd.att v h0 h1 (by unfold ig; omega);obtain⟨s,hs,hx⟩:=(ZF.1 hw).pot hp;subst hs;omega
end
def U8 {b:Þ}:∀i,i≤b.2.2.2.2.1.length→((b.2.2.2.2.1.take i).flatMap (ą b)).length=2*i∧(((b.2.2.2.2.1.take i).mapIdx fun i _=>[((3:Int),(i:Int)),((3:Int),(i:Int))]).flatten).length=2*i:=by
 intro i
 induction i with
 |zero=>intro _; simp
 |succ i ih =>
  intro hi;have ih:=ih (by omega);have hg:b.2.2.2.2.1[i]?=some b.2.2.2.2.1[i]:=cO hi;rw[iy _ hg,take_succ hg,eX,fE,cW,cW];simp only[dU,gG,dK,f5,gd,ą,df,du];omega
section
variable {L:List Lk} {N:Nat}
def Il (h:iI L N):ā ((N:Int),L)=some (ŏ L N,0):=by
 have h2:=h.n60;unfold ā rV;rw[lG h,À];dsimp only;rw[Ó (by rfl),CD h.links h.n1 (by omega),À]
 cases ŏ L N<;>rfl
end
def jd (b:Þ) (n:Int×Int):Þ×Int:=if sn b n.1 n.2≠0 then(b,0) else if ã (kK b n)≠0 then(ou,ã (kK b n)) else(kK b n,0)
def Ţ:Þ→List (Int×Int)→Þ×Int
 |b,[]=>(b,0)
 |b,n::t=>if (jd b n).2≠0 then(ou,(jd b n).2) else Ţ (jd b n).1 t
def Ć (b:Þ) (ns:List (Int×Int)):Þ×Int :=
 if ã b≠0 then(ou,ã b) else if (Ţ b ns).2≠0 then(ou,(Ţ b ns).2) else
 if ŏ (æ (Ţ b ns).1) ((Î (Ţ b ns).1).length+1) then((Ţ b ns).1,0) else(ou,9)
def NJ {b:Þ} (h:ė b) {n:Int×Int} (e:(jd b n).2=0):ė (jd b n).1:=by
 unfold jd at e ⊢
 split
 ·exact h
 ·rename_i h1;rw[if_neg h1] at e
  split
  ·rename_i h2;rw[if_pos h2] at e;exact absurd e h2
  ·rename_i h2;exact(ä _).1 (by simpa using h2)
def NK {b:Þ} {n:Int×Int} (e:(jd b n).2=0):(jd b n).1.2.1=b.2.1:=by
 unfold jd at e ⊢
 split
 ·rfl
 ·rename_i h1;rw[if_neg h1] at e
  split
  ·rename_i h2;rw[if_pos h2] at e;exact absurd e h2
  ·rfl
def Ew:∀{ns:List (Int×Int)} {b:Þ},ė b→(Ţ b ns).2=0→ė (Ţ b ns).1
 |[],b,h,_=>h
 |n::t,b,h,e=>by
  unfold Ţ at e ⊢
  split
  ·rename_i h1; rw[if_pos h1] at e; exact absurd e h1
  ·rename_i h1;rw[if_neg h1] at e;exact Ew (NJ h (by simpa using h1)) e
def uB:∀{ns:List (Int×Int)} {b:Þ},(Ţ b ns).2=0→(Ţ b ns).1.2.1=b.2.1
 |[],b,_=>rfl
 |n::t,b,e=>by
  unfold Ţ at e ⊢
  split
  ·rename_i h1; rw[if_pos h1] at e; exact absurd e h1
  ·rename_i h1;rw[if_neg h1] at e;rw[uB e,NK (by simpa using h1)]
def ė.inn {b:Þ} (h:ė b) (hn:∀g∈b.2.1,I64 g.2.2.2.2.1.1):In b:=⟨h.size,hn⟩
def jr {b:Þ} (h:ė b):Yx b=((((Î b).length:Int)+1,æ b),Ŕ b,0):=by
 unfold Yx;rw[if_neg (by simp[(ä b).2 h])]
def we {b:Þ} (h:ė b) (n:Int×Int):Vg b n=if sn b n.1 n.2=0 then(0,5) else(sn b n.1 n.2,0):=by
 unfold Vg;rw[if_neg (by simp[(ä b).2 h])]
abbrev Flat:Type:=Int×Int×List í×List (Int×Int)×List LV×List Cmp×List (Int×Int)
def flat (b:Þ):Flat:=(b.1.1,b.1.2,b.2.1,b.2.2.1,b.2.2.2.1,b.2.2.2.2.1,b.2.2.2.2.2)
def vM (b:Þ):(((flat b).1,(flat b).2.1),(flat b).2.2)=b:=rfl
section
variable {ρ:Type}
def akR (ns:List (Int×Int)) (E1:Int×Flat→Option ρ) (K1:Flat→Option ρ) (b:Þ):Option ρ :=
 Ï (fun(v:Int×Flat) kk=>Ĉ (Õ ns) ns v.1 v.2.1 v.2.2.1 v.2.2.2.1 v.2.2.2.2.1 v.2.2.2.2.2.1 v.2.2.2.2.2.2.1 v.2.2.2.2.2.2.2 (fun u1 u2 u3 u4 u5 u6 u7 u8=>kk (u1,u2,u3,u4,u5,u6,u7,u8)) (fun z=>E1 z) (fun z=>K1 z)) ((0:Int),b.1.1,b.1.2,b.2.1,b.2.2.1,b.2.2.2.1,b.2.2.2.2.1,b.2.2.2.2.2)
def ahM {ns:List (Int×Int)} (hl:ns.length≤1000) {E1:Int×Flat→Option ρ} {K1:Flat→Option ρ} (R:Int→Option ρ) (h1:∀z,z.1≠0→E1 z=R z.1) {b:Þ} (hg:ė b) (hn:∀g∈b.2.1,I64 g.2.2.2.2.1.1) :
 akR ns E1 K1 b=if (Ţ b ns).2≠0 then R (Ţ b ns).2 else K1 (flat (Ţ b ns).1):=by
 unfold akR
 refine Hv ns (fun(i:Nat) (s:Flat) (t:List (Int×Int))=>if (Ţ ((s.1,s.2.1),s.2.2) t).2≠0 then R (Ţ ((s.1,s.2.1),s.2.2) t).2 else K1 (flat (Ţ ((s.1,s.2.1),s.2.2) t).1))
  (fun i s=>ė ((s.1,s.2.1),s.2.2)∧∀g∈s.2.2.1,I64 g.2.2.2.2.1.1) (fun s hs kn=>?_) (fun i n t s hd hi ha hs kn hk=>?_) (s:=flat b) ⟨hg,hn⟩
 ·dsimp only;unfold Ĉ;rw[â];rfl
 ·dsimp only;unfold Ĉ;obtain⟨hs1,hs2⟩:=hs;have hin:In ((s.1,s.2.1),s.2.2):=hs1.inn hs2;rw[Ô hi,g9 hi,Ĥ ha];rw[show Ģ ((s.1,s.2.1),s.2.2.1,s.2.2.2.1,s.2.2.2.2.1,s.2.2.2.2.2.1,s.2.2.2.2.2.2) n=Ģ ((s.1,s.2.1),s.2.2) n from rfl,zD hin,À];rw[show Ÿ ((s.1,s.2.1),s.2.2.1,s.2.2.2.1,s.2.2.2.2.1,s.2.2.2.2.2.1,s.2.2.2.2.2.2) n=Ÿ ((s.1,s.2.1),s.2.2) n from rfl,aec hin,À];rw[we hs1];generalize hB:(((s.1,s.2.1),s.2.2):Þ)=B at hs1 hin ⊢
  have hu:Ţ B (n::t)=if (jd B n).2≠0 then(ou,(jd B n).2) else Ţ (jd B n).1 t:=rfl
  rw[hu]
  by_cases h0:sn B n.1 n.2=0
  ·rw[if_pos h0,Ó (by rfl)]
   by_cases h2:ã (kK B n)=0
   ·have e:jd B n=(kK B n,0):=by unfold jd; rw[if_neg (by simp[h0]),if_neg (by simp[h2])]
    have e2:M5 B n=(kK B n,0):=by unfold M5; rw[if_neg (by simp[(ä B).2 hs1]),if_neg (by simp[h2])]
    rw[e2,e,Ó (by rfl),Í hi (by omega),if_neg (show ¬((0:Int)≠0) by simp)];subst hB;exact hk (s.1,s.2.1,s.2.2.1,s.2.2.2.1,s.2.2.2.2.1,s.2.2.2.2.2.1,s.2.2.2.2.2.2++[n]) ⟨(ä _).1 h2,hs2⟩
   ·have e:jd B n=(ou,ã (kK B n)):=by unfold jd; rw[if_neg (by simp[h0]),if_pos h2]
    have e2:M5 B n=(ou,ã (kK B n)):=by unfold M5; rw[if_neg (by simp[(ä B).2 hs1]),if_pos h2]
    rw[e2,e,Ù (by simp[ine,h2]),if_pos h2,if_pos h2];exact h1 _ h2
  ·have e:jd B n=(B,0):=by unfold jd; rw[if_pos h0]
   rw[if_neg h0,Ù (by rfl),Í hi (by omega),e,if_neg (show ¬((0:Int)≠0) by simp)];subst hB;exact hk s ⟨hs1,hs2⟩
def ql {b:Þ} (hI:In b) {ns:List (Int×Int)} (hl:ns.length≤1000) {E0:Int→Option ρ} {E1:Int×Flat→Option ρ} {E2:Flat→Sys×List (Int×Int)×Int→Option ρ} {E3:Flat→Sys×List (Int×Int)×Int→Bool×Int→Option ρ}
 {K:Flat→Sys×List (Int×Int)×Int→Bool×Int→Option ρ} (R:Int→Option ρ) (h0:∀e,e≠0→E0 e=R e) (h1:∀z,z.1≠0→E1 z=R z.1) (h3:∀z s r,E3 z s r=R 9) :
 Â (ó b) (fun r1=>ifb (ine r1 (0:Int)) (E0 r1) (akR ns E1 (fun z8=>Â (ē ((z8.1,z8.2.1),z8.2.2)) fun r9=>ifb (ine r9.2.2 (0:Int)) (E2 z8 r9) (Â (ā r9.1) fun r10=>ifb (!r10.1) (E3 z8 r9 r10) (K z8 r9 r10))) b)) =
 if (Ć b ns).2≠0 then R (Ć b ns).2 else K (flat (Ć b ns).1) ((((Î (Ć b ns).1).length:Int)+1,æ (Ć b ns).1),Ŕ (Ć b ns).1,0) (true,0):=by
 rw[ź hI.size hI.num,À];unfold Ć
 by_cases hc:ã b=0
 ·have hg:=(ä b).1 hc;rw[Ó (by simp[ine,hc]),if_neg (show ¬(ã b≠0) from fun h=>h hc),ahM hl R h1 hg hI.num]
  by_cases hr:(Ţ b ns).2=0
  ·rw[if_neg (show ¬((Ţ b ns).2≠0) from fun h=>h hr),if_neg (show ¬((Ţ b ns).2≠0) from fun h=>h hr)];have hB:=Ew hg hr
   have hBn:∀g∈(Ţ b ns).1.2.1,I64 g.2.2.2.2.1.1:=by rw[uB hr]; exact hI.num
   generalize (Ţ b ns).1=B at hB hBn ⊢;rw[vM,pW (hB.inn hBn),À,jr hB,Ó (by rfl)];dsimp only;rw[show(((Î B).length:Int)+1)=(((Î B).length+1:Nat):Int) by push_cast; rfl,Il hB.sys,À]
   cases ho:ŏ (æ B) ((Î B).length+1) with
   |true =>
    rw[if_neg (by simp)];simp only[dN,é];push_cast;rfl
   |false =>
    rw[if_pos (by simp)];simp only[f7,Ō];rw[h3];rfl
  ·rw[if_pos hr,if_pos hr,if_pos hr]
 ·rw[Ù (by simp[ine,hc]),h0 _ hc,if_pos hc,if_pos hc]
end
def LY (b:Þ) (id day:Int):Bool:=b.2.2.1.any fun u=>u.1==id&&u.2==day
def adN (b:Þ) (g:í) (d:Int):Int:=match lC b g.1 d with|some l=>l.2.2|none=>if LY b g.1 d then g.2.2.2.2.2 else 0
def aiB (l:LV) (id:Int) {f t:Int} (hft:f≤t):(if l.1=id∧0<ę l f (t+1) then ę l f (t+1)*l.2.2 else 0)=(if l.1=id∧0<ę l f t then ę l f t*l.2.2 else 0)+(if l.1=id∧l.2.1.1≤t∧t≤l.2.1.2 then l.2.2 else 0):=by
 by_cases hid:l.1=id
 ·by_cases h1:l.2.1.1≤t∧t≤l.2.1.2
  ·have e:ę l f (t+1)=ę l f t+1:=by unfold ę; omega
   have p:0≤ę l f t:=by unfold ę; omega
   rw[e,if_pos ⟨hid,by omega⟩,if_pos (show l.1=id∧l.2.1.1≤t∧t≤l.2.1.2 from⟨hid,h1⟩),gh,gD]
   by_cases hp:0<ę l f t
   ·rw[if_pos ⟨hid,hp⟩]
   ·rw[if_neg (fun h=>hp h.2)]
    have:ę l f t=0:=by omega
    rw[this];omega
  ·rw[if_neg (show ¬(l.1=id∧l.2.1.1≤t∧t≤l.2.1.2) from fun h=>h1 h.2),fP]
   by_cases hlo:l.2.1.1≤t
   ·have e:ę l f (t+1)=ę l f t:=by unfold ę; omega
    rw[e]
   ·have p1:¬0<ę l f (t+1):=by unfold ę; omega
    have p2:¬0<ę l f t:=by unfold ę; omega
    rw[if_neg (fun h=>p1 h.2),if_neg (fun h=>p2 h.2)]
 ·rw[if_neg (fun h=>hid h.1),if_neg (fun h=>hid h.1),if_neg (fun h=>hid h.1)];rfl
def UE (id:Int) {f t:Int} (hft:f≤t):∀{x:List LV},x.Pairwise (fun a c=>¬(a.1=c.1∧a.2.1.1≤c.2.1.2∧c.2.1.1≤a.2.1.2)) →
 į id f (t+1) x=į id f t x+(match x.find? (fun l=>l.1==id&&inP t l.2.1.1 l.2.1.2) with|some l=>l.2.2|none=>0)
 |[],_=>rfl
 |l::r,hp=>by
  rw[dH] at hp;have ih:=UE id hft hp.2;simp only[į];rw[ih,aiB l id hft,gp]
  by_cases hm:l.1=id∧l.2.1.1≤t∧t≤l.2.1.2
  ·have e:(l.1==id&&inP t l.2.1.1 l.2.1.2)=true:=by simp[inP,hm.1,hm.2.1,hm.2.2]
   have hn:r.find? (fun l=>l.1==id&&inP t l.2.1.1 l.2.1.2)=none:=by
    rw[eD];intro c hc hcm;simp only[inP,cR,beq_iff_eq,decide_eq_true_eq] at hcm;exact hp.1 c hc ⟨by rw[hm.1,hcm.1],by omega,by omega⟩
   rw[if_pos hm,e,hn];simp only;omega
  ·have e:(l.1==id&&inP t l.2.1.1 l.2.1.2)=false:=by
    rw[ez];intro h;simp only[inP,cR,beq_iff_eq,decide_eq_true_eq] at h;exact hm h
   rw[if_neg hm,e];simp only;omega
section
variable {b:Þ}
def ė.apart (h:ė b):b.2.2.2.1.Pairwise (fun a c=>¬(a.1=c.1∧a.2.1.1≤c.2.1.2∧c.2.1.1≤a.2.1.2)):=by
 rw[List.pairwise_iff_getElem];intro i j hi hj hij ⟨h1,h2,h3⟩;have hz:=h.loans j _ (List.getElem?_eq_getElem hj);unfold TA at hz
 have hany:(b.2.2.2.1.take j).any (fun x=>x.1==b.2.2.2.1[j].1&&(decide (x.2.1.1≤b.2.2.2.1[j].2.1.2)&&decide (b.2.2.2.1[j].2.1.1≤x.2.1.2)))=true:=by
  rw[fu];exact⟨b.2.2.2.1[i],dj.2 ⟨i,by rw[di]; omega,by rw[List.getElem_take]⟩,by simp[h1,h2,h3]⟩
 rw[hany] at hz
 (repeat' split at hz)<;>first|omega|simp_all
def ė.notUsed (h:ė b) {id d:Int} {l:LV} (hl:lC b id d=some l):LY b id d=false:=by
 have hm:=gn hl;have hp:=fW hl;simp only[inP,cR,beq_iff_eq,decide_eq_true_eq] at hp;obtain⟨j,hj,rfl⟩:=dj.1 hm;have hz:=h.loans j _ (cO hj);rw[ez];intro hu;obtain⟨u,hu,hue⟩:=fu.1 hu;simp only[cR,beq_iff_eq] at hue
 have hany:b.2.2.1.any (fun u=>u.1==b.2.2.2.1[j].1&&inP u.2 b.2.2.2.1[j].2.1.1 b.2.2.2.1[j].2.1.2)=true:=by
  rw[fu];exact⟨u,hu,by simp only[inP,cR,beq_iff_eq,decide_eq_true_eq]; exact⟨by rw[hue.1,hp.1],by omega,by omega⟩⟩
 unfold TA at hz;rw[hany] at hz
 (repeat' split at hz)<;>first|omega|simp_all
def YJ {id f t:Int} (hft:f≤t):Y0 (i5 b id f (t+1))=Y0 (i5 b id f t)++if LY b id t then[t] else[]:=by
 have hm:∀t x,x∈i5 b id f t↔LY b id x=true∧f≤x∧x<t:=by
  intro t x;unfold i5 LY;simp only[List.mem_map,List.mem_filter,List.any_eq_true,inP,Bool.and_eq_true,beq_iff_eq,decide_eq_true_eq];constructor
  ·rintro⟨u,⟨h1,h2,h3,h4⟩,rfl⟩;exact⟨⟨u,h1,h2,rfl⟩,h3,by omega⟩
  ·rintro⟨⟨u,h1,h2,rfl⟩,h3,h4⟩;exact⟨u,⟨h1,h2,h3,by omega⟩,rfl⟩
 refine ad8 (CG _) ?_ fun x=>?_
 ·rw[List.pairwise_append]
  refine⟨CG _,by split<;>simp,fun a ha c hc=>?_⟩
  rw[qi,hm] at ha
  split at hc
  ·rw[dg] at hc; omega
  ·cases hc
 ·rw[qi,hm,cY,qi,hm]
  by_cases hu:LY b id t=true
  ·rw[if_pos hu,dg];constructor
   ·rintro⟨h1,h2,h3⟩
    by_cases he:x=t
    ·exact .inr he
    ·exact .inl ⟨h1,h2,by omega⟩
   ·rintro(⟨h1,h2,h3⟩|rfl)
    ·exact⟨h1,h2,by omega⟩
    ·exact⟨hu,hft,by omega⟩
  ·rw[if_neg hu];constructor
   ·rintro⟨h1,h2,h3⟩;refine .inl ⟨h1,h2,?_⟩
    by_cases he:x=t
    ·rw[he] at h1; exact absurd h1 hu
    ·omega
   ·rintro(⟨h1,h2,h3⟩|h)
    ·exact⟨h1,h2,by omega⟩
    ·cases h
def Qu (h:ė b) (g:í) {f t:Int} (hft:f≤t):iS b g f (t+1)=iS b g f t+adN b g t:=by
 unfold iS adN;rw[UE g.1 hft h.apart,YJ hft];show į g.1 f t b.2.2.2.1+(match lC b g.1 t with|some l=>l.2.2|none=>0)+_=_
 cases ha:lC b g.1 t with
 |some l =>
  rw[h.notUsed ha];simp only[dl,if_false,dK];omega
 |none =>
  simp only
  cases LY b g.1 t with
  |true=>simp only[if_true,cW,dF,Int.natCast_add,gh]; omega
  |false=>simp only[dl,if_false,dK]; omega
def yX (g:í) {f t:Int} (hft:t≤f):iS b g f t=0:=by
 unfold iS
 have h1:∀x:List LV,į g.1 f t x=0:=by
  intro x
  induction x with
  |nil=>rfl
  |cons l r ih =>
   simp only[į];rw[ih,if_neg (by unfold ę; omega)];rfl
 have h2:i5 b g.1 f t=[]:=by
  unfold i5
  rw[List.filter_eq_nil_iff.2 fun u hu hc=>by
   simp only[inP,cR,beq_iff_eq,decide_eq_true_eq] at hc
   omega]
  rfl
 rw[h1,h2];have h3:Y0 ([]:List Int)=[]:=rfl;rw[h3];simp
end
section
variable {b:Þ}
def Nr (h:ė b) (g:í) {f t u:Int} (h1:f≤t) (h2:t≤u):iS b g f u=iS b g f t+iS b g t u:=by
 obtain⟨n,rfl⟩:∃n:Nat,u=t+n:=⟨(u-t).toNat,by omega⟩;clear h2
 induction n with
 |zero=>simp[yX]
 |succ n ih =>
  have e:t+((n+1:Nat):Int)=(t+n)+1:=by omega
  rw[e,Qu h g (show f≤t+(n:Int) by omega),Qu h g (show t≤t+(n:Int) by omega),ih];omega
def D5 (h:ė b) {g:í} (hg:g∈b.2.1) {f t:Int} (hf:0≤f):0≤iS b g f t:=(kh h hg hf).1
def Γ (b:Þ) (id d:Int):Int:=match iv (Î b) id d with|some j=>(j:Int)+1|none=>0
def qn (h:ė b) {i:Nat} {g:í} (hg:b.2.1[i]?=some g) {k:Nat} {d:Int} (hk:(á b g)[k]?=some d):Γ b g.1 d=(off b i:Int)+k+1:=by
 unfold Γ;rw[VT h hg hk];simp only;omega
structure pY (b:Þ) (p:Int→Int) (g:í):Prop where
 hi:p (Γ b g.1 g.2.1)≤p 0+(g.2.2.1+g.2.2.2.1.2)
 lo:p 0+(g.2.2.1+g.2.2.2.1.1)≤p (Γ b g.1 g.2.1)
 down:∀d e,d∈á b g→e∈á b g→d≤e→p (Γ b g.1 e)≤p (Γ b g.1 d)
 loss:∀d e,d∈á b g→e∈á b g→d≤e→p (Γ b g.1 d)≤p (Γ b g.1 e)+iS b g d e
def oe (h:ė b) {i:Nat} {g:í} (hg:b.2.1[i]?=some g) {p:Int→Int}:(∀l∈ú b g,p l.2.1≤p l.1+l.2.2)↔pY b p g:=by
 have hgm:=cZ hg;obtain⟨tl,htl⟩:=Q3 h hgm
 have h0:Γ b g.1 g.2.1=(off b i:Int)+1:=by
  have:=qn h hg (k:=0) (d:=g.2.1) (by rw[htl]; rfl);rw[this];omega
 constructor
 ·intro hl;have e1:=hl _ ((ĵ h hg).2 (.inl rfl));have e2:=hl _ ((ĵ h hg).2 (.inr (.inl rfl)));simp only at e1 e2
  have step:∀(k:Nat) (d e:Int),(á b g)[k]?=some d→(á b g)[k+1]?=some e→p (Γ b g.1 e)≤p (Γ b g.1 d)∧p (Γ b g.1 d)≤p (Γ b g.1 e)+iS b g d e:=by
   intro k d e hd he;have a1:=hl _ ((ĵ h hg).2 (.inr (.inr ⟨k,d,e,hd,he,.inl rfl⟩)));have a2:=hl _ ((ĵ h hg).2 (.inr (.inr ⟨k,d,e,hd,he,.inr rfl⟩)));simp only at a1 a2;rw[qn h hg hd,qn h hg he]
   have e3:(off b i:Int)+((k+1:Nat):Int)+1=(off b i:Int)+k+2:=by omega
   rw[e3];exact⟨by omega,a2⟩
  have pair:∀(n k:Nat) (d e:Int),(á b g)[k]?=some d→(á b g)[k+n]?=some e→p (Γ b g.1 e)≤p (Γ b g.1 d)∧p (Γ b g.1 d)≤p (Γ b g.1 e)+iS b g d e:=by
   intro n
   induction n with
   |zero =>
    intro k d e hd he;rw[fA,hd] at he;cases he;rw[yX g (ee _)];omega
   |succ n ih =>
    intro k d e hd he;have hlt:=(cX.1 he).1;have hm:(á b g)[k+n]?=some ((á b g)[k+n]'(by omega)):=cO (by omega);obtain⟨a1,a2⟩:=ih k d _ hd hm;obtain⟨a3,a4⟩:=step (k+n) _ e hm he
    have o1:d≤(á b g)[k+n]'(by omega):=by
     obtain⟨hkl,hkd⟩:=cX.1 hd;rcases fw n with rfl|hn
     ·rw[←hkd]; exact Int.le_of_eq (by congr 1)
     ·have:=(dI.1 (vY b g)) k (k+n) hkl (by omega) (by omega);rw[hkd] at this; omega
    have o2:(á b g)[k+n]'(by omega)≤e:=by
     obtain⟨hel,hee⟩:=cX.1 he;have:=(dI.1 (vY b g)) (k+n) (k+(n+1)) (by omega) hel (by omega);rw[hee] at this; omega
    have:=Nr h g o1 o2;omega
  have any:∀d e,d∈á b g→e∈á b g→d≤e→p (Γ b g.1 e)≤p (Γ b g.1 d)∧p (Γ b g.1 d)≤p (Γ b g.1 e)+iS b g d e:=by
   intro d e hd he hde;obtain⟨k,hk,rfl⟩:=dj.1 hd;obtain⟨m,hm,rfl⟩:=dj.1 he
   have hkm:k≤m:=by
    rcases dE m k with hlt|hge
    ·have:=(dI.1 (vY b g)) m k hm hk hlt; omega
    ·exact hge
   exact pair (m-k) k _ _ (cO hk) (by rw[show k+(m-k)=m by omega]; exact cO hm)
  exact⟨by rw[h0]; omega,by rw[h0]; omega,fun d e hd he hde=>(any d e hd he hde).1,fun d e hd he hde=>(any d e hd he hde).2⟩
 ·intro hf l hl;rcases(ĵ h hg).1 hl with rfl|rfl|⟨k,d,e,hd,he,rfl|rfl⟩
  ·have:=hf.hi; rw[h0] at this; simp only; omega
  ·have:=hf.lo; rw[h0] at this; simp only; omega
  ·have hde:d≤e:=by
    obtain⟨a1,a2⟩:=cX.1 hd;obtain⟨a3,a4⟩:=cX.1 he;have:=(dI.1 (vY b g)) k (k+1) a1 a3 (by omega);rw[a2,a4] at this; omega
   have:=hf.down d e (cZ hd) (cZ he) hde;rw[qn h hg hd,qn h hg he] at this
   have e3:(off b i:Int)+((k+1:Nat):Int)+1=(off b i:Int)+k+2:=by omega
   rw[e3] at this;simp only;omega
  ·have hde:d≤e:=by
    obtain⟨a1,a2⟩:=cX.1 hd;obtain⟨a3,a4⟩:=cX.1 he;have:=(dI.1 (vY b g)) k (k+1) a1 a3 (by omega);rw[a2,a4] at this; omega
   have:=hf.loss d e (cZ hd) (cZ he) hde;rw[qn h hg hd,qn h hg he] at this
   have e3:(off b i:Int)+((k+1:Nat):Int)+1=(off b i:Int)+k+2:=by omega
   rw[e3] at this;simp only;exact this
def Vx (h:ė b) {p:Int→Int}:Pot (æ b) p↔(∀g∈b.2.1,pY b p g)∧∀c∈b.2.2.2.2.1,p (cx b c)≤p (cy b c)+(Ν b c).2∧p (cy b c)+(Ν b c).1≤p (cx b c):=by
 constructor
 ·intro hp;refine⟨fun g hg=>?_,fun c hc=>?_⟩
  ·obtain⟨i,hi,rfl⟩:=dj.1 hg;exact(oe h (cO hi)).1 fun l hl=>hp l.1 l.2.1 l.2.2 (oD.2 (.inl ⟨i,_,cO hi,hl⟩))
  ·have a1:=hp _ _ _ (oD.2 (.inr ⟨c,hc,.inl rfl⟩));have a2:=hp _ _ _ (oD.2 (.inr ⟨c,hc,.inr rfl⟩));omega
 ·rintro⟨hg,hc⟩ u v m hl;rcases oD.1 hl with⟨i,g,hig,hl⟩|⟨c,hcm,hl⟩
  ·exact(oe h hig).2 (hg g (cZ hig)) (u,v,m) hl
  ·obtain⟨a1,a2⟩:=hc c hcm;rcases hl with hl|hl
   ·obtain⟨rfl,rfl,rfl⟩:u=cy b c∧v=cx b c∧m=(Ν b c).2:=by simpa using hl
    exact a1
   ·obtain⟨rfl,rfl,rfl⟩:u=cx b c∧v=cy b c∧m = -(Ν b c).1:=by simpa using hl
    omega
end
def amn:List Int→Int
 |[]=>0
 |[a]=>a
 |a::b::t=>max a (amn (b::t))
def ZO:∀{l:List Int},l≠[]→(∀a∈l,a≤amn l)∧amn l∈l
 |[],h=>absurd rfl h
 |[a],_=>⟨fun x hx=>by rw[dg] at hx; rw[hx]; exact ee _,by simp[amn]⟩
 |a::b::t,_=>by
  obtain⟨h1,h2⟩:=ZO (l:=b::t) (by simp);have e:amn (a::b::t)=max a (amn (b::t)):=rfl;rw[e];constructor
  ·intro x hx;rcases dc.1 hx with rfl|hx
   ·omega
   ·have:=h1 x hx; omega
  ·rcases Int.le_total a (amn (b::t)) with h|h
   ·rw[Int.max_eq_right h]; exact fN _ h2
   ·rw[Int.max_eq_left h]; exact List.mem_cons_self
section
variable {b:Þ}
def TV (b:Þ) (f:Int→Int→Int) (z:Int) (v:Int):Int:=if v=0 then z else match (Î b)[(v-1).toNat]? with|some n=>f n.1 n.2|none=>0
def oQ (f:Int→Int→Int) (z:Int):TV b f z 0=z:=by unfold TV; rw[if_pos rfl]
def Ey (h:ė b) (f:Int→Int→Int) (z:Int) {g:í} (hg:g∈b.2.1) {d:Int} (hd:d∈á b g):TV b f z (Γ b g.1 d)=f g.1 d:=by
 obtain⟨i,hi,rfl⟩:=List.mem_iff_getElem.1 hg;obtain⟨k,hk,rfl⟩:=List.mem_iff_getElem.1 hd;have hgi:=List.getElem?_eq_getElem hi;have hdk:=List.getElem?_eq_getElem hk;rw[qn h hgi hdk];unfold TV
 have e:((off b i:Int)+k+1-1).toNat=off b i+k:=by omega
 rw[if_neg (by omega),e,Ni hgi hdk]
def MZ (b:Þ) (l:List Int) (d:Int):Int:=match l with|[]=>0|x::_=>Γ b x d
def afC (l:List Int) (d:Int):atP (Î b) l d=MZ b l d:=by
 unfold atP MZ Γ
 cases l<;>rfl
def Kc (c:Cmp):cx b c=MZ b (ê c.2.2.1 c.2.2.2.1) c.2.1:=afC _ _
def Kb (c:Cmp):cy b c=MZ b (ê c.2.2.2.1 c.2.2.1) c.2.1:=afC _ _
def oc (h:ė b) {c:Cmp} (hc:c∈b.2.2.2.2.1) {x:Int} (hx:x∈ê c.2.2.1 c.2.2.2.1∨x∈ê c.2.2.2.1 c.2.2.1):∃g∈b.2.1,g.1=x∧c.2.1∈á b g:=by
 have hx':(x∈c.2.2.1∧x∉c.2.2.2.1)∨(x∈c.2.2.2.1∧x∉c.2.2.1):=by
  rcases hx with hx|hx
  ·exact .inl (jP.1 hx)
  ·exact .inr (jP.1 hx)
 have hm:x∈c.2.2.1++c.2.2.2.1:=by rw[cY]; exact hx'.imp (·.1) (·.1)
 obtain⟨⟨g,hg,_⟩,_⟩:=h.pile hc hm;obtain⟨hgm,hid⟩:=nf hg;refine⟨g,hgm,hid,jV.2 (.inr (.inl ⟨c,hc,?_,rfl⟩))⟩;rw[hid];intro he;rw[dM,er,er] at he;rcases hx' with⟨a,e⟩|⟨a,e⟩
 ·exact e (he.1 a)
 ·exact e (he.2 a)
def fill (b:Þ) (p:Int→Int) (g:í) (d:Int):Int:=amn ((á b g).map fun e=>if d≤e then p (Γ b g.1 e) else p (Γ b g.1 e)-iS b g e d)
def QP {p:Int→Int} {g:í} (d:Int):(∀e∈á b g,(if d≤e then p (Γ b g.1 e) else p (Γ b g.1 e)-iS b g e d)≤fill b p g d)∧∃e∈á b g,fill b p g d=if d≤e then p (Γ b g.1 e) else p (Γ b g.1 e)-iS b g e d:=by
 have hne:((á b g).map fun e=>if d≤e then p (Γ b g.1 e) else p (Γ b g.1 e)-iS b g e d)≠[]:=by
  intro h;have:=List.map_eq_nil_iff.1 h;have h2:=j4 (b:=b) g;rw[this] at h2;cases h2
 obtain⟨h1,h2⟩:=ZO hne;refine⟨fun e he=>h1 _ (d8.2 ⟨e,he,rfl⟩),?_⟩;obtain⟨e,he,hx⟩:=d8.1 h2;exact⟨e,he,hx.symm⟩
def Nu (h:ė b) {p:Int→Int} {g:í} (hg:g∈b.2.1) (hf:pY b p g) {d:Int} (hd:d∈á b g):fill b p g d=p (Γ b g.1 d):=by
 obtain⟨h1,e,he,h2⟩:=QP (b:=b) (p:=p) (g:=g) d;have h3:=h1 d hd;rw[if_pos (ee _)] at h3
 have h4:fill b p g d≤p (Γ b g.1 d):=by
  rw[h2]
  split
  ·rename_i hde;exact hf.down d e hd he hde
  ·rename_i hde;have:=hf.loss e d he hd (by omega);omega
 omega
def HI (h:ė b) {p:Int→Int} {g:í} (hg:g∈b.2.1) (hf:pY b p g) {d e:Int} (h0:g.2.1≤d) (hde:d≤e):fill b p g e≤fill b p g d∧fill b p g d≤fill b p g e+iS b g d e:=by
 obtain⟨a1,x,hx,a2⟩:=QP (b:=b) (p:=p) (g:=g) d;obtain⟨b1,y,hy,b2⟩:=QP (b:=b) (p:=p) (g:=g) e;have hm:=(h.gaugeR hg).2.2.2.2.1;have hl:=D5 h hg (f:=d) (t:=e) (by omega);have dx:=h.day hg hx;have dy:=h.day hg hy;constructor
 ·have q:=a1 y hy;rw[b2]
  by_cases c1:e≤y
  ·rw[if_pos c1];rw[if_pos (by omega)] at q;exact q
  ·rw[if_neg c1]
   by_cases c2:d≤y
   ·rw[if_pos c2] at q;have:=D5 h hg (f:=y) (t:=e) dy.2.1;omega
   ·rw[if_neg c2] at q;have:=Nr h g (f:=y) (t:=d) (u:=e) (by omega) hde;omega
 ·have q:=b1 x hx;rw[a2]
  by_cases c1:d≤x
  ·rw[if_pos c1]
   by_cases c2:e≤x
   ·rw[if_pos c2] at q;omega
   ·rw[if_neg c2] at q;have:=Nr h g (f:=d) (t:=x) (u:=e) c1 (by omega);have:=D5 h hg (f:=d) (t:=x) (by omega);omega
  ·rw[if_neg c1];rw[if_neg (by omega)] at q;have:=Nr h g (f:=x) (t:=d) (u:=e) (by omega) hde;omega
end
section
variable {b:Þ} {c:Cmp}
def adD:û (î b c)=(î b c).2.1.flatMap (ú (î b c))++b.2.2.2.2.1.flatMap (ą (î b c)):=by
 unfold û
 have e:æ (î b c)=((î b c).2.1.flatMap (ú (î b c))++b.2.2.2.2.1.flatMap (ą (î b c)))++ą (î b c) c:=by
  unfold æ;rw[show(î b c).2.2.2.2.1=b.2.2.2.2.1++[c] from rfl,List.flatMap_append,List.append_assoc];simp
 rw[e,cW,show(ą (î b c) c).length=2 from rfl,Nat.add_sub_cancel,List.take_left]
def Nt (h':ė (î b c)) {p:Int→Int}:Pot (û (î b c)) p↔(∀g∈b.2.1,pY (î b c) p g)∧∀d∈b.2.2.2.2.1,p (cx (î b c) d)≤p (cy (î b c) d)+(Ν b d).2∧p (cy (î b c) d)+(Ν b d).1≤p (cx (î b c) d):=by
 rw[adD];constructor
 ·intro hp;refine⟨fun g hg=>?_,fun d hd=>?_⟩
  ·obtain⟨i,hi,rfl⟩:=dj.1 hg;exact(oe h' (i:=i) (cO hi)).1 fun l hl=>hp l.1 l.2.1 l.2.2 (cY.2 (.inl (dw.2 ⟨_,eE hi,hl⟩)))
  ·have a1:=hp (cy (î b c) d) (cx (î b c) d) (Ν (î b c) d).2 (cY.2 (.inr (dw.2 ⟨d,hd,by simp[ą]⟩)));have a2:=hp (cx (î b c) d) (cy (î b c) d) (-(Ν (î b c) d).1) (cY.2 (.inr (dw.2 ⟨d,hd,by simp[ą]⟩)));have e:Ν (î b c) d=Ν b d:=rfl;rw[e] at a1 a2;omega
 ·rintro⟨hg,hc⟩ u v m hl;rcases cY.1 hl with hl|hl
  ·obtain⟨g,hgm,hl⟩:=dw.1 hl;obtain⟨i,hi,rfl⟩:=dj.1 hgm;exact(oe h' (i:=i) (cO hi)).2 (hg _ hgm) (u,v,m) hl
  ·obtain⟨d,hd,hl⟩:=dw.1 hl;obtain⟨a1,a2⟩:=hc d hd;have e:Ν (î b c) d=Ν b d:=rfl;simp only[ą,dc,fQ,or_false,e] at hl;rcases hl with hl|hl
   ·obtain⟨rfl,rfl,rfl⟩:u=cy (î b c) d∧v=cx (î b c) d∧m=(Ν b d).2:=by simpa using hl
    exact a1
   ·obtain⟨rfl,rfl,rfl⟩:u=cx (î b c) d∧v=cy (î b c) d∧m = -(Ν b d).1:=by simpa using hl
    omega
def un {g:í} {d:Int} (hd:d∈á b g):d∈á (î b c) g:=by
 rcases jV.1 hd with e|⟨x,hx,h1,h2⟩|hn
 ·exact jV.2 (.inl e)
 ·exact jV.2 (.inr (.inl ⟨x,cY.2 (.inl hx),h1,h2⟩))
 ·exact jV.2 (.inr (.inr hn))
def ait (g:í) (f t:Int):iS (î b c) g f t=iS b g f t:=rfl
def Kk {b':Þ} (h':ė b') {l:List Int} {day:Int} (f:Int→Int→Int) (z:Int) (hl:∀x∈l,∃g∈b'.2.1,g.1=x∧day∈á b' g):TV b' f z (MZ b' l day)=match l with|[]=>z|x::_=>f x day:=by
 unfold MZ
 cases l with
 |nil=>exact oQ f z
 |cons x t =>
  obtain⟨g,hg,rfl,hd⟩:=hl x (by simp);exact Ey h' f z hg hd
def ah2 (h:ė b) (h':ė (î b c)):(∃p,Pot (æ b) p)↔∃p,Pot (û (î b c)) p:=by
 constructor
 ·rintro⟨p,hp⟩;obtain⟨hg,hc⟩:=(Vx h).1 hp
  let f:Int→Int→Int:=fun id d=>match ť b id with|some g=>fill b p g d|none=>0
  have hfv:∀g∈b.2.1,∀d,f g.1 d=fill b p g d:=fun g hgm d=>by
   show(match ť b g.1 with|some g=>fill b p g d|none=>0)=_;rw[vJ h.ids hgm]
  have hq:∀g∈b.2.1,∀d∈á (î b c) g,TV (î b c) f (p 0) (Γ (î b c) g.1 d)=fill b p g d:=fun g hgm d hd=>by
   rw[Ey h' f (p 0) hgm hd,hfv g hgm d]
  refine⟨TV (î b c) f (p 0),(Nt h').2 ⟨fun g hgm=>?_,fun d hd=>?_⟩⟩
  ·have gf:=hg g hgm;have hmade:g.2.1∈á b g:=j4 g;have e0:=hq g hgm g.2.1 (j4 g);rw[Nu h hgm gf hmade] at e0;refine⟨?_,?_,fun x y hx hy hxy=>?_,fun x y hx hy hxy=>?_⟩
   ·rw[e0,oQ]; exact gf.hi
   ·rw[e0,oQ]; exact gf.lo
   ·rw[hq g hgm x hx,hq g hgm y hy];exact(HI h hgm gf (h'.day hgm hx).1 hxy).1
   ·rw[hq g hgm x hx,hq g hgm y hy,ait];exact(HI h hgm gf (h'.day hgm hx).1 hxy).2
  ·have key:∀l:List Int,(∀x∈l,∃g∈b.2.1,g.1=x∧d.2.1∈á b g)→TV (î b c) f (p 0) (MZ (î b c) l d.2.1)=p (MZ b l d.2.1):=by
    intro l hl;rw[Kk h' f (p 0) (fun x hx=>by obtain⟨g,q1,q2,q3⟩:=hl x hx; exact⟨g,q1,q2,un q3⟩)]
    cases l with
    |nil=>rfl
    |cons x t =>
     obtain⟨g,q1,rfl,q3⟩:=hl x (by simp);show f g.1 d.2.1=p (Γ b g.1 d.2.1);rw[hfv g q1,Nu h q1 (hg g q1) q3]
   rw[Kc,Kb,key _ (fun x hx=>oc h hd (.inl hx)),key _ (fun x hx=>oc h hd (.inr hx)),←Kc,←Kb];exact hc d hd
 ·rintro⟨p,hp⟩;obtain⟨hg,hc⟩:=(Nt h').1 hp
  let f:Int→Int→Int:=fun id d=>p (Γ (î b c) id d)
  have hq:∀g∈b.2.1,∀d∈á b g,TV b f (p 0) (Γ b g.1 d)=p (Γ (î b c) g.1 d):=fun g hgm d hd=>Ey h f (p 0) hgm hd;refine⟨TV b f (p 0),(Vx h).2 ⟨fun g hgm=>?_,fun d hd=>?_⟩⟩
  ·have gf:=hg g hgm;have e0:=hq g hgm g.2.1 (j4 g);refine⟨?_,?_,fun x y hx hy hxy=>?_,fun x y hx hy hxy=>?_⟩
   ·rw[e0,oQ]; exact gf.hi
   ·rw[e0,oQ]; exact gf.lo
   ·rw[hq g hgm x hx,hq g hgm y hy];exact gf.down x y (un hx) (un hy) hxy
   ·rw[hq g hgm x hx,hq g hgm y hy];exact gf.loss x y (un hx) (un hy) hxy
  ·have key:∀l:List Int,(∀x∈l,∃g∈b.2.1,g.1=x∧d.2.1∈á b g)→TV b f (p 0) (MZ b l d.2.1)=p (MZ (î b c) l d.2.1):=by
    intro l hl;rw[Kk h f (p 0) hl]
    cases l<;>rfl
   rw[Kc,Kb,key _ (fun x hx=>oc h hd (.inl hx)),key _ (fun x hx=>oc h hd (.inr hx)),←Kc,←Kb];exact hc d hd
end
section
variable {L:List Lk} {N:Nat}
def Wl.app {u v:Int} {vs:List Int} {d:Int} (h1:Wl L (fun x=>x=u) vs v d) {ws:List Int} {w e:Int} (h2:Wl L (fun x=>x=v) ws w e):∃xs,Wl L (fun x=>x=u) xs w (d+e):=by
 induction h2 with
 |nil h=>subst h; exact⟨vs,by rw[fP]; exact h1⟩
 |step hw hx ih =>
  obtain⟨xs,hi⟩:=ih;have:=Wl.step hi hx;rw[Int.add_assoc] at this;exact⟨_,this⟩
def dst (L:List Lk) (N:Nat) (s t:Int):Int:=gv (sm L N s) t
def aja (h:iI L N) (ht:M4 L N) (ho:ŏ L N=true) {s t:Int} (hs:0≤s∧s<N) (hv:0≤t∧t<N):dst L N s t≤9007199254740992:=by
 have h2:=h.n60;obtain⟨p,hp⟩:=(Ξ h.links (by omega)).1 ho;obtain⟨vs,d,hw,hd⟩:=ht.from' s hs.1 hs.2;obtain⟨ws,e,hx,he⟩:=ht.to t hv.1 hv.2;obtain⟨xs,hy⟩:=Wl.app hw hx;have:=(jq h.links (by omega) hp hs).low t xs _ (ZF.2 hy);unfold dst;omega
def afj (h:iI L N) (ht:M4 L N) (ho:ŏ L N=true) {s t:Int} (hs:0≤s∧s<N) (hv:0≤t∧t<N):dst L N s t≠ig:=by
 have:=aja h ht ho hs hv;unfold ig;omega
def ai9 (h:iI L N) (ht:M4 L N) (ho:ŏ L N=true) {s:Int} (hs:0≤s∧s<N):Pot L (dst L N s):=by
 have h2:=h.n60;obtain⟨p,hp⟩:=(Ξ h.links (by omega)).1 ho;intro u v m hl;have hr:=h.inr _ hl;exact(jq h.links (by omega) hp hs).pot h.inr hl (afj h ht ho hs hr.1)
def afi (h:iI L N) (ho:ŏ L N=true) {s:Int} (hs:0≤s∧s<N):dst L N s s=0:=ad5 h ho hs.1 hs.2
def X5 (h:iI L N) (ht:M4 L N) (ho:ŏ L N=true) {s t:Int} (hs:0≤s∧s<N) (hv:0≤t∧t<N) {p:Int→Int} (hp:Pot L p):p t-p s≤dst L N s t:=by
 have h2:=h.n60;obtain⟨vs,hw⟩:=(jq h.links (by omega) hp hs).att t hv.1 hv.2 (afj h ht ho hs hv);obtain⟨u,hu,hx⟩:=(ZF.1 hw).pot hp;subst hu;exact hx
def anm (h:iI L N) (ht:M4 L N) (ho:ŏ L N=true) {x y:Int} (hx:0≤x∧x<N) (hy:0≤y∧y<N) {t:Int} (h1 : -(dst L N x y)≤t) (h2:t≤dst L N y x):∃p,Pot L p∧p x-p y=t:=by
 refine⟨fun v=>min (dst L N y v) (dst L N x v+t),fun u v m hl=>?_,?_⟩
 ·have a1:=ai9 h ht ho hy u v m hl;have a2:=ai9 h ht ho hx u v m hl;show min _ _≤min _ _+m;omega
 ·have e1:=afi h ho hx;have e2:=afi h ho hy;show min (dst L N y x) (dst L N x x+t)-min (dst L N y y) (dst L N x y+t)=t;omega
def abD (h:iI L N) (ht:M4 L N) (ho:ŏ L N=true) {x y:Int} (hx:0≤x∧x<N) (hy:0≤y∧y<N) : -(dst L N x y)≤dst L N y x:=by
 have h2:=h.n60;obtain⟨p,hp⟩:=(Ξ h.links (by omega)).1 ho;have a1:=X5 h ht ho hx hy hp;have a2:=X5 h ht ho hy hx hp;omega
def afk (h:iI L N) (ht:M4 L N) (ho:ŏ L N=true) {s t:Int} (hs:0≤s∧s<N) (hv:0≤t∧t<N) : -9007199254740992≤dst L N s t∧dst L N s t≤9007199254740992:=by
 have a1:=aja h ht ho hs hv;have a2:=aja h ht ho hv hs;have a3:=abD h ht ho hv hs;omega
def AD (h:iI L N) (ht:M4 L N) {s t:Int} (hs:0≤s∧s<N) (hv:0≤t∧t<N):hZ L N s t=if ŏ L N then(dst L N s t,0) else(0,9):=by
 unfold hZ
 by_cases ho:ŏ L N=true
 ·have hne:=afj h ht ho hs hv;unfold dst at hne ⊢;rw[if_neg (by simp[ho]),if_neg hne,if_pos ho]
 ·rw[if_pos (by simpa using ho),if_neg ho]
end
section
variable {b:Þ} {c:Cmp}
def am9 (h':ė (î b c)):GL (î b c) (û (î b c)):=by
 intro i g hg l hl;rw[adD];exact cY.2 (.inl (dw.2 ⟨g,cZ hg,hl⟩))
def jQ (h':ė (î b c)):M4 (û (î b c)) ((Î (î b c)).length+1):=h'.tiedL (am9 h')
def jz (h':ė (î b c)):iI (û (î b c)) ((Î (î b c)).length+1) :=
 h'.sys.sub (fun l hl=>List.mem_of_mem_take hl) (by unfold û; rw[List.length_take]; omega)
def pG (h:ė b) (h':ė (î b c)):ŏ (û (î b c)) ((Î (î b c)).length+1)=ŏ (æ b) ((Î b).length+1):=by
 have n1:=h.sys.n60;have n2:=(jz h').n60;rw[dM,Ξ (jz h').links (by omega),Ξ h.sys.links (by omega)];exact(ah2 h h').symm
def zK:c∈(î b c).2.2.2.2.1:=by simp[î]
def Cv (h':ė (î b c)):0≤cx (î b c) c∧cx (î b c) c<((Î (î b c)).length+1:Nat):=(X8 h' zK).rng
def Cu (h':ė (î b c)):0≤cy (î b c) c∧cy (î b c) c<((Î (î b c)).length+1:Nat):=(Q4 h' zK).rng
def dLo (b:Þ) (c:Cmp):Int:=-(dst (û (î b c)) ((Î (î b c)).length+1) (cx (î b c) c) (cy (î b c) c))
def dHi (b:Þ) (c:Cmp):Int:=dst (û (î b c)) ((Î (î b c)).length+1) (cy (î b c) c) (cx (î b c) c)
def Rz (h:ė b) (h':ė (î b (Ê c))):Ĵ b c=if ŏ (æ b) ((Î b).length+1) then NS b (Ê c) (dLo b (Ê c),dHi b (Ê c)) else((0,0),9):=by
 have e:zB b (Ê c)=(î b (Ê c),0):=by
  unfold zB;rw[if_neg (by simp[(ä b).2 h]),if_neg (by simp[(ä _).2 h'])]
 unfold Ĵ;rw[e,AD (jz h') (jQ h') (Cu h') (Cv h'),AD (jz h') (jQ h') (Cv h') (Cu h'),pG h h']
 by_cases ho:ŏ (æ b) ((Î b).length+1)=true
 ·rw[if_pos ho,if_pos ho,if_pos ho];rfl
 ·rw[if_neg ho,if_neg ho,if_neg ho];rfl
def ov (hp:(Ĵ b c).2=0):ė b∧ė (î b (Ê c)):=by
 have hw:(zB b (Ê c)).2=0:=by
  unfold Ĵ at hp
  by_cases hw:(zB b (Ê c)).2=0
  ·exact hw
  ·rw[if_pos hw] at hp; exact hp
 unfold zB at hw
 by_cases hb:ã b=0
 ·rw[if_neg (by simp[hb])] at hw
  by_cases hm:ã (î b (Ê c))=0
  ·exact⟨(ä b).1 hb,(ä _).1 hm⟩
  ·rw[if_pos hm] at hw; exact absurd hw hm
 ·rw[if_pos hb] at hw; exact absurd hw hb
def acr {s:Int×Int} (h:(NS b c s).2=0):adx b c≤Eb b c∧NS b c s=((s.1+adx b c,s.2+Eb b c),0):=by
 unfold NS at h ⊢
 split at h
 ·simp at h
 ·rename_i hl;rw[if_neg hl];exact⟨by omega,rfl⟩
end
end Go.Proofs.ZzM
end
