/- lemmas -/
import Derived.Test.YtdmegkgjpgcfgaaGreatAmF
import Derived.Test.YtdmegkgjpgcfgaaGreatMdTA
set_option linter.all false
set_option linter.unusedSectionVars false
set_option linter.unusedVariables false
set_option linter.unusedSimpArgs false
noncomputable section
namespace Go.Am
section
variable {ρ:Type}
def Ņ {α β:Type} (e:Nat→α→Option β):Nat→List α→Option β
 |_,[]=>none
 |i,a::t=>match e i a with
  |some b=>some b
  |none=>Ņ e (i+1) t
def mA {α β:Type} (l:List α) (e:Nat→α→Option β) (k0:β→Option ρ) (k1:Option ρ) {f:Int→(Int→Option ρ)→Option ρ}
 (h:∀(i:Nat) (a:α),i<l.length→l[i]?=some a→∀kn,f i kn=match e i a with|some b=>k0 b|none=>kn ((i:Int)+1))
 (hn:∀kn,f l.length kn=k1):Ë f 0=match Ņ e 0 l with|some b=>k0 b|none=>k1:=by
 refine ac9 l (fun i t=>match Ņ e i t with|some b=>k0 b|none=>k1) hn fun i a t hd hi ha kn hk=>?_;rw[h i a hi ha kn,hk,Ņ]
 cases e i a<;>rfl
def ĩ {α σ:Type} (l:List α) (g:Nat→σ) (r:Option ρ) {f:Int×σ→(Int×σ→Option ρ)→Option ρ} {s0:σ} (h0:g 0=s0)
 (h:∀(i:Nat) (a:α),i<l.length→l[i]?=some a→∀kn,f (i,g i) kn=kn ((i:Int)+1,g (i+1)))
 (hn:∀kn,f (l.length,g l.length) kn=r):Ë f (0,s0)=r:=by
 subst h0
 have hs:∀s,(s=g 0)→Ë f (0,s)=r:=fun s e=>RI l (fun _ _ _=>r) (fun i s=>s=g i) (fun s hs kn=>by rw[hs]; exact hn kn) (fun i a t s hd hi ha hI kn hk=>by
  rw[hI,h i a hi ha kn]; exact hk _ rfl) e
 exact hs _ rfl
def Lq {α σ:Type} (l:List α) (g:Nat→σ) (r:Option ρ) {f:Int×σ→(Int×σ→Option ρ)→Option ρ} {s0:σ} (P:Nat→Prop) (h0:g 0=s0) (hP:P 0)
 (h:∀(i:Nat) (a:α),i<l.length→l[i]?=some a→P i→∀kn,f (i,g i) kn=r∨(P (i+1)∧f (i,g i) kn=kn ((i:Int)+1,g (i+1))))
 (hn:P l.length→∀kn,f (l.length,g l.length) kn=r):Ë f (0,s0)=r:=by
 subst h0
 have hs:∀s,(s=g 0∧P 0)→Ë f (0,s)=r:=fun s e=>RI l (fun _ _ _=>r) (fun i s=>s=g i∧P i) (fun s hs kn=>by rw[hs.1]; exact hn hs.2 kn) (fun i a t s hd hi ha hI kn hk=>by
  rcases h i a hi ha hI.2 kn with h1|⟨h1,h2⟩
  ·rw[hI.1,h1]
  ·rw[hI.1,h2]; exact hk _ ⟨rfl,h1⟩) e
 exact hs _ ⟨rfl,hP⟩
def Í {i n:Nat} (h:i<n) (hn:n≤1000000000) (f:Int→Option ρ):ck ((i:Int)+1) f=f ((i:Int)+1):=Ô (by omega) (by omega) f
def ag1 {i n:Nat} (h:i<n) (x y:Option ρ):ifb (ilt (i:Int) (aaM n)) x y=x:=by simp[Č,JA,h]
def ß (n:Nat) (x y:Option ρ):ifb (ilt (n:Int) (aaM n)) x y=y:=by simp[Č,JA]
def Ó {α:Type} {l:List α} {i:Nat} (h:i<l.length) (x y:Option ρ):ifb (ilt (i:Int) (Ú l)) x y=x:=ag1 h x y
def LR {α:Type} (p:α→Bool):∀(i:Nat) (l:List α),Ņ (fun i a=>bif p a then some (i:Int) else none) i l=(l.findIdx? p).map fun j=>((i+j:Nat):Int)
 |_,[]=>rfl
 |i,a::t=>by
  simp only[Ņ,List.findIdx?_cons]
  cases hp:p a with
  |true=>simp
  |false =>
   simp only[cond_false,cQ,if_false];rw[LR p (i+1) t]
   cases t.findIdx? p with
   |none=>rfl
   |some j=>simp only[dF]; congr 1; omega
def Hn {α β:Type} (e:α→Option β):∀(i:Nat) (l:List α),Ņ (fun _ a=>e a) i l=l.findSome? e
 |_,[]=>rfl
 |i,a::t=>by
  simp only[Ņ,fS]
  cases e a with
  |some b=>rfl
  |none=>exact Hn e (i+1) t
def iZ {α β:Type} {e:Nat→α→Option β}:∀{i:Nat} {l:List α},Ņ e i l=none↔∀j a,l[j]?=some a→e (i+j) a=none
 |_,[]=>by simp[Ņ]
 |i,a::t=>by
  simp only[Ņ];constructor
  ·intro h j b hb
   cases he:e i a with
   |some c=>rw[he] at h; cases h
   |none =>
    rw[he] at h
    cases j with
    |zero=>simp at hb; subst hb; simpa using he
    |succ j=>have:=(iZ.1 h) j b (by simpa using hb); rw[←this]; congr 1; omega
  ·intro h;have h0:=h 0 a (by simp);simp only[fG] at h0;rw[h0]
   exact iZ.2 fun j b hb=>by have:=h (j+1) b (by simpa using hb); rw[←this]; congr 1; omega
def take_succ {α:Type} {l:List α} {i:Nat} {a:α} (h:l[i]?=some a):l.take (i+1)=l.take i++[a]:=by rw[List.take_succ,h]; rfl
end
end Go.Am
end

noncomputable section
namespace Go.Proofs.ZzM
open Go Go.Am
section
variable {ρ:Type}
def Ě {τ:Type} {f:τ→(τ→Option ρ)→Option ρ} {r:Option ρ} (I:τ→Prop) (μ:τ→Nat)
 (h:∀x,I x→(∀kn,f x kn=r)∨∃y,I y∧μ y<μ x∧∀kn,f x kn=kn y) {x:τ} (hx:I x):Ë f x=r :=
 pQ (F:=fun _=>r) I μ (fun x hx kn hk=>by
  rcases h x hx with h1|⟨y,h1,h2,h3⟩
  ·exact h1 kn
  ·rw[h3,hk y h1 h2]) hx
def jF {α:Type} (l:List α) (p:α→Bool) (k0:Int→Option ρ) (k1:Option ρ) {f:Int→(Int→Option ρ)→Option ρ}
 (h:∀(i:Nat) (a:α),i<l.length→l[i]?=some a→∀kn,f i kn=if p a then k0 i else kn ((i:Int)+1))
 (hn:∀kn,f l.length kn=k1):Ë f 0=match l.findIdx? p with|some j=>k0 j|none=>k1:=by
 rw[mA l (fun i a=>bif p a then some (i:Int) else none) k0 k1 (fun i a hi ha kn=>by rw[h i a hi ha kn]; cases p a<;>rfl) hn,LR]
 cases l.findIdx? p with
 |none=>rfl
 |some j=>simp
def Ň {α:Type} (l:List α) (p:α→Bool) (k0:Int→Option ρ) (K k1:Option ρ) {f:Int→(Int→Option ρ)→Option ρ} (hK:∀j:Nat,k0 j=K)
 (h:∀(i:Nat) (a:α),i<l.length→l[i]?=some a→∀kn,f i kn=if p a then k0 i else kn ((i:Int)+1))
 (hn:∀kn,f l.length kn=k1):Ë f 0=if l.any p then K else k1:=by
 rw[jF l p k0 k1 h hn]
 cases hf:l.findIdx? p with
 |none =>
  have:l.any p=false:=by
   rw[dG];intro x hx;have:=dA.1 hf x hx;simp[this]
  simp[this]
 |some j =>
  have:l.any p=true:=by
   have:=dJ.1 hf;obtain⟨hj,hp,_⟩:=this;exact dc.2 ⟨_,fc hj,hp⟩
  simp[this,hK]
end
abbrev ÿ:Type:=Int×Int×Int×(Int×Int)×((Int×Int)×Int)
abbrev MJ:Type:=Int×((Int×Int)×Int)
abbrev Cmp:Type:=Int×Int×List Int×List Int×Int×(Int×(Int×Int))
abbrev Ď:Type:=(Int×Int)×List ÿ×List (Int×Int)×List MJ×List Cmp×List (Int×Int)
abbrev Sys:Type:=Int×List (Int×Int×Int)
abbrev Maker:Type:=Ď×List (Int×Int)×Sys×List (Int×Int)
section
variable {ρ:Type}
def Ù {b:Bool} (h:b=true) (x y:Option ρ):ifb b x y=x:=by rw[h]; rfl
def Î {b:Bool} (h:b=false) (x y:Option ρ):ifb b x y=y:=by rw[h]; rfl
end
def I64 (n:Int):Prop:=-9223372036854775808≤n∧n≤9223372036854775807
def inP (n lo hi:Int):Bool:=decide (lo≤n)&&decide (n≤hi)
def I0 (n:Int):Bool:=inP n 0 20000
def l5 (s:Int×Int) (lo hi:Int):Bool:=decide (lo≤s.1)&&(decide (s.1≤s.2)&&decide (s.2≤hi))
def Κ (n lo hi:Int):ĕ n lo hi=some (inP n lo hi):=by
 unfold ĕ FR inP ile
 cases decide (lo≤n)<;>rfl
def IM (n:Int):lr n=some (I0 n):=by
 unfold lr Le;rw[Κ]; rfl
def Ed (s:Int×Int) (lo hi:Int):Ι s lo hi=some (l5 s lo hi):=by
 unfold Ι F0 l5 ile
 cases decide (lo≤s.1)<;>cases decide (s.1≤s.2)<;>rfl
def PU {n:Int} (h:I64 n):rO n=some (n.natAbs:Int):=by
 obtain⟨h1,h2⟩:=h;unfold rO Q6
 by_cases hn:n<0
 ·have:ilt n 0=true:=by simpa using hn
  rw[Ù this];congr 1;simp only[IntKind.wrap,IntKind.bits,IntKind.signed];simp;omega
 ·have:ilt n 0=false:=by simpa using hn
  rw[Î this];congr 1;simp only[IntKind.wrap,IntKind.bits,IntKind.signed];simp;omega
def ag2 (a b:Nat):LY a b=some ((Nat.gcd a b:Nat):Int):=by
 unfold LY Xr;refine Ě (fun x:Int×Int=>∃c d:Nat,x=((c:Int),(d:Int))∧Nat.gcd c d=Nat.gcd a b) (fun x=>x.2.toNat) ?_ ⟨a,b,rfl,rfl⟩;rintro x ⟨c,d,rfl,hg⟩
 cases d with
 |zero =>
  refine .inl fun kn=>?_;rw[Nat.gcd_zero_right] at hg;unfold yR;simp[hg,ine]
 |succ d =>
  refine .inr ⟨(((d+1:Nat):Int),((c % (d+1):Nat):Int)),⟨d+1,c % (d+1),rfl,?_⟩,?_,fun kn=>?_⟩
  ·rw[←hg,Nat.gcd_comm c (d+1),Nat.gcd_rec (d+1) c,Nat.gcd_comm]
  ·have:=Nat.mod_lt c (gO d);simp only[cP];omega
  ·unfold yR
   have h1:ine ((d+1:Nat):Int) 0=true:=by simp[ine]; omega
   have h2:Ca ((d+1:Nat):Int) 0=false:=by simp[Ca]; omega
   simp only[h1,Ù Î h2];congr 1
def MN (r:Int×Int):Bool :=
 decide (1≤r.2)&&(decide (r.2≤2147483647)&&(decide ((r.1.natAbs:Int)≤2147483647)&&decide (Nat.gcd r.1.natAbs r.2.natAbs=1)))
def SG {r:Int×Int} (h:I64 r.1):ue r=some (MN r):=by
 unfold ue KV MN
 by_cases h1:1≤r.2
 ·by_cases h2:r.2≤2147483647
  ·have h3:I64 r.2:=⟨by omega,by omega⟩
   have e1:ige r.2 1=true:=by simp[ige,h1]
   have e2:ile r.2 2147483647=true:=by simp[ile,h2]
   rw[Ù e1,Ù e2,PU h,À]
   by_cases h4:(r.1.natAbs:Int)≤2147483647
   ·have e4:ile (r.1.natAbs:Int) 2147483647=true:=by simp[ile,h4]
    rw[Ù e4,À,PU h3,À,ag2,À];congr 1;rw[gz];simp only[ieq,beq_iff_eq,h1,h2,h4,decide_true,dY,decide_eq_true_eq];omega
   ·have e4:ile (r.1.natAbs:Int) 2147483647=false:=by simp[ile]; omega
    rw[Î e4];simp[h4]
  ·have e1:ige r.2 1=true:=by simp[ige,h1]
   have e2:ile r.2 2147483647=false:=by simp[ile]; omega
   rw[Ù e1,Î e2];simp[h2]
 ·have e1:ige r.2 1=false:=by simp[ige]; omega
  rw[Î e1];simp[h1]
def AY (g:ÿ):Bool :=
 MN g.2.2.2.2.1&&inP g.2.2.2.2.1.1 (-1000) 1000&&decide (g.2.2.2.2.1.2≤100)&&inP g.1 1 1099511627776&&I0 g.2.1&&inP g.2.2.1 1 1125899906842624&&l5 g.2.2.2.1 (-1073741824) 1073741824&&inP g.2.2.2.2.2 0 1048576
def aa4 {g:ÿ} (h:I64 g.2.2.2.2.1.1):vL g=some (AY g):=by
 unfold vL BQ AY;rw[SG h,Κ,Κ,IM,Κ,Ed,Κ];generalize MN g.2.2.2.2.1=x1;generalize inP g.2.2.2.2.1.1 (-1000) 1000=x2;generalize inP g.1 1 1099511627776=x3;generalize I0 g.2.1=x4;generalize inP g.2.2.1 1 1125899906842624=x5;generalize l5 g.2.2.2.1 (-1073741824) 1073741824=x6;generalize inP g.2.2.2.2.2 0 1048576=x7;unfold ile;generalize decide (g.2.2.2.2.1.2≤100)=x8
 cases x1<;>cases x2<;>cases x3<;>cases x4<;>cases x5<;>cases x6<;>cases x8<;>rfl
section
variable {ρ:Type}
def Vo {α:Type} {l:List α} {i:Nat} {a:α} (h0:0<i) (h:l[i-1]?=some a) (f:α→Option ρ):đ l ((i:Int)-1) f=f a:=by
 have:((i:Int)-1)=((i-1:Nat):Int):=by omega
 rw[this,È h]
def aeg {i:Nat} (h:0<i) (hn:i≤1000000000) (f:Int→Option ρ):ck ((i:Int)-1) f=f ((i:Int)-1):=Ô (by omega) (by omega) f
def ũ {i n:Nat} (h:i<n) (x:Option ρ):ç ((ile 0 (i:Int))&&(ilt (i:Int) (n:Int))) x=x:=by
 have:((ile 0 (i:Int))&&(ilt (i:Int) (n:Int)))=true:=by simp[ile,ilt,h]
 rw[this,Am.iff_true]
def Ę {α:Type} {l:List α} {i:Nat} {a:α} (h:l[i]?=some a) (f:α→Option ρ):ł l (Int.toNat (i:Int)) f=f a:=by
 rw[cP]; exact jd h f
end
def ur {α:Type} (key:α→Int) (l:List α) (i:Nat) (a:α):Bool :=
 decide (0<i)&&(l[i-1]?).any fun q=>decide (key a≤key q)
def Tr {α:Type} {l:List α} {i:Nat} (hi:i<l.length) (h0:0<i):∃q,l[i-1]?=some q :=
 ⟨l[i-1],cw (by omega)⟩
def I2 {α:Type} (key:α→Int) (l:List α):(∀i a,l[i]?=some a→ur key l i a=false)↔l.Pairwise (fun a b=>key a<key b):=by
 rw[df];constructor
 ·intro h
  have step:∀i (h1:i+1<l.length),key l[i]<key l[i+1]:=by
   intro i h1;have:=h (i+1) l[i+1] (cw h1);simp only[ur,Nat.add_sub_cancel,gO,decide_true,dY,cw (show i<l.length by omega),Option.any_some,decide_eq_false_iff_not] at this;omega
  intro i j hi hj hij
  induction j with
  |zero=>omega
  |succ j ih =>
   have:=step j hj;rcases cV i j with hlt|hge
   ·have:=ih (by omega) hlt; omega
   ·have:i=j:=by omega
    subst this; assumption
 ·intro h i a ha;obtain⟨hi,rfl⟩:=List.getElem?_eq_some_iff.1 ha;unfold ur
  cases i with
  |zero=>rfl
  |succ i =>
   have:=h i (i+1) (by omega) hi (by omega);simp only[Nat.add_sub_cancel,gO,decide_true,dY,cw (show i<l.length by omega),Option.any_some,decide_eq_false_iff_not];omega
def yl (l:List ÿ) (i:Nat) (g:ÿ):Option Int :=
 if !AY g then some 1 else if ur (fun g=>g.1) l i g then some 6 else none
def mE (b:Ď):Int:=(Ņ (yl b.2.1) 0 b.2.1).getD 0
def Ob {b:Ď} (hr:∀g∈b.2.1,I64 g.2.2.2.2.1.1) (hn:b.2.1.length≤1000):Ż b=some (mE b):=by
 unfold Ż pP;refine Eq.trans (mA b.2.1 (yl b.2.1) some (some 0) (fun i a hi ha kn=>?_) (fun kn=>?_)) ?_
 ·try dsimp only
  unfold iN;rw[Ó hi,È ha,aa4 (hr a (List.mem_of_getElem? ha)),À];unfold yl
  cases hg:AY a with
  |false=>simp
  |true =>
   simp only[dw,é,cQ,if_false];rcases fY i with h0|h0
   ·subst h0
    have:igt ((0:Nat):Int) 0=false:=by simp[igt]
    rw[Î this,Í hi (by omega)];simp[ur]
   ·obtain⟨q,hq⟩:=Tr hi h0
    have h1:igt (i:Int) 0=true:=by simp[igt]; omega
    rw[Ù h1,aeg h0 (by omega),Vo h0 hq];simp only[ur,h0,decide_true,Bool.true_and,hq,Option.any_some];unfold ile
    cases h2:decide (a.1≤q.1) with
    |true=>simp
    |false =>
     rw[é,Í hi (by omega)];simp
 ·try dsimp only
  unfold iN;rw[ß]
 ·unfold mE
  cases Ņ (yl b.2.1) 0 b.2.1<;>rfl
def Tc (l:List ÿ):List (Int×ÿ):=l.foldl (fun m g=>JB (k:=tI) (v:=Õ) g.1 g m) []
def Ŕ (b:Ď):List (Int×ÿ):=Tc b.2.1
def E4 {b:Ď} (hn:b.2.1.length≤1000):ļ b=some (Ŕ b):=by
 unfold ļ BN;refine ĩ b.2.1 (fun i=>Tc (b.2.1.take i)) _ rfl (fun i a hi ha kn=>?_) (fun kn=>?_)
 ·try dsimp only
  unfold mO;rw[Ó hi,È ha,Í hi (by omega),take_succ ha];simp only[Tc,List.foldl_append,List.foldl_cons,List.foldl_nil]
 ·try dsimp only
  unfold mO;rw[ß,List.take_length];rfl
def TU (x y:Int) (g:ÿ):∀m:List (Int×ÿ),lP (k:=tI) (v:=Õ) x (JB (k:=tI) (v:=Õ) y g m)=if x=y then some g else lP (k:=tI) (v:=Õ) x m
 |[]=>by
  unfold JB lP ź lP
  by_cases h:x=y<;>simp[h]
 |e::m=>by
  unfold JB
  by_cases h:y=e.1
  ·have:ź tI y e.1=true:=by simp[ź,h]
   rw[this]
   try dsimp only
   unfold lP ź
   by_cases h2:x=y
   ·simp[h2]
   ·have:¬x=e.1:=fun h3=>h2 (h3.trans h.symm);simp[h2,this]
  ·have:ź tI y e.1=false:=by simp[ź,h]
   rw[this]
   try dsimp only
   have ih:=TU x y g m;unfold lP
   by_cases h2:x=e.1
   ·have:ź tI x e.1=true:=by simp[ź,h2]
    rw[this];have:¬x=y:=fun h3=>h (h3.symm.trans h2);simp[this]
   ·have:ź tI x e.1=false:=by simp[ź,h2]
    rw[this];exact ih
def ö (b:Ď) (id:Int):Option ÿ:=b.2.1.find? fun g=>g.1==id
def WV (x:Int) (l:List ÿ):lP (k:=tI) (v:=Õ) x (Tc l)=l.reverse.find? fun g=>g.1==x:=by
 unfold Tc;rw[←List.foldr_reverse]
 induction l.reverse with
 |nil=>rfl
 |cons g t ih =>
  rw[List.foldr_cons,TU,ih,fj]
  by_cases h:x=g.1
  ·simp[h]
  ·have:(g.1==x)=false:=by simp; exact fun h2=>h h2.symm
   simp[h,this]
def Ho {l:List ÿ} (h:l.Pairwise fun a b=>a.1<b.1) (x:Int):l.reverse.find? (fun g=>g.1==x)=l.find? fun g=>g.1==x:=by
 induction l with
 |nil=>rfl
 |cons g t ih =>
  rw[dk] at h;rw[List.reverse_cons,List.find?_append,ih h.2,fj]
  by_cases hx:g.1=x
  ·have:t.find? (fun g=>g.1==x)=none:=dU.2 fun y hy=>by have:g.1<y.1:=h.1 y hy; simp; omega
   rw[this]; simp[hx]
  ·have:(g.1==x)=false:=by simp[hx]
   simp[this]
def yL {b:Ď} (h:b.2.1.Pairwise fun a b=>a.1<b.1) (x:Int):lP (k:=tI) (v:=Õ) x (Ŕ b)=ö b x:=by
 unfold Ŕ ö;rw[WV,Ho h]
def mY (s:List (Int×ÿ)) (id day:Int):Int :=
 match lP (k:=tI) (v:=Õ) id s with
 |some g=>if day<g.2.1 then 4 else 0
 |none=>5
def WW (s:List (Int×ÿ)) (id day:Int):iF s id day=some (mY s id day):=by
 unfold iF sk mY
 cases h:lP (k:=tI) (v:=Õ) id s with
 |none=>simp only[MF,h]
 |some g =>
  simp only[MF,h];rw[Č]
  by_cases h2:day<g.2.1<;>simp[h2]
def GH (s:List (Int×ÿ)) (id day:Int):Int:=if !I0 day then 1 else mY s id day
def Tw (s:List (Int×ÿ)) (id day:Int):Ľ id day s=some (GH s id day):=by
 unfold Ľ BP GH;rw[IM,À,WW,À]
 cases I0 day<;>rfl
def RK (b:Ď) (s:List (Int×ÿ)) (i:Nat) (l:MJ):Int :=
 if !l5 l.2.1 0 20000 then 1 else if !inP l.2.2 0 1048576 then 1 else if mY s l.1 l.2.1.1 != 0 then mY s l.1 l.2.1.1 else
 if (b.2.2.2.1.take i).any (fun x=>x.1==l.1&&(decide (x.2.1.1≤l.2.1.2)&&decide (l.2.1.1≤x.2.1.2))) then 9 else
 if b.2.2.1.any (fun u=>u.1==l.1&&inP u.2 l.2.1.1 l.2.1.2) then 9 else 0
def VJ {b:Ď} (hn:b.2.2.2.1.length≤1000) (hu:b.2.2.1.length≤1000) (s:List (Int×ÿ)) {i:Nat} {l:MJ} (hl:b.2.2.2.1[i]?=some l):Υ b s i=some (RK b s i l):=by
 unfold Υ vy RK;have hi:i<b.2.2.2.1.length:=(List.getElem?_eq_some_iff.1 hl).1;rw[È hl,Ed,À,Κ,À,WW,À]
 cases l5 l.2.1 0 20000 with
 |false=>rfl
 |true =>
 cases inP l.2.2 0 1048576 with
 |false=>rfl
 |true =>
 cases hm:(mY s l.1 l.2.1.1 != 0) with
 |true =>
  have:ine (mY s l.1 l.2.1.1) 0=true:=hm;simp[this]
 |false =>
 have hm':ine (mY s l.1 l.2.1.1) 0=false:=hm
 have hg:((ile (0:Int) (i:Int))&&(ile (i:Int) (ñ b.2.2.2.1)))=true:=by simp[ile,ñ]; omega
 simp only[dw,é,hm',cQ,if_false];rw[Ć hg,cP]
 have inner:∀(k:Int→Option Int),Ë (fun(v:Int) kk=>Θ b.2.2.1 (Ú b.2.2.1) l.1 l.2.1.1 l.2.1.2 v (fun u=>kk u) (fun z=>ifb (ige z 0) (k 9) (k 0)) (fun _=>k 0)) (0:Int)=if b.2.2.1.any (fun u=>u.1==l.1&&inP u.2 l.2.1.1 l.2.1.2) then k 9 else k 0:=by
  intro k;refine Ň b.2.2.1 _ (fun z=>ifb (ige z 0) (k 9) (k 0)) (k 9) (k 0) (fun j=>?_) (fun j a hj ha kn=>?_) (fun kn=>?_)
  ·have:ige (j:Int) 0=true:=by simp[ige]
   rw[Ù this]
  ·try dsimp only
   unfold Θ;rw[Ó hj,È ha,Κ,À,Í hj (by omega)]
   cases h1:(a.1==l.1) with
   |false =>
    have:ieq a.1 l.1=false:=h1;simp[this]
   |true =>
    have:ieq a.1 l.1=true:=h1;rw[this]
    cases inP a.2 l.2.1.1 l.2.1.2<;>simp
  ·try dsimp only
   unfold Θ;rw[ß]
 rw[inner];refine dV (Ň (b.2.2.2.1.take i) (fun x=>x.1==l.1&&(decide (x.2.1.1≤l.2.1.2)&&decide (l.2.1.1≤x.2.1.2))) (fun z=>ifb (ige z 0) (some 9) (if b.2.2.1.any (fun u=>u.1==l.1&&inP u.2 l.2.1.1 l.2.1.2) then some 9 else some 0)) (some 9) (if b.2.2.1.any (fun u=>u.1==l.1&&inP u.2 l.2.1.1 l.2.1.2) then some 9 else some 0) (fun j=>?_) (fun j a hj ha kn=>?_) (fun kn=>?_)) ?_
 ·have:ige (j:Int) 0=true:=by simp[ige]
  rw[Ù this]
 ·try dsimp only
  unfold jX
  have hj':j≤1000:=by rw[cT] at hj; omega
  rw[Ó hj,È ha,Í hj (by rw[cT]; omega)]
  cases h1:(a.1==l.1) with
  |false =>
   have:ieq a.1 l.1=false:=h1;simp[this]
  |true =>
   have:ieq a.1 l.1=true:=h1;rw[this]
   cases h2:decide (a.2.1.1≤l.2.1.2)<;>cases h3:decide (l.2.1.1≤a.2.1.2)<;>simp[ile,h2,h3,Č]<;>simp_all
 ·try dsimp only
  unfold jX;rw[ß]
 ·cases List.any (b.2.2.2.1.take i) _<;>cases b.2.2.1.any _<;>rfl
def V8 {l:List Int} (hn:l.length≤1000000) (x:Int):gZ l x=some (match l.findIdx? (·==x) with|some j=>(j:Int)|none=>-1):=by
 unfold gZ mn;refine Eq.trans (jF l (·==x) some (some (-1)) (fun i a hi ha kn=>?_) (fun kn=>?_)) ?_
 ·try dsimp only
  unfold ι;rw[Ó hi,È ha,Í hi (by omega),Č]
  by_cases h:x=a
  ·subst h; simp[ieq]
  ·have h2:¬a=x:=fun e=>h e.symm;simp[ieq,h,h2]
 ·try dsimp only
  unfold ι;rw[ß]
 ·cases l.findIdx? (·==x)<;>rfl
def Ś {l:List Int} (hn:l.length≤1000000) (x:Int):á l x=some (l.contains x):=by
 unfold á jz;rw[V8 hn,À];congr 1
 cases h:l.findIdx? (·==x) with
 |none =>
  have:l.contains x=false:=by
   rw[dR];intro hc;have:=dA.1 h x (by simpa using hc);simp at this
  rw[this]; rfl
 |some j =>
  obtain⟨hj,hp,_⟩:=dJ.1 h
  have:l.contains x=true:=by
   have h2:l[j]=x:=by simpa using hp
   rw[←h2]; simp
  rw[this];simp[ige]
def þ (a b:List Int):List Int:=a.filter fun x=>!b.contains x
def yi {a b:List Int} (ha:a.length≤1000000) (hb:b.length≤1000000):Τ a b=some (þ a b):=by
 unfold Τ Ro;rw[Ø (by omega),Am.iff_true]
 have second:∀z:Nat,z<a.length→þ (a.take z) b=a.take z→b.contains (a[z]?.getD 0)=true →
  Ë (fun(v13:(Val (.pair tI (.pair tI (.slice tI))))) kk17=>kd b v13.1 v13.2.1 v13.2.2 (fun u14 u15 u16=>kk17 (u14,u15,u16)) (fun z12=>ç ((ile (0:Int) z12.1)&&(ile z12.1 (ñ z12.2))) (ç ((ile (0:Int) z12.1)&&(ile z12.1 (ñ (List.take (Int.toNat z12.1) z12.2++List.replicate (List.length z12.2-(Int.toNat z12.1)) (0:Int)++List.drop ((Int.toNat z12.1)+(List.length z12.2-(Int.toNat z12.1))) z12.2)))) (some (List.take (Int.toNat z12.1) (List.drop 0 (List.take (Int.toNat z12.1) z12.2++List.replicate (List.length z12.2-(Int.toNat z12.1)) (0:Int)++List.drop ((Int.toNat z12.1)+(List.length z12.2-(Int.toNat z12.1))) z12.2))))))) ((z:Int),((z:Int)+1),a)=some (þ a b):=by
  intro z hz hp hc
  refine Ě (fun x:Int×Int×List Int=>∃i j:Nat,x.1=i∧x.2.1=j∧i<j∧j≤a.length∧x.2.2.length=a.length∧x.2.2.take i=þ (a.take j) b∧x.2.2.drop j=a.drop j) (fun x=>a.length-x.2.1.toNat) ?_
   ⟨z,z+1,rfl,by simp,by omega,by omega,rfl,?_,rfl⟩
  ·rintro⟨x1,x2,s⟩ ⟨i,j,h1,h2,hij,hja,hl,ht,hd⟩;simp only at h1 h2 hl ht hd;subst h1 h2;rcases cV j a.length with hj|hj
   ·refine .inr ?_
    have hsj:s[j]?=some a[j]:=by
     have h3:(s.drop j)[0]?=(a.drop j)[0]?:=by rw[hd]
     rw[d8,d8] at h3;simpa[cw hj] using h3
    have hjs:j<s.length:=by omega
    have hta:þ (a.take (j+1)) b=þ (a.take j) b++if b.contains a[j] then[] else[a[j]]:=by
     rw[take_succ (cw hj),þ,þ,eN];congr 1
     cases h:b.contains a[j] with
     |true=>simp only[d9,h,dw,cQ,if_false,fm,if_true]
     |false=>simp only[d9,h,ff,cQ,if_false,fm,if_true]
    cases h:b.contains a[j] with
    |true =>
     refine⟨(i,(j:Int)+1,s),⟨i,j+1,rfl,by simp,by omega,by omega,hl,?_,?_⟩,by simp; omega,fun kn=>?_⟩
     ·rw[hta,h]; simpa using ht
     ·have:=congrArg (List.drop 1) hd;simpa[fO,Nat.add_comm] using this
     ·try dsimp only
      unfold kd;rw[Ó hjs,ũ hjs,Ę hsj,Ś hb,À,h];simp only[Bool.not_true,é];rw[Í hjs (by omega)]
    |false =>
     have his:i<s.length:=by omega
     refine⟨((i:Int)+1,(j:Int)+1,s.set i a[j]),⟨i+1,j+1,by simp,by simp,by omega,by omega,by simpa using hl,?_,?_⟩,by simp; omega,fun kn=>?_⟩
     ·show List.take (i+1) (s.set i a[j])=_;rw[hta,h,List.take_succ,fK,List.take_set_of_le (cz i),ht];simp[his]
     ·show List.drop (j+1) (s.set i a[j])=_;rw[List.drop_set_of_lt (by omega)];have:=congrArg (List.drop 1) hd;simpa[fO,Nat.add_comm] using this
     ·try dsimp only
      unfold kd;rw[Ó hjs,ũ hjs,Ę hsj,Ś hb,À,h];simp only[Bool.not_false,oH];rw[ũ his,Ę (List.getElem?_eq_getElem his),Í his (by omega),Í hjs (by omega),Int.toNat_natCast]
   ·refine .inl fun kn=>?_
    have hje:j=s.length:=by omega
    try dsimp only
    unfold kd;rw[hje,ß];dsimp only
    have g1:((ile (0:Int) (i:Int))&&(ile (i:Int) (ñ s)))=true:=by simp[ile,ñ]; omega
    rw[Ć g1]
    have g2:((ile (0:Int) (i:Int))&&(ile (i:Int) (ñ (List.take (Int.toNat (i:Int)) s++List.replicate (List.length s-(Int.toNat (i:Int))) (0:Int)++List.drop ((Int.toNat (i:Int))+(List.length s-(Int.toNat (i:Int)))) s))))=true:=by
     simp[ile,ñ]; omega
    rw[Ć g2,cP,List.drop_zero,cJ,ft (by simp; omega),List.take_take,Nat.min_self,ht];rw[dT (by omega)]
  ·show List.take z a=þ (a.take (z+1)) b;have hz':a[z]?=some a[z]:=cw hz;rw[take_succ hz',þ,eN];rw[hz'] at hc;simp only[gK] at hc
   have:List.filter (fun x=>!b.contains x) [a[z]]=[]:=by simp only[d9,hc,dw,cQ,if_false,fm]
   rw[this,cW];exact hp.symm
 refine dV (jF a (fun x=>b.contains x) (fun z4=>ifb (ieq z4 (-1:Int)) (some a) (ck (z4+(1:Int)) fun n5=>Ë (fun(v13:(Val (.pair tI (.pair tI (.slice tI))))) kk17=>kd b v13.1 v13.2.1 v13.2.2 (fun u14 u15 u16=>kk17 (u14,u15,u16)) (fun z12=>ç ((ile (0:Int) z12.1)&&(ile z12.1 (ñ z12.2))) (ç ((ile (0:Int) z12.1)&&(ile z12.1 (ñ (List.take (Int.toNat z12.1) z12.2++List.replicate (List.length z12.2-(Int.toNat z12.1)) (0:Int)++List.drop ((Int.toNat z12.1)+(List.length z12.2-(Int.toNat z12.1))) z12.2)))) (some (List.take (Int.toNat z12.1) (List.drop 0 (List.take (Int.toNat z12.1) z12.2++List.replicate (List.length z12.2-(Int.toNat z12.1)) (0:Int)++List.drop ((Int.toNat z12.1)+(List.length z12.2-(Int.toNat z12.1))) z12.2))))))) (z4,n5,a))) (some a) (fun i x hi hx kn=>?_) (fun kn=>?_)) ?_
 ·try dsimp only
  unfold vv;rw[Ó hi,ũ hi,Ę hx,Ś hb,À,Í hi (by omega),Č]
 ·try dsimp only
  unfold vv;rw[ß]
 ·cases h:a.findIdx? (fun x=>b.contains x) with
  |none =>
   have:þ a b=a:=by
    rw[þ,gy];intro x hx;have:=dA.1 h x hx;simpa using this
   rw[this]
  |some z =>
   obtain⟨hz,hc,hlt⟩:=dJ.1 h
   have h1:ieq (z:Int) (-1)=false:=by simp[ieq]
   try dsimp only
   rw[Î h1,Í hz (by omega)];refine second z hz ?_ ?_
   ·rw[þ,gy];intro x hx;obtain⟨j,hj,rfl⟩:=cM.1 hx;rw[cT] at hj;rw[eQ];have:=hlt j (by omega);simpa using this
   ·rw[cw hz]; exact hc
def Hz (l:List Int) (i:Nat) (a:Int):Option Bool:=if !inP a 1 1099511627776 then some false else if ur (fun x=>x) l i a then some false else none
def wU (l:List Int):Bool:=match Ņ (Hz l) 0 l with|some _=>false|none=>decide (l.length≤6)
def Ec {l:List Int} (hn:l.length≤1000000):mG l=some (wU l):=by
 unfold mG FZ;refine Eq.trans (mA l (Hz l) some (some (decide (l.length≤6))) (fun i a hi ha kn=>?_) (fun kn=>?_)) ?_
 ·try dsimp only
  unfold oG;rw[Ó hi,È ha,Κ,À];unfold Hz
  cases inP a 1 1099511627776 with
  |false=>rfl
  |true =>
   simp only[dw,é,cQ,if_false];rcases fY i with h0|h0
   ·subst h0
    have:igt ((0:Nat):Int) 0=false:=by simp[igt]
    rw[Î this,Í hi (by omega)];simp[ur]
   ·obtain⟨q,hq⟩:=Tr hi h0
    have h1:igt (i:Int) 0=true:=by simp[igt]; omega
    rw[Ù h1,aeg h0 (by omega),Vo h0 hq];simp only[ur,h0,decide_true,Bool.true_and,hq,Option.any_some];unfold ile
    cases h2:decide (a≤q) with
    |true=>rfl
    |false =>
     rw[é,Í hi (by omega)];rfl
 ·try dsimp only
  unfold oG;rw[ß,Ñ];simp[ile];omega
 ·have hb:∀x,Ņ (Hz l) 0 l=some x→x=false:=by
   have:∀(m:List Int) (j:Nat) (x:Bool),Ņ (Hz l) j m=some x→x=false:=by
    intro m
    induction m with
    |nil=>intro j x h; cases h
    |cons a m ih =>
     intro j x h;unfold Ņ at h
     cases hp:Hz l j a with
     |none=>rw[hp] at h; exact ih _ _ h
     |some y =>
      rw[hp] at h;cases h;unfold Hz at hp
      split at hp
      ·cases hp; rfl
      ·split at hp
       ·cases hp; rfl
       ·cases hp
   exact this l 0
  unfold wU
  cases h:Ņ (Hz l) 0 l with
  |none=>rfl
  |some x=>rw[hb x h]
def Jn (l:List Int):wU l=true↔(∀x∈l,1≤x∧x≤1099511627776)∧l.Pairwise (·<·)∧l.length≤6:=by
 have h0:Ņ (Hz l) 0 l=none↔(∀x∈l,1≤x∧x≤1099511627776)∧l.Pairwise (·<·):=by
  rw[iZ,←I2 (fun x=>x) l];constructor
  ·intro h
   have h1:∀(j:Nat) (a:Int),l[j]?=some a→inP a 1 1099511627776=true∧ur (fun x=>x) l j a=false:=by
    intro j a ha;have:=h j a ha;rw[Nat.zero_add] at this;unfold Hz at this
    split at this
    ·cases this
    ·split at this
     ·cases this
     ·rename_i h1 h2;exact⟨by simpa using h1,by simpa using h2⟩
   refine⟨fun x hx=>?_,fun i a ha=>(h1 i a ha).2⟩;obtain⟨j,hj,rfl⟩:=cM.1 hx;have:=(h1 j l[j] (cw hj)).1;simpa[inP] using this
  ·rintro⟨h1,h2⟩ j a ha;rw[di];have h3:=h1 a (cG ha)
   have:inP a 1 1099511627776=true:=by simpa[inP] using h3
   simp[Hz,this,h2 j a ha]
 unfold wU
 cases h:Ņ (Hz l) 0 l with
 |none =>
  obtain⟨h1,h2⟩:=h0.1 h;simp only[decide_eq_true_eq];exact⟨fun h3=>⟨h1,h2,h3⟩,fun h3=>h3.2.2⟩
 |some x =>
  constructor
  ·intro h2; cases h2
  ·rintro⟨h1,h2,h3⟩;rw[h0.2 ⟨h1,h2⟩] at h; cases h
def MC {a b:List Int} (ha:a.length≤1000000) (hb:b.length≤1000000):ĥ [a,b]=some (a++b):=by
 have hk:∀n:Nat,n≤4000000→∀(f:Int→Option (List Int)),ck (n:Int) f=f n:=fun n h f=>Ô (by omega) (by omega) f
 have second:Ë (fun(v9:(Val (.pair tI (.slice tI)))) kk12=>Ğ [a,b] (Ú [a,b]) v9.1 v9.2 (fun u10 u11=>kk12 (u10,u11)) (fun z8=>some z8)) ((0:Int),([]:List Int))=some (a++b):=by
  refine ĩ [a,b] (fun i=>([a,b].take i).flatten) (some (a++b)) (f:=fun(v9:(Val (.pair tI (.slice tI)))) kk12=>Ğ [a,b] (Ú [a,b]) v9.1 v9.2 (fun u10 u11=>kk12 (u10,u11)) (fun z8=>some z8)) rfl (fun i x hi hx kn=>?_) (fun kn=>?_)
  ·try dsimp only
   unfold Ğ;rw[Ó hi,È hx,Í hi (by simp),take_succ hx,List.flatten_append]
   have:î ((List.take i [a,b]).flatten.length+x.length)=true:=by
    refine Ø ?_
    have h1:x.length≤1000000:=by
     have:=cG hx;simp at this
     rcases this with rfl|rfl<;>assumption
    have h2:(List.take i [a,b]).flatten.length≤2000000:=by
     have:i=0∨i=1:=by simp at hi; omega
     rcases this with rfl|rfl<;>simp<;>omega
    omega
   rw[Ć this];simp
  ·try dsimp only
   unfold Ğ;rw[ß];simp
 unfold ĥ kZ;refine Ě (fun x:Int×Int=>∃i:Nat,i≤2∧x=((([a,b].take i).flatten.length:Int),(i:Int))) (fun x=>2-x.2.toNat) ?_ ⟨0,by omega,rfl⟩;rintro x ⟨i,hi,rfl⟩;rcases Nat.lt_or_ge i 2 with h2|h2
 ·refine .inr ⟨((([a,b].take (i+1)).flatten.length:Int),(i:Int)+1),⟨i+1,h2,by simp⟩,by simp; omega,fun kn=>?_⟩;have hi':i<[a,b].length:=h2;obtain⟨x,hx⟩:∃x,[a,b][i]?=some x:=⟨_,cw hi'⟩
  have hxl:x.length≤1000000:=by
   have:=cG hx;simp at this
   rcases this with rfl|rfl<;>assumption
  have h3:(List.take i [a,b]).flatten.length≤2000000:=by
   have:i=0∨i=1:=by omega
   rcases this with rfl|rfl<;>simp<;>omega
  try dsimp only
  unfold Ο;rw[Ó hi',È hx,Ñ]
  have e1:(((List.take i [a,b]).flatten.length:Int)+(x.length:Int))=((List.take i [a,b]).flatten.length+x.length:Nat):=by omega
  rw[e1,hk _ (by omega)]
  have:ilt ((((List.take i [a,b]).flatten.length+x.length:Nat)):Int) 0=false:=by simp[ilt]; omega
  rw[Î this,Í hi' (by simp),take_succ hx];simp
 ·refine .inl fun kn=>?_
  obtain rfl:i=2:=by omega
  try dsimp only
  unfold Ο;rw[show((2:Nat):Int)=(([a,b].length:Nat):Int) from rfl,ß]
  have e1:((List.take 2 [a,b]).flatten.length:Int)=((a.length+b.length:Nat):Int):=by simp
  have e2:ilt (((a.length+b.length:Nat)):Int) 0=false:=by simp[ilt]; omega
  rw[e1];dsimp only;rw[Î e2,Int.sub_zero,hk _ (by omega)];rcases Nat.eq_zero_or_pos (a.length+b.length) with h0|h0
  ·have:igt (((a.length+b.length:Nat)):Int) 0=false:=by simp[igt]; omega
   rw[Î this];exact second
  ·have:igt (((a.length+b.length:Nat)):Int) 0=true:=by simp[igt]; omega
   rw[Ù this]
   have:((ilt (0:Int) (((a.length+b.length:Nat)):Int))&&(î (Int.toNat (((a.length+b.length:Nat)):Int))))=true:=by
    rw[cP,Ø (by omega)];simp[ilt]; omega
   rw[Ć this]
   have:ile 0 (ñ (List.replicate (Int.toNat (((a.length+b.length:Nat)):Int)) (0:Int)))=true:=by simp[ile]
   rw[Ć this];exact second
def lK (b:Ď) (id day:Int):Option MJ:=b.2.2.2.1.find? fun l=>l.1==id&&inP day l.2.1.1 l.2.1.2
def R0 {α:Type} (p:α→Bool):∀l:List α,l.find? p=(match l.findIdx? p with|some j=>l[j]?|none=>none)
 |[]=>rfl
 |a::l=>by
  rw[fj,List.findIdx?_cons]
  cases h:p a with
  |true=>simp
  |false =>
   simp only[cQ,if_false];rw[R0 p l]
   cases l.findIdx? p<;>simp
def aeL {b:Ď} (hn:b.2.2.2.1.length≤1000) (id day:Int):vM b id day=some (match lK b id day with|some l=>(l,true)|none=>((0,(0,0),0),false)):=by
 unfold vM Ry;refine Eq.trans (jF b.2.2.2.1 (fun l=>l.1==id&&inP day l.2.1.1 l.2.1.2) (fun z5=>ifb (ilt z5 (0:Int)) (some (((0:Int),((0:Int),(0:Int)),(0:Int)),false)) (đ b.2.2.2.1 z5 fun e6=>some (e6,true))) (some ((0,(0,0),0),false)) (fun i a hi ha kn=>?_) (fun kn=>?_)) ?_
 ·try dsimp only
  unfold vz;rw[Ó hi,È ha,Κ,À,Í hi (by omega)]
  cases h1:(a.1==id) with
  |false =>
   have:ieq a.1 id=false:=h1;simp[this]
  |true =>
   have:ieq a.1 id=true:=h1;rw[this]
   cases inP day a.2.1.1 a.2.1.2<;>simp
 ·try dsimp only
  unfold vz;rw[ß]
 ·unfold lK;rw[R0]
  cases h:b.2.2.2.1.findIdx? (fun l=>l.1==id&&inP day l.2.1.1 l.2.1.2) with
  |none=>rfl
  |some j =>
   obtain⟨hj,_,_⟩:=dJ.1 h
   have:ilt (j:Int) 0=false:=by simp[ilt]
   try dsimp only
   rw[Î this,È (cw hj),cw hj]
section
variable {ρ:Type}
def abQ {α:Type} {all l:List α} (k:Option ρ) (h:l <+: all):yg all l k=k:=by unfold yg; rw[if_pos h]
def RX {α β:Type} {f:List α→β→(List α→Option ρ)→Option ρ} {g:β→List α} {al:List α}:∀{xs:List β} {v:List α} {K:List α→Option ρ},
 (∀v y kn,y∈xs→(v++g y) <+: al→f v y kn=kn (v++g y))→(v++xs.flatMap g) <+: al→ym f xs v K=K (v++xs.flatMap g)
 |[],v,K,_,_=>by simp[ym]
 |x::xs,v,K,h,hp=>by
  rw[dz,←cJ] at hp ⊢;rw[ym,h v x _ (by simp) ((dH _ _).trans hp),RX (fun v y kn hy=>h v y kn (dh _ hy)) hp]
end
def abX {rec:List Int→Option (List Int)} {l xs:List Int} (h:yX l=some xs):jy xs rec l some=some (xs,l):=by
 unfold yX at h
 have hk:î l.length=true:=by cases e:î l.length with|true=>rfl|false=>rw[e] at h; cases h
 rw[Ć hk] at h;cases h
 have hk2:l.length≤4294967296:=by simpa[î] using hk
 unfold jy
 refine ĩ l (fun i=>l.take i) _ rfl (fun i a hi ha kn=>?_) (fun kn=>?_)<;>(try dsimp only)<;>unfold iu
 ·rw[Ó hi,È ha,←take_succ ha,abQ _ (List.take_prefix _ _),Ô (by omega) (by omega)]
 ·rw[ß,fE]
def Yx:∀(n:Nat) {l y:List Int},l.length=n→y∈IF n l→y.length=n
 |0,l,y,_,h=>by simp[IF] at h; simp[h]
 |n+1,l,y,hl,h=>by
  have hne:¬l.length=0:=by omega
  simp only[IF,if_neg hne,dg,f7,dj] at h;obtain⟨i,hi,z,hz,rfl⟩:=h;have:=Yx n (l:=l.take i++l.drop (i+1)) (by simp; omega) hz;simp[this]
def SK:∀{l:List (Int×List Int)} {y:List (List Int)},y∈jK l→y.length=l.length
 |[],y,h=>by simp[jK] at h; simp[h]
 |m::r,y,h=>by
  simp only[jK,dg,dj] at h;obtain⟨x,_,z,hz,rfl⟩:=h;simp[SK hz]
def ahH {α:Type} {n i:Nat} (h:i<n) (g:Nat→List α):((List.range i).flatMap g++g i) <+: (List.range n).flatMap g:=by
 have:List.range n=List.range i++i::(List.range (n-i-1)).map (i+1+·):=by
  rw[show n=(i+1)+(n-i-1) by omega,List.range_add,fH,cJ];simp[show i+1+(n-i-1)-i-1=n-i-1 by omega]
 rw[this,fB,dz,←cJ];exact dH _ _
def Wf (n:Nat) (l:List Int):Option (List (List Int)):=ç (decide (l.length<n)&&decide (l.length≤9)) (some (IF l.length l))
def acx {n:Nat} {l:List Int} (h:l.length<n) (h9:l.length≤9):Wf n l=some (IF l.length l):=by unfold Wf; rw[Ć (by simp[h,h9])]
def YX {n:Nat} {l:List Int} {xs:List (List Int)} (h:Wf n l=some xs):l.length<n∧l.length≤9∧xs=IF l.length l:=by
 unfold Wf at h
 cases hb:(decide (l.length<n)&&decide (l.length≤9)) with
 |false=>rw[hb] at h; cases h
 |true =>
  rw[hb] at h; cases h;simp only[cA,decide_eq_true_eq] at hb;exact⟨hb.1,hb.2,rfl⟩
def acK {n:Nat} {l:List Int} {xs:List (List Int)} (h:Wf (n+1) l=some xs):xn xs (Wf n) l some=some (xs,l):=by
 obtain⟨h1,h2,rfl⟩:=YX h;unfold xn
 by_cases h0:l.length=0
 ·obtain rfl:l=[]:=List.eq_nil_of_length_eq_zero h0;rw[show ifb (ieq (Ú ([]:List Int)) (0:Int))=fun(x y:Option (List (List Int)×List Int))=>x from by funext x y; simp[Ñ,ieq,Č]];exact abQ _ (by simp[IF])
 ·obtain⟨k,hk⟩:∃k,l.length=k+1:=⟨l.length-1,by omega⟩
  have hF:IF l.length l=(List.range l.length).flatMap fun i=>(IF k (l.take i++l.drop (i+1))).map (l.getD i 0::·):=by
   rw[hk];show(if l.length=0 then[[]] else _)=_;rw[if_neg h0,hk]
  have hne:ieq (Ú l) (0:Int)=false:=by rw[Ñ]; exact decide_eq_false (by omega)
  rw[Î hne];rw[hF]
  refine ĩ l (fun i=>(List.range i).flatMap fun i=>(IF k (l.take i++l.drop (i+1))).map (l.getD i 0::·)) _ rfl (fun i a hi ha kn=>?_) (fun kn=>?_)<;>(try dsimp only)<;>unfold pv
  ·have hr:(l.take i++l.drop (i+1)).length=k:=by simp; omega
   rw[Ó hi,È ha,Ć (by simp[ile,ñ]; omega),Ô (by omega) (by omega),Ć (by simp[ile,ñ]; omega),cP,show Int.toNat ((i:Int)+1)=i+1 by omega,
    MC (by simp; omega) (by simp; omega),À,acx (by omega) (by omega),À,hr]
   have hga:l.getD i 0=a:=by rw[dZ,ha]; rfl
   have hm:∀xs:List (List Int),xs.map (l.getD i 0::·)=xs.flatMap fun y=>[a::y]:=fun xs=>by
    rw[hga]; induction xs with|nil=>rfl|cons x xs ih=>simp[ih]
   have hp:=ahH hi fun i=>(IF k (l.take i++l.drop (i+1))).map (l.getD i 0::·)
   have hs:(List.range (i+1)).flatMap (fun i=>(IF k (l.take i++l.drop (i+1))).map (l.getD i 0::·))=(List.range i).flatMap (fun i=>(IF k (l.take i++l.drop (i+1))).map (l.getD i 0::·))++(IF k (l.take i++l.drop (i+1))).flatMap fun y=>[a::y]:=by
    rw[fH,fB,dz,List.flatMap_nil,cW,hm]
   rw[hs];rw[hm] at hp;refine(RX (g:=fun y=>[a::y]) (fun v y kn hy hv=>?_) hp).trans ?_
   ·unfold pu;have:=Yx k hr hy;rw[Ć (Ø (by simp; omega))];exact abQ _ hv
   ·dsimp only;rw[Ô (by omega) (by omega)]
  ·rw[ß]
def Wg (n:Nat) (l:List (Int×List Int)):Option (List (List (List Int))):=ç (decide (l.length<n)&&(decide (l.length≤9)&&l.all fun m=>decide (m.2.length≤9))) (some (jK l))
def YY {n:Nat} {l:List (Int×List Int)} {xs:List (List (List Int))} (h:Wg n l=some xs):l.length<n∧l.length≤9∧(∀m∈l,m.2.length≤9)∧xs=jK l:=by
 unfold Wg at h
 cases hb:(decide (l.length<n)&&(decide (l.length≤9)&&l.all fun m=>decide (m.2.length≤9))) with
 |false=>rw[hb] at h; cases h
 |true =>
  rw[hb] at h; cases h;simp only[cA,decide_eq_true_eq,cX] at hb;exact⟨hb.1,hb.2.1,hb.2.2,rfl⟩
def acy {n:Nat} {l:List (Int×List Int)} (h:l.length<n) (h9:l.length≤9) (ha:∀m∈l,m.2.length≤9):Wg n l=some (jK l):=by
 unfold Wg; rw[Ć (by simp only[Bool.and_eq_true,decide_eq_true_eq,List.all_eq_true]; exact⟨h,h9,ha⟩)]
def Yd {n:Nat} {l:List (Int×List Int)} {xs:List (List (List Int))} (h:Wg (n+1) l=some xs):sc xs (Wg n) l some=some (xs,l):=by
 obtain⟨h1,h2,h3,rfl⟩:=YY h;unfold sc
 cases l with
 |nil =>
  rw[show ifb (ieq (Ú ([]:List (Int×List Int))) (0:Int))=fun(x y:Option (List (List (List Int))×List (Int×List Int)))=>x from by funext x y; simp[Ñ,ieq,Č]];exact abQ _ (by simp[jK])
 |cons e r =>
  have hne:ieq (Ú (e::r)) (0:Int)=false:=by rw[Ñ]; exact decide_eq_false (by simp only[cN]; omega)
  rw[Î hne];have he:=h3 e (by simp);rw[show đ (e::r) (0:Int)=fun f=>f e from by funext f; rfl];dsimp only;rw[show yY e.2=some (IF e.2.length e.2) from by unfold yY; rw[Ć (by simp[he])],À];have hF:jK (e::r)=(IF e.2.length e.2).flatMap fun x=>(jK r).map (x::·):=rfl
  have hm:∀(x:List Int),(jK r).map (x::·)=(jK r).flatMap fun y=>[x::y]:=fun x=>by
   generalize jK r=ys
   induction ys with|nil=>rfl|cons y ys ih=>simp[ih]
  refine(RX (g:=fun x=>(jK r).map (x::·)) (al:=jK (e::r)) (fun v x kn hx hv=>?_) (by rw[dL,←hF]; exact dE)).trans ?_
  ·unfold mj;simp only[List.length_cons] at h1 h2;rw[Ć (by simp[ile,ñ]; omega),show List.drop 1 (e::r)=r from rfl,acy (by omega) (by omega) (fun m hm=>h3 m (by simp[hm])),À];rw[hm] at hv ⊢;refine RX (g:=fun y=>[x::y]) (fun v y kn hy hv=>?_) hv;unfold mi;have:=SK hy;rw[Ć (Ø (by simp; omega))];exact abQ _ hv
  ·rw[dL,←hF]
def aaF {l:List Int} {xs:List (List Int)} (h:yY l=some xs):Wf 10 l=some xs:=by
 unfold yY at h
 cases hb:decide (l.length≤9) with
 |false=>rw[hb] at h; cases h
 |true =>
  rw[hb] at h; cases h;have:=of_decide_eq_true hb;exact acx (by omega) this
def VG {l:List (Int×List Int)} {xs:List (List (List Int))} (h:mC l=some xs):Wg 10 l=some xs:=by
 unfold mC at h
 cases hb:(decide (l.length≤9)&&l.all fun m=>decide (m.2.length≤9)) with
 |false=>rw[hb] at h; cases h
 |true =>
  rw[hb] at h; cases h;simp only[cA,decide_eq_true_eq,cX] at hb;exact acy (by omega) hb.1 hb.2
end Go.Proofs.ZzM
end
