/- lemmas -/
import Derived.Test.YthpkdfdacidamaaGreatAmF
import Derived.Test.YthpkdfdacidamaaGreatMdTA
set_option linter.all false
set_option linter.unusedSectionVars false
set_option linter.unusedVariables false
set_option linter.unusedSimpArgs false
noncomputable section
namespace Go.Am
section
variable {ρ:Type}
def Ŭ {α β:Type} (e:Nat→α→Option β):Nat→List α→Option β
 |_,[]=>none
 |i,a::t=>match e i a with
  |some b=>some b
  |none=>Ŭ e (i+1) t
def wD {α β:Type} (l:List α) (e:Nat→α→Option β) (k0:β→Option ρ) (k1:Option ρ) {f:Int→(Int→Option ρ)→Option ρ}
 (h:∀(i:Nat) (a:α),i<l.length→l[i]?=some a→∀kn,f i kn=match e i a with|some b=>k0 b|none=>kn ((i:Int)+1))
 (hn:∀kn,f l.length kn=k1):Í f 0=match Ŭ e 0 l with|some b=>k0 b|none=>k1:=by
 refine adK l (fun i t=>match Ŭ e i t with|some b=>k0 b|none=>k1) hn fun i a t hd hi ha kn hk=>?_;rw[h i a hi ha kn,hk,Ŭ]
 cases e i a<;>rfl
def ĵ {α σ:Type} (l:List α) (g:Nat→σ) (r:Option ρ) {f:Int×σ→(Int×σ→Option ρ)→Option ρ} {s0:σ} (h0:g 0=s0)
 (h:∀(i:Nat) (a:α),i<l.length→l[i]?=some a→∀kn,f (i,g i) kn=kn ((i:Int)+1,g (i+1)))
 (hn:∀kn,f (l.length,g l.length) kn=r):Í f (0,s0)=r:=by
 subst h0
 have hs:∀s,(s=g 0)→Í f (0,s)=r:=fun s e=>KC l (fun _ _ _=>r) (fun i s=>s=g i) (fun s hs kn=>by rw[hs]; exact hn kn) (fun i a t s hd hi ha hI kn hk=>by
  rw[hI,h i a hi ha kn]; exact hk _ rfl) e
 exact hs _ rfl
def Wd {α σ:Type} (l:List α) (g:Nat→σ) (r:Option ρ) {f:Int×σ→(Int×σ→Option ρ)→Option ρ} {s0:σ} (P:Nat→Prop) (h0:g 0=s0) (hP:P 0)
 (h:∀(i:Nat) (a:α),i<l.length→l[i]?=some a→P i→∀kn,f (i,g i) kn=r∨(P (i+1)∧f (i,g i) kn=kn ((i:Int)+1,g (i+1))))
 (hn:P l.length→∀kn,f (l.length,g l.length) kn=r):Í f (0,s0)=r:=by
 subst h0
 have hs:∀s,(s=g 0∧P 0)→Í f (0,s)=r:=fun s e=>KC l (fun _ _ _=>r) (fun i s=>s=g i∧P i) (fun s hs kn=>by rw[hs.1]; exact hn hs.2 kn) (fun i a t s hd hi ha hI kn hk=>by
  rcases h i a hi ha hI.2 kn with h1|⟨h1,h2⟩
  ·rw[hI.1,h1]
  ·rw[hI.1,h2]; exact hk _ ⟨rfl,h1⟩) e
 exact hs _ ⟨rfl,hP⟩
def Î {i n:Nat} (h:i<n) (hn:n≤1000000000) (f:Int→Option ρ):ck ((i:Int)+1) f=f ((i:Int)+1):=Ð (by omega) (by omega) f
def ahC {i n:Nat} (h:i<n) (x y:Option ρ):ifb (ilt (i:Int) (abw n)) x y=x:=by simp[Ķ,Lv,h]
def â (n:Nat) (x y:Option ρ):ifb (ilt (n:Int) (abw n)) x y=y:=by simp[Ķ,Lv]
def Õ {α:Type} {l:List α} {i:Nat} (h:i<l.length) (x y:Option ρ):ifb (ilt (i:Int) (à l)) x y=x:=ahC h x y
def NB {α:Type} (p:α→Bool):∀(i:Nat) (l:List α),Ŭ (fun i a=>bif p a then some (i:Int) else none) i l=(l.findIdx? p).map fun j=>((i+j:Nat):Int)
 |_,[]=>rfl
 |i,a::t=>by
  simp only[Ŭ,List.findIdx?_cons]
  cases hp:p a with
  |true=>simp
  |false =>
   simp only[cond_false,cX,if_false];rw[NB p (i+1) t]
   cases t.findIdx? p with
   |none=>rfl
   |some j=>simp only[dK]; congr 1; omega
def Jw {α β:Type} (e:α→Option β):∀(i:Nat) (l:List α),Ŭ (fun _ a=>e a) i l=l.findSome? e
 |_,[]=>rfl
 |i,a::t=>by
  simp only[Ŭ,f6]
  cases e a with
  |some b=>rfl
  |none=>exact Jw e (i+1) t
def oP {α β:Type} {e:Nat→α→Option β}:∀{i:Nat} {l:List α},Ŭ e i l=none↔∀j a,l[j]?=some a→e (i+j) a=none
 |_,[]=>by simp[Ŭ]
 |i,a::t=>by
  simp only[Ŭ];constructor
  ·intro h j b hb
   cases he:e i a with
   |some c=>rw[he] at h; cases h
   |none =>
    rw[he] at h
    cases j with
    |zero=>simp at hb; subst hb; simpa using he
    |succ j=>have:=(oP.1 h) j b (by simpa using hb); rw[←this]; congr 1; omega
  ·intro h;have h0:=h 0 a (by simp);simp only[fL] at h0;rw[h0]
   exact oP.2 fun j b hb=>by have:=h (j+1) b (by simpa using hb); rw[←this]; congr 1; omega
def take_succ {α:Type} {l:List α} {i:Nat} {a:α} (h:l[i]?=some a):l.take (i+1)=l.take i++[a]:=by rw[List.take_succ,h]; rfl
end
end Go.Am
end

noncomputable section
namespace Go.Proofs.ZzM
open Go Go.Am
section
variable {ρ:Type}
def đ {τ:Type} {f:τ→(τ→Option ρ)→Option ρ} {r:Option ρ} (I:τ→Prop) (μ:τ→Nat)
 (h:∀x,I x→(∀kn,f x kn=r)∨∃y,I y∧μ y<μ x∧∀kn,f x kn=kn y) {x:τ} (hx:I x):Í f x=r :=
 AG (F:=fun _=>r) I μ (fun x hx kn hk=>by
  rcases h x hx with h1|⟨y,h1,h2,h3⟩
  ·exact h1 kn
  ·rw[h3,hk y h1 h2]) hx
def j7 {α:Type} (l:List α) (p:α→Bool) (k0:Int→Option ρ) (k1:Option ρ) {f:Int→(Int→Option ρ)→Option ρ}
 (h:∀(i:Nat) (a:α),i<l.length→l[i]?=some a→∀kn,f i kn=if p a then k0 i else kn ((i:Int)+1))
 (hn:∀kn,f l.length kn=k1):Í f 0=match l.findIdx? p with|some j=>k0 j|none=>k1:=by
 rw[wD l (fun i a=>bif p a then some (i:Int) else none) k0 k1 (fun i a hi ha kn=>by rw[h i a hi ha kn]; cases p a<;>rfl) hn,NB]
 cases l.findIdx? p with
 |none=>rfl
 |some j=>simp
def ks {α:Type} (l:List α) (p:α→Bool) (k0:Int→Option ρ) (K k1:Option ρ) {f:Int→(Int→Option ρ)→Option ρ} (hK:∀j:Nat,k0 j=K)
 (h:∀(i:Nat) (a:α),i<l.length→l[i]?=some a→∀kn,f i kn=if p a then k0 i else kn ((i:Int)+1))
 (hn:∀kn,f l.length kn=k1):Í f 0=if l.any p then K else k1:=by
 rw[j7 l p k0 k1 h hn]
 cases hf:l.findIdx? p with
 |none =>
  have:l.any p=false:=by
   rw[eF];intro x hx;have:=dE.1 hf x hx;simp[this]
  simp[this]
 |some j =>
  have:l.any p=true:=by
   have:=dg.1 hf;obtain⟨hj,hp,_⟩:=this;exact du.2 ⟨_,eN hj,hp⟩
  simp[this,hK]
end
abbrev ï:Type:=Int×Int×Int×(Int×Int)×((Int×Int)×Int)
abbrev IX:Type:=Int×((Int×Int)×Int)
abbrev Cmp:Type:=Int×Int×List Int×List Int×Int×(Int×(Int×Int))
abbrev ò:Type:=(Int×Int)×List ï×List (Int×Int)×List IX×List Cmp×List (Int×Int)
abbrev Sys:Type:=Int×List (Int×Int×Int)
abbrev Maker:Type:=ò×List (Int×Int)×Sys×List (Int×Int)
section
variable {ρ:Type}
def Ü {b:Bool} (h:b=true) (x y:Option ρ):ifb b x y=x:=by rw[h]; rfl
def Ò {b:Bool} (h:b=false) (x y:Option ρ):ifb b x y=y:=by rw[h]; rfl
end
def I64 (n:Int):Prop:=-9223372036854775808≤n∧n≤9223372036854775807
def inP (n lo hi:Int):Bool:=decide (lo≤n)&&decide (n≤hi)
def GW (n:Int):Bool:=inP n 0 20000
def km (s:Int×Int) (lo hi:Int):Bool:=decide (lo≤s.1)&&(decide (s.1≤s.2)&&decide (s.2≤hi))
def ĺ (n lo hi:Int):Ģ n lo hi=some (inP n lo hi):=by
 unfold Ģ H4 inP ile
 cases decide (lo≤n)<;>rfl
def BG (n:Int):nM n=some (GW n):=by
 unfold nM M6;rw[ĺ]; rfl
def sj (s:Int×Int) (lo hi:Int):gZ s lo hi=some (km s lo hi):=by
 unfold gZ Ib km ile
 cases decide (lo≤s.1)<;>cases decide (s.1≤s.2)<;>rfl
def Rb {n:Int} (h:I64 n):uu n=some (n.natAbs:Int):=by
 obtain⟨h1,h2⟩:=h;unfold uu Sw
 by_cases hn:n<0
 ·have:ilt n 0=true:=by simpa using hn
  rw[Ü this];congr 1;simp only[IntKind.wrap,IntKind.bits,IntKind.signed];simp;omega
 ·have:ilt n 0=false:=by simpa using hn
  rw[Ò this];congr 1;simp only[IntKind.wrap,IntKind.bits,IntKind.signed];simp;omega
def ahF (a b:Nat):NG a b=some ((Nat.gcd a b:Nat):Int):=by
 unfold NG Yl;refine đ (fun x:Int×Int=>∃c d:Nat,x=((c:Int),(d:Int))∧Nat.gcd c d=Nat.gcd a b) (fun x=>x.2.toNat) ?_ ⟨a,b,rfl,rfl⟩;rintro x ⟨c,d,rfl,hg⟩
 cases d with
 |zero =>
  refine .inl fun kn=>?_;rw[Nat.gcd_zero_right] at hg;unfold Bu;simp[hg,ine]
 |succ d =>
  refine .inr ⟨(((d+1:Nat):Int),((c % (d+1):Nat):Int)),⟨d+1,c % (d+1),rfl,?_⟩,?_,fun kn=>?_⟩
  ·rw[←hg,Nat.gcd_comm c (d+1),Nat.gcd_rec (d+1) c,Nat.gcd_comm]
  ·have:=Nat.mod_lt c (gJ d);simp only[cT];omega
  ·unfold Bu
   have h1:ine ((d+1:Nat):Int) 0=true:=by simp[ine]; omega
   have h2:A5 ((d+1:Nat):Int) 0=false:=by simp[A5]; omega
   simp only[h1,Ü Ò h2];congr 1
def On (r:Int×Int):Bool :=
 decide (1≤r.2)&&(decide (r.2≤2147483647)&&(decide ((r.1.natAbs:Int)≤2147483647)&&decide (Nat.gcd r.1.natAbs r.2.natAbs=1)))
def T1 {r:Int×Int} (h:I64 r.1):wO r=some (On r):=by
 unfold wO MN On
 by_cases h1:1≤r.2
 ·by_cases h2:r.2≤2147483647
  ·have h3:I64 r.2:=⟨by omega,by omega⟩
   have e1:ige r.2 1=true:=by simp[ige,h1]
   have e2:ile r.2 2147483647=true:=by simp[ile,h2]
   rw[Ü e1,Ü e2,Rb h,À]
   by_cases h4:(r.1.natAbs:Int)≤2147483647
   ·have e4:ile (r.1.natAbs:Int) 2147483647=true:=by simp[ile,h4]
    rw[Ü e4,À,Rb h3,À,ahF,À];congr 1;rw[gH];simp only[ieq,beq_iff_eq,h1,h2,h4,decide_true,dJ,decide_eq_true_eq];omega
   ·have e4:ile (r.1.natAbs:Int) 2147483647=false:=by simp[ile]; omega
    rw[Ò e4];simp[h4]
  ·have e1:ige r.2 1=true:=by simp[ige,h1]
   have e2:ile r.2 2147483647=false:=by simp[ile]; omega
   rw[Ü e1,Ò e2];simp[h2]
 ·have e1:ige r.2 1=false:=by simp[ige]; omega
  rw[Ò e1];simp[h1]
def Db (g:ï):Bool :=
 On g.2.2.2.2.1&&inP g.2.2.2.2.1.1 (-1000) 1000&&decide (g.2.2.2.2.1.2≤100)&&inP g.1 1 1099511627776&&GW g.2.1&&inP g.2.2.1 1 1125899906842624&&km g.2.2.2.1 (-1073741824) 1073741824&&inP g.2.2.2.2.2 0 1048576
def abM {g:ï} (h:I64 g.2.2.2.2.1.1):ym g=some (Db g):=by
 unfold ym D4 Db;rw[T1 h,ĺ,ĺ,BG,ĺ,sj,ĺ];generalize On g.2.2.2.2.1=x1;generalize inP g.2.2.2.2.1.1 (-1000) 1000=x2;generalize inP g.1 1 1099511627776=x3;generalize GW g.2.1=x4;generalize inP g.2.2.1 1 1125899906842624=x5;generalize km g.2.2.2.1 (-1073741824) 1073741824=x6;generalize inP g.2.2.2.2.2 0 1048576=x7;unfold ile;generalize decide (g.2.2.2.2.1.2≤100)=x8
 cases x1<;>cases x2<;>cases x3<;>cases x4<;>cases x5<;>cases x6<;>cases x8<;>rfl
section
variable {ρ:Type}
def Gx {α:Type} {l:List α} {i:Nat} {a:α} (h0:0<i) (h:l[i-1]?=some a) (f:α→Option ρ):ą l ((i:Int)-1) f=f a:=by
 have:((i:Int)-1)=((i-1:Nat):Int):=by omega
 rw[this,È h]
def aeV {i:Nat} (h:0<i) (hn:i≤1000000000) (f:Int→Option ρ):ck ((i:Int)-1) f=f ((i:Int)-1):=Ð (by omega) (by omega) f
def Ε {i n:Nat} (h:i<n) (x:Option ρ):è ((ile 0 (i:Int))&&(ilt (i:Int) (n:Int))) x=x:=by
 have:((ile 0 (i:Int))&&(ilt (i:Int) (n:Int)))=true:=by simp[ile,ilt,h]
 rw[this,Am.iff_true]
def ġ {α:Type} {l:List α} {i:Nat} {a:α} (h:l[i]?=some a) (f:α→Option ρ):Ŝ l (Int.toNat (i:Int)) f=f a:=by
 rw[cT]; exact i9 h f
end
def qN {α:Type} (key:α→Int) (l:List α) (i:Nat) (a:α):Bool :=
 decide (0<i)&&(l[i-1]?).any fun q=>decide (key a≤key q)
def EH {α:Type} {l:List α} {i:Nat} (hi:i<l.length) (h0:0<i):∃q,l[i-1]?=some q :=
 ⟨l[i-1],cF (by omega)⟩
def KP {α:Type} (key:α→Int) (l:List α):(∀i a,l[i]?=some a→qN key l i a=false)↔l.Pairwise (fun a b=>key a<key b):=by
 rw[dl];constructor
 ·intro h
  have step:∀i (h1:i+1<l.length),key l[i]<key l[i+1]:=by
   intro i h1;have:=h (i+1) l[i+1] (cF h1);simp only[qN,Nat.add_sub_cancel,gJ,decide_true,dJ,cF (show i<l.length by omega),gG,decide_eq_false_iff_not] at this;omega
  intro i j hi hj hij
  induction j with
  |zero=>omega
  |succ j ih =>
   have:=step j hj;rcases df i j with hlt|hge
   ·have:=ih (by omega) hlt; omega
   ·have:i=j:=by omega
    subst this; assumption
 ·intro h i a ha;obtain⟨hi,rfl⟩:=List.getElem?_eq_some_iff.1 ha;unfold qN
  cases i with
  |zero=>rfl
  |succ i =>
   have:=h i (i+1) (by omega) hi (by omega);simp only[Nat.add_sub_cancel,gJ,decide_true,dJ,cF (show i<l.length by omega),gG,decide_eq_false_iff_not];omega
def AP (l:List ï) (i:Nat) (g:ï):Option Int :=
 if !Db g then some 1 else if qN (fun g=>g.1) l i g then some 6 else none
def nE (b:ò):Int:=(Ŭ (AP b.2.1) 0 b.2.1).getD 0
def Dg {b:ò} (hr:∀g∈b.2.1,I64 g.2.2.2.2.1.1) (hn:b.2.1.length≤1000):δ b=some (nE b):=by
 unfold δ sc;refine Eq.trans (wD b.2.1 (AP b.2.1) some (some 0) (fun i a hi ha kn=>?_) (fun kn=>?_)) ?_
 ·try dsimp only
  unfold jK;rw[Õ hi,È ha,abM (hr a (List.mem_of_getElem? ha)),À];unfold AP
  cases hg:Db a with
  |false=>simp
  |true =>
   simp only[dD,ë,cX,if_false];rcases fo i with h0|h0
   ·subst h0
    have:igt ((0:Nat):Int) 0=false:=by simp[igt]
    rw[Ò this,Î hi (by omega)];simp[qN]
   ·obtain⟨q,hq⟩:=EH hi h0
    have h1:igt (i:Int) 0=true:=by simp[igt]; omega
    rw[Ü h1,aeV h0 (by omega),Gx h0 hq];simp only[qN,h0,decide_true,Bool.true_and,hq,Option.any_some];unfold ile
    cases h2:decide (a.1≤q.1) with
    |true=>simp
    |false =>
     rw[ë,Î hi (by omega)];simp
 ·try dsimp only
  unfold jK;rw[â]
 ·unfold nE
  cases Ŭ (AP b.2.1) 0 b.2.1<;>rfl
def Ur (l:List ï):List (Int×ï):=l.foldl (fun m g=>Lw (k:=tI) (v:=Ù) g.1 g m) []
def ĕ (b:ò):List (Int×ï):=Ur b.2.1
def vx {b:ò} (hn:b.2.1.length≤1000):Ł b=some (ĕ b):=by
 unfold Ł D0;refine ĵ b.2.1 (fun i=>Ur (b.2.1.take i)) _ rfl (fun i a hi ha kn=>?_) (fun kn=>?_)
 ·try dsimp only
  unfold oX;rw[Õ hi,È ha,Î hi (by omega),take_succ ha];simp only[Ur,List.foldl_append,List.foldl_cons,List.foldl_nil]
 ·try dsimp only
  unfold oX;rw[â,List.take_length];rfl
def U0 (x y:Int) (g:ï):∀m:List (Int×ï),nS (k:=tI) (v:=Ù) x (Lw (k:=tI) (v:=Ù) y g m)=if x=y then some g else nS (k:=tI) (v:=Ù) x m
 |[]=>by
  unfold Lw nS Υ nS
  by_cases h:x=y<;>simp[h]
 |e::m=>by
  unfold Lw
  by_cases h:y=e.1
  ·have:Υ tI y e.1=true:=by simp[Υ,h]
   rw[this]
   try dsimp only
   unfold nS Υ
   by_cases h2:x=y
   ·simp[h2]
   ·have:¬x=e.1:=fun h3=>h2 (h3.trans h.symm);simp[h2,this]
  ·have:Υ tI y e.1=false:=by simp[Υ,h]
   rw[this]
   try dsimp only
   have ih:=U0 x y g m;unfold nS
   by_cases h2:x=e.1
   ·have:Υ tI x e.1=true:=by simp[Υ,h2]
    rw[this];have:¬x=y:=fun h3=>h (h3.symm.trans h2);simp[this]
   ·have:Υ tI x e.1=false:=by simp[Υ,h2]
    rw[this];exact ih
def ç (b:ò) (id:Int):Option ï:=b.2.1.find? fun g=>g.1==id
def XZ (x:Int) (l:List ï):nS (k:=tI) (v:=Ù) x (Ur l)=l.reverse.find? fun g=>g.1==x:=by
 unfold Ur;rw[←List.foldr_reverse]
 induction l.reverse with
 |nil=>rfl
 |cons g t ih =>
  rw[fO,U0,ih,fw]
  by_cases h:x=g.1
  ·simp[h]
  ·have:(g.1==x)=false:=by simp; exact fun h2=>h h2.symm
   simp[h,this]
def Jy {l:List ï} (h:l.Pairwise fun a b=>a.1<b.1) (x:Int):l.reverse.find? (fun g=>g.1==x)=l.find? fun g=>g.1==x:=by
 induction l with
 |nil=>rfl
 |cons g t ih =>
  rw[dA] at h;rw[List.reverse_cons,List.find?_append,ih h.2,fw]
  by_cases hx:g.1=x
  ·have:t.find? (fun g=>g.1==x)=none:=dU.2 fun y hy=>by have:g.1<y.1:=h.1 y hy; simp; omega
   rw[this]; simp[hx]
  ·have:(g.1==x)=false:=by simp[hx]
   simp[this]
def ov {b:ò} (h:b.2.1.Pairwise fun a b=>a.1<b.1) (x:Int):nS (k:=tI) (v:=Ù) x (ĕ b)=ç b x:=by
 unfold ĕ ç;rw[XZ,Jy h]
def ow (s:List (Int×ï)) (id day:Int):Int :=
 match nS (k:=tI) (v:=Ù) id s with
 |some g=>if day<g.2.1 then 4 else 0
 |none=>5
def X0 (s:List (Int×ï)) (id day:Int):jx s id day=some (ow s id day):=by
 unfold jx vh ow
 cases h:nS (k:=tI) (v:=Ù) id s with
 |none=>simp only[KD,h]
 |some g =>
  simp only[KD,h];rw[Ķ]
  by_cases h2:day<g.2.1<;>simp[h2]
def Hg (s:List (Int×ï)) (id day:Int):Int:=if !GW day then 1 else ow s id day
def EL (s:List (Int×ï)) (id day:Int):ŗ id day s=some (Hg s id day):=by
 unfold ŗ D3 Hg;rw[BG,À,X0,À]
 cases GW day<;>rfl
def Tg (b:ò) (s:List (Int×ï)) (i:Nat) (l:IX):Int :=
 if !km l.2.1 0 20000 then 1 else if !inP l.2.2 0 1048576 then 1 else if ow s l.1 l.2.1.1 != 0 then ow s l.1 l.2.1.1 else
 if (b.2.2.2.1.take i).any (fun x=>x.1==l.1&&(decide (x.2.1.1≤l.2.1.2)&&decide (l.2.1.1≤x.2.1.2))) then 9 else
 if b.2.2.1.any (fun u=>u.1==l.1&&inP u.2 l.2.1.1 l.2.1.2) then 9 else 0
def JC {b:ò} (hn:b.2.2.2.1.length≤1000) (hu:b.2.2.1.length≤1000) (s:List (Int×ï)) {i:Nat} {l:IX} (hl:b.2.2.2.1[i]?=some l):ir b s i=some (Tg b s i l):=by
 unfold ir ye Tg;have hi:i<b.2.2.2.1.length:=(List.getElem?_eq_some_iff.1 hl).1;rw[È hl,sj,À,ĺ,À,X0,À]
 cases km l.2.1 0 20000 with
 |false=>rfl
 |true =>
 cases inP l.2.2 0 1048576 with
 |false=>rfl
 |true =>
 cases hm:(ow s l.1 l.2.1.1 != 0) with
 |true =>
  have:ine (ow s l.1 l.2.1.1) 0=true:=hm;simp[this]
 |false =>
 have hm':ine (ow s l.1 l.2.1.1) 0=false:=hm
 have hg:((ile (0:Int) (i:Int))&&(ile (i:Int) (ú b.2.2.2.1)))=true:=by simp[ile,ú]; omega
 simp only[dD,ë,hm',cX,if_false];rw[ÿ hg,cT]
 have inner:∀(k:Int→Option Int),Í (fun(v:Int) kk=>ω b.2.2.1 (à b.2.2.1) l.1 l.2.1.1 l.2.1.2 v (fun u=>kk u) (fun z=>ifb (ige z 0) (k 9) (k 0)) (fun _=>k 0)) (0:Int)=if b.2.2.1.any (fun u=>u.1==l.1&&inP u.2 l.2.1.1 l.2.1.2) then k 9 else k 0:=by
  intro k;refine ks b.2.2.1 _ (fun z=>ifb (ige z 0) (k 9) (k 0)) (k 9) (k 0) (fun j=>?_) (fun j a hj ha kn=>?_) (fun kn=>?_)
  ·have:ige (j:Int) 0=true:=by simp[ige]
   rw[Ü this]
  ·try dsimp only
   unfold ω;rw[Õ hj,È ha,ĺ,À,Î hj (by omega)]
   cases h1:(a.1==l.1) with
   |false =>
    have:ieq a.1 l.1=false:=h1;simp[this]
   |true =>
    have:ieq a.1 l.1=true:=h1;rw[this]
    cases inP a.2 l.2.1.1 l.2.1.2<;>simp
  ·try dsimp only
   unfold ω;rw[â]
 rw[inner];refine eW (ks (b.2.2.2.1.take i) (fun x=>x.1==l.1&&(decide (x.2.1.1≤l.2.1.2)&&decide (l.2.1.1≤x.2.1.2))) (fun z=>ifb (ige z 0) (some 9) (if b.2.2.1.any (fun u=>u.1==l.1&&inP u.2 l.2.1.1 l.2.1.2) then some 9 else some 0)) (some 9) (if b.2.2.1.any (fun u=>u.1==l.1&&inP u.2 l.2.1.1 l.2.1.2) then some 9 else some 0) (fun j=>?_) (fun j a hj ha kn=>?_) (fun kn=>?_)) ?_
 ·have:ige (j:Int) 0=true:=by simp[ige]
  rw[Ü this]
 ·try dsimp only
  unfold mc
  have hj':j≤1000:=by rw[cZ] at hj; omega
  rw[Õ hj,È ha,Î hj (by rw[cZ]; omega)]
  cases h1:(a.1==l.1) with
  |false =>
   have:ieq a.1 l.1=false:=h1;simp[this]
  |true =>
   have:ieq a.1 l.1=true:=h1;rw[this]
   cases h2:decide (a.2.1.1≤l.2.1.2)<;>cases h3:decide (l.2.1.1≤a.2.1.2)<;>simp[ile,h2,h3,Ķ]<;>simp_all
 ·try dsimp only
  unfold mc;rw[â]
 ·cases List.any (b.2.2.2.1.take i) _<;>cases b.2.2.1.any _<;>rfl
def Xd {l:List Int} (hn:l.length≤1000000) (x:Int):iW l x=some (match l.findIdx? (·==x) with|some j=>(j:Int)|none=>-1):=by
 unfold iW oE;refine Eq.trans (j7 l (·==x) some (some (-1)) (fun i a hi ha kn=>?_) (fun kn=>?_)) ?_
 ·try dsimp only
  unfold iF;rw[Õ hi,È ha,Î hi (by omega),Ķ]
  by_cases h:x=a
  ·subst h; simp[ieq]
  ·have h2:¬a=x:=fun e=>h e.symm;simp[ieq,h,h2]
 ·try dsimp only
  unfold iF;rw[â]
 ·cases l.findIdx? (·==x)<;>rfl
def ů {l:List Int} (hn:l.length≤1000000) (x:Int):æ l x=some (l.contains x):=by
 unfold æ lr;rw[Xd hn,À];congr 1
 cases h:l.findIdx? (·==x) with
 |none =>
  have:l.contains x=false:=by
   rw[eR];intro hc;have:=dE.1 h x (by simpa using hc);simp at this
  rw[this]; rfl
 |some j =>
  obtain⟨hj,hp,_⟩:=dg.1 h
  have:l.contains x=true:=by
   have h2:l[j]=x:=by simpa using hp
   rw[←h2]; simp
  rw[this];simp[ige]
def ù (a b:List Int):List Int:=a.filter fun x=>!b.contains x
def AK {a b:List Int} (ha:a.length≤1000000) (hb:b.length≤1000000):iq a b=some (ù a b):=by
 unfold iq SP;rw[Ú (by omega),Am.iff_true]
 have second:∀z:Nat,z<a.length→ù (a.take z) b=a.take z→b.contains (a[z]?.getD 0)=true →
  Í (fun(v13:(Val (.pair tI (.pair tI (.slice tI))))) kk17=>mu b v13.1 v13.2.1 v13.2.2 (fun u14 u15 u16=>kk17 (u14,u15,u16)) (fun z12=>è ((ile (0:Int) z12.1)&&(ile z12.1 (ú z12.2))) (è ((ile (0:Int) z12.1)&&(ile z12.1 (ú (List.take (Int.toNat z12.1) z12.2++List.replicate (List.length z12.2-(Int.toNat z12.1)) (0:Int)++List.drop ((Int.toNat z12.1)+(List.length z12.2-(Int.toNat z12.1))) z12.2)))) (some (List.take (Int.toNat z12.1) (List.drop 0 (List.take (Int.toNat z12.1) z12.2++List.replicate (List.length z12.2-(Int.toNat z12.1)) (0:Int)++List.drop ((Int.toNat z12.1)+(List.length z12.2-(Int.toNat z12.1))) z12.2))))))) ((z:Int),((z:Int)+1),a)=some (ù a b):=by
  intro z hz hp hc
  refine đ (fun x:Int×Int×List Int=>∃i j:Nat,x.1=i∧x.2.1=j∧i<j∧j≤a.length∧x.2.2.length=a.length∧x.2.2.take i=ù (a.take j) b∧x.2.2.drop j=a.drop j) (fun x=>a.length-x.2.1.toNat) ?_
   ⟨z,z+1,rfl,by simp,by omega,by omega,rfl,?_,rfl⟩
  ·rintro⟨x1,x2,s⟩ ⟨i,j,h1,h2,hij,hja,hl,ht,hd⟩;simp only at h1 h2 hl ht hd;subst h1 h2;rcases df j a.length with hj|hj
   ·refine .inr ?_
    have hsj:s[j]?=some a[j]:=by
     have h3:(s.drop j)[0]?=(a.drop j)[0]?:=by rw[hd]
     rw[eo,eo] at h3;simpa[cF hj] using h3
    have hjs:j<s.length:=by omega
    have hta:ù (a.take (j+1)) b=ù (a.take j) b++if b.contains a[j] then[] else[a[j]]:=by
     rw[take_succ (cF hj),ù,ù,eM];congr 1
     cases h:b.contains a[j] with
     |true=>simp only[eA,h,dD,cX,if_false,fA,if_true]
     |false=>simp only[eA,h,eQ,cX,if_false,fA,if_true]
    cases h:b.contains a[j] with
    |true =>
     refine⟨(i,(j:Int)+1,s),⟨i,j+1,rfl,by simp,by omega,by omega,hl,?_,?_⟩,by simp; omega,fun kn=>?_⟩
     ·rw[hta,h]; simpa using ht
     ·have:=congrArg (List.drop 1) hd;simpa[fX,Nat.add_comm] using this
     ·try dsimp only
      unfold mu;rw[Õ hjs,Ε hjs,ġ hsj,ů hb,À,h];simp only[Bool.not_true,ë];rw[Î hjs (by omega)]
    |false =>
     have his:i<s.length:=by omega
     refine⟨((i:Int)+1,(j:Int)+1,s.set i a[j]),⟨i+1,j+1,by simp,by simp,by omega,by omega,by simpa using hl,?_,?_⟩,by simp; omega,fun kn=>?_⟩
     ·show List.take (i+1) (s.set i a[j])=_;rw[hta,h,List.take_succ,fR,List.take_set_of_le (cG i),ht];simp[his]
     ·show List.drop (j+1) (s.set i a[j])=_;rw[List.drop_set_of_lt (by omega)];have:=congrArg (List.drop 1) hd;simpa[fX,Nat.add_comm] using this
     ·try dsimp only
      unfold mu;rw[Õ hjs,Ε hjs,ġ hsj,ů hb,À,h];simp only[Bool.not_false,md];rw[Ε his,ġ (List.getElem?_eq_getElem his),Î his (by omega),Î hjs (by omega),Int.toNat_natCast]
   ·refine .inl fun kn=>?_
    have hje:j=s.length:=by omega
    try dsimp only
    unfold mu;rw[hje,â];dsimp only
    have g1:((ile (0:Int) (i:Int))&&(ile (i:Int) (ú s)))=true:=by simp[ile,ú]; omega
    rw[ÿ g1]
    have g2:((ile (0:Int) (i:Int))&&(ile (i:Int) (ú (List.take (Int.toNat (i:Int)) s++List.replicate (List.length s-(Int.toNat (i:Int))) (0:Int)++List.drop ((Int.toNat (i:Int))+(List.length s-(Int.toNat (i:Int)))) s))))=true:=by
     simp[ile,ú]; omega
    rw[ÿ g2,cT,gO,cR,fD (by simp; omega),List.take_take,Nat.min_self,ht];rw[dS (by omega)]
  ·show List.take z a=ù (a.take (z+1)) b;have hz':a[z]?=some a[z]:=cF hz;rw[take_succ hz',ù,eM];rw[hz'] at hc;simp only[gS] at hc
   have:List.filter (fun x=>!b.contains x) [a[z]]=[]:=by simp only[eA,hc,dD,cX,if_false,fA]
   rw[this,dh];exact hp.symm
 refine eW (j7 a (fun x=>b.contains x) (fun z4=>ifb (ieq z4 (-1:Int)) (some a) (ck (z4+(1:Int)) fun n5=>Í (fun(v13:(Val (.pair tI (.pair tI (.slice tI))))) kk17=>mu b v13.1 v13.2.1 v13.2.2 (fun u14 u15 u16=>kk17 (u14,u15,u16)) (fun z12=>è ((ile (0:Int) z12.1)&&(ile z12.1 (ú z12.2))) (è ((ile (0:Int) z12.1)&&(ile z12.1 (ú (List.take (Int.toNat z12.1) z12.2++List.replicate (List.length z12.2-(Int.toNat z12.1)) (0:Int)++List.drop ((Int.toNat z12.1)+(List.length z12.2-(Int.toNat z12.1))) z12.2)))) (some (List.take (Int.toNat z12.1) (List.drop 0 (List.take (Int.toNat z12.1) z12.2++List.replicate (List.length z12.2-(Int.toNat z12.1)) (0:Int)++List.drop ((Int.toNat z12.1)+(List.length z12.2-(Int.toNat z12.1))) z12.2))))))) (z4,n5,a))) (some a) (fun i x hi hx kn=>?_) (fun kn=>?_)) ?_
 ·try dsimp only
  unfold yb;rw[Õ hi,Ε hi,ġ hx,ů hb,À,Î hi (by omega),Ķ]
 ·try dsimp only
  unfold yb;rw[â]
 ·cases h:a.findIdx? (fun x=>b.contains x) with
  |none =>
   have:ù a b=a:=by
    rw[ù,gF];intro x hx;have:=dE.1 h x hx;simpa using this
   rw[this]
  |some z =>
   obtain⟨hz,hc,hlt⟩:=dg.1 h
   have h1:ieq (z:Int) (-1)=false:=by simp[ieq]
   try dsimp only
   rw[Ò h1,Î hz (by omega)];refine second z hz ?_ ?_
   ·rw[ù,gF];intro x hx;obtain⟨j,hj,rfl⟩:=cS.1 hx;rw[cZ] at hj;rw[fg];have:=hlt j (by omega);simpa using this
   ·rw[cF hz]; exact hc
def rt (l:List Int) (i:Nat) (a:Int):Option Bool:=if !inP a 1 1099511627776 then some false else if qN (fun x=>x) l i a then some false else none
def qr (l:List Int):Bool:=match Ŭ (rt l) 0 l with|some _=>false|none=>decide (l.length≤6)
def AM {l:List Int} (hn:l.length≤1000000):kE l=some (qr l):=by
 unfold kE Bx;refine Eq.trans (wD l (rt l) some (some (decide (l.length≤6))) (fun i a hi ha kn=>?_) (fun kn=>?_)) ?_
 ·try dsimp only
  unfold jg;rw[Õ hi,È ha,ĺ,À];unfold rt
  cases inP a 1 1099511627776 with
  |false=>rfl
  |true =>
   simp only[dD,ë,cX,if_false];rcases fo i with h0|h0
   ·subst h0
    have:igt ((0:Nat):Int) 0=false:=by simp[igt]
    rw[Ò this,Î hi (by omega)];simp[qN]
   ·obtain⟨q,hq⟩:=EH hi h0
    have h1:igt (i:Int) 0=true:=by simp[igt]; omega
    rw[Ü h1,aeV h0 (by omega),Gx h0 hq];simp only[qN,h0,decide_true,Bool.true_and,hq,Option.any_some];unfold ile
    cases h2:decide (a≤q) with
    |true=>rfl
    |false =>
     rw[ë,Î hi (by omega)];rfl
 ·try dsimp only
  unfold jg;rw[â,Ý];simp[ile];omega
 ·have hb:∀x,Ŭ (rt l) 0 l=some x→x=false:=by
   have:∀(m:List Int) (j:Nat) (x:Bool),Ŭ (rt l) j m=some x→x=false:=by
    intro m
    induction m with
    |nil=>intro j x h; cases h
    |cons a m ih =>
     intro j x h;unfold Ŭ at h
     cases hp:rt l j a with
     |none=>rw[hp] at h; exact ih _ _ h
     |some y =>
      rw[hp] at h;cases h;unfold rt at hp
      split at hp
      ·cases hp; rfl
      ·split at hp
       ·cases hp; rfl
       ·cases hp
   exact this l 0
  unfold qr
  cases h:Ŭ (rt l) 0 l with
  |none=>rfl
  |some x=>rw[hb x h]
def rr (l:List Int):qr l=true↔(∀x∈l,1≤x∧x≤1099511627776)∧l.Pairwise (·<·)∧l.length≤6:=by
 have h0:Ŭ (rt l) 0 l=none↔(∀x∈l,1≤x∧x≤1099511627776)∧l.Pairwise (·<·):=by
  rw[oP,←KP (fun x=>x) l];constructor
  ·intro h
   have h1:∀(j:Nat) (a:Int),l[j]?=some a→inP a 1 1099511627776=true∧qN (fun x=>x) l j a=false:=by
    intro j a ha;have:=h j a ha;rw[Nat.zero_add] at this;unfold rt at this
    split at this
    ·cases this
    ·split at this
     ·cases this
     ·rename_i h1 h2;exact⟨by simpa using h1,by simpa using h2⟩
   refine⟨fun x hx=>?_,fun i a ha=>(h1 i a ha).2⟩;obtain⟨j,hj,rfl⟩:=cS.1 hx;have:=(h1 j l[j] (cF hj)).1;simpa[inP] using this
  ·rintro⟨h1,h2⟩ j a ha;rw[dC];have h3:=h1 a (cO ha)
   have:inP a 1 1099511627776=true:=by simpa[inP] using h3
   simp[rt,this,h2 j a ha]
 unfold qr
 cases h:Ŭ (rt l) 0 l with
 |none =>
  obtain⟨h1,h2⟩:=h0.1 h;simp only[decide_eq_true_eq];exact⟨fun h3=>⟨h1,h2,h3⟩,fun h3=>h3.2.2⟩
 |some x =>
  constructor
  ·intro h2; cases h2
  ·rintro⟨h1,h2,h3⟩;rw[h0.2 ⟨h1,h2⟩] at h; cases h
def Og {a b:List Int} (ha:a.length≤1000000) (hb:b.length≤1000000):ĸ [a,b]=some (a++b):=by
 have hk:∀n:Nat,n≤4000000→∀(f:Int→Option (List Int)),ck (n:Int) f=f n:=fun n h f=>Ð (by omega) (by omega) f
 have second:Í (fun(v9:(Val (.pair tI (.slice tI)))) kk12=>Ĩ [a,b] (à [a,b]) v9.1 v9.2 (fun u10 u11=>kk12 (u10,u11)) (fun z8=>some z8)) ((0:Int),([]:List Int))=some (a++b):=by
  refine ĵ [a,b] (fun i=>([a,b].take i).flatten) (some (a++b)) (f:=fun(v9:(Val (.pair tI (.slice tI)))) kk12=>Ĩ [a,b] (à [a,b]) v9.1 v9.2 (fun u10 u11=>kk12 (u10,u11)) (fun z8=>some z8)) rfl (fun i x hi hx kn=>?_) (fun kn=>?_)
  ·try dsimp only
   unfold Ĩ;rw[Õ hi,È hx,Î hi (by simp),take_succ hx,List.flatten_append]
   have:ñ ((List.take i [a,b]).flatten.length+x.length)=true:=by
    refine Ú ?_
    have h1:x.length≤1000000:=by
     have:=cO hx;simp at this
     rcases this with rfl|rfl<;>assumption
    have h2:(List.take i [a,b]).flatten.length≤2000000:=by
     have:i=0∨i=1:=by simp at hi; omega
     rcases this with rfl|rfl<;>simp<;>omega
    omega
   rw[ÿ this];simp
  ·try dsimp only
   unfold Ĩ;rw[â];simp
 unfold ĸ ny;refine đ (fun x:Int×Int=>∃i:Nat,i≤2∧x=((([a,b].take i).flatten.length:Int),(i:Int))) (fun x=>2-x.2.toNat) ?_ ⟨0,by omega,rfl⟩;rintro x ⟨i,hi,rfl⟩;rcases Nat.lt_or_ge i 2 with h2|h2
 ·refine .inr ⟨((([a,b].take (i+1)).flatten.length:Int),(i:Int)+1),⟨i+1,h2,by simp⟩,by simp; omega,fun kn=>?_⟩;have hi':i<[a,b].length:=h2;obtain⟨x,hx⟩:∃x,[a,b][i]?=some x:=⟨_,cF hi'⟩
  have hxl:x.length≤1000000:=by
   have:=cO hx;simp at this
   rcases this with rfl|rfl<;>assumption
  have h3:(List.take i [a,b]).flatten.length≤2000000:=by
   have:i=0∨i=1:=by omega
   rcases this with rfl|rfl<;>simp<;>omega
  try dsimp only
  unfold il;rw[Õ hi',È hx,Ý]
  have e1:(((List.take i [a,b]).flatten.length:Int)+(x.length:Int))=((List.take i [a,b]).flatten.length+x.length:Nat):=by omega
  rw[e1,hk _ (by omega)]
  have:ilt ((((List.take i [a,b]).flatten.length+x.length:Nat)):Int) 0=false:=by simp[ilt]; omega
  rw[Ò this,Î hi' (by simp),take_succ hx];simp
 ·refine .inl fun kn=>?_
  obtain rfl:i=2:=by omega
  try dsimp only
  unfold il;rw[show((2:Nat):Int)=(([a,b].length:Nat):Int) from rfl,â]
  have e1:((List.take 2 [a,b]).flatten.length:Int)=((a.length+b.length:Nat):Int):=by simp
  have e2:ilt (((a.length+b.length:Nat)):Int) 0=false:=by simp[ilt]; omega
  rw[e1];dsimp only;rw[Ò e2,Int.sub_zero,hk _ (by omega)];rcases Nat.eq_zero_or_pos (a.length+b.length) with h0|h0
  ·have:igt (((a.length+b.length:Nat)):Int) 0=false:=by simp[igt]; omega
   rw[Ò this];exact second
  ·have:igt (((a.length+b.length:Nat)):Int) 0=true:=by simp[igt]; omega
   rw[Ü this]
   have:((ilt (0:Int) (((a.length+b.length:Nat)):Int))&&(ñ (Int.toNat (((a.length+b.length:Nat)):Int))))=true:=by
    rw[cT,Ú (by omega)];simp[ilt]; omega
   rw[ÿ this]
   have:ile 0 (ú (List.replicate (Int.toNat (((a.length+b.length:Nat)):Int)) (0:Int)))=true:=by simp[ile]
   rw[ÿ this];exact second
def nY (b:ò) (id day:Int):Option IX:=b.2.2.2.1.find? fun l=>l.1==id&&inP day l.2.1.1 l.2.1.2
def KK {α:Type} (p:α→Bool):∀l:List α,l.find? p=(match l.findIdx? p with|some j=>l[j]?|none=>none)
 |[]=>rfl
 |a::l=>by
  rw[fw,List.findIdx?_cons]
  cases h:p a with
  |true=>simp
  |false =>
   simp only[cX,if_false];rw[KK p l]
   cases l.findIdx? p<;>simp
def afo {b:ò} (hn:b.2.2.2.1.length≤1000) (id day:Int):yn b id day=some (match nY b id day with|some l=>(l,true)|none=>((0,(0,0),0),false)):=by
 unfold yn S6;refine Eq.trans (j7 b.2.2.2.1 (fun l=>l.1==id&&inP day l.2.1.1 l.2.1.2) (fun z5=>ifb (ilt z5 (0:Int)) (some (((0:Int),((0:Int),(0:Int)),(0:Int)),false)) (ą b.2.2.2.1 z5 fun e6=>some (e6,true))) (some ((0,(0,0),0),false)) (fun i a hi ha kn=>?_) (fun kn=>?_)) ?_
 ·try dsimp only
  unfold yf;rw[Õ hi,È ha,ĺ,À,Î hi (by omega)]
  cases h1:(a.1==id) with
  |false =>
   have:ieq a.1 id=false:=h1;simp[this]
  |true =>
   have:ieq a.1 id=true:=h1;rw[this]
   cases inP day a.2.1.1 a.2.1.2<;>simp
 ·try dsimp only
  unfold yf;rw[â]
 ·unfold nY;rw[KK]
  cases h:b.2.2.2.1.findIdx? (fun l=>l.1==id&&inP day l.2.1.1 l.2.1.2) with
  |none=>rfl
  |some j =>
   obtain⟨hj,_,_⟩:=dg.1 h
   have:ilt (j:Int) 0=false:=by simp[ilt]
   try dsimp only
   rw[Ò this,È (cF hj),cF hj]
section
variable {ρ:Type}
def acs {α:Type} {all l:List α} (k:Option ρ) (h:l <+: all):yg all l k=k:=by unfold yg; rw[if_pos h]
def Tw {α β:Type} {f:List α→β→(List α→Option ρ)→Option ρ} {g:β→List α} {al:List α}:∀{xs:List β} {v:List α} {K:List α→Option ρ},
 (∀v y kn,y∈xs→(v++g y) <+: al→f v y kn=kn (v++g y))→(v++xs.flatMap g) <+: al→AQ f xs v K=K (v++xs.flatMap g)
 |[],v,K,_,_=>by simp[AQ]
 |x::xs,v,K,h,hp=>by
  rw[dG,←cR] at hp ⊢;rw[AQ,h v x _ (by simp) ((dO _ _).trans hp),Tw (fun v y kn hy=>h v y kn (di _ hy)) hp]
end
def acz {rec:List Int→Option (List Int)} {l xs:List Int} (h:BC l=some xs):lq xs rec l some=some (xs,l):=by
 unfold BC at h
 have hk:ñ l.length=true:=by cases e:ñ l.length with|true=>rfl|false=>rw[e] at h; cases h
 rw[ÿ hk] at h;cases h
 have hk2:l.length≤4294967296:=by simpa[ñ] using hk
 unfold lq
 refine ĵ l (fun i=>l.take i) _ rfl (fun i a hi ha kn=>?_) (fun kn=>?_)<;>(try dsimp only)<;>unfold jf
 ·rw[Õ hi,È ha,←take_succ ha,acs _ (List.take_prefix _ _),Ð (by omega) (by omega)]
 ·rw[â,fJ]
def Zo:∀(n:Nat) {l y:List Int},l.length=n→y∈Kv n l→y.length=n
 |0,l,y,_,h=>by simp[Kv] at h; simp[h]
 |n+1,l,y,hl,h=>by
  have hne:¬l.length=0:=by omega
  simp only[Kv,if_neg hne,dv,gn,dt] at h;obtain⟨i,hi,z,hz,rfl⟩:=h;have:=Zo n (l:=l.take i++l.drop (i+1)) (by simp; omega) hz;simp[this]
def T3:∀{l:List (Int×List Int)} {y:List (List Int)},y∈lT l→y.length=l.length
 |[],y,h=>by simp[lT] at h; simp[h]
 |m::r,y,h=>by
  simp only[lT,dv,dt] at h;obtain⟨x,_,z,hz,rfl⟩:=h;simp[T3 hz]
def air {α:Type} {n i:Nat} (h:i<n) (g:Nat→List α):((List.range i).flatMap g++g i) <+: (List.range n).flatMap g:=by
 have:List.range n=List.range i++i::(List.range (n-i-1)).map (i+1+·):=by
  rw[show n=(i+1)+(n-i-1) by omega,List.range_add,fN,cR];simp[show i+1+(n-i-1)-i-1=n-i-1 by omega]
 rw[this,fG,dG,←cR];exact dO _ _
def Xk (n:Nat) (l:List Int):Option (List (List Int)):=è (decide (l.length<n)&&decide (l.length≤9)) (some (Kv l.length l))
def ac7 {n:Nat} {l:List Int} (h:l.length<n) (h9:l.length≤9):Xk n l=some (Kv l.length l):=by unfold Xk; rw[ÿ (by simp[h,h9])]
def ZK {n:Nat} {l:List Int} {xs:List (List Int)} (h:Xk n l=some xs):l.length<n∧l.length≤9∧xs=Kv l.length l:=by
 unfold Xk at h
 cases hb:(decide (l.length<n)&&decide (l.length≤9)) with
 |false=>rw[hb] at h; cases h
 |true =>
  rw[hb] at h; cases h;simp only[cH,decide_eq_true_eq] at hb;exact⟨hb.1,hb.2,rfl⟩
def adk {n:Nat} {l:List Int} {xs:List (List Int)} (h:Xk (n+1) l=some xs):zP xs (Xk n) l some=some (xs,l):=by
 obtain⟨h1,h2,rfl⟩:=ZK h;unfold zP
 by_cases h0:l.length=0
 ·obtain rfl:l=[]:=List.eq_nil_of_length_eq_zero h0;rw[show ifb (ieq (à ([]:List Int)) (0:Int))=fun(x y:Option (List (List Int)×List Int))=>x from by funext x y; simp[Ý,ieq,Ķ]];exact acs _ (by simp[Kv])
 ·obtain⟨k,hk⟩:∃k,l.length=k+1:=⟨l.length-1,by omega⟩
  have hF:Kv l.length l=(List.range l.length).flatMap fun i=>(Kv k (l.take i++l.drop (i+1))).map (l.getD i 0::·):=by
   rw[hk];show(if l.length=0 then[[]] else _)=_;rw[if_neg h0,hk]
  have hne:ieq (à l) (0:Int)=false:=by rw[Ý]; exact decide_eq_false (by omega)
  rw[Ò hne];rw[hF]
  refine ĵ l (fun i=>(List.range i).flatMap fun i=>(Kv k (l.take i++l.drop (i+1))).map (l.getD i 0::·)) _ rfl (fun i a hi ha kn=>?_) (fun kn=>?_)<;>(try dsimp only)<;>unfold rK
  ·have hr:(l.take i++l.drop (i+1)).length=k:=by simp; omega
   rw[Õ hi,È ha,ÿ (by simp[ile,ú]; omega),Ð (by omega) (by omega),ÿ (by simp[ile,ú]; omega),cT,show Int.toNat ((i:Int)+1)=i+1 by omega,
    Og (by simp; omega) (by simp; omega),À,ac7 (by omega) (by omega),À,hr]
   have hga:l.getD i 0=a:=by rw[eh,ha]; rfl
   have hm:∀xs:List (List Int),xs.map (l.getD i 0::·)=xs.flatMap fun y=>[a::y]:=fun xs=>by
    rw[hga]; induction xs with|nil=>rfl|cons x xs ih=>simp[ih]
   have hp:=air hi fun i=>(Kv k (l.take i++l.drop (i+1))).map (l.getD i 0::·)
   have hs:(List.range (i+1)).flatMap (fun i=>(Kv k (l.take i++l.drop (i+1))).map (l.getD i 0::·))=(List.range i).flatMap (fun i=>(Kv k (l.take i++l.drop (i+1))).map (l.getD i 0::·))++(Kv k (l.take i++l.drop (i+1))).flatMap fun y=>[a::y]:=by
    rw[fN,fG,dG,List.flatMap_nil,dh,hm]
   rw[hs];rw[hm] at hp;refine(Tw (g:=fun y=>[a::y]) (fun v y kn hy hv=>?_) hp).trans ?_
   ·unfold rJ;have:=Zo k hr hy;rw[ÿ (Ú (by simp; omega))];exact acs _ hv
   ·dsimp only;rw[Ð (by omega) (by omega)]
  ·rw[â]
def Xl (n:Nat) (l:List (Int×List Int)):Option (List (List (List Int))):=è (decide (l.length<n)&&(decide (l.length≤9)&&l.all fun m=>decide (m.2.length≤9))) (some (lT l))
def ZL {n:Nat} {l:List (Int×List Int)} {xs:List (List (List Int))} (h:Xl n l=some xs):l.length<n∧l.length≤9∧(∀m∈l,m.2.length≤9)∧xs=lT l:=by
 unfold Xl at h
 cases hb:(decide (l.length<n)&&(decide (l.length≤9)&&l.all fun m=>decide (m.2.length≤9))) with
 |false=>rw[hb] at h; cases h
 |true =>
  rw[hb] at h; cases h;simp only[cH,decide_eq_true_eq,dj] at hb;exact⟨hb.1,hb.2.1,hb.2.2,rfl⟩
def ac8 {n:Nat} {l:List (Int×List Int)} (h:l.length<n) (h9:l.length≤9) (ha:∀m∈l,m.2.length≤9):Xl n l=some (lT l):=by
 unfold Xl; rw[ÿ (by simp only[Bool.and_eq_true,decide_eq_true_eq,List.all_eq_true]; exact⟨h,h9,ha⟩)]
def Y4 {n:Nat} {l:List (Int×List Int)} {xs:List (List (List Int))} (h:Xl (n+1) l=some xs):uW xs (Xl n) l some=some (xs,l):=by
 obtain⟨h1,h2,h3,rfl⟩:=ZL h;unfold uW
 cases l with
 |nil =>
  rw[show ifb (ieq (à ([]:List (Int×List Int))) (0:Int))=fun(x y:Option (List (List (List Int))×List (Int×List Int)))=>x from by funext x y; simp[Ý,ieq,Ķ]];exact acs _ (by simp[lT])
 |cons e r =>
  have hne:ieq (à (e::r)) (0:Int)=false:=by rw[Ý]; exact decide_eq_false (by simp only[cW]; omega)
  rw[Ò hne];have he:=h3 e (by simp);rw[show ą (e::r) (0:Int)=fun f=>f e from by funext f; rfl];dsimp only;rw[show BD e.2=some (Kv e.2.length e.2) from by unfold BD; rw[ÿ (by simp[he])],À];have hF:lT (e::r)=(Kv e.2.length e.2).flatMap fun x=>(lT r).map (x::·):=rfl
  have hm:∀(x:List Int),(lT r).map (x::·)=(lT r).flatMap fun y=>[x::y]:=fun x=>by
   generalize lT r=ys
   induction ys with|nil=>rfl|cons y ys ih=>simp[ih]
  refine(Tw (g:=fun x=>(lT r).map (x::·)) (al:=lT (e::r)) (fun v x kn hx hv=>?_) (by rw[dL,←hF]; exact dM)).trans ?_
  ·unfold oC;simp only[List.length_cons] at h1 h2;rw[ÿ (by simp[ile,ú]; omega),show List.drop 1 (e::r)=r from rfl,ac8 (by omega) (by omega) (fun m hm=>h3 m (by simp[hm])),À];rw[hm] at hv ⊢;refine Tw (g:=fun y=>[x::y]) (fun v y kn hy hv=>?_) hv;unfold oB;have:=T3 hy;rw[ÿ (Ú (by simp; omega))];exact acs _ hv
  ·rw[dL,←hF]
def abp {l:List Int} {xs:List (List Int)} (h:BD l=some xs):Xk 10 l=some xs:=by
 unfold BD at h
 cases hb:decide (l.length≤9) with
 |false=>rw[hb] at h; cases h
 |true =>
  rw[hb] at h; cases h;have:=of_decide_eq_true hb;exact ac7 (by omega) this
def WH {l:List (Int×List Int)} {xs:List (List (List Int))} (h:oM l=some xs):Xl 10 l=some xs:=by
 unfold oM at h
 cases hb:(decide (l.length≤9)&&l.all fun m=>decide (m.2.length≤9)) with
 |false=>rw[hb] at h; cases h
 |true =>
  rw[hb] at h; cases h;simp only[cH,decide_eq_true_eq,dj] at hb;exact ac8 (by omega) hb.1 hb.2
end Go.Proofs.ZzM
end
