/- lemmas -/
import Derived.Test.YtmadligicacpkaaGreatAmG
import Derived.Test.YtmadligicacpkaaGreatMdTA
set_option linter.all false
set_option linter.unusedSectionVars false
set_option linter.unusedVariables false
set_option linter.unusedSimpArgs false
noncomputable section
namespace Go.Am
section
variable {ρ:Type}
def Ĩ {α β:Type} (e:Nat→α→Option β):Nat→List α→Option β
 |_,[]=>none
 |i,a::t=>match e i a with
  |some b=>some b
  |none=>Ĩ e (i+1) t
def iq {α β:Type} (l:List α) (e:Nat→α→Option β) (k0:β→Option ρ) (k1:Option ρ) {f:Int→(Int→Option ρ)→Option ρ}
 (h:∀(i:Nat) (a:α),i<l.length→l[i]?=some a→∀kn,f i kn=match e i a with|some b=>k0 b|none=>kn ((i:Int)+1))
 (hn:∀kn,f l.length kn=k1):Ñ f 0=match Ĩ e 0 l with|some b=>k0 b|none=>k1:=by
 refine alJ l (fun i t=>match Ĩ e i t with|some b=>k0 b|none=>k1) hn fun i a t hd hi ha kn hk=>?_;rw[h i a hi ha kn,hk,Ĩ]
 cases e i a<;>rfl
def ò {α σ:Type} (l:List α) (g:Nat→σ) (r:Option ρ) {f:Int×σ→(Int×σ→Option ρ)→Option ρ} {s0:σ} (h0:g 0=s0)
 (h:∀(i:Nat) (a:α),i<l.length→l[i]?=some a→∀kn,f (i,g i) kn=kn ((i:Int)+1,g (i+1)))
 (hn:∀kn,f (l.length,g l.length) kn=r):Ñ f (0,s0)=r:=by
 subst h0
 have hs:∀s,(s=g 0)→Ñ f (0,s)=r:=fun s e=>IC l (fun _ _ _=>r) (fun i s=>s=g i) (fun s hs kn=>by rw[hs]; exact hn kn) (fun i a t s hd hi ha hI kn hk=>by
  rw[hI,h i a hi ha kn]; exact hk _ rfl) e
 exact hs _ rfl
def alI {α σ:Type} (l:List α) (g:Nat→σ) (r:Option ρ) {f:Int×σ→(Int×σ→Option ρ)→Option ρ} {s0:σ} (P:Nat→Prop) (h0:g 0=s0) (hP:P 0)
 (h:∀(i:Nat) (a:α),i<l.length→l[i]?=some a→P i→∀kn,f (i,g i) kn=r∨(P (i+1)∧f (i,g i) kn=kn ((i:Int)+1,g (i+1))))
 (hn:P l.length→∀kn,f (l.length,g l.length) kn=r):Ñ f (0,s0)=r:=by
 subst h0
 have hs:∀s,(s=g 0∧P 0)→Ñ f (0,s)=r:=fun s e=>IC l (fun _ _ _=>r) (fun i s=>s=g i∧P i) (fun s hs kn=>by rw[hs.1]; exact hn hs.2 kn) (fun i a t s hd hi ha hI kn hk=>by
  rcases h i a hi ha hI.2 kn with h1|⟨h1,h2⟩
  ·rw[hI.1,h1]
  ·rw[hI.1,h2]; exact hk _ ⟨rfl,h1⟩) e
 exact hs _ ⟨rfl,hP⟩
def Ì {i n:Nat} (h:i<n) (hn:n≤1000000000) (f:Int→Option ρ):ck ((i:Int)+1) f=f ((i:Int)+1):=Õ (by omega) (by omega) f
def ifb_lt {i n:Nat} (h:i<n) (x y:Option ρ):ifb (ilt (i:Int) (akv n)) x y=x:=by simp[Ė,PS,h]
def Ü (n:Nat) (x y:Option ρ):ifb (ilt (n:Int) (akv n)) x y=y:=by simp[Ė,PS]
def Ó {α:Type} {l:List α} {i:Nat} (h:i<l.length) (x y:Option ρ):ifb (ilt (i:Int) (Ú l)) x y=x:=ifb_lt h x y
def S7 {α:Type} (p:α→Bool):∀(i:Nat) (l:List α),Ĩ (fun i a=>bif p a then some (i:Int) else none) i l=(l.findIdx? p).map fun j=>((i+j:Nat):Int)
 |_,[]=>rfl
 |i,a::t=>by
  simp only[Ĩ,List.findIdx?_cons]
  cases hp:p a with
  |true=>simp
  |false =>
   simp only[cond_false,dm,if_false];rw[S7 p (i+1) t]
   cases t.findIdx? p with
   |none=>rfl
   |some j=>simp only[dW]; congr 1; omega
def iN {α β:Type} {e:Nat→α→Option β}:∀{i:Nat} {l:List α},Ĩ e i l=none↔∀j a,l[j]?=some a→e (i+j) a=none
 |_,[]=>by simp[Ĩ]
 |i,a::t=>by
  simp only[Ĩ];constructor
  ·intro h j b hb
   cases he:e i a with
   |some c=>rw[he] at h; cases h
   |none =>
    rw[he] at h
    cases j with
    |zero=>simp at hb; subst hb; simpa using he
    |succ j=>have:=(iN.1 h) j b (by simpa using hb); rw[←this]; congr 1; omega
  ·intro h;have h0:=h 0 a (by simp);simp only[fF] at h0;rw[h0]
   exact iN.2 fun j b hb=>by have:=h (j+1) b (by simpa using hb); rw[←this]; congr 1; omega
def take_succ {α:Type} {l:List α} {i:Nat} {a:α} (h:l[i]?=some a):l.take (i+1)=l.take i++[a]:=by rw[List.take_succ,h]; rfl
end
end Go.Am
end

noncomputable section
namespace Go.Proofs.ZzM
open Go Go.Am
section
variable {ρ:Type}
def ņ {τ:Type} {f:τ→(τ→Option ρ)→Option ρ} {r:Option ρ} (I:τ→Prop) (μ:τ→Nat)
 (h:∀x,I x→(∀kn,f x kn=r)∨∃y,I y∧μ y<μ x∧∀kn,f x kn=kn y) {x:τ} (hx:I x):Ñ f x=r :=
 qk (F:=fun _=>r) I μ (fun x hx kn hk=>by
  rcases h x hx with h1|⟨y,h1,h2,h3⟩
  ·exact h1 kn
  ·rw[h3,hk y h1 h2]) hx
def Υ {α:Type} (l:List α) (p:α→Bool) (k0:Int→Option ρ) (k1:Option ρ) {f:Int→(Int→Option ρ)→Option ρ}
 (h:∀(i:Nat) (a:α),i<l.length→l[i]?=some a→∀kn,f i kn=if p a then k0 i else kn ((i:Int)+1))
 (hn:∀kn,f l.length kn=k1):Ñ f 0=match l.findIdx? p with|some j=>k0 j|none=>k1:=by
 rw[iq l (fun i a=>bif p a then some (i:Int) else none) k0 k1 (fun i a hi ha kn=>by rw[h i a hi ha kn]; cases p a<;>rfl) hn,S7]
 cases l.findIdx? p with
 |none=>rfl
 |some j=>simp
def ī {α:Type} (l:List α) (p:α→Bool) (k0:Int→Option ρ) (K k1:Option ρ) {f:Int→(Int→Option ρ)→Option ρ} (hK:∀j:Nat,k0 j=K)
 (h:∀(i:Nat) (a:α),i<l.length→l[i]?=some a→∀kn,f i kn=if p a then k0 i else kn ((i:Int)+1))
 (hn:∀kn,f l.length kn=k1):Ñ f 0=if l.any p then K else k1:=by
 rw[Υ l p k0 k1 h hn]
 cases hf:l.findIdx? p with
 |none =>
  have:l.any p=false:=by
   rw[ew];intro x hx;have:=dT.1 hf x hx;simp[this]
  simp[this]
 |some j =>
  have:l.any p=true:=by
   have:=dN.1 hf;obtain⟨hj,hp,_⟩:=this;exact dQ.2 ⟨_,ft hj,hp⟩
  simp[this,hK]
end
abbrev é:Type:=Int×Int×Int×(Int×Int)×((Int×Int)×Int)
abbrev JA:Type:=Int×((Int×Int)×Int)
abbrev Cmp:Type:=Int×Int×List Int×List Int×Int×(Int×(Int×Int))
abbrev Þ:Type:=(Int×Int)×List é×List (Int×Int)×List JA×List Cmp×List (Int×Int)
abbrev Sys:Type:=Int×List (Int×Int×Int)
abbrev Maker:Type:=Þ×List (Int×Int)×Sys×List (Int×Int)
section
variable {ρ:Type}
def Ô {b:Bool} (h:b=true) (x y:Option ρ):ifb b x y=x:=by rw[h]; rfl
def Ò {b:Bool} (h:b=false) (x y:Option ρ):ifb b x y=y:=by rw[h]; rfl
end
def I64 (n:Int):Prop:=-9223372036854775808≤n∧n≤9223372036854775807
def inP (n lo hi:Int):Bool:=decide (lo≤n)&&decide (n≤hi)
def Jk (n:Int):Bool:=inP n 0 20000
def jX (s:Int×Int) (lo hi:Int):Bool:=decide (lo≤s.1)&&(decide (s.1≤s.2)&&decide (s.2≤hi))
def ic (n lo hi:Int):Ġ n lo hi=some (inP n lo hi):=by
 unfold Ġ KY inP ile
 cases decide (lo≤n)<;>rfl
def aak (n:Int):nX n=some (Jk n):=by
 unfold nX Ss;rw[ic]; rfl
def IH (s:Int×Int) (lo hi:Int):Ν s lo hi=some (jX s lo hi):=by
 unfold Ν K7 jX ile
 cases decide (lo≤s.1)<;>cases decide (s.1≤s.2)<;>rfl
def XR {n:Int} (h:I64 n):sG n=some (n.natAbs:Int):=by
 obtain⟨h1,h2⟩:=h;unfold sG ZH
 by_cases hn:n<0
 ·have:ilt n 0=true:=by simpa using hn
  rw[Ô this];congr 1;simp only[IntKind.wrap,IntKind.bits,IntKind.signed];simp;omega
 ·have:ilt n 0=false:=by simpa using hn
  rw[Ò this];congr 1;simp only[IntKind.wrap,IntKind.bits,IntKind.signed];simp;omega
def ap8 (a b:Nat):Tc a b=some ((Nat.gcd a b:Nat):Int):=by
 unfold Tc af9;refine ņ (fun x:Int×Int=>∃c d:Nat,x=((c:Int),(d:Int))∧Nat.gcd c d=Nat.gcd a b) (fun x=>x.2.toNat) ?_ ⟨a,b,rfl,rfl⟩;rintro x ⟨c,d,rfl,hg⟩
 cases d with
 |zero =>
  refine .inl fun kn=>?_;rw[Nat.gcd_zero_right] at hg;unfold Bc;simp[hg,ine]
 |succ d =>
  refine .inr ⟨(((d+1:Nat):Int),((c % (d+1):Nat):Int)),⟨d+1,c % (d+1),rfl,?_⟩,?_,fun kn=>?_⟩
  ·rw[←hg,gQ c (d+1),Nat.gcd_rec (d+1) c,gQ]
  ·have:=gH c (gE d);simp only[dn];omega
  ·unfold Bc
   have h1:ine ((d+1:Nat):Int) 0=true:=by simp[ine]; omega
   have h2:ü ((d+1:Nat):Int) 0=false:=by simp[ü]; omega
   simp only[h1,Ô Ò h2];congr 1
def LX (r:Int×Int):Bool :=
 decide (1≤r.2)&&(decide (r.2≤2147483647)&&(decide ((r.1.natAbs:Int)≤2147483647)&&decide (Nat.gcd r.1.natAbs r.2.natAbs=1)))
def aa5 {r:Int×Int} (h:I64 r.1):vf r=some (LX r):=by
 unfold vf RV LX
 by_cases h1:1≤r.2
 ·by_cases h2:r.2≤2147483647
  ·have h3:I64 r.2:=⟨by omega,by omega⟩
   have e1:ige r.2 1=true:=by simp[ige,h1]
   have e2:ile r.2 2147483647=true:=by simp[ile,h2]
   rw[Ô e1,Ô e2,XR h,À]
   by_cases h4:(r.1.natAbs:Int)≤2147483647
   ·have e4:ile (r.1.natAbs:Int) 2147483647=true:=by simp[ile,h4]
    rw[Ô e4,À,XR h3,À,ap8,À];congr 1;rw[dJ];simp only[ieq,beq_iff_eq,h1,h2,h4,decide_true,dX,decide_eq_true_eq];omega
   ·have e4:ile (r.1.natAbs:Int) 2147483647=false:=by simp[ile]; omega
    rw[Ò e4];simp[h4]
  ·have e1:ige r.2 1=true:=by simp[ige,h1]
   have e2:ile r.2 2147483647=false:=by simp[ile]; omega
   rw[Ô e1,Ò e2];simp[h2]
 ·have e1:ige r.2 1=false:=by simp[ige]; omega
  rw[Ò e1];simp[h1]
def qp (g:é):Bool :=
 LX g.2.2.2.2.1&&inP g.2.2.2.2.1.1 (-1000) 1000&&decide (g.2.2.2.2.1.2≤100)&&inP g.1 1 1099511627776&&Jk g.2.1&&inP g.2.2.1 1 1125899906842624&&jX g.2.2.2.1 (-1073741824) 1073741824&&inP g.2.2.2.2.2 0 1048576
def ajC {g:é} (h:I64 g.2.2.2.2.1.1):w8 g=some (qp g):=by
 unfold w8 EU qp;rw[aa5 h,ic,ic,aak,ic,IH,ic];generalize LX g.2.2.2.2.1=x1;generalize inP g.2.2.2.2.1.1 (-1000) 1000=x2;generalize inP g.1 1 1099511627776=x3;generalize Jk g.2.1=x4;generalize inP g.2.2.1 1 1125899906842624=x5;generalize jX g.2.2.2.1 (-1073741824) 1073741824=x6;generalize inP g.2.2.2.2.2 0 1048576=x7;unfold ile;generalize decide (g.2.2.2.2.1.2≤100)=x8
 cases x1<;>cases x2<;>cases x3<;>cases x4<;>cases x5<;>cases x6<;>cases x8<;>rfl
section
variable {ρ:Type}
def IJ {α:Type} {l:List α} {i:Nat} {a:α} (h0:0<i) (h:l[i-1]?=some a) (f:α→Option ρ):õ l ((i:Int)-1) f=f a:=by
 have:((i:Int)-1)=((i-1:Nat):Int):=by omega
 rw[this,É h]
def Tp {i:Nat} (h:0<i) (hn:i≤1000000000) (f:Int→Option ρ):ck ((i:Int)-1) f=f ((i:Int)-1):=Õ (by omega) (by omega) f
def iu {i n:Nat} (h:i<n) (x:Option ρ):í ((ile 0 (i:Int))&&(ilt (i:Int) (n:Int))) x=x:=by
 have:((ile 0 (i:Int))&&(ilt (i:Int) (n:Int)))=true:=by simp[ile,ilt,h]
 rw[this,Am.iff_true]
def ĭ {α:Type} {l:List α} {i:Nat} {a:α} (h:l[i]?=some a) (f:α→Option ρ):Ŋ l (Int.toNat (i:Int)) f=f a:=by
 rw[dn]; exact oK h f
end
def Fl {α:Type} (key:α→Int) (l:List α) (i:Nat) (a:α):Bool :=
 decide (0<i)&&(l[i-1]?).any fun q=>decide (key a≤key q)
def FB {α:Type} {l:List α} {i:Nat} (hi:i<l.length) (h0:0<i):∃q,l[i-1]?=some q :=
 ⟨l[i-1],cQ (by omega)⟩
def aaW {α:Type} (key:α→Int) (l:List α):(∀i a,l[i]?=some a→Fl key l i a=false)↔l.Pairwise (fun a b=>key a<key b):=by
 rw[dG];constructor
 ·intro h
  have step:∀i (h1:i+1<l.length),key l[i]<key l[i+1]:=by
   intro i h1;have:=h (i+1) l[i+1] (cQ h1);simp only[Fl,Nat.add_sub_cancel,gE,decide_true,dX,cQ (show i<l.length by omega),Option.any_some,decide_eq_false_iff_not] at this;omega
  intro i j hi hj hij
  induction j with
  |zero=>omega
  |succ j ih =>
   have:=step j hj;rcases dz i j with hlt|hge
   ·have:=ih (by omega) hlt; omega
   ·have:i=j:=by omega
    subst this; assumption
 ·intro h i a ha;obtain⟨hi,rfl⟩:=List.getElem?_eq_some_iff.1 ha;unfold Fl
  cases i with
  |zero=>rfl
  |succ i =>
   have:=h i (i+1) (by omega) hi (by omega);simp only[Nat.add_sub_cancel,gE,decide_true,dX,cQ (show i<l.length by omega),Option.any_some,decide_eq_false_iff_not];omega
def oE (l:List é) (i:Nat) (g:é):Option Int :=
 if !qp g then some 1 else if Fl (fun g=>g.1) l i g then some 6 else none
def ju (b:Þ):Int:=(Ĩ (oE b.2.1) 0 b.2.1).getD 0
def VP {b:Þ} (hr:∀g∈b.2.1,I64 g.2.2.2.2.1.1) (hn:b.2.1.length≤1000):ž b=some (ju b):=by
 unfold ž qj;refine Eq.trans (iq b.2.1 (oE b.2.1) some (some 0) (fun i a hi ha kn=>?_) (fun kn=>?_)) ?_
 ·try dsimp only
  unfold jh;rw[Ó hi,É ha,ajC (hr a (List.mem_of_getElem? ha)),À];unfold oE
  cases hg:qp a with
  |false=>simp
  |true =>
   simp only[d9,å,dm,if_false];rcases fA i with h0|h0
   ·subst h0
    have:igt ((0:Nat):Int) 0=false:=by simp[igt]
    rw[Ò this,Ì hi (by omega)];simp[Fl]
   ·obtain⟨q,hq⟩:=FB hi h0
    have h1:igt (i:Int) 0=true:=by simp[igt]; omega
    rw[Ô h1,Tp h0 (by omega),IJ h0 hq];simp only[Fl,h0,decide_true,Bool.true_and,hq,Option.any_some];unfold ile
    cases h2:decide (a.1≤q.1) with
    |true=>simp
    |false =>
     rw[å,Ì hi (by omega)];simp
 ·try dsimp only
  unfold jh;rw[Ü]
 ·unfold ju
  cases Ĩ (oE b.2.1) 0 b.2.1<;>rfl
def abA (l:List é):List (Int×é):=l.foldl (fun m g=>OW (k:=tI) (v:=Ð) g.1 g m) []
def Ů (b:Þ):List (Int×é):=abA b.2.1
def V6 {b:Þ} (hn:b.2.1.length≤1000):υ b=some (Ů b):=by
 unfold υ ER;refine ò b.2.1 (fun i=>abA (b.2.1.take i)) _ rfl (fun i a hi ha kn=>?_) (fun kn=>?_)
 ·try dsimp only
  unfold nc;rw[Ó hi,É ha,Ì hi (by omega),take_succ ha];simp only[abA,List.foldl_append,List.foldl_cons,List.foldl_nil]
 ·try dsimp only
  unfold nc;rw[Ü,List.take_length];rfl
def acw (x y:Int) (g:é):∀m:List (Int×é),tR (k:=tI) (v:=Ð) x (OW (k:=tI) (v:=Ð) y g m)=if x=y then some g else tR (k:=tI) (v:=Ð) x m
 |[]=>by
  unfold OW tR kO tR
  by_cases h:x=y<;>simp[h]
 |e::m=>by
  unfold OW
  by_cases h:y=e.1
  ·have:kO tI y e.1=true:=by simp[kO,h]
   rw[this]
   try dsimp only
   unfold tR kO
   by_cases h2:x=y
   ·simp[h2]
   ·have:¬x=e.1:=fun h3=>h2 (h3.trans h.symm);simp[h2,this]
  ·have:kO tI y e.1=false:=by simp[kO,h]
   rw[this]
   try dsimp only
   have ih:=acw x y g m;unfold tR
   by_cases h2:x=e.1
   ·have:kO tI x e.1=true:=by simp[kO,h2]
    rw[this];have:¬x=y:=fun h3=>h (h3.symm.trans h2);simp[this]
   ·have:kO tI x e.1=false:=by simp[kO,h2]
    rw[this];exact ih
def ŏ (b:Þ) (id:Int):Option é:=b.2.1.find? fun g=>g.1==id
def afC (x:Int) (l:List é):tR (k:=tI) (v:=Ð) x (abA l)=l.reverse.find? fun g=>g.1==x:=by
 unfold abA;rw[←List.foldr_reverse]
 induction l.reverse with
 |nil=>rfl
 |cons g t ih =>
  rw[List.foldr_cons,acw,ih,gB]
  by_cases h:x=g.1
  ·simp[h]
  ·have:(g.1==x)=false:=by simp; exact fun h2=>h h2.symm
   simp[h,this]
def aep {l:List é} (h:l.Pairwise fun a b=>a.1<b.1) (x:Int):l.reverse.find? (fun g=>g.1==x)=l.find? fun g=>g.1==x:=by
 induction l with
 |nil=>rfl
 |cons g t ih =>
  rw[dP] at h;rw[List.reverse_cons,List.find?_append,ih h.2,gB]
  by_cases hx:g.1=x
  ·have:t.find? (fun g=>g.1==x)=none:=eJ.2 fun y hy=>by have:g.1<y.1:=h.1 y hy; simp; omega
   rw[this]; simp[hx]
  ·have:(g.1==x)=false:=by simp[hx]
   simp[this]
def ig {b:Þ} (h:b.2.1.Pairwise fun a b=>a.1<b.1) (x:Int):tR (k:=tI) (v:=Ð) x (Ů b)=ŏ b x:=by
 unfold Ů ŏ;rw[afC,aep h]
def jm (s:List (Int×é)) (id day:Int):Int :=
 match tR (k:=tI) (v:=Ð) id s with
 |some g=>if day<g.2.1 then 4 else 0
 |none=>5
def afE (s:List (Int×é)) (id day:Int):i9 s id day=some (jm s id day):=by
 unfold i9 td jm
 cases h:tR (k:=tI) (v:=Ð) id s with
 |none=>simp only[abd,h]
 |some g =>
  simp only[abd,h];rw[Ė]
  by_cases h2:day<g.2.1<;>simp[h2]
def abi (s:List (Int×é)) (id day:Int):Int:=if !Jk day then 1 else jm s id day
def abS (s:List (Int×é)) (id day:Int):Ň id day s=some (abi s id day):=by
 unfold Ň ET abi;rw[aak,À,afE,À]
 cases Jk day<;>rfl
def IE (b:Þ) (s:List (Int×é)) (i:Nat) (l:JA):Int :=
 if !jX l.2.1 0 20000 then 1 else if !inP l.2.2 0 1048576 then 1 else if jm s l.1 l.2.1.1 != 0 then jm s l.1 l.2.1.1 else
 if (b.2.2.2.1.take i).any (fun x=>x.1==l.1&&(decide (x.2.1.1≤l.2.1.2)&&decide (l.2.1.1≤x.2.1.2))) then 9 else
 if b.2.2.1.any (fun u=>u.1==l.1&&inP u.2 l.2.1.1 l.2.1.2) then 9 else 0
def aeA {b:Þ} (hn:b.2.2.2.1.length≤1000) (hu:b.2.2.1.length≤1000) (s:List (Int×é)) {i:Nat} {l:JA} (hl:b.2.2.2.1[i]?=some l):Ψ b s i=some (IE b s i l):=by
 unfold Ψ wH IE;have hi:i<b.2.2.2.1.length:=(List.getElem?_eq_some_iff.1 hl).1;rw[É hl,IH,À,ic,À,afE,À]
 cases jX l.2.1 0 20000 with
 |false=>rfl
 |true =>
 cases inP l.2.2 0 1048576 with
 |false=>rfl
 |true =>
 cases hm:(jm s l.1 l.2.1.1 != 0) with
 |true =>
  have:ine (jm s l.1 l.2.1.1) 0=true:=hm;simp[this]
 |false =>
 have hm':ine (jm s l.1 l.2.1.1) 0=false:=hm
 have hg:((ile (0:Int) (i:Int))&&(ile (i:Int) (Ĕ b.2.2.2.1)))=true:=by simp[ile,Ĕ]; omega
 simp only[d9,å,hm',dm,if_false];rw[Ĭ hg,dn]
 have inner:∀(k:Int→Option Int),Ñ (fun(v:Int) kk=>Λ b.2.2.1 (Ú b.2.2.1) l.1 l.2.1.1 l.2.1.2 v (fun u=>kk u) (fun z=>ifb (ige z 0) (k 9) (k 0)) (fun _=>k 0)) (0:Int)=if b.2.2.1.any (fun u=>u.1==l.1&&inP u.2 l.2.1.1 l.2.1.2) then k 9 else k 0:=by
  intro k;refine ī b.2.2.1 _ (fun z=>ifb (ige z 0) (k 9) (k 0)) (k 9) (k 0) (fun j=>?_) (fun j a hj ha kn=>?_) (fun kn=>?_)
  ·have:ige (j:Int) 0=true:=by simp[ige]
   rw[Ô this]
  ·try dsimp only
   unfold Λ;rw[Ó hj,É ha,ic,À,Ì hj (by omega)]
   cases h1:(a.1==l.1) with
   |false =>
    have:ieq a.1 l.1=false:=h1;simp[this]
   |true =>
    have:ieq a.1 l.1=true:=h1;rw[this]
    cases inP a.2 l.2.1.1 l.2.1.2<;>simp
  ·try dsimp only
   unfold Λ;rw[Ü]
 rw[inner];refine eG (ī (b.2.2.2.1.take i) (fun x=>x.1==l.1&&(decide (x.2.1.1≤l.2.1.2)&&decide (l.2.1.1≤x.2.1.2))) (fun z=>ifb (ige z 0) (some 9) (if b.2.2.1.any (fun u=>u.1==l.1&&inP u.2 l.2.1.1 l.2.1.2) then some 9 else some 0)) (some 9) (if b.2.2.1.any (fun u=>u.1==l.1&&inP u.2 l.2.1.1 l.2.1.2) then some 9 else some 0) (fun j=>?_) (fun j a hj ha kn=>?_) (fun kn=>?_)) ?_
 ·have:ige (j:Int) 0=true:=by simp[ige]
  rw[Ô this]
 ·try dsimp only
  unfold kr
  have hj':j≤1000:=by rw[di] at hj; omega
  rw[Ó hj,É ha,Ì hj (by rw[di]; omega)]
  cases h1:(a.1==l.1) with
  |false =>
   have:ieq a.1 l.1=false:=h1;simp[this]
  |true =>
   have:ieq a.1 l.1=true:=h1;rw[this]
   cases h2:decide (a.2.1.1≤l.2.1.2)<;>cases h3:decide (l.2.1.1≤a.2.1.2)<;>simp[ile,h2,h3,Ė]<;>simp_all
 ·try dsimp only
  unfold kr;rw[Ü]
 ·cases List.any (b.2.2.2.1.take i) _<;>cases b.2.2.1.any _<;>rfl
def anS {l:List Int} (hn:l.length≤1000000) (x:Int):jJ l x=some (match l.findIdx? (·==x) with|some j=>(j:Int)|none=>-1):=by
 unfold jJ mu;refine Eq.trans (Υ l (·==x) some (some (-1)) (fun i a hi ha kn=>?_) (fun kn=>?_)) ?_
 ·try dsimp only
  unfold hO;rw[Ó hi,É ha,Ì hi (by omega),Ė]
  by_cases h:x=a
  ·subst h; simp[ieq]
  ·have h2:¬a=x:=fun e=>h e.symm;simp[ieq,h,h2]
 ·try dsimp only
  unfold hO;rw[Ü]
 ·cases l.findIdx? (·==x)<;>rfl
def n0 {l:List Int} (hn:l.length≤1000000) (x:Int):ĩ l x=some (l.contains x):=by
 unfold ĩ jV;rw[anS hn,À];congr 1
 cases h:l.findIdx? (·==x) with
 |none =>
  have:l.contains x=false:=by
   rw[eF];intro hc;have:=dT.1 h x (by simpa using hc);simp at this
  rw[this]; rfl
 |some j =>
  obtain⟨hj,hp,_⟩:=dN.1 h
  have:l.contains x=true:=by
   have h2:l[j]=x:=by simpa using hp
   rw[←h2]; simp
  rw[this];simp[ige]
def è (a b:List Int):List Int:=a.filter fun x=>!b.contains x
def tg {a b:List Int} (ha:a.length≤1000000) (hb:b.length≤1000000):ũ a b=some (è a b):=by
 unfold ũ ZX;rw[Ø (by omega),Am.iff_true]
 have second:∀z:Nat,z<a.length→è (a.take z) b=a.take z→b.contains (a[z]?.getD 0)=true →
  Ñ (fun(v13:(Val (.pair tI (.pair tI (.slice tI))))) kk17=>kL b v13.1 v13.2.1 v13.2.2 (fun u14 u15 u16=>kk17 (u14,u15,u16)) (fun z12=>í ((ile (0:Int) z12.1)&&(ile z12.1 (Ĕ z12.2))) (í ((ile (0:Int) z12.1)&&(ile z12.1 (Ĕ (List.take (Int.toNat z12.1) z12.2++List.replicate (List.length z12.2-(Int.toNat z12.1)) (0:Int)++List.drop ((Int.toNat z12.1)+(List.length z12.2-(Int.toNat z12.1))) z12.2)))) (some (List.take (Int.toNat z12.1) (List.drop 0 (List.take (Int.toNat z12.1) z12.2++List.replicate (List.length z12.2-(Int.toNat z12.1)) (0:Int)++List.drop ((Int.toNat z12.1)+(List.length z12.2-(Int.toNat z12.1))) z12.2))))))) ((z:Int),((z:Int)+1),a)=some (è a b):=by
  intro z hz hp hc
  refine ņ (fun x:Int×Int×List Int=>∃i j:Nat,x.1=i∧x.2.1=j∧i<j∧j≤a.length∧x.2.2.length=a.length∧x.2.2.take i=è (a.take j) b∧x.2.2.drop j=a.drop j) (fun x=>a.length-x.2.1.toNat) ?_
   ⟨z,z+1,rfl,by simp,by omega,by omega,rfl,?_,rfl⟩
  ·rintro⟨x1,x2,s⟩ ⟨i,j,h1,h2,hij,hja,hl,ht,hd⟩;simp only at h1 h2 hl ht hd;subst h1 h2;rcases dz j a.length with hj|hj
   ·refine .inr ?_
    have hsj:s[j]?=some a[j]:=by
     have h3:(s.drop j)[0]?=(a.drop j)[0]?:=by rw[hd]
     rw[eY,eY] at h3;simpa[cQ hj] using h3
    have hjs:j<s.length:=by omega
    have hta:è (a.take (j+1)) b=è (a.take j) b++if b.contains a[j] then[] else[a[j]]:=by
     rw[take_succ (cQ hj),è,è,gD];congr 1
     cases h:b.contains a[j] with
     |true=>simp only[dZ,h,d9,dm,if_false,eo,if_true]
     |false=>simp only[dZ,h,gh,dm,if_false,eo,if_true]
    cases h:b.contains a[j] with
    |true =>
     refine⟨(i,(j:Int)+1,s),⟨i,j+1,rfl,by simp,by omega,by omega,hl,?_,?_⟩,by simp; omega,fun kn=>?_⟩
     ·rw[hta,h]; simpa using ht
     ·have:=congrArg (List.drop 1) hd;simpa[gj,Nat.add_comm] using this
     ·try dsimp only
      unfold kL;rw[Ó hjs,iu hjs,ĭ hsj,n0 hb,À,h];simp only[Bool.not_true,å];rw[Ì hjs (by omega)]
    |false =>
     have his:i<s.length:=by omega
     refine⟨((i:Int)+1,(j:Int)+1,s.set i a[j]),⟨i+1,j+1,by simp,by simp,by omega,by omega,by simpa using hl,?_,?_⟩,by simp; omega,fun kn=>?_⟩
     ·show List.take (i+1) (s.set i a[j])=_;rw[hta,h,List.take_succ,fW,List.take_set_of_le (cR i),ht];simp[his]
     ·show List.drop (j+1) (s.set i a[j])=_;rw[List.drop_set_of_lt (by omega)];have:=congrArg (List.drop 1) hd;simpa[gj,Nat.add_comm] using this
     ·try dsimp only
      unfold kL;rw[Ó hjs,iu hjs,ĭ hsj,n0 hb,À,h];simp only[Bool.not_false,Ĝ];rw[iu his,ĭ (List.getElem?_eq_getElem his),Ì his (by omega),Ì hjs (by omega),Int.toNat_natCast]
   ·refine .inl fun kn=>?_
    have hje:j=s.length:=by omega
    try dsimp only
    unfold kL;rw[hje,Ü];dsimp only
    have g1:((ile (0:Int) (i:Int))&&(ile (i:Int) (Ĕ s)))=true:=by simp[ile,Ĕ]; omega
    rw[Ĭ g1]
    have g2:((ile (0:Int) (i:Int))&&(ile (i:Int) (Ĕ (List.take (Int.toNat (i:Int)) s++List.replicate (List.length s-(Int.toNat (i:Int))) (0:Int)++List.drop ((Int.toNat (i:Int))+(List.length s-(Int.toNat (i:Int)))) s))))=true:=by
     simp[ile,Ĕ]; omega
    rw[Ĭ g2,dn,List.drop_zero,du,List.take_append_of_le_length (by simp; omega),List.take_take,Nat.min_self,ht];rw[ee (by omega)]
  ·show List.take z a=è (a.take (z+1)) b;have hz':a[z]?=some a[z]:=cQ hz;rw[take_succ hz',è,gD];rw[hz'] at hc;simp only[fu] at hc
   have:List.filter (fun x=>!b.contains x) [a[z]]=[]:=by simp only[dZ,hc,d9,dm,if_false,eo]
   rw[this,dR];exact hp.symm
 refine eG (Υ a (fun x=>b.contains x) (fun z4=>ifb (ieq z4 (-1:Int)) (some a) (ck (z4+(1:Int)) fun n5=>Ñ (fun(v13:(Val (.pair tI (.pair tI (.slice tI))))) kk17=>kL b v13.1 v13.2.1 v13.2.2 (fun u14 u15 u16=>kk17 (u14,u15,u16)) (fun z12=>í ((ile (0:Int) z12.1)&&(ile z12.1 (Ĕ z12.2))) (í ((ile (0:Int) z12.1)&&(ile z12.1 (Ĕ (List.take (Int.toNat z12.1) z12.2++List.replicate (List.length z12.2-(Int.toNat z12.1)) (0:Int)++List.drop ((Int.toNat z12.1)+(List.length z12.2-(Int.toNat z12.1))) z12.2)))) (some (List.take (Int.toNat z12.1) (List.drop 0 (List.take (Int.toNat z12.1) z12.2++List.replicate (List.length z12.2-(Int.toNat z12.1)) (0:Int)++List.drop ((Int.toNat z12.1)+(List.length z12.2-(Int.toNat z12.1))) z12.2))))))) (z4,n5,a))) (some a) (fun i x hi hx kn=>?_) (fun kn=>?_)) ?_
 ·try dsimp only
  unfold wE;rw[Ó hi,iu hi,ĭ hx,n0 hb,À,Ì hi (by omega),Ė]
 ·try dsimp only
  unfold wE;rw[Ü]
 ·cases h:a.findIdx? (fun x=>b.contains x) with
  |none =>
   have:è a b=a:=by
    rw[è,List.filter_eq_self];intro x hx;have:=dT.1 h x hx;simpa using this
   rw[this]
  |some z =>
   obtain⟨hz,hc,hlt⟩:=dN.1 h
   have h1:ieq (z:Int) (-1)=false:=by simp[ieq]
   try dsimp only
   rw[Ò h1,Ì hz (by omega)];refine second z hz ?_ ?_
   ·rw[è,List.filter_eq_self];intro x hx;obtain⟨j,hj,rfl⟩:=dj.1 hx;rw[di] at hj;rw[fh];have:=hlt j (by omega);simpa using this
   ·rw[cQ hz]; exact hc
def xR (l:List Int) (i:Nat) (a:Int):Option Bool:=if !inP a 1 1099511627776 then some false else if Fl (fun x=>x) l i a then some false else none
def l8 (l:List Int):Bool:=match Ĩ (xR l) 0 l with|some _=>false|none=>decide (l.length≤6)
def IG {l:List Int} (hn:l.length≤1000000):mR l=some (l8 l):=by
 unfold mR K6;refine Eq.trans (iq l (xR l) some (some (decide (l.length≤6))) (fun i a hi ha kn=>?_) (fun kn=>?_)) ?_
 ·try dsimp only
  unfold oY;rw[Ó hi,É ha,ic,À];unfold xR
  cases inP a 1 1099511627776 with
  |false=>rfl
  |true =>
   simp only[d9,å,dm,if_false];rcases fA i with h0|h0
   ·subst h0
    have:igt ((0:Nat):Int) 0=false:=by simp[igt]
    rw[Ò this,Ì hi (by omega)];simp[Fl]
   ·obtain⟨q,hq⟩:=FB hi h0
    have h1:igt (i:Int) 0=true:=by simp[igt]; omega
    rw[Ô h1,Tp h0 (by omega),IJ h0 hq];simp only[Fl,h0,decide_true,Bool.true_and,hq,Option.any_some];unfold ile
    cases h2:decide (a≤q) with
    |true=>rfl
    |false =>
     rw[å,Ì hi (by omega)];rfl
 ·try dsimp only
  unfold oY;rw[Ü,á];simp[ile];omega
 ·have hb:∀x,Ĩ (xR l) 0 l=some x→x=false:=by
   have:∀(m:List Int) (j:Nat) (x:Bool),Ĩ (xR l) j m=some x→x=false:=by
    intro m
    induction m with
    |nil=>intro j x h; cases h
    |cons a m ih =>
     intro j x h;unfold Ĩ at h
     cases hp:xR l j a with
     |none=>rw[hp] at h; exact ih _ _ h
     |some y =>
      rw[hp] at h;cases h;unfold xR at hp
      split at hp
      ·cases hp; rfl
      ·split at hp
       ·cases hp; rfl
       ·cases hp
   exact this l 0
  unfold l8
  cases h:Ĩ (xR l) 0 l with
  |none=>rfl
  |some x=>rw[hb x h]
def FC (l:List Int):l8 l=true↔(∀x∈l,1≤x∧x≤1099511627776)∧l.Pairwise (·<·)∧l.length≤6:=by
 have h0:Ĩ (xR l) 0 l=none↔(∀x∈l,1≤x∧x≤1099511627776)∧l.Pairwise (·<·):=by
  rw[iN,←aaW (fun x=>x) l];constructor
  ·intro h
   have h1:∀(j:Nat) (a:Int),l[j]?=some a→inP a 1 1099511627776=true∧Fl (fun x=>x) l j a=false:=by
    intro j a ha;have:=h j a ha;rw[Nat.zero_add] at this;unfold xR at this
    split at this
    ·cases this
    ·split at this
     ·cases this
     ·rename_i h1 h2;exact⟨by simpa using h1,by simpa using h2⟩
   refine⟨fun x hx=>?_,fun i a ha=>(h1 i a ha).2⟩;obtain⟨j,hj,rfl⟩:=dj.1 hx;have:=(h1 j l[j] (cQ hj)).1;simpa[inP] using this
  ·rintro⟨h1,h2⟩ j a ha;rw[dl];have h3:=h1 a (cZ ha)
   have:inP a 1 1099511627776=true:=by simpa[inP] using h3
   simp[xR,this,h2 j a ha]
 unfold l8
 cases h:Ĩ (xR l) 0 l with
 |none =>
  obtain⟨h1,h2⟩:=h0.1 h;simp only[decide_eq_true_eq];exact⟨fun h3=>⟨h1,h2,h3⟩,fun h3=>h3.2.2⟩
 |some x =>
  constructor
  ·intro h2; cases h2
  ·rintro⟨h1,h2,h3⟩;rw[h0.2 ⟨h1,h2⟩] at h; cases h
def anT {a b:List Int} (ha:a.length≤1000000) (hb:b.length≤1000000):ï [a,b]=some (a++b):=by
 have hk:∀n:Nat,n≤4000000→∀(f:Int→Option (List Int)),ck (n:Int) f=f n:=fun n h f=>Õ (by omega) (by omega) f
 have second:Ñ (fun(v9:(Val (.pair tI (.slice tI)))) kk12=>ñ [a,b] (Ú [a,b]) v9.1 v9.2 (fun u10 u11=>kk12 (u10,u11)) (fun z8=>some z8)) ((0:Int),([]:List Int))=some (a++b):=by
  refine ò [a,b] (fun i=>([a,b].take i).flatten) (some (a++b)) (f:=fun(v9:(Val (.pair tI (.slice tI)))) kk12=>ñ [a,b] (Ú [a,b]) v9.1 v9.2 (fun u10 u11=>kk12 (u10,u11)) (fun z8=>some z8)) rfl (fun i x hi hx kn=>?_) (fun kn=>?_)
  ·try dsimp only
   unfold ñ;rw[Ó hi,É hx,Ì hi (by simp),take_succ hx,List.flatten_append]
   have:ë ((List.take i [a,b]).flatten.length+x.length)=true:=by
    refine Ø ?_
    have h1:x.length≤1000000:=by
     have:=cZ hx;simp at this
     rcases this with rfl|rfl<;>assumption
    have h2:(List.take i [a,b]).flatten.length≤2000000:=by
     have:i=0∨i=1:=by simp at hi; omega
     rcases this with rfl|rfl<;>simp<;>omega
    omega
   rw[Ĭ this];simp
  ·try dsimp only
   unfold ñ;rw[Ü];simp
 unfold ï jf;refine ņ (fun x:Int×Int=>∃i:Nat,i≤2∧x=((([a,b].take i).flatten.length:Int),(i:Int))) (fun x=>2-x.2.toNat) ?_ ⟨0,by omega,rfl⟩;rintro x ⟨i,hi,rfl⟩;rcases Nat.lt_or_ge i 2 with h2|h2
 ·refine .inr ⟨((([a,b].take (i+1)).flatten.length:Int),(i:Int)+1),⟨i+1,h2,by simp⟩,by simp; omega,fun kn=>?_⟩;have hi':i<[a,b].length:=h2;obtain⟨x,hx⟩:∃x,[a,b][i]?=some x:=⟨_,cQ hi'⟩
  have hxl:x.length≤1000000:=by
   have:=cZ hx;simp at this
   rcases this with rfl|rfl<;>assumption
  have h3:(List.take i [a,b]).flatten.length≤2000000:=by
   have:i=0∨i=1:=by omega
   rcases this with rfl|rfl<;>simp<;>omega
  try dsimp only
  unfold ļ;rw[Ó hi',É hx,á]
  have e1:(((List.take i [a,b]).flatten.length:Int)+(x.length:Int))=((List.take i [a,b]).flatten.length+x.length:Nat):=by omega
  rw[e1,hk _ (by omega)]
  have:ilt ((((List.take i [a,b]).flatten.length+x.length:Nat)):Int) 0=false:=by simp[ilt]; omega
  rw[Ò this,Ì hi' (by simp),take_succ hx];simp
 ·refine .inl fun kn=>?_
  obtain rfl:i=2:=by omega
  try dsimp only
  unfold ļ;rw[show((2:Nat):Int)=(([a,b].length:Nat):Int) from rfl,Ü]
  have e1:((List.take 2 [a,b]).flatten.length:Int)=((a.length+b.length:Nat):Int):=by simp
  have e2:ilt (((a.length+b.length:Nat)):Int) 0=false:=by simp[ilt]; omega
  rw[e1];dsimp only;rw[Ò e2,Int.sub_zero,hk _ (by omega)];rcases Nat.eq_zero_or_pos (a.length+b.length) with h0|h0
  ·have:igt (((a.length+b.length:Nat)):Int) 0=false:=by simp[igt]; omega
   rw[Ò this];exact second
  ·have:igt (((a.length+b.length:Nat)):Int) 0=true:=by simp[igt]; omega
   rw[Ô this]
   have:((ilt (0:Int) (((a.length+b.length:Nat)):Int))&&(ë (Int.toNat (((a.length+b.length:Nat)):Int))))=true:=by
    rw[dn,Ø (by omega)];simp[ilt]; omega
   rw[Ĭ this]
   have:ile 0 (Ĕ (List.replicate (Int.toNat (((a.length+b.length:Nat)):Int)) (0:Int)))=true:=by simp[ile]
   rw[Ĭ this];exact second
def jW (b:Þ) (id day:Int):Option JA:=b.2.2.2.1.find? fun l=>l.1==id&&inP day l.2.1.1 l.2.1.2
def aaw {α:Type} (p:α→Bool):∀l:List α,l.find? p=(match l.findIdx? p with|some j=>l[j]?|none=>none)
 |[]=>rfl
 |a::l=>by
  rw[gB,List.findIdx?_cons]
  cases h:p a with
  |true=>simp
  |false =>
   simp only[dm,if_false];rw[aaw p l]
   cases l.findIdx? p<;>simp
def ark {b:Þ} (hn:b.2.2.2.1.length≤1000) (id day:Int):BA b id day=some (match jW b id day with|some l=>(l,true)|none=>((0,(0,0),0),false)):=by
 unfold BA Z5;refine Eq.trans (Υ b.2.2.2.1 (fun l=>l.1==id&&inP day l.2.1.1 l.2.1.2) (fun z5=>ifb (ilt z5 (0:Int)) (some (((0:Int),((0:Int),(0:Int)),(0:Int)),false)) (õ b.2.2.2.1 z5 fun e6=>some (e6,true))) (some ((0,(0,0),0),false)) (fun i a hi ha kn=>?_) (fun kn=>?_)) ?_
 ·try dsimp only
  unfold wI;rw[Ó hi,É ha,ic,À,Ì hi (by omega)]
  cases h1:(a.1==id) with
  |false =>
   have:ieq a.1 id=false:=h1;simp[this]
  |true =>
   have:ieq a.1 id=true:=h1;rw[this]
   cases inP day a.2.1.1 a.2.1.2<;>simp
 ·try dsimp only
  unfold wI;rw[Ü]
 ·unfold jW;rw[aaw]
  cases h:b.2.2.2.1.findIdx? (fun l=>l.1==id&&inP day l.2.1.1 l.2.1.2) with
  |none=>rfl
  |some j =>
   obtain⟨hj,_,_⟩:=dN.1 h
   have:ilt (j:Int) 0=false:=by simp[ilt]
   try dsimp only
   rw[Ò this,É (cQ hj),cQ hj]
def aqT (a:Int):List Int→List Int
 |[]=>[a]
 |b::t=>if a≤b then a::b::t else b::aqT a t
def Xe:List Int→List Int
 |[]=>[]
 |a::t=>aqT a (Xe t)
def yd (p:Option Int):List Int→List Int
 |[]=>[]
 |a::t=>if p=some a then yd (some a) t else a::yd (some a) t
def XS (l:List Int):List Int:=yd none (Xe l)
def SM (a:Int):∀l,(aqT a l).Perm (a::l)
 |[]=>List.Perm.refl _
 |b::t=>by
  unfold aqT
  split
  ·exact List.Perm.refl _
  ·exact((SM a t).cons b).trans (List.Perm.swap a b t)
def wN:∀l,(Xe l).Perm l
 |[]=>List.Perm.refl _
 |a::t=>(SM a _).trans ((wN t).cons a)
def SL (a:Int):∀{l:List Int},l.Pairwise (·≤·)→(aqT a l).Pairwise (·≤·)
 |[],_=>by simp[aqT]
 |b::t,h=>by
  rw[List.pairwise_cons] at h;unfold aqT
  split
  ·rename_i hab;refine dP.2 ⟨fun x hx=>?_,dP.2 h⟩;rcases df.1 hx with rfl|hx
   ·exact hab
   ·have:=h.1 x hx; omega
  ·rename_i hab;refine dP.2 ⟨fun x hx=>?_,SL a h.2⟩;rcases df.1 ((SM a t).mem_iff.1 hx) with rfl|hx
   ·omega
   ·exact h.1 x hx
def wM:∀l:List Int,(Xe l).Pairwise (·≤·)
 |[]=>List.Pairwise.nil
 |a::t=>SL a (wM t)
def aok (l:List Int):Fs l=Xe l:=by
 have h1:(Fs l).Pairwise (·≤·):=by
  have:=List.pairwise_mergeSort (le:=fun a b:Int=>decide (a≤b)) (fun a b c h1 h2=>by simp at *; omega) (fun a b=>by simp; omega) l
  exact this.imp fun h=>by simpa using h
 exact List.Perm.eq_of_pairwise (le:=(·≤·)) (fun a b _ _ h1 h2=>by omega) h1 (wM l) ((List.mergeSort_perm l _).trans (wN l).symm)
def V0 (a:Int):∀(l:List Int) (p:Option Int),yd p (l++[a])=yd p l++(if (match l.getLast? with|some b=>some b|none=>p)=some a then[] else[a])
 |[],p=>by simp only[fN,yd,List.getLast?_nil]; rfl
 |b::t,p=>by
  have ih:=V0 a t (some b)
  have e:(match (b::t).getLast? with|some c=>some c|none=>p)=(match t.getLast? with|some c=>some c|none=>some b):=by
   cases t with
   |nil=>rfl
   |cons c t =>
    rw[List.getLast?_cons_cons]
    cases h:(c::t).getLast? with
    |none=>simp at h
    |some x=>rfl
  rw[e];simp only[eZ,yd,ih]
  split<;>simp
def DI (l:List Int):∀m,m≤l.length→Lib.compactUpTo l.toArray m=yd none (l.take m)
 |0,_=>by simp[Lib.compactUpTo,yd]
 |m+1,h=>by
  have hm:m<l.length:=h;rw[Lib.compactUpTo_succ,DI l m (by omega),take_succ (cQ hm),V0];congr 1
  have e1:l.toArray[m]! = l[m]:=by simp[getElem!_pos,hm]
  rw[e1];unfold Lib.keeps;rw[e1]
  cases m with
  |zero=>simp
  |succ m =>
   have hm':m<l.length:=by omega
   have e2:l.toArray[m+1-1]! = l[m]:=by simp[getElem!_pos,hm']
   rw[e2]
   have e3:(l.take (m+1)).getLast?=some l[m]:=by rw[take_succ (cQ hm'),List.getLast?_append]; rfl
   rw[e3]
   by_cases hne:l[m+1]=l[m]
   ·simp[hne]
   ·have:¬l[m]=l[m+1]:=fun h=>hne h.symm;simp[hne,this]
def agO (l:List Int):BF l=yd none l:=by
 unfold BF Lib.compact;rw[DI l l.length (Nat.le_refl _),List.take_length]
def akW (l:List Int):BF (Fs l)=XS l:=by rw[aok,agO]; rfl
def abn:∀{l:List Int} {p:Option Int} {x:Int},p≠some x→(x∈yd p l↔x∈l)
 |[],_,_,_=>Iff.rfl
 |a::t,p,x,hp=>by
  unfold yd
  by_cases hx:x=a
  ·subst hx;rw[if_neg hp]; simp
  ·have ih:=abn (l:=t) (p:=some a) (x:=x) (fun e=>hx (by cases e; rfl))
   split<;>simp[ih,hx]
def ahl:∀{l:List Int} {p:Option Int},l.Pairwise (·≤·)→(∀q,p=some q→∀x∈l,q≤x)→(yd p l).Pairwise (·<·)∧∀q,p=some q→∀x∈yd p l,q<x
 |[],p,_,_=>⟨List.Pairwise.nil,fun _ _ _ h=>by cases h⟩
 |a::t,p,h,hp=>by
  rw[List.pairwise_cons] at h;obtain⟨i1,i2⟩:=ahl (l:=t) (p:=some a) h.2 (fun q hq x hx=>by cases hq; exact h.1 x hx);unfold yd
  split
  ·rename_i e;exact⟨i1,fun q hq x hx=>by rw[e] at hq; cases hq; exact i2 _ rfl x hx⟩
  ·rename_i e;refine⟨dP.2 ⟨fun x hx=>i2 _ rfl x hx,i1⟩,fun q hq x hx=>?_⟩;have:=hp q hq a (by simp);have hne:q≠a:=fun h=>e (by rw[hq,h]);rcases df.1 hx with rfl|hx
   ·omega
   ·have:=i2 _ rfl x hx; omega
def mX {l:List Int} {x:Int}:x∈XS l↔x∈l:=by
 unfold XS;rw[abn (by simp),(wN l).mem_iff]
def vw (l:List Int):(XS l).Pairwise (·<·):=(ahl (wM l) (fun q hq=>by cases hq)).1
def abo:∀(l:List Int) (p:Option Int),(yd p l).length≤l.length
 |[],_=>cR _
 |a::t,p=>by
  have:=abo t (some a);unfold yd
  split<;>simp<;>omega
def Fu (l:List Int):(XS l).length≤l.length:=by
 unfold XS;have:=abo (Xe l) none
 rwa [(wN l).length_eq] at this
def aaX {l m:List Int} (hl:l.Pairwise (·<·)) (hm:m.Pairwise (·<·)) (h:∀x,x∈l↔x∈m):l=m:=by
 induction l generalizing m with
 |nil =>
  cases m with
  |nil=>rfl
  |cons a t=>have:=(h a).2 (by simp); cases this
 |cons a t ih =>
  rw[dP] at hl
  cases m with
  |nil=>have:=(h a).1 (by simp); cases this
  |cons b u =>
   rw[dP] at hm
   have hab:a=b:=by
    rcases df.1 ((h a).1 (by simp)) with h1|h1
    ·exact h1
    ·rcases df.1 ((h b).2 (by simp)) with h2|h2
     ·exact h2.symm
     ·have:=hm.1 a h1; have:=hl.1 b h2; omega
   subst hab;rw[ih hl.2 hm.2 fun x=>?_];constructor
   ·intro hx;rcases df.1 ((h x).1 (by simp[hx])) with h1|h1
    ·have:=hl.1 x hx; omega
    ·exact h1
   ·intro hx;rcases df.1 ((h x).2 (by simp[hx])) with h1|h1
    ·have:=hm.1 x hx; omega
    ·exact h1
def ym (b:Þ) (s:List (Int×é)) (c:Cmp):Int :=
 if (c.2.2.1++c.2.2.2.1).any (fun id=>jm s id c.2.1==5) then 5 else
 if (c.2.2.1++c.2.2.2.1).any (fun id=>jm s id c.2.1==4) then 4 else
 if (c.2.2.1++c.2.2.2.1).any (fun id=>(jW b id c.2.1).isSome) then 9 else
 if 1<(è c.2.2.1 c.2.2.2.1).length then 1 else if 1<(è c.2.2.2.1 c.2.2.1).length then 1 else
 if (è c.2.2.1 c.2.2.2.1).length+(è c.2.2.2.1 c.2.2.1).length=0 then 1 else 0
def Nv (c:Cmp):Bool :=
 inP c.1 1 1099511627776&&(Jk c.2.1&&(inP c.2.2.2.2.1 (-1125899906842624) 1125899906842624&&(inP c.2.2.2.2.2.1 0 1073741824&&(jX c.2.2.2.2.2.2 (-10000) 10000&&(l8 c.2.2.1&&l8 c.2.2.2.1)))))
def lX (b:Þ) (s:List (Int×é)) (i:Nat) (c:Cmp):Int :=
 if !Nv c then 1 else if (b.2.2.2.2.1.take i).any (fun x=>x.1==c.1) then 6 else ym b s c
def Al (a b:List Int):(è a b).length≤a.length:=dO _ _
set_option maxHeartbeats 1000000 in
def Tr {b:Þ} (hn:b.2.2.2.2.1.length≤1000) (hl:b.2.2.2.1.length≤1000) (s:List (Int×é)) {i:Nat} {c:Cmp} (hA:c.2.2.1.length≤1000) (hB:c.2.2.2.1.length≤1000)
 (hc:b.2.2.2.2.1[i]?=some c):Ō b s i=some (lX b s i c):=by
 have hi:i<b.2.2.2.2.1.length:=(List.getElem?_eq_some_iff.1 hc).1;unfold Ō oq lX Nv;rw[É hc,ic,À]
 cases inP c.1 1 1099511627776 with
 |false=>rfl
 |true =>
 rw[aak,À]
 cases Jk c.2.1 with
 |false=>rfl
 |true =>
 rw[ic,À]
 cases inP c.2.2.2.2.1 (-1125899906842624) 1125899906842624 with
 |false=>rfl
 |true =>
 rw[ic,À]
 cases inP c.2.2.2.2.2.1 0 1073741824 with
 |false=>rfl
 |true =>
 rw[IH,À]
 cases jX c.2.2.2.2.2.2 (-10000) 10000 with
 |false=>rfl
 |true =>
 rw[IG (by omega),À]
 cases l8 c.2.2.1 with
 |false=>rfl
 |true =>
 rw[IG (by omega),À]
 cases l8 c.2.2.2.1 with
 |false=>rfl
 |true =>
 have hg:((ile (0:Int) (i:Int))&&(ile (i:Int) (Ĕ b.2.2.2.2.1)))=true:=by simp[ile,Ĕ]; omega
 simp only[d9,å,Bool.and_self,dm,if_false];rw[Ĭ hg,dn]
 -- what comes behind the IDs
 have rest:(Ã (ï ([c.2.2.1,c.2.2.2.1])) fun r12=>Ñ (fun(v36:Int) kk38=>Ŗ s r12 (Ú ([(5:Int),(4:Int)])) c.2.1 ([(5:Int),(4:Int)]) v36 (fun u37=>kk38 u37) (fun z23=>some z23) (fun _=>Ñ (fun(v33:Int) kk35=>ŕ r12 (Ú r12) b.1.1 b.1.2 b.2.1 b.2.2.1 b.2.2.2.1 b.2.2.2.2.1 b.2.2.2.2.2 c.2.1 v33 (fun u34=>kk35 u34) (fun z28=>some z28) (fun _=>Ã (ũ c.2.2.1 c.2.2.2.1) fun r30=>Ã (ũ c.2.2.2.1 c.2.2.1) fun r31=>ifb (igt (Ú r30) (1:Int)) (some (1:Int)) (ifb (igt (Ú r31) (1:Int)) (some (1:Int)) (ck ((Ú r30)+(Ú r31)) fun n32=>ifb (ieq n32 (0:Int)) (some (1:Int)) (some (0:Int)))))) (0:Int))) (0:Int))=some (ym b s c):=by
  rw[anT (by omega) (by omega),À]
  have hall:(c.2.2.1++c.2.2.2.1).length≤2000:=by simp; omega
  have last:(Ã (ũ c.2.2.1 c.2.2.2.1) fun r30=>Ã (ũ c.2.2.2.1 c.2.2.1) fun r31=>ifb (igt (Ú r30) (1:Int)) (some (1:Int)) (ifb (igt (Ú r31) (1:Int)) (some (1:Int)) (ck ((Ú r30)+(Ú r31)) fun n32=>ifb (ieq n32 (0:Int)) (some (1:Int)) (some (0:Int))))) =
   some (if 1<(è c.2.2.1 c.2.2.2.1).length then 1 else if 1<(è c.2.2.2.1 c.2.2.1).length then 1 else if (è c.2.2.1 c.2.2.2.1).length+(è c.2.2.2.1 c.2.2.1).length=0 then 1 else 0):=by
   rw[tg (by omega) (by omega),À,tg (by omega) (by omega),À];have l1:=Al c.2.2.1 c.2.2.2.1;have l2:=Al c.2.2.2.1 c.2.2.1;rw[á,á,Õ (by omega) (by omega)]
   by_cases c1:1<(è c.2.2.1 c.2.2.2.1).length
   ·rw[Ô (by simp[igt]; omega),if_pos c1]
   rw[Ò (by simp[igt]; omega),if_neg c1]
   by_cases c2:1<(è c.2.2.2.1 c.2.2.1).length
   ·rw[Ô (by simp[igt]; omega),if_pos c2]
   rw[Ò (by simp[igt]; omega),if_neg c2]
   by_cases c3:(è c.2.2.1 c.2.2.2.1).length+(è c.2.2.2.1 c.2.2.1).length=0
   ·rw[Ô (by simp[ieq]; omega),if_pos c3]
   rw[Ò (by simp[ieq]; omega),if_neg c3]
  refine eG (iq [(5:Int),4] (fun _ want=>if (c.2.2.1++c.2.2.2.1).any (fun id=>jm s id c.2.1==want) then some want else none) some (some (if (c.2.2.1++c.2.2.2.1).any (fun id=>(jW b id c.2.1).isSome) then 9 else if 1<(è c.2.2.1 c.2.2.2.1).length then 1 else if 1<(è c.2.2.2.1 c.2.2.1).length then 1 else if (è c.2.2.1 c.2.2.2.1).length+(è c.2.2.2.1 c.2.2.1).length=0 then 1 else 0)) (fun j want hj hw kn=>?_) (fun kn=>?_)) ?_
  ·try dsimp only
   unfold Ŗ;rw[Ó hj,iu hj,ĭ hw];refine Eq.trans (ī (c.2.2.1++c.2.2.2.1) (fun id=>jm s id c.2.1==want) (fun _=>some want) (some want) (kn ((j:Int)+1)) (fun _=>rfl) (fun k a hk ha kn'=>?_) (fun kn'=>?_)) ?_
   ·try dsimp only
    unfold iI;rw[Ó hk,É ha,afE,À,Ì hk (by omega),Ė]
   ·try dsimp only
    unfold iI;rw[Ü,Ì hj (by simp)]
   ·cases List.any (c.2.2.1++c.2.2.2.1) (fun id=>jm s id c.2.1==want)<;>rfl
  ·try dsimp only
   unfold Ŗ;rw[Ü];refine Eq.trans (ī (c.2.2.1++c.2.2.2.1) (fun id=>(jW b id c.2.1).isSome) (fun _=>some 9) (some 9) (some (if 1<(è c.2.2.1 c.2.2.2.1).length then 1 else if 1<(è c.2.2.2.1 c.2.2.1).length then 1 else if (è c.2.2.1 c.2.2.2.1).length+(è c.2.2.2.1 c.2.2.1).length=0 then 1 else 0)) (fun _=>rfl) (fun k a hk ha kn'=>?_) (fun kn'=>?_)) ?_
   ·try dsimp only
    unfold ŕ;have haw:=ark hl a c.2.1;rw[Ó hk,É ha,Ì hk (by omega)];rw[show BA ((b.1.1,b.1.2),b.2.1,b.2.2.1,b.2.2.2.1,b.2.2.2.2.1,b.2.2.2.2.2) a c.2.1=BA b a c.2.1 from rfl,haw,À]
    cases jW b a c.2.1<;>rfl
   ·try dsimp only
    unfold ŕ;rw[Ü,last]
   ·cases List.any (c.2.2.1++c.2.2.2.1) (fun id=>(jW b id c.2.1).isSome)<;>rfl
  ·unfold ym Ĩ Ĩ Ĩ
   try dsimp only
   cases List.any (c.2.2.1++c.2.2.2.1) (fun id=>jm s id c.2.1==5) with
   |true=>rfl
   |false =>
   cases List.any (c.2.2.1++c.2.2.2.1) (fun id=>jm s id c.2.1==4)<;>rfl
 refine eG (ī (b.2.2.2.2.1.take i) (fun x=>x.1==c.1) (fun z11=>ifb (ige z11 (0:Int)) (some 6) (some (ym b s c))) (some 6) (some (ym b s c)) (fun j=>?_) (fun j a hj ha kn=>?_) (fun kn=>?_)) ?_
 ·have:ige (j:Int) 0=true:=by simp[ige]
  rw[Ô this]
 ·try dsimp only
  unfold iJ;rw[rest,Ó hj,É ha,Ì hj (by rw[List.length_take]; omega),Ė]
 ·try dsimp only
  unfold iJ;rw[Ü,rest]
 ·cases List.any (b.2.2.2.2.1.take i) (fun x=>x.1==c.1)<;>rfl
def aaC (b:Þ) (g:é):List Int :=
 [g.2.1]++(b.2.2.2.2.1.filter fun c=>!(c.2.2.1.contains g.1==c.2.2.2.1.contains g.1)).map (fun c=>c.2.1)++(b.2.2.2.2.2.filter fun n=>n.1==g.1).map (fun n=>n.2)
def à (b:Þ) (g:é):List Int:=XS (aaC b g)
structure ō (b:Þ):Prop where
 gauges:b.2.1.length≤1000
 uses:b.2.2.1.length≤1000
 loans:b.2.2.2.1.length≤1000
 compares:b.2.2.2.2.1.length≤1000
 looks:b.2.2.2.2.2.length≤1000
 piles:∀c∈b.2.2.2.2.1,c.2.2.1.length≤1000∧c.2.2.2.1.length≤1000
def abx (l:List Int):(Fs l).length=l.length:=List.length_mergeSort l
def aev {b:Þ} (hs:ō b) (g:é):(aaC b g).length≤2001:=by
 have h1:=hs.compares;have h2:=hs.looks;have h3:=dO (fun c:Cmp=>!(c.2.2.1.contains g.1==c.2.2.2.1.contains g.1)) b.2.2.2.2.1;have h4:=dO (fun n:Int×Int=>n.1==g.1) b.2.2.2.2.2;simp only[aaC,cX,dV,dI];omega
def amu {b:Þ} (hs:ō b) (g:é):pf b g=some (à b g):=by
 unfold pf Z4;have hr:=aev hs g
 have hd:(à b g).length≤2001:=by
  unfold à;have:=Fu (aaC b g);omega
 have hcl:=hs.compares;have hll:=hs.looks;refine ò b.2.2.2.2.1 (fun i=>[g.2.1]++((b.2.2.2.2.1.take i).filter fun c=>!(c.2.2.1.contains g.1==c.2.2.2.1.contains g.1)).map (fun c=>c.2.1)) _ rfl (fun i c hi hc kn=>?_) (fun kn=>?_)
 ·try dsimp only
  unfold wG;obtain⟨p1,p2⟩:=hs.piles c (List.mem_of_getElem? hc);rw[Ó hi,É hc,n0 (by omega),À,n0 (by omega),À,Ì hi (by omega),Ì hi (by omega),take_succ hc,List.filter_append,List.map_append]
  have hlen:([g.2.1]++((b.2.2.2.2.1.take i).filter fun c=>!(c.2.2.1.contains g.1==c.2.2.2.1.contains g.1)).map (fun c=>c.2.1)).length≤1001:=by
   have h3:=dO (fun c:Cmp=>!(c.2.2.1.contains g.1==c.2.2.2.1.contains g.1)) (b.2.2.2.2.1.take i);rw[di] at h3;simp only[cX,dV,dI];omega
  rw[Ø (by simp only[dI]; omega),Am.iff_true]
  cases h:(c.2.2.1.contains g.1==c.2.2.2.1.contains g.1) with
  |true=>simp only[d9,å,dZ,h,dm,if_false,eo,fo,dR]
  |false=>simp only[gh,Ĝ,dZ,h,if_true,eo,eP,fo,du]
 ·try dsimp only
  unfold wG;rw[Ü,List.take_length];refine ò b.2.2.2.2.2 (fun i=>[g.2.1]++(b.2.2.2.2.1.filter fun c=>!(c.2.2.1.contains g.1==c.2.2.2.1.contains g.1)).map (fun c=>c.2.1)++((b.2.2.2.2.2.take i).filter fun n=>n.1==g.1).map (fun n=>n.2)) _ (by simp) (fun i n hi hn kn=>?_) (fun kn=>?_)
  ·try dsimp only
   unfold wF;rw[Ó hi,É hn,Ì hi (by omega),Ì hi (by omega),take_succ hn,List.filter_append,List.map_append]
   have hlen:([g.2.1]++(b.2.2.2.2.1.filter fun c=>!(c.2.2.1.contains g.1==c.2.2.2.1.contains g.1)).map (fun c=>c.2.1)++((b.2.2.2.2.2.take i).filter fun n=>n.1==g.1).map (fun n=>n.2)).length≤2001:=by
    have h3:=dO (fun c:Cmp=>!(c.2.2.1.contains g.1==c.2.2.2.1.contains g.1)) b.2.2.2.2.1;have h4:=dO (fun n:Int×Int=>n.1==g.1) (b.2.2.2.2.2.take i);rw[di] at h4;simp only[cX,dV,dI];omega
   rw[Ø (by simp only[dI]; omega),Am.iff_true]
   cases h:(n.1==g.1) with
   |true =>
    have:ieq n.1 g.1=true:=h;simp[h,this]
   |false =>
    have:ieq n.1 g.1=false:=h;simp[h,this]
  ·try dsimp only
   unfold wF;rw[Ü,List.take_length];rw[show([g.2.1]++(b.2.2.2.2.1.filter fun c=>!(c.2.2.1.contains g.1==c.2.2.2.1.contains g.1)).map (fun c=>c.2.1)++(b.2.2.2.2.2.filter fun n=>n.1==g.1).map (fun n=>n.2))=aaC b g from rfl];dsimp only;rw[Ø (by omega),Am.iff_true,Ø (by rw[abx]; omega),Am.iff_true,akW];rfl
def Í (b:Þ):List (Int×Int):=b.2.1.flatMap fun g=>(à b g).map fun d=>((g.1,d):Int×Int)
def Jj {b:Þ} (hs:ō b) (g:é):(à b g).length≤2001:=by
 unfold à;have:=Fu (aaC b g);have:=aev hs g;omega
def wS {α β:Type} (f:α→List β) (n:Nat) (h:∀a,(f a).length≤n):∀l:List α,(l.flatMap f).length≤l.length*n
 |[]=>by simp
 |a::l=>by
  have:=wS f n h l;have:=h a;simp only[dK,cX,dg,dF,fp];omega
def Yh {b:Þ} (hs:ō b):qE b=some (Í b):=by
 unfold qE Sk;have hg:=hs.gauges
 have hlen:∀l:List é,(l.flatMap fun g=>(à b g).map fun d=>((g.1,d):Int×Int)).length≤l.length*2001:=fun l =>
  wS _ 2001 (fun g=>by rw[dV]; exact Jj hs g) l
 refine ò b.2.1 (fun i=>(b.2.1.take i).flatMap fun g=>(à b g).map fun d=>((g.1,d):Int×Int)) _ rfl (fun i g hi hg' kn=>?_) (fun kn=>?_)
 ·try dsimp only
  unfold sl;rw[Ó hi,É hg'];rw[show pf ((b.1.1,b.1.2),b.2.1,b.2.2.1,b.2.2.2.1,b.2.2.2.2.1,b.2.2.2.2.2) g=pf b g from rfl,amu hs,À];have hd:=Jj hs g;have hi2:=hlen (b.2.1.take i)
  have htl:(b.2.1.take i).length≤1000:=by rw[di]; omega
  refine ò (à b g) (fun j=>((b.2.1.take i).flatMap fun g=>(à b g).map fun d=>((g.1,d):Int×Int))++((à b g).take j).map fun d=>((g.1,d):Int×Int)) _ (by simp) (fun j d hj hd' kn'=>?_) (fun kn'=>?_)
  ·try dsimp only
   unfold sk;rw[Ó hj,É hd',Ì hj (by omega),take_succ hd',List.map_append];rw[Ø (by simp only[List.length_append,List.length_map,List.length_take,List.length_singleton]; omega),Am.iff_true];simp
  ·try dsimp only
   unfold sk;rw[Ü,List.take_length];dsimp only;rw[Ì hi (by omega),take_succ hg',List.flatMap_append];simp
 ·try dsimp only
  unfold sl;rw[Ü,List.take_length];rfl
def yo (b:Þ) (s:List (Int×é)):List Int :=
 b.2.2.1.map (fun u=>abi s u.1 u.2)++(b.2.2.2.1.mapIdx (fun i l=>IE b s i l)++(b.2.2.2.2.1.mapIdx (fun i c=>lX b s i c)++b.2.2.2.2.2.map (fun u=>abi s u.1 u.2)))
def acC {α:Type} {f:Int→Option Int} {g:Nat→α→Int} (l:List α) (h:∀(i:Nat) (a:α),l[i]?=some a→f i=some (g i a)):PW f (yc l.length)=some (l.mapIdx g):=by
 have h1:∀i,i<l.length→f (i:Int)=some ((l.mapIdx g)[i]?.getD 0):=by
  intro i hi;rw[h i l[i] (cQ hi)];simp[hi]
 have h2:∀x∈yc l.length,f x=some ((l.mapIdx g)[x.toNat]?.getD 0):=by
  intro x hx;unfold yc at hx;obtain⟨i,hi,rfl⟩:=List.mem_map.1 hx;rw[h1 i (by simpa using hi)];rfl
 rw[F5 h2];congr 1;refine gM (by simp[yc]) fun i h3 h4=>?_
 have h5:i<l.length:=by simpa using h4
 simp[yc,h5]
def aov {b:Þ} (hs:ō b) (s:List (Int×é)):nP b s=some (yo b s):=by
 unfold nP yo
 rw[F5 (fun u _=>abS s u.1 u.2),À,acC b.2.2.2.1 (fun i l hl=>aeA hs.loans hs.uses s hl),À,
  acC b.2.2.2.2.1 (fun i c hc=>Tr hs.compares hs.loans s (hs.piles c (cZ hc)).1 (hs.piles c (cZ hc)).2 hc),À,F5 (fun u _=>abS s u.1 u.2),À]
def ê (b:Þ):Int :=
 if !jX b.1 0 1000000 then 1 else
 if 12<b.2.1.length then 2 else if 40<b.2.2.1.length then 2 else if 12<b.2.2.2.1.length then 2 else if 40<b.2.2.2.2.1.length then 2 else if 10<b.2.2.2.2.2.length then 2 else
 if ju b != 0 then ju b else
 match (yo b (Ů b)).find? (fun e=>e != 0) with
 |some e=>e
 |none=>if 59<(Í b).length then 2 else if 300<2*b.2.1.length+2*((Í b).length-b.2.1.length:Int)+2*b.2.2.2.2.1.length then 2 else 0
def JZ {b:Þ} (hs:ō b):(Í b).length≤2001000:=by
 have:=wS (fun g:é=>(à b g).map fun d=>((g.1,d):Int×Int)) 2001 (fun g=>by rw[List.length_map]; exact Jj hs g) b.2.1;have h2:=hs.gauges;unfold Í;omega
def ji {b:Þ} (hs:ō b) (hr:∀g∈b.2.1,I64 g.2.2.2.2.1.1):Ā b=some (ê b):=by
 unfold Ā Sz ê;rw[IH,À]
 cases jX b.1 0 1000000 with
 |false=>rfl
 |true =>
 have h1:=hs.gauges;have h2:=hs.compares;have h3:=JZ hs;rw[Ò (show(!true)=false from rfl),if_neg (by simp)];simp only[á]
 by_cases c0:12<b.2.1.length
 ·rw[Ô (by simp[igt]; omega),if_pos c0]
 rw[Ò (by simp[igt]; omega),if_neg c0]
 by_cases c1:40<b.2.2.1.length
 ·rw[Ô (by simp[igt]; omega),if_pos c1]
 rw[Ò (by simp[igt]; omega),if_neg c1]
 by_cases c2:12<b.2.2.2.1.length
 ·rw[Ô (by simp[igt]; omega),if_pos c2]
 rw[Ò (by simp[igt]; omega),if_neg c2]
 by_cases c3:40<b.2.2.2.2.1.length
 ·rw[Ô (by simp[igt]; omega),if_pos c3]
 rw[Ò (by simp[igt]; omega),if_neg c3]
 by_cases c4:10<b.2.2.2.2.2.length
 ·rw[Ô (by simp[igt]; omega),if_pos c4]
 rw[Ò (by simp[igt]; omega),if_neg c4];rw[VP hr h1,À]
 cases hm:(ju b != 0) with
 |true =>
  have:ine (ju b) 0=true:=hm;rw[Ô this,if_pos rfl]
 |false =>
 have:ine (ju b) 0=false:=hm;rw[Ò this,if_neg (by simp)];rw[V6 h1,À];unfold abK;rw[aov hs,À]
 cases(yo b (Ů b)).find? (fun e=>e != 0) with
 |some e=>rfl
 |none =>
 dsimp only;rw[Yh hs,À]
 by_cases c5:59<(Í b).length
 ·rw[Ô (by simp[igt]; omega),if_pos c5]
 rw[Ò (by simp[igt]; omega),if_neg c5];rw[Õ (by omega) (by omega),Õ (by omega) (by omega),Õ (by omega) (by omega),Õ (by omega) (by omega),Õ (by omega) (by omega),Õ (by omega) (by omega)]
 by_cases c6:300<2*b.2.1.length+2*((Í b).length-b.2.1.length:Int)+2*b.2.2.2.2.1.length
 ·rw[Ô (by simp[igt]; omega),if_pos c6]
 rw[Ò (by simp[igt]; omega),if_neg c6]
def wrapU {n:Nat} (h:n<18446744073709551616):IntKind.wrap .u64 (n:Int)=n:=by
 simp only[IntKind.wrap,IntKind.bits,IntKind.signed];simp;omega
def wrapI {n:Nat} (h:n<9223372036854775808):IntKind.wrap .i64 (n:Int)=n:=by
 simp only[IntKind.wrap,IntKind.bits,IntKind.signed];simp;omega
def iD (l:List (Int×Int)) (x d:Int):Option Nat:=l.findIdx? fun n=>decide (x=n.1)&&decide (d=n.2)
def ae0 {l:List (Int×Int)} (hn:l.length≤100000000) (x d:Int):þ l (x,d)=some (match iD l x d with|some j=>(j:Int)|none=>-1):=by
 unfold þ Ÿ;refine Eq.trans (Υ l (fun n=>decide (x=n.1)&&decide (d=n.2)) some (some (-1)) (fun i a hi ha kn=>?_) (fun kn=>?_)) ?_
 ·try dsimp only
  unfold Ī;rw[Ó hi,É ha,Ì hi (by omega),Ė,Bool.and_true]
 ·try dsimp only
  unfold Ī;rw[Ü]
 ·unfold iD
  cases List.findIdx? (fun n=>decide (x=n.1)&&decide (d=n.2)) l<;>rfl
def atP (l:List (Int×Int)) (p:List Int) (d:Int):Int :=
 match p with
 |[]=>0
 |x::_=>match iD l x d with|some j=>(j:Int)+1|none=>0
def kQ {l:List (Int×Int)} {x d:Int} {j:Nat} (h:iD l x d=some j):j<l.length∧l[j]?=some (x,d):=by
 unfold iD at h;obtain⟨hj,hp,_⟩:=List.findIdx?_eq_some_iff_getElem.1 h;refine⟨hj,?_⟩;rw[List.getElem?_eq_getElem hj];simp only[Bool.and_eq_true,decide_eq_true_eq] at hp;congr 1;exact Prod.ext hp.1.symm hp.2.symm
def ank (m:Maker) (p:List Int) (d:Int) (hn:m.2.1.length≤100000000):iC m p d=some (atP m.2.1 p d):=by
 unfold iC Ab atP
 cases p with
 |nil=>simp[á,ieq]
 |cons x p =>
  have h:ieq (Ú (x::p)) 0=false:=by
   rw[á];simp only[ieq,dg,beq_eq_false_iff_ne,ne_eq];omega
  rw[h,å,show(0:Int)=((0:Nat):Int) from rfl,É (a:=x) rfl,ae0 hn,À]
  cases hx:iD m.2.1 x d with
  |none=>dsimp only; rw[Õ (by omega) (by omega)]; simp only[hx]; rfl
  |some j =>
   have:=(kQ hx).1;dsimp only;rw[Õ (by omega) (by omega)];simp only[hx]
def yk (s:List (Int×é)) (p:List Int):Int×Int :=
 match p with
 |[]=>(0,1)
 |x::_=>match tR (k:=tI) (v:=Ð) x s with
  |some g=>g.2.2.2.2.1
  |none=>(0,0)
def abJ (s:List (Int×é)) (p:List Int):i5 s p=some (yk s p):=by
 unfold i5 oo yk
 cases p with
 |nil=>simp[á,ieq]
 |cons x p =>
  have h:ieq (Ú (x::p)) 0=false:=by
   rw[á];simp only[ieq,dg,beq_eq_false_iff_ne,ne_eq];omega
  rw[h,å,show(0:Int)=((0:Nat):Int) from rfl,É (a:=x) rfl]
  cases hx:tR (k:=tI) (v:=Ð) x s with
  |none=>simp only[abd,hx]
  |some g=>simp only[abd,hx]
def ahh {l:List (Int×Int)} (hr:∀r∈l,I64 r.1) (hn:l.length≤1000):kf l=some (if l.any (fun r=>!LX r) then 1 else 0):=by
 unfold kf RN;refine Eq.trans (ī l (fun r=>!LX r) (fun _=>some 1) (some 1) (some 0) (fun _=>rfl) (fun i a hi ha kn=>?_) (fun kn=>?_)) ?_
 ·try dsimp only
  unfold sg;rw[Ó hi,É ha,aa5 (hr a (List.mem_of_getElem? ha)),À,Ì hi (by omega),Ė]
 ·try dsimp only
  unfold sg;rw[Ü]
 ·cases l.any (fun r=>!LX r)<;>rfl
def od (n d:Int):Int×Int:=(n / (Nat.gcd n.natAbs d.natAbs:Nat),d / (Nat.gcd n.natAbs d.natAbs:Nat))
def ki (r:Int×Int):LX r=true↔1≤r.2∧r.2≤2147483647∧(r.1.natAbs:Int)≤2147483647∧Nat.gcd r.1.natAbs r.2.natAbs=1:=by
 simp[LX]
def A1 {n d:Int} (hd:0<d):∃g:Nat,0<g∧g=Nat.gcd n.natAbs d.natAbs∧n=(od n d).1*g∧d=(od n d).2*g:=by
 have hg:0<Nat.gcd n.natAbs d.natAbs:=Nat.gcd_pos_of_pos_right _ (by omega);refine⟨_,hg,rfl,?_,?_⟩
 ·exact(Int.ediv_mul_cancel (Int.ofNat_dvd_left.2 (Nat.gcd_dvd_left _ _))).symm
 ·exact(Int.ediv_mul_cancel (Int.ofNat_dvd_left.2 (Nat.gcd_dvd_right _ _))).symm
def XX {n d:Int} (hd:0<d) (hn:n.natAbs≤2147483647) (hd2:d≤2147483647):LX (od n d)=true:=by
 obtain⟨g,h0,hg,h1,h2⟩:=A1 (n:=n) hd;rw[ki]
 have a1:n.natAbs=(od n d).1.natAbs*g:=by conv=>lhs; rw[h1]; rw[fJ,fL]
 have a2:d.natAbs=(od n d).2.natAbs*g:=by conv=>lhs; rw[h2]; rw[fJ,fL]
 have p2:0<(od n d).2:=by
  rcases Int.lt_trichotomy (od n d).2 0 with h|h|h
  ·have:=Int.mul_neg_of_neg_of_pos h (show(0:Int)<g by omega); omega
  ·rw[h] at h2; simp at h2; omega
  ·exact h
 have b1:(od n d).1.natAbs≤n.natAbs:=by rw[a1]; exact f7 _ h0
 have b2:(od n d).2.natAbs≤d.natAbs:=by rw[a2]; exact f7 _ h0
 refine⟨by omega,by omega,by omega,?_⟩;have:=Nat.gcd_mul_right (od n d).1.natAbs g (od n d).2.natAbs;rw[←a1,←a2,←hg] at this
 have h3:(Nat.gcd (od n d).1.natAbs (od n d).2.natAbs)*g=1*g:=by omega
 exact Nat.eq_of_mul_eq_mul_right h0 h3
def V9 {n d:Int} (hd:0<d) (hn:n.natAbs≤2147483647) (hd2:d≤2147483647):qD n d=some (od n d,0):=by
 obtain⟨g,h0,hg,h1,h2⟩:=A1 (n:=n) hd;have hr:=(ki _).1 (XX hd hn hd2);unfold qD EP;rw[XR ⟨by omega,by omega⟩,À,XR ⟨by omega,by omega⟩,À,ap8,À,←hg]
 have a1:n.natAbs=(od n d).1.natAbs*g:=by conv=>lhs; rw[h1]; rw[fJ,fL]
 have a2:d.natAbs=(od n d).2.natAbs*g:=by conv=>lhs; rw[h2]; rw[fJ,fL]
 have q1:Int.tdiv (n.natAbs:Int) (g:Int)=((od n d).1.natAbs:Int):=by
  rw[a1,gU]; exact gA _ (by omega)
 have q2:Int.tdiv (d.natAbs:Int) (g:Int)=((od n d).2.natAbs:Int):=by
  rw[a2,gU]; exact gA _ (by omega)
 have z:ü (g:Int) 0=false:=by simp[ü]; omega
 have g1:igt ((od n d).1.natAbs:Int) 2147483647=false:=by simp[igt]; omega
 have g2:igt ((od n d).2.natAbs:Int) 2147483647=false:=by simp[igt]; omega
 rw[Ò z,Ò z,q1,q2,wrapU (by omega),wrapU (by omega),wrapI (by omega),wrapI (by omega),Ò g1,Ò g2]
 have hd0:ilt d 0=false:=by simp[ilt]; omega
 rw[hd0]
 have e2:((od n d).2.natAbs:Int)=(od n d).2:=by omega
 rw[e2]
 by_cases hneg:n<0
 ·have hn0:ilt n 0=true:=by simp[ilt,hneg]
  have:(od n d).1≤0:=by
   rcases gG 0 (od n d).1 with h|h
   ·have:=Int.mul_pos h (show(0:Int)<g by omega); omega
   ·exact h
  rw[hn0];rw[show(!true==false)=true from rfl,Ĝ,Õ (by omega) (by omega)]
  have:0-((od n d).1.natAbs:Int)=(od n d).1:=by omega
  rw[this]
 ·have hn0:ilt n 0=false:=by simp[ilt]; omega
  have:0≤(od n d).1:=by
   rcases gG (od n d).1 0 with h|h
   ·have:=Int.mul_neg_of_neg_of_pos h (show(0:Int)<g by omega); omega
   ·exact h
  rw[hn0];rw[show(!false==false)=false from rfl,å]
  have:((od n d).1.natAbs:Int)=(od n d).1:=by omega
  rw[this]
structure qM (r:Int×Int) (n d:Int):Prop where
 rat:LX r=true
 num : -n≤r.1∧r.1≤n
 den:r.2≤d
def qM.pos {r:Int×Int} {n d:Int} (h:qM r n d):1≤r.2:=((ki r).1 h.rat).1
def qM.i64 {r:Int×Int} {n d:Int} (h:qM r n d):I64 r.1:=by
 have:=((ki r).1 h.rat).2.2.1;exact⟨by omega,by omega⟩
def akE {x y:Int×Int} (hx:LX x=true) (hy:LX y=true):kf [x,y]=some 0:=by
 rw[ahh]
 ·simp[hx,hy]
 ·intro r hr
  have:LX r=true:=by simp at hr; rcases hr with rfl|rfl<;>assumption
  have:=((ki r).1 this).2.2.1;exact⟨by omega,by omega⟩
 ·simp
def m5 {a b m n:Int} (h1 : -m≤a∧a≤m) (h2 : -n≤b∧b≤n) : -(m*n)≤a*b∧a*b≤m*n:=by
 have hm:0≤m:=by omega
 have hn:0≤n:=by omega
 have h3:(a*b).natAbs≤(m*n).natAbs:=by
  rw[fJ,fJ];exact gg (by omega) (by omega)
 have h4:0≤m*n:=fX hm hn;omega
def subP (x y:Int×Int):Int×Int:=od (x.1*y.2-y.1*x.2) (x.2*y.2)
def JH {x y:Int×Int} (hx:qM x 1000 100) (hy:qM y 1000 100):(x.1*y.2-y.1*x.2).natAbs≤200000∧0<x.2*y.2∧x.2*y.2≤10000:=by
 have h1:=m5 hx.num (show -100≤y.2∧y.2≤100 from⟨by have:=hy.pos; omega,hy.den⟩);have h2:=m5 hy.num (show -100≤x.2∧x.2≤100 from⟨by have:=hx.pos; omega,hx.den⟩);have h3:=m5 (show -100≤x.2∧x.2≤100 from⟨by have:=hx.pos; omega,hx.den⟩) (show -100≤y.2∧y.2≤100 from⟨by have:=hy.pos; omega,hy.den⟩);have h4:=Int.mul_pos (show 0<x.2 by have:=hx.pos; omega) (show 0<y.2 by have:=hy.pos; omega);refine⟨by omega,h4,by omega⟩
def Sub_ok {x y:Int×Int} (hx:qM x 1000 100) (hy:qM y 1000 100):aaA x y=some (subP x y,0):=by
 obtain⟨b1,b2,b3⟩:=JH hx hy;have h1:=m5 hx.num (show -100≤y.2∧y.2≤100 from⟨by have:=hy.pos; omega,hy.den⟩);have h2:=m5 hy.num (show -100≤x.2∧x.2≤100 from⟨by have:=hx.pos; omega,hx.den⟩);unfold aaA agd;rw[akE hx.rat hy.rat,À];rw[show ine (0:Int) 0=false from rfl,å,Õ (by omega) (by omega),Õ (by omega) (by omega),Õ (by omega) (by omega),Õ (by omega) (by omega),V9 b2 (by omega) (by omega),À];rfl
def ak5 {n d:Int} (hd:0<d):(od n d).1.natAbs≤n.natAbs∧(od n d).2≤d:=by
 obtain⟨g,h0,hg,h1,h2⟩:=A1 (n:=n) hd
 have a1:n.natAbs=(od n d).1.natAbs*g:=by conv=>lhs; rw[h1]; rw[fJ,fL]
 have a2:d.natAbs=(od n d).2.natAbs*g:=by conv=>lhs; rw[h2]; rw[fJ,fL]
 have b1:(od n d).1.natAbs≤n.natAbs:=by rw[a1]; exact f7 _ h0
 have b2:(od n d).2.natAbs≤d.natAbs:=by rw[a2]; exact f7 _ h0
 exact⟨b1,by omega⟩
def Pn {x y:Int×Int} (hx:qM x 1000 100) (hy:qM y 1000 100):qM (subP x y) 200000 10000:=by
 obtain⟨b1,b2,b3⟩:=JH hx hy;obtain⟨c1,c2⟩:=ak5 (n:=x.1*y.2-y.1*x.2) b2;exact⟨XX b2 (by omega) (by omega),by unfold subP; omega,by unfold subP; omega⟩
def F0 (k:Int×Int) (n:Int):Int×Int:=od (k.1*n) k.2
def J0 {k:Int×Int} (hk:qM k 200000 10000) {n:Int} (hn : -10000≤n∧n≤10000):(k.1*n).natAbs≤2000000000:=by
 have:=m5 hk.num hn;omega
def ags {n:Int} (hn : -10000≤n∧n≤10000):LX (n,1)=true:=by
 rw[ki];exact⟨by simp,by simp,by simp; omega,by simp⟩
def aqn {k:Int×Int} (hk:qM k 200000 10000) {n:Int} (hn : -10000≤n∧n≤10000):Tf k (n,1)=some (F0 k n,0):=by
 have b:=J0 hk hn;have p:=hk.pos;have q:=hk.den;unfold Tf agf;rw[akE hk.rat (ags hn),À];rw[show ine (0:Int) 0=false from rfl,å,Õ (by simp only; omega) (by simp only; omega),Int.mul_one,Õ (by omega) (by omega),V9 (by omega) (by simp only; omega) (by omega),À];rfl
def Yl {k:Int×Int} (hk:qM k 200000 10000) {n:Int} (hn : -10000≤n∧n≤10000):qM (F0 k n) 2000000000 10000:=by
 have b:=J0 hk hn;have p:=hk.pos;have q:=hk.den;obtain⟨c1,c2⟩:=ak5 (n:=k.1*n) (show 0<k.2 by omega);exact⟨XX (by omega) (by omega) (by omega),by unfold F0; omega,by unfold F0; omega⟩
def aqf (x y:Int×Int):Int:=if x=y then 0 else if x.1*y.2<y.1*x.2 then -1 else if y.1*x.2<x.1*y.2 then 1 else 0
def aqe {x y:Int×Int} {m d:Int} (hx:qM x m d) (hy:qM y m d) (hm:m≤2000000000) (hd:d≤10000):Td x y=some (aqf x y):=by
 have h1:=m5 hx.num (show -d≤y.2∧y.2≤d from⟨by have:=hy.pos; have:=hy.den; omega,hy.den⟩);have h2:=m5 hy.num (show -d≤x.2∧x.2≤d from⟨by have:=hx.pos; have:=hx.den; omega,hx.den⟩);have h0:0≤m∧0≤d:=⟨by have:=hx.num; omega,by have:=hx.pos; have:=hx.den; omega⟩;have h3:m*d≤2000000000*10000:=Int.mul_le_mul hm hd h0.2 (by omega);unfold Td agb aqf;rw[Õ (by omega) (by omega),Õ (by omega) (by omega)];simp only[Ė,Bool.and_true,Bool.and_eq_true,decide_eq_true_eq,ü,ilt,igt,gt_iff_lt];have:(x.1=y.1∧x.2=y.2)↔x=y:=⟨fun h=>Prod.ext h.1 h.2,fun h=>by rw[h]; exact⟨rfl,rfl⟩⟩;simp only[this]
 (repeat' split)<;>rfl
def Yd (k:Int×Int) (heat:Int×Int):(Int×Int)×(Int×Int) :=
 if 0<aqf (F0 k heat.1) (F0 k heat.2) then(F0 k heat.2,F0 k heat.1) else(F0 k heat.1,F0 k heat.2)
def aqK {k heat:Int×Int} (hk:qM k 200000 10000) (hh:jX heat (-10000) 10000=true):pd k heat=some (Yd k heat):=by
 simp only[jX,Bool.and_eq_true,decide_eq_true_eq] at hh;obtain⟨h1,h2,h3⟩:=hh;have n1 : -10000≤heat.1∧heat.1≤10000:=⟨by omega,by omega⟩;have n2 : -10000≤heat.2∧heat.2≤10000:=⟨by omega,by omega⟩;have r1:qM (heat.1,1) 10000 10000:=⟨ags n1,n1,by simp⟩;have r2:qM (heat.2,1) 10000 10000:=⟨ags n2,n2,by simp⟩;unfold pd ww Te RX tp tc;rw[akE r1.rat r2.rat,À];have:ieq 0 0=true:=rfl;rw[Ô this,aqe r1 r2 (by omega) (by omega),À]
 have hc:ile (aqf (heat.1,1) (heat.2,1)) 0=true:=by
  unfold aqf;simp only[ile,decide_eq_true_eq,Int.mul_one]
  split
  ·omega
  ·split
   ·omega
   ·rw[if_neg (by omega)]; omega
 rw[hc,À];simp only[Bool.not_true,å];rw[aa5 hk.i64,hk.rat,À];simp only[Bool.not_true,å];rw[aqn hk n1,À,aqn hk n2,À];simp only[show ine (0:Int) 0=false from rfl,å];rw[aqe (Yl hk n1) (Yl hk n2) (by omega) (by omega),À];unfold Yd;rw[Ė]
 by_cases h:0<aqf (F0 k heat.1) (F0 k heat.2)
 ·rw[if_pos h,if_pos (by simpa[igt] using h)]; rfl
 ·rw[if_neg h,if_neg (by simpa[igt] using h)]; rfl
def rateK (s:List (Int×é)) (c:Cmp):Int×Int:=subP (yk s (è c.2.2.1 c.2.2.2.1)) (yk s (è c.2.2.2.1 c.2.2.1))
def Ķ (b:Þ) (c:Cmp):(Int×Int)×(Int×Int):=Yd (rateK (Ů b) c) c.2.2.2.2.2.2
def aee {b:Þ} (hs:ō b) {c:Cmp} (hA:c.2.2.1.length≤1000) (hB:c.2.2.2.1.length≤1000)
 (h1:qM (yk (Ů b) (è c.2.2.1 c.2.2.2.1)) 1000 100) (h2:qM (yk (Ů b) (è c.2.2.2.1 c.2.2.1)) 1000 100) (hh:jX c.2.2.2.2.2.2 (-10000) 10000=true):pB b c=some (Ķ b c):=by
 unfold pB K8;rw[V6 hs.gauges,À,tg (by omega) (by omega),À,abJ,À,tg (by omega) (by omega),À,abJ,À];unfold w7 wx;rw[Sub_ok h1 h2,À,À]
 try dsimp only
 rw[aqK (Pn h1 h2) hh,À];rfl
def iZ (b:Þ) (c:Cmp):Int×Int :=
 (((c.2.2.1.length-1:Nat):Int)*b.1.1-((c.2.2.2.1.length-1:Nat):Int)*b.1.2,((c.2.2.1.length-1:Nat):Int)*b.1.2-((c.2.2.2.1.length-1:Nat):Int)*b.1.1)
def aij {b:Þ} {c:Cmp} (hA:c.2.2.1.length≤1000) (hB:c.2.2.2.1.length≤1000) (h1:0≤b.1.1) (h2:b.1.1≤1000000) (h3:0≤b.1.2) (h4:b.1.2≤1000000):vh b c=some (iZ b c):=by
 unfold vh Sv iZ
 have e:∀n:Nat,T0 0 ((n:Int)-1)=((n-1:Nat):Int):=by
  intro n;unfold T0
  split<;>omega
 have bd:∀(n:Nat) (x:Int),n≤1000→0≤x→x≤1000000→0≤((n-1:Nat):Int)*x∧((n-1:Nat):Int)*x≤1000000000:=by
  intro n x hn h0 hx;refine⟨fX (by omega) h0,?_⟩;have:=fB (show((n-1:Nat):Int)≤1000 by omega) hx h0 (by omega);omega
 have b1:=bd _ _ hA h1 h2;have b2:=bd _ _ hA h3 h4;have b3:=bd _ _ hB h1 h2;have b4:=bd _ _ hB h3 h4;simp only[á];rw[Õ (by omega) (by omega),Õ (by omega) (by omega)];simp only[e];rw[Õ (by omega) (by omega),Õ (by omega) (by omega),Õ (by omega) (by omega),Õ (by omega) (by omega),Õ (by omega) (by omega),Õ (by omega) (by omega)]
def aau {n d:Int} (hd:1≤d) (hn : -4000000000≤n∧n≤4000000000):ve n d=some (n / d):=by
 unfold ve HS
 have z:ü d 0=false:=by simp[ü]; omega
 rw[Ò z];have t:=Int.mul_tdiv_add_tmod n d
 have b1 : -4000000000≤Int.tdiv n d∧Int.tdiv n d≤4000000000:=by
  have:=Int.natAbs_tdiv_le_natAbs n d;omega
 rw[Õ (by omega) (by omega),Ò z,Ė]
 by_cases h:Int.tmod n d<0
 ·rw[if_pos (by simpa[ilt] using h),Õ (by omega) (by omega)];congr 1
  have h5 : -d<Int.tmod n d:=by
   have h6:=gR n d;have h7:=gH n.natAbs (show 0<d.natAbs by omega);omega
  refine(f9 (by omega)).2 ⟨?_,?_⟩ |>.symm
  ·rw[Int.sub_mul,fK]; omega
  ·rw[Int.sub_mul,fK (Int.tdiv n d)]; omega
 ·rw[if_neg (by simpa[ilt] using h)];congr 1
  have h5:Int.tmod n d<d:=by
   have h6:=gR n d;have h7:=gH n.natAbs (show 0<d.natAbs by omega);omega
  refine(f9 (by omega)).2 ⟨?_,?_⟩ |>.symm
  ·rw[fK]; omega
  ·rw[fK (Int.tdiv n d)]; omega
def ap0 {x:Int×Int} (hx:LX x=true):kf [x]=some 0:=by
 rw[ahh]
 ·simp[hx]
 ·intro r hr
  have:LX r=true:=by simp at hr; subst hr; assumption
  have:=((ki r).1 this).2.2.1;exact⟨by omega,by omega⟩
 ·simp
def LF (r:Int×Int):Int:=-(-r.1 / r.2)
def aiX {r:Int×Int} (h:LX r=true):AC r=some (r.1 / r.2,0):=by
 unfold AC R0;have:=(ki r).1 h;rw[ap0 h,À];rw[show ine (0:Int) 0=false from rfl,å,aau (by omega) (by omega),À]
def Lx {n d:Int} (hd:1≤d):(n / d).natAbs≤n.natAbs:=by
 exact Int.natAbs_ediv_le_natAbs n d
def anU {r:Int×Int} (h:LX r=true):Jb r=some (LF r,0):=by
 unfold Jb ZN LF;have:=(ki r).1 h;rw[ap0 h,À];rw[show ine (0:Int) 0=false from rfl,å,Õ (by omega) (by omega),aau (by omega) (by omega),À];have hb:=Lx (n:=0-r.1) (show 1≤r.2 by omega);rw[Õ (by omega) (by omega),Int.zero_sub,Int.zero_sub]
def Ŵ (b:Þ) (c:Cmp):Int×Int :=
 (c.2.2.2.2.1-c.2.2.2.2.2.1-(iZ b c).2-(Ķ b c).2.1 / (Ķ b c).2.2,c.2.2.2.2.1+c.2.2.2.2.2.1-(iZ b c).1-LF (Ķ b c).1)
structure Č (b:Þ):Prop where
 film:0≤b.1.1∧b.1.1≤b.1.2∧b.1.2≤1000000
 nG:b.2.1.length≤12
 nU:b.2.2.1.length≤40
 nL:b.2.2.2.1.length≤12
 nC:b.2.2.2.2.1.length≤40
 nK:b.2.2.2.2.2.length≤10
 gauge:∀g∈b.2.1,qp g=true
 ids:b.2.1.Pairwise fun a b=>a.1<b.1
 uses:∀u∈b.2.2.1,abi (Ů b) u.1 u.2=0
 loans:∀i l,b.2.2.2.1[i]?=some l→IE b (Ů b) i l=0
 compares:∀i c,b.2.2.2.2.1[i]?=some c→lX b (Ů b) i c=0
 looks:∀u∈b.2.2.2.2.2,abi (Ů b) u.1 u.2=0
 nodes:(Í b).length≤59
 links:2*(Í b).length+2*b.2.2.2.2.1.length≤300
def wP (b:Þ):ju b=0↔(∀g∈b.2.1,qp g=true)∧b.2.1.Pairwise fun a b=>a.1<b.1:=by
 have h0:Ĩ (oE b.2.1) 0 b.2.1=none↔(∀g∈b.2.1,qp g=true)∧b.2.1.Pairwise fun a b=>a.1<b.1:=by
  rw[iN,←aaW (fun g:é=>g.1) b.2.1];constructor
  ·intro h
   have h1:∀(j:Nat) (a:é),b.2.1[j]?=some a→qp a=true∧Fl (fun g:é=>g.1) b.2.1 j a=false:=by
    intro j a ha;have:=h j a ha;rw[Nat.zero_add] at this;unfold oE at this
    split at this
    ·cases this
    ·split at this
     ·cases this
     ·rename_i h1 h2;exact⟨by simpa using h1,by simpa using h2⟩
   refine⟨fun x hx=>?_,fun i a ha=>(h1 i a ha).2⟩;obtain⟨j,hj,rfl⟩:=dj.1 hx;exact(h1 j _ (cQ hj)).1
  ·rintro⟨h1,h2⟩ j a ha;rw[dl];simp[oE,h1 a (cZ ha),h2 j a ha]
 rw[←h0];unfold ju
 cases h:Ĩ (oE b.2.1) 0 b.2.1 with
 |none=>simp
 |some e =>
  have:∀(m:List é) (j:Nat) (x:Int),Ĩ (oE b.2.1) j m=some x→x≠0:=by
   intro m
   induction m with
   |nil=>intro j x h; cases h
   |cons a m ih =>
    intro j x h;unfold Ĩ at h
    cases hp:oE b.2.1 j a with
    |none=>rw[hp] at h; exact ih _ _ h
    |some y =>
     rw[hp] at h;cases h;unfold oE at hp
     split at hp
     ·cases hp; omega
     ·split at hp
      ·cases hp; omega
      ·cases hp
  simp[this _ _ _ h]
def ì (b:Þ):ê b=0↔Č b:=by
 unfold ê;constructor
 ·intro h
  split at h
  ·omega
  rename_i h1
  (repeat' split at h)<;>try omega
  ·rename_i hg
   have hg':ju b≠0:=by simpa using hg
   exact(hg' h).elim
  ·rename_i hf;have:=f8 hf;rename_i e;simp at this;exact(this h).elim
  ·rename_i hn1 hn2 hn3 hn4 hn5 hg e hf hn6 hn7
   have hg0:ju b=0:=by simpa using hg
   obtain⟨g1,g2⟩:=(wP b).1 hg0
   have hall:∀x∈yo b (Ů b),x=0:=fun x hx=>by
    have:=eJ.1 hf x hx;simpa using this
   simp only[yo,dc] at hall
   have hs:jX b.1 0 1000000=true:=by simpa using h1
   simp only[jX,cW,decide_eq_true_eq] at hs;refine⟨⟨hs.1,hs.2.1,hs.2.2⟩,by omega,by omega,by omega,by omega,by omega,g1,g2,fun u hu=>hall _ (.inl (dM.2 ⟨u,hu,rfl⟩)),fun i l hl=>?_,fun i c hc=>?_,fun u hu=>hall _ (.inr (.inr (.inr (dM.2 ⟨u,hu,rfl⟩)))),by omega,by omega⟩
   ·obtain⟨hi,rfl⟩:=cY.1 hl;exact hall _ (.inr (.inl (gV.2 ⟨i,hi,rfl⟩)))
   ·obtain⟨hi,rfl⟩:=cY.1 hc;exact hall _ (.inr (.inr (.inl (gV.2 ⟨i,hi,rfl⟩))))
 ·intro h
  have hs:jX b.1 0 1000000=true:=by simp[jX,h.film.1,h.film.2.1,h.film.2.2]
  have hg:ju b=0:=(wP b).2 ⟨h.gauge,h.ids⟩
  have hall:(yo b (Ů b)).find? (fun e=>e != 0)=none:=by
   rw[eJ];intro x hx;simp only[yo,dc,dM,gV] at hx
   have:x=0:=by
    rcases hx with⟨u,hu,rfl⟩|⟨i,hi,rfl⟩|⟨i,hi,rfl⟩|⟨u,hu,rfl⟩
    ·exact h.uses u hu
    ·exact h.loans i _ (cQ hi)
    ·exact h.compares i _ (cQ hi)
    ·exact h.looks u hu
   simp[this]
  have:=h.nG; have:=h.nU; have:=h.nL; have:=h.nC; have:=h.nK; have:=h.nodes; have:=h.links;rw[hs,hg,hall];simp only[d9,dm,if_false,bne_self_eq_false];rw[if_neg (by omega),if_neg (by omega),if_neg (by omega),if_neg (by omega),if_neg (by omega),if_neg (by omega),if_neg (by omega)]
section
variable {b:Þ}
def ĺ {l:List Int} (h:l8 l=true):l.length≤6:=((FC l).1 h).2.2
def Č.nums (h:Č b) {c:Cmp} (hc:c∈b.2.2.2.2.1):Nv c=true:=by
 obtain⟨i,hi,rfl⟩:=List.mem_iff_getElem.1 hc;have:=h.compares i _ (List.getElem?_eq_getElem hi);unfold lX at this
 split at this
 ·omega
 ·rename_i h; simpa using h
def Č.pilesOf (h:Č b) {c:Cmp} (hc:c∈b.2.2.2.2.1):ym b (Ů b) c=0:=by
 obtain⟨i,hi,rfl⟩:=List.mem_iff_getElem.1 hc;have:=h.compares i _ (List.getElem?_eq_getElem hi);unfold lX at this
 split at this
 ·omega
 ·split at this
  ·omega
  ·exact this
def Ο (c:Cmp):Nv c=true↔(1≤c.1∧c.1≤1099511627776)∧(0≤c.2.1∧c.2.1≤20000)∧(-1125899906842624≤c.2.2.2.2.1∧c.2.2.2.2.1≤1125899906842624)∧(0≤c.2.2.2.2.2.1∧c.2.2.2.2.2.1≤1073741824)∧jX c.2.2.2.2.2.2 (-10000) 10000=true∧l8 c.2.2.1=true∧l8 c.2.2.2.1=true:=by
 simp[Nv,inP,Jk,and_assoc]
def Č.size (h:Č b):ō b:=by
 have h1:=h.nG; have h2:=h.nU; have h3:=h.nL; have h4:=h.nC; have h5:=h.nK;refine⟨by omega,by omega,by omega,by omega,by omega,fun c hc=>?_⟩;have:=(Ο c).1 (h.nums hc);have a:=ĺ this.2.2.2.2.2.1;have b:=ĺ this.2.2.2.2.2.2;omega
def uU (g:é):qp g=true↔LX g.2.2.2.2.1=true∧(-1000≤g.2.2.2.2.1.1∧g.2.2.2.2.1.1≤1000)∧g.2.2.2.2.1.2≤100∧(1≤g.1∧g.1≤1099511627776)∧(0≤g.2.1∧g.2.1≤20000)∧(1≤g.2.2.1∧g.2.2.1≤1125899906842624)∧(-1073741824≤g.2.2.2.1.1∧g.2.2.2.1.1≤g.2.2.2.1.2∧g.2.2.2.1.2≤1073741824)∧(0≤g.2.2.2.2.2∧g.2.2.2.2.2≤1048576):=by
 simp[qp,inP,Jk,jX,and_assoc]
def Φ {id:Int} {g:é} (h:ŏ b id=some g):g∈b.2.1∧g.1=id:=by
 unfold ŏ at h;exact⟨List.mem_of_find?_eq_some h,by simpa using List.find?_some h⟩
def Ż (hi:b.2.1.Pairwise fun a b=>a.1<b.1) {g:é} (hg:g∈b.2.1):ŏ b g.1=some g:=by
 unfold ŏ
 induction hl:b.2.1 generalizing b with
 |nil=>rw[hl] at hg; cases hg
 |cons a t ih =>
  rw[hl] at hg hi;rw[dP] at hi;rw[gB];rcases df.1 hg with rfl|hg
  ·simp
  ·have h1:=hi.1 g hg
   have:(a.1==g.1)=false:=by simp; omega
   rw[this];have:=ih (b:=(b.1,t,b.2.2)) hi.2 hg rfl;exact this
def A7 (h:Č b) {id day:Int} (hm:jm (Ů b) id day=0):∃g,ŏ b id=some g∧g.2.1≤day:=by
 unfold jm at hm;rw[ig h.ids] at hm
 split at hm
 ·rename_i g hg
  split at hm
  ·omega
  ·exact⟨g,hg,by omega⟩
 ·omega
def PX (s:List (Int×é)) (id day:Int):jm s id day=0∨jm s id day=4∨jm s id day=5:=by
 unfold jm
 split
 ·split<;>simp
 ·simp
def Č.pile (h:Č b) {c:Cmp} (hc:c∈b.2.2.2.2.1) {x:Int} (hx:x∈c.2.2.1++c.2.2.2.1):(∃g,ŏ b x=some g∧g.2.1≤c.2.1)∧jW b x c.2.1=none:=by
 have hp:=h.pilesOf hc;unfold ym at hp
 split at hp
 ·omega
 rename_i h5
 split at hp
 ·omega
 rename_i h4
 split at hp
 ·omega
 rename_i h9;have a5:=(ew.1 (eF.2 h5)) x hx;have a4:=(ew.1 (eF.2 h4)) x hx;have a9:=(ew.1 (eF.2 h9)) x hx;simp at a5 a4 a9;refine⟨A7 h ?_,a9⟩;rcases PX (Ů b) x c.2.1 with h0|h0|h0
 ·exact h0
 ·exact(a4 h0).elim
 ·exact(a5 h0).elim
def Č.lefts (h:Č b) {c:Cmp} (hc:c∈b.2.2.2.2.1):(è c.2.2.1 c.2.2.2.1).length≤1∧(è c.2.2.2.1 c.2.2.1).length≤1∧(è c.2.2.1 c.2.2.2.1).length+(è c.2.2.2.1 c.2.2.1).length≠0:=by
 have hp:=h.pilesOf hc;unfold ym at hp
 (repeat' split at hp)<;>first|omega|exact⟨by omega,by omega,by omega⟩
def iY {a c:List Int} {x:Int}:x∈è a c↔x∈a∧x∉c:=by
 simp[è]
def Č.rate (h:Č b) {p:List Int} (hp:∀x∈p,∃g,ŏ b x=some g):qM (yk (Ů b) p) 1000 100:=by
 unfold yk
 cases p with
 |nil =>
  have:qM (0,1) 1000 100:=⟨by decide,by decide,by decide⟩;exact this
 |cons x t =>
  obtain⟨g,hg⟩:=hp x (by simp)
  try dsimp only
  rw[ig h.ids,hg];have:=(uU g).1 (h.gauge g (Φ hg).1);exact⟨this.1,this.2.1,this.2.2.1⟩
def Č.rates (h:Č b) {c:Cmp} (hc:c∈b.2.2.2.2.1):qM (yk (Ů b) (è c.2.2.1 c.2.2.2.1)) 1000 100∧qM (yk (Ů b) (è c.2.2.2.1 c.2.2.1)) 1000 100:=by
 constructor
 ·exact h.rate fun x hx=>by
   obtain⟨⟨g,hg,_⟩,_⟩:=h.pile hc (ez _ (iY.1 hx).1);exact⟨g,hg⟩
 ·exact h.rate fun x hx=>by
   obtain⟨⟨g,hg,_⟩,_⟩:=h.pile hc (dY _ (iY.1 hx).1);exact⟨g,hg⟩
def Č.growth (h:Č b) {c:Cmp} (hc:c∈b.2.2.2.2.1):pB b c=some (Ķ b c):=by
 obtain⟨r1,r2⟩:=h.rates hc;have hn:=(Ο c).1 (h.nums hc);have a:=ĺ hn.2.2.2.2.2.1;have b:=ĺ hn.2.2.2.2.2.2;exact aee h.size (by omega) (by omega) r1 r2 hn.2.2.2.2.1
def Č.films (h:Č b) {c:Cmp} (hA:c.2.2.1.length≤1000) (hB:c.2.2.2.1.length≤1000):vh b c=some (iZ b c):=by
 have:=h.film;exact aij hA hB (by omega) (by omega) (by omega) (by omega)
def Yc {k heat:Int×Int} (hk:qM k 200000 10000) (hh:jX heat (-10000) 10000=true):qM (Yd k heat).1 2000000000 10000∧qM (Yd k heat).2 2000000000 10000:=by
 simp only[jX,Bool.and_eq_true,decide_eq_true_eq] at hh;have r1:=Yl hk (n:=heat.1) ⟨by omega,by omega⟩;have r2:=Yl hk (n:=heat.2) ⟨by omega,by omega⟩;unfold Yd
 split
 ·exact⟨r2,r1⟩
 ·exact⟨r1,r2⟩
def wT {c:Cmp} (hA:c.2.2.1.length≤1000) (hB:c.2.2.2.1.length≤1000) (h1:0≤b.1.1) (h2:b.1.1≤1000000) (h3:0≤b.1.2) (h4:b.1.2≤1000000) :
 (-1000000000≤(iZ b c).1∧(iZ b c).1≤1000000000)∧(-1000000000≤(iZ b c).2∧(iZ b c).2≤1000000000):=by
 have bd:∀(n:Nat) (x:Int),n≤1000→0≤x→x≤1000000→0≤((n-1:Nat):Int)*x∧((n-1:Nat):Int)*x≤1000000000:=by
  intro n x hn h0 hx;refine⟨fX (by omega) h0,?_⟩;have:=fB (show((n-1:Nat):Int)≤1000 by omega) hx h0 (by omega);omega
 have b1:=bd _ _ hA h1 h2;have b2:=bd _ _ hA h3 h4;have b3:=bd _ _ hB h1 h2;have b4:=bd _ _ hB h3 h4;unfold iZ
 try dsimp only
 omega
def wR {r:Int×Int} (h:qM r 2000000000 10000) : -2000000000≤r.1 / r.2∧r.1 / r.2≤2000000000:=by
 have:=Lx (n:=r.1) h.pos;have:=h.num;omega
def BH {r:Int×Int} (h:qM r 2000000000 10000) : -2000000000≤LF r∧LF r≤2000000000:=by
 have:=Lx (n:=-r.1) h.pos;have:=h.num;unfold LF;omega
def Č.says (h:Č b) {c:Cmp} (hc:c∈b.2.2.2.2.1):wZ b c=some (Ŵ b c):=by
 obtain⟨r1,r2⟩:=h.rates hc;have hn:=(Ο c).1 (h.nums hc);have ha:=ĺ hn.2.2.2.2.2.1;have hb:=ĺ hn.2.2.2.2.2.2;have hf:=h.film;obtain⟨g1,g2⟩:=Yc (Pn r1 r2) hn.2.2.2.2.1;have fb:=wT (b:=b) (c:=c) (by omega) (by omega) (by omega) (by omega) (by omega) (by omega);have q1:qM (Ķ b c).1 2000000000 10000:=g1;have q2:qM (Ķ b c).2 2000000000 10000:=g2;have c1:=BH q1;have c2:=wR q2;unfold wZ ZR Ŵ;rw[h.growth hc,À,h.films (by omega) (by omega),À,aiX q2.rat,À,anU q1.rat,À]
 try dsimp only
 have n3:=hn.2.2.1;have n4:=hn.2.2.2.1;rw[Õ (by omega) (by omega),Õ (by omega) (by omega),Õ (by omega) (by omega),Õ (by omega) (by omega),Õ (by omega) (by omega),Õ (by omega) (by omega)]
end
def ě (l:JA) (f t:Int):Int:=min l.2.1.2 (t-1)-max l.2.1.1 f+1
def Ą (id f t:Int):List JA→Int
 |[]=>0
 |l::r=>(if l.1=id∧0<ě l f t then ě l f t*l.2.2 else 0)+Ą id f t r
def Ai (id f t:Int):∀(x y:List JA),Ą id f t (x++y)=Ą id f t x+Ą id f t y
 |[],y=>by simp[Ą]
 |l::r,y=>by
  simp only[eZ,Ą,Ai id f t r y];omega
def θ (b:Þ) (id f t:Int):List Int:=(b.2.2.1.filter fun u=>u.1==id&&inP u.2 f (t-1)).map fun u=>u.2
def ip (b:Þ) (g:é) (f t:Int):Int:=Ą g.1 f t b.2.2.2.1+(XS (θ b g.1 f t)).length*g.2.2.2.2.2
def Ap (a c:Int):aam a c=min a c:=by unfold aam; split<;>omega
def agv (a c:Int):T0 a c=max a c:=by unfold T0; split<;>omega
def Bh {b:Þ} (h:Č b) {l:JA} (hl:l∈b.2.2.2.1):(0≤l.2.1.1∧l.2.1.1≤l.2.1.2∧l.2.1.2≤20000)∧(0≤l.2.2∧l.2.2≤1048576):=by
 obtain⟨i,hi,rfl⟩:=List.mem_iff_getElem.1 hl;have:=h.loans i _ (List.getElem?_eq_getElem hi);unfold IE at this
 split at this
 ·omega
 rename_i h1
 split at this
 ·omega
 rename_i h2;simp only[eO,Bool.not_eq_false,jX,inP,cW,decide_eq_true_eq] at h1 h2;exact⟨h1,h2⟩
def W6 {l:JA} (h:(0≤l.2.1.1∧l.2.1.1≤l.2.1.2∧l.2.1.2≤20000)∧(0≤l.2.2∧l.2.2≤1048576)) {f t:Int} (hf:0≤f) (hd:0<ě l f t):0≤ě l f t*l.2.2∧ě l f t*l.2.2≤20001*1048576:=by
 refine⟨Int.mul_nonneg (by omega) h.2.1,Int.mul_le_mul ?_ h.2.2 h.2.1 (by omega)⟩;unfold ě;omega
def tf {id f t:Int} (hf:0≤f):∀{x:List JA},(∀l∈x,(0≤l.2.1.1∧l.2.1.1≤l.2.1.2∧l.2.1.2≤20000)∧(0≤l.2.2∧l.2.2≤1048576))→0≤Ą id f t x∧Ą id f t x≤x.length*(20001*1048576)
 |[],_=>by simp[Ą]
 |l::r,h=>by
  have ih:=tf (id:=id) (t:=t) hf (x:=r) fun l hl=>h l (by simp[hl]);simp only[Ą,dg,gr,gc,gw]
  split
  ·rename_i hc;have:=W6 (h l (by simp)) hf hc.2;omega
  ·omega
def aqR {b:Þ} (h:Č b) {g:é} (hg:0≤g.2.2.2.2.2∧g.2.2.2.2.2≤1048576) {f t:Int} (hf:0≤f∧f≤100000) (ht:0≤t∧t≤100000):Bz b g f t=some (ip b g f t):=by
 have hL:=h.nL;have hU:=h.nU
 have hlb:∀i,0≤Ą g.1 f t (b.2.2.2.1.take i)∧Ą g.1 f t (b.2.2.2.1.take i)≤12*(20001*1048576):=by
  intro i;have h1:=tf (id:=g.1) (t:=t) hf.1 (x:=b.2.2.2.1.take i) fun l hl=>Bh h (List.mem_of_mem_take hl);have h2:((b.2.2.2.1.take i).length:Int)*(20001*1048576)≤12*(20001*1048576):=fG (by rw[di]; omega) (by omega);omega
 unfold Bz ZU;refine ņ (fun x:Int×Int=>∃i:Nat,i≤b.2.2.2.1.length∧x=(Ą g.1 f t (b.2.2.2.1.take i),(i:Int))) (fun x=>b.2.2.2.1.length-x.2.toNat) ?_ ⟨0,by omega,rfl⟩;rintro x ⟨i,hi,rfl⟩;rcases Nat.lt_or_ge i b.2.2.2.1.length with hlt|hge
 ·have hl:b.2.2.2.1[i]?=some b.2.2.2.1[i]:=cQ hlt;have hz:=Bh h (cZ hl);refine .inr ⟨(Ą g.1 f t (b.2.2.2.1.take (i+1)),(i:Int)+1),⟨i+1,hlt,by simp⟩,by simp; omega,fun kn=>?_⟩
  try dsimp only
  unfold wD;have b1:=hlb i;have b2:=hlb (i+1)
  have e1:Ą g.1 f t (b.2.2.2.1.take (i+1))=Ą g.1 f t (b.2.2.2.1.take i)+(if b.2.2.2.1[i].1=g.1∧0<ě b.2.2.2.1[i] f t then ě b.2.2.2.1[i] f t*b.2.2.2.1[i].2.2 else 0):=by
   rw[take_succ hl,Ai]; simp[Ą]
  rw[Ó hlt,É hl,Õ (by omega) (by omega),Ap,agv,Õ (by omega) (by omega),Õ (by omega) (by omega)];rw[show min b.2.2.2.1[i].2.1.2 (t-1)-max b.2.2.2.1[i].2.1.1 f+1=ě b.2.2.2.1[i] f t from rfl,Ė]
  by_cases hid:b.2.2.2.1[i].1=g.1
  ·rw[if_pos (by simpa[ieq] using hid),Ė]
   by_cases hd:0<ě b.2.2.2.1[i] f t
   ·have lb:=W6 hz hf.1 hd;rw[if_pos ⟨hid,hd⟩] at e1;rw[if_pos (by simpa[igt] using hd),Õ (by omega) (by omega),Õ (by omega) (by omega),Ì hlt (by omega),e1]
   ·rw[if_neg (fun hc=>hd hc.2)] at e1;rw[if_neg (by simpa[igt] using hd),Ì hlt (by omega),e1,f0]
  ·rw[if_neg (fun hc=>hid hc.1)] at e1;rw[if_neg (by simpa[ieq] using hid),Ì hlt (by omega),e1,f0]
 ·refine .inl fun kn=>?_
  have:i=b.2.2.2.1.length:=by omega
  subst this
  try dsimp only
  unfold wD;rw[Ü,List.take_length]
  have hud:∀x:List (Int×Int),x.length≤40→((x.filter fun u=>u.1==g.1&&inP u.2 f (t-1)).map fun u=>u.2).length≤40:=by
   intro x hx;rw[dV];exact dC (dO _ _) hx
  refine ò b.2.2.1 (fun i=>((b.2.2.1.take i).filter fun u=>u.1==g.1&&inP u.2 f (t-1)).map fun u=>u.2) _ rfl (fun i u hi hu kn'=>?_) (fun kn'=>?_)
  ·try dsimp only
   unfold wC;have hx:=hud (b.2.2.1.take i) (by rw[List.length_take]; omega);rw[Ó hi,É hu,Õ (by omega) (by omega),ic,À,Ø (by simp only[List.length_singleton]; omega),Am.iff_true,Ì hi (by omega),Ì hi (by omega),take_succ hu,List.filter_append,List.map_append]
   cases h1:(u.1==g.1) with
   |false =>
    have:ieq u.1 g.1=false:=h1;simp only[this,å,dZ,h1,Bool.false_and,dm,if_false,eo,fo,dR]
   |true =>
    have:ieq u.1 g.1=true:=h1;rw[this]
    cases h2:inP u.2 f (t-1) with
    |false=>simp only[Ĝ,å,dZ,h1,h2,dX,dm,if_false,eo,fo,dR]
    |true=>simp only[Ĝ,dZ,h1,h2,dX,if_true,eo,fo,eP]
  ·try dsimp only
   unfold wC;rw[Ü,List.take_length];rw[show((b.2.2.1.filter fun u=>u.1==g.1&&inP u.2 f (t-1)).map fun u=>u.2)=θ b g.1 f t from rfl];have h40:(θ b g.1 f t).length≤40:=hud _ hU
   have hc40:(XS (θ b g.1 f t)).length≤40:=by
    have:=Fu (θ b g.1 f t);omega
   have hm:0≤((XS (θ b g.1 f t)).length:Int)*g.2.2.2.2.2∧((XS (θ b g.1 f t)).length:Int)*g.2.2.2.2.2≤40*1048576 :=
    ⟨fX (by omega) hg.1,fB (by omega) hg.2 hg.1 (by omega)⟩
   have b1:=hlb b.2.2.2.1.length;rw[List.take_length] at b1;dsimp only;rw[Ø (by omega),Am.iff_true,Ø (by rw[abx]; omega),Am.iff_true,akW,á,Õ (by omega) (by omega),Õ (by omega) (by omega)];rfl
abbrev Lk:Type:=Int×Int×Int
inductive Wl (L:List Lk) (S:Int→Prop):List Int→Int→Int→Prop
 |nil {v:Int}:S v→Wl L S [] v 0
 |step {vs:List Int} {u v m d:Int}:Wl L S vs u d→(u,v,m)∈L→Wl L S (u::vs) v (d+m)
def Pot (L:List Lk) (p:Int→Int):Prop:=∀u v m,(u,v,m)∈L→p v≤p u+m
def InR (L:List Lk) (N:Nat):Prop:=∀l∈L,(0≤l.1∧l.1<N)∧(0≤l.2.1∧l.2.1<N)
section
variable {L:List Lk} {S:Int→Prop} {N:Nat} {p:Int→Int}
def Wl.cut (hp:Pot L p) {vs:List Int} {v d:Int} (h:Wl L S vs v d):∀x∈vs,∃vs1 d1,Wl L S vs1 x d1∧(x::vs1) <:+ vs∧d1+(p v-p x)≤d:=by
 induction h with
 |nil h=>intro x hx; cases hx
 | @step vs u v m d hw hl ih =>
  intro x hx;have h1:=hp u v m hl;rcases df.1 hx with rfl|hx
  ·exact⟨vs,d,hw,List.suffix_refl _,by omega⟩
  ·obtain⟨vs1,d1,g1,g2,g3⟩:=ih x hx;exact⟨vs1,d1,g1,g2.trans (List.suffix_cons _ _),by omega⟩
def Wl.simple (hp:Pot L p) {vs:List Int} {v d:Int} (h:Wl L S vs v d):∃vs' d',Wl L S vs' v d'∧d'≤d∧(v::vs').Nodup:=by
 induction h with
 |nil h=>exact⟨[],0,.nil h,dE _,by simp⟩
 | @step vs u v m d hw hl ih =>
  obtain⟨vs1,d1,g1,g2,g3⟩:=ih;have hw1:=Wl.step g1 hl
  by_cases hv:v∈u::vs1
  ·obtain⟨vs2,d2,k1,k2,k3⟩:=hw1.cut hp v hv;exact⟨vs2,d2,k1,by omega,g3.sublist k2.sublist⟩
  ·exact⟨u::vs1,d1+m,hw1,by omega,fS.2 ⟨hv,g3⟩⟩
def Wl.range (hL:InR L N) (hS:∀v,S v→0≤v∧v<N) {vs:List Int} {v d:Int} (h:Wl L S vs v d):(0≤v∧v<N)∧∀u∈vs,0≤u∧u<N:=by
 induction h with
 |nil h=>exact⟨hS _ h,fun u hu=>by cases hu⟩
 | @step vs u v m d hw hl ih =>
  refine⟨(hL _ hl).2,fun w hw'=>?_⟩;rcases df.1 hw' with rfl|h
  ·exact ih.1
  ·exact ih.2 w h
def ahF:∀(N:Nat) (l:List Int),l.Nodup→(∀x∈l,0≤x∧x<N)→l.length≤N
 |0,l,_,h=>by
  cases l with
  |nil=>simp
  |cons a l=>have:=h a (by simp); omega
 |N+1,l,hn,h=>by
  have h1:(l.erase (N:Int)).length≤N:=ahF N _ (hn.erase _) fun x hx=>by
   have h2:=(hn.mem_erase_iff).1 hx;have:=h x h2.2;have:=h2.1;omega
  have:=List.length_erase (a:=(N:Int)) (l:=l)
  split at this<;>omega
def Wl.short (hL:InR L N) (hS:∀v,S v→0≤v∧v<N) {vs:List Int} {v d:Int} (h:Wl L S vs v d) (hn:(v::vs).Nodup):vs.length+1≤N:=by
 have:=h.range hL hS
 exact ahF N (v::vs) hn fun x hx=>by
  rcases df.1 hx with rfl|hx
  ·exact this.1
  ·exact this.2 x hx
def Nw (f:Lk→Bool):List Lk→Int
 |[]=>0
 |l::t=>(if f l then min l.2.2 0 else 0)+Nw f t
def alu (f:Lk→Bool):∀L:List Lk,Nw (fun _=>true) L≤Nw f L
 |[]=>dE _
 |l::t=>by
  have:=alu f t;simp only[Nw,if_true]
  split<;>omega
def vD (f:Lk→Bool):∀L:List Lk,Nw f L≤0
 |[]=>dE _
 |l::t=>by
  have:=vD f t;simp only[Nw]
  split<;>omega
def ahW {f:Lk→Bool} {l:Lk} (hf:f l=true):∀{L:List Lk},l∈L→Nw f L≤l.2.2
 |a::t,h=>by
  simp only[Nw];rcases df.1 h with rfl|h
  ·have:=vD f t;rw[if_pos hf]; omega
  ·have:=ahW hf h
   split<;>omega
def alt {f g:Lk→Bool} (h:∀l,f l=true→g l=false):∀L:List Lk,Nw (fun l=>f l||g l) L=Nw f L+Nw g L
 |[]=>rfl
 |l::t=>by
  have ih:=alt h t;simp only[Nw,ih]
  by_cases hf:f l=true
  ·simp[hf,h l hf]; omega
  ·have hf':f l=false:=by simpa using hf
   by_cases hg:g l=true
   ·simp[hf',hg]; omega
   ·simp[hf',hg]
def Wl.low {vs:List Int} {v d:Int} (h:Wl L S vs v d):vs.Nodup→Nw (fun l=>vs.contains l.1) L≤d:=by
 induction h with
 |nil h=>intro _; exact vD _ _
 | @step vs u v m d hw hl ih =>
  intro hn;rw[fS] at hn;have h1:=ih hn.2;have h2:Nw (fun l=>l.1==u) L≤m:=ahW (f:=fun l=>l.1==u) (l:=(u,v,m)) (by simp) hl
  have h3:=alt (f:=fun l:Lk=>l.1==u) (g:=fun l=>vs.contains l.1) (fun l hf=>by
   simp only[beq_iff_eq] at hf;rw[hf]
   simpa using hn.1) L
  have h4:(fun l:Lk=>(u::vs).contains l.1)=fun l=>(l.1==u)||vs.contains l.1:=by funext l; rw[List.contains_cons]
  rw[h4,h3];omega
def OU (L:List Lk):Int:=Nw (fun _=>true) L
def Wl.low' (hp:Pot L p) {vs:List Int} {v d:Int} (h:Wl L S vs v d):OU L≤d:=by
 obtain⟨vs',d',h1,h2,h3⟩:=h.simple hp;have:=h1.low (List.nodup_cons.1 h3).2;have:=alu (fun l=>vs'.contains l.1) L;unfold OU;omega
def Wl.high {M:Int} (hM:∀l∈L,l.2.2≤M) {vs:List Int} {v d:Int} (h:Wl L S vs v d):d≤vs.length*M:=by
 induction h with
 |nil h=>simp
 | @step vs u v m d hw hl ih =>
  have:=hM _ hl;simp only[dg,gr,gc,gw];simp only at this;omega
def Wl.lowM {M:Int} (hM:∀l∈L,-M≤l.2.2) {vs:List Int} {v d:Int} (h:Wl L S vs v d) : -(vs.length*M)≤d:=by
 induction h with
 |nil h=>simp
 | @step vs u v m d hw hl ih =>
  have:=hM _ hl;simp only[dg,gr,gc,gw];simp only at this;omega
def Wl.mono {S':Int→Prop} (hS:∀v,S v→S' v) {vs:List Int} {v d:Int} (h:Wl L S vs v d):Wl L S' vs v d:=by
 induction h with
 |nil h=>exact .nil (hS _ h)
 |step hw hl ih=>exact .step ih hl
def Wl.pot (hp:Pot L p) {vs:List Int} {v d:Int} (h:Wl L S vs v d):∃s,S s∧p v-p s≤d:=by
 induction h with
 | @nil v h=>exact⟨v,h,by omega⟩
 | @step vs u v m d hw hl ih =>
  obtain⟨s,h1,h2⟩:=ih;have:=hp u v m hl;exact⟨s,h1,by omega⟩
end
abbrev Ģ:Int:=1152921504606846976
structure akz (L:List Lk) (S:Int→Prop) (N:Nat) (x:Int→Int):Prop where
 att:∀v:Int,0≤v→v<N→x v≠Ģ→∃vs,Wl L S vs v (x v)
 low:∀v vs d,Wl L S vs v d→x v≤d
 bd:∀v:Int,0≤v→v<N→x v≤Ģ
def akz.uniq {L:List Lk} {S:Int→Prop} {N:Nat} {x y:Int→Int} (hx:akz L S N x) (hy:akz L S N y) {v:Int} (h0:0≤v) (h1:v<N):x v=y v:=by
 have key:∀{x y:Int→Int},akz L S N x→akz L S N y→x v≤y v:=by
  intro x y hx hy
  by_cases h:y v=Ģ
  ·rw[h]; exact hx.bd v h0 h1
  ·obtain⟨vs,hw⟩:=hy.att v h0 h1 h;exact hx.low v vs _ hw
 exact Int.le_antisymm (key hx hy) (key hy hx)
def gv (x:List Int) (v:Int):Int:=x[v.toNat]?.getD 0
def Xh {x:List Int} {v:Int} (h:v.toNat<x.length):x[v.toNat]?=some (gv x v):=by
 unfold gv; rw[List.getElem?_eq_getElem h]; rfl
def sv {x:List Int} {u v:Int} (hu:0≤u) (hv:0≤v) (h:u.toNat<x.length) (y:Int):gv (x.set u.toNat y) v=if v=u then y else gv x v:=by
 unfold gv;rw[List.getElem?_set]
 by_cases hvu:v=u
 ·subst hvu; simp[h]
 ·have:¬u.toNat=v.toNat:=by omega
  simp[hvu,this]
def aid {x y:List Int} (hl:x.length=y.length) (h:∀v:Int,0≤v→v<x.length→gv x v=gv y v):x=y:=by
 refine List.ext_getElem hl fun i h1 h2=>?_;have:=h i (by omega) (by omega);unfold gv at this;simpa[h1,h2] using this
def mg (x:List Int) (l:Lk):List Int:=if gv x l.1<Ģ∧gv x l.1+l.2.2<gv x l.2.1 then x.set l.2.1.toNat (gv x l.1+l.2.2) else x
def Ns (L:List Lk) (x:List Int):List Int:=L.foldl mg x
def lh (L:List Lk):Nat→List Int→List Int
 |0,x=>x
 |n+1,x=>lh L n (Ns L x)
def oH (x:List Int) (l:Lk):(mg x l).length=x.length:=by unfold mg; split<;>simp
def yn (L:List Lk):∀x:List Int,(Ns L x).length=x.length:=by
 induction L with
 |nil=>intro x; rfl
 |cons l t ih=>intro x; show(Ns t (mg x l)).length=_; rw[ih,oH]
def ĸ (L:List Lk):∀(n:Nat) (x:List Int),(lh L n x).length=x.length
 |0,x=>rfl
 |n+1,x=>by rw[lh,ĸ L n,yn]
def DZ (L:List Lk):∀(n:Nat) (x:List Int),lh L (n+1) x=Ns L (lh L n x)
 |0,x=>rfl
 |n+1,x=>by rw[lh,DZ L n]; rfl
section
variable {L0:List Lk} {S:Int→Prop} {N:Nat}
def abI {x:List Int} {l:Lk} (hl:(0≤l.1∧l.1<N)∧(0≤l.2.1∧l.2.1<N)) (hx:x.length=N) (v:Int) (hv:0≤v):gv (mg x l) v≤gv x v:=by
 unfold mg
 split
 ·rename_i h;rw[sv hl.2.1 hv (by omega)]
  split
  ·rename_i h2; subst h2; omega
  ·exact dE _
 ·exact dE _
def FE:∀{L:List Lk},InR L N→∀{x:List Int},x.length=N→∀v,0≤v→gv (Ns L x) v≤gv x v
 |[],_,x,_,v,_=>dE _
 |l::t,hL,x,hx,v,hv=>by
  have h1:=abI (hL l (by simp)) hx v hv;have h2:=FE (L:=t) (fun l hl=>hL l (by simp[hl])) (x:=mg x l) (by rw[oH,hx]) v hv;show gv (Ns t (mg x l)) v≤_;omega
def JQ:∀{L:List Lk},InR L N→∀{x:List Int},x.length=N→∀u v m,(u,v,m)∈L→gv x u<Ģ→gv (Ns L x) v≤gv x u+m
 |l::t,hL,x,hx,u,v,m,hm,hf=>by
  have ht:InR t N:=fun l hl=>hL l (by simp[hl])
  have hx':(mg x l).length=N:=by rw[oH,hx]
  show gv (Ns t (mg x l)) v≤_;rcases df.1 hm with rfl|hm
  ·have hl:=hL (u,v,m) (by simp);have h2:=FE ht hx' v hl.2.1
   have h3:gv (mg x (u,v,m)) v≤gv x u+m:=by
    unfold mg
    split
    ·rw[sv hl.2.1 hl.2.1 (by simp only at hl; simp only; omega),if_pos rfl]; exact dE _
    ·rename_i h; simp only[not_and,Int.not_lt] at h; exact h hf
   omega
  ·have hl:=hL (u,v,m) (by simp[hm]);have h1:=abI (hL l (by simp)) hx u hl.1.1;have:=JQ ht hx' u v m hm (by omega);omega
def Att (L0:List Lk) (S:Int→Prop) (N:Nat) (x:List Int):Prop:=∀v:Int,0≤v→v<N→gv x v<Ģ→∃vs,Wl L0 S vs v (gv x v)
def ajc {x:List Int} {l:Lk} (hl:(0≤l.1∧l.1<N)∧(0≤l.2.1∧l.2.1<N)) (hm:l∈L0) (hx:x.length=N) (h:Att L0 S N x):Att L0 S N (mg x l):=by
 unfold mg
 split
 ·rename_i hc;intro v h0 h1 hf;rw[sv hl.2.1 h0 (by omega)] at hf ⊢
  split
  ·rename_i h2;obtain⟨vs,hw⟩:=h l.1 hl.1.1 hl.1.2 hc.1;exact⟨_,h2▸Wl.step hw hm⟩
  ·rename_i h2;rw[if_neg h2] at hf;exact h v h0 h1 hf
 ·exact h
def abR:∀{L:List Lk},InR L N→(∀l∈L,l∈L0)→∀{x:List Int},x.length=N→Att L0 S N x→Att L0 S N (Ns L x)
 |[],_,_,_,_,h=>h
 |l::t,hL,hsub,x,hx,h=>abR (L:=t) (fun l hl=>hL l (by simp[hl])) (fun l hl=>hsub l (by simp[hl])) (x:=mg x l) (by rw[oH,hx]) (ajc (hL l (by simp)) (hsub l (by simp)) hx h)
def Wc (hL:InR L0 N):∀(n:Nat) {x:List Int},x.length=N→Att L0 S N x→Att L0 S N (lh L0 n x)
 |0,_,_,h=>h
 |n+1,x,hx,h=>Wc hL n (by rw[yn,hx]) (abR hL (fun _ h=>h) hx h)
def FD (hL:InR L0 N):∀(n:Nat) {x:List Int},x.length=N→∀v,0≤v→gv (lh L0 n x) v≤gv x v
 |0,_,_,_,_=>dE _
 |n+1,x,hx,v,hv=>Int.le_trans (FD hL n (by rw[yn,hx]) v hv) (FE hL hx v hv)
def vu (S:Int→Bool) (N:Nat):List Int:=(List.range N).map fun(i:Nat)=>if S i then 0 else Ģ
def jc (S:Int→Bool) {N:Nat} {v:Int} (h0:0≤v) (h1:v<N):gv (vu S N) v=if S v then 0 else Ģ:=by
 unfold gv vu
 have:v.toNat<N:=by omega
 rw[fU,fj this];simp only[dW,fu];rw[Int.toNat_of_nonneg h0]
def ÿ (S:Int→Bool) (N:Nat):(vu S N).length=N:=by simp[vu]
end
def JP {L:List Lk} {S:Int→Bool} {N:Nat} {M:Int} (hL:InR L N) (hS:∀v,S v=true→0≤v∧v<N) (hM:∀l∈L,l.2.2≤M):∀(n:Nat),n*M<Ģ→0≤M→∀vs v d,Wl L (fun v=>S v=true) vs v d→vs.length≤n→gv (lh L n (vu S N)) v≤d
 |0,_,_,vs,v,d,hw,hl=>by
  cases hw with
  |nil h =>
   have:=hS v h;rw[lh,jc S this.1 this.2,if_pos h]; exact dE _
  |step=>simp at hl
 |n+1,hn,hM0,vs,v,d,hw,hl=>by
  have hn':n*M<Ģ:=by rw[gr,gc,gw] at hn; omega
  have hlen:(lh L n (vu S N)).length=N:=by rw[ĸ,ÿ]
  rw[DZ]
  cases hw with
  |nil h =>
   have h1:=FE hL hlen v (hS v h).1;have h2:=JP hL hS hM n hn' hM0 [] v 0 (.nil h) (by simp);omega
  | @step vs u _ m d hw hlk =>
   have h2:=JP hL hS hM n hn' hM0 vs u d hw (by simpa using hl);have h3:=hw.high hM;have h4:(vs.length:Int)*M≤n*M:=fG (by simp at hl; omega) hM0;have:=JQ hL hlen u v m hlk (by omega);omega
def PB {L:List Lk} {S:Int→Bool} {N:Nat} {M:Int} {p:Int→Int} (hp:Pot L p) (hL:InR L N) (hS:∀v,S v=true→0≤v∧v<N) (hM:∀l∈L,l.2.2≤M) (hM0:0≤M) (hN:N*M<Ģ) (n:Nat) (hn:N≤n+1):akz L (fun v=>S v=true) N (gv (lh L n (vu S N))):=by
 have hatt:Att L (fun v=>S v=true) N (vu S N):=fun v h0 h1 hf=>by
  rw[jc S h0 h1] at hf ⊢
  split
  ·rename_i h; exact⟨[],.nil h⟩
  ·rename_i h; rw[if_neg h] at hf; omega
 have hbd:∀v:Int,0≤v→v<N→gv (lh L n (vu S N)) v≤Ģ:=fun v h0 h1=>by
  have:=FD hL n (ÿ S N) v h0;rw[jc S h0 h1] at this
  have hF:(0:Int)≤Ģ:=by decide
  split at this<;>omega
 have hlow:∀(n:Nat),N≤n+1→∀v vs d,Wl L (fun v=>S v=true) vs v d→gv (lh L n (vu S N)) v≤d:=by
  intro n hn v vs d hw;obtain⟨vs',d',h1,h2,h3⟩:=hw.simple hp;have h4:=h1.short hL hS h3
  have hpos:0<N:=by omega
  obtain⟨k,rfl⟩:∃k,N=k+1:=⟨N-1,by omega⟩
  have hk:(k:Int)*M<Ģ:=by rw[gr,gc,gw] at hN; omega
  have h5:=JP hL hS hM k hk hM0 vs' v d' h1 (by omega);obtain⟨j,rfl⟩:∃j,n=k+j:=⟨n-k,by omega⟩
  have h6:∀(j:Nat),gv (lh L (k+j) (vu S (k+1))) v≤gv (lh L k (vu S (k+1))) v:=by
   intro j
   induction j with
   |zero=>exact dE _
   |succ j ih =>
    rw[←fc,DZ];have:=FE hL (x:=lh L (k+j) (vu S (k+1))) (by rw[ĸ,ÿ]) v (h1.range hL hS).1.1;omega
  have:=h6 j;omega
 exact⟨fun v h0 h1 hne=>Wc hL n (ÿ S N) hatt v h0 h1 (by have:=hbd v h0 h1; omega),hlow n hn,hbd⟩
def akz.pot {L:List Lk} {S:Int→Prop} {N:Nat} {x:Int→Int} (h:akz L S N x) (hL:InR L N) {u v m:Int} (hl:(u,v,m)∈L) (hf:x u≠Ģ):x v≤x u+m:=by
 obtain⟨vs,hw⟩:=h.att u (hL _ hl).1.1 (hL _ hl).1.2 hf;exact h.low v _ _ (.step hw hl)
def ä (b:Þ) (g:é):List Lk :=
 [(0,atP (Í b) [g.1] g.2.1,g.2.2.1+g.2.2.2.1.2),(atP (Í b) [g.1] g.2.1,0,-(g.2.2.1+g.2.2.2.1.1))] ++
 (List.range ((à b g).length-1)).flatMap fun(k:Nat)=>[(atP (Í b) [g.1] g.2.1+k,atP (Í b) [g.1] g.2.1+k+1,0),(atP (Í b) [g.1] g.2.1+k+1,atP (Í b) [g.1] g.2.1+k,ip b g ((à b g)[k]?.getD 0) ((à b g)[k+1]?.getD 0))]
def cx (b:Þ) (c:Cmp):Int:=atP (Í b) (è c.2.2.1 c.2.2.2.1) c.2.1
def cy (b:Þ) (c:Cmp):Int:=atP (Í b) (è c.2.2.2.1 c.2.2.1) c.2.1
def û (b:Þ) (c:Cmp):List Lk:=[(cy b c,cx b c,(Ŵ b c).2),(cx b c,cy b c,-(Ŵ b c).1)]
def Û (b:Þ):List Lk:=b.2.1.flatMap (ä b)++b.2.2.2.2.1.flatMap (û b)
def â (b:Þ) (i:Nat) (g:é):List (Int×Int):=[(1,(i:Int)),(1,(i:Int))]++(List.range ((à b g).length-1)).flatMap fun _=>[(2,(i:Int)),(2,(i:Int))]
def ľ (b:Þ):List (Int×Int):=(b.2.1.mapIdx (â b)).flatten++(b.2.2.2.2.1.mapIdx fun i _=>[(3,(i:Int)),(3,(i:Int))]).flatten
section
variable {b:Þ}
def Pk (h:Č b) {id day:Int} (hu:abi (Ů b) id day=0):(0≤day∧day≤20000)∧∃g,ŏ b id=some g∧g.2.1≤day:=by
 unfold abi at hu
 split at hu
 ·omega
 ·rename_i hd;simp only[eO,Bool.not_eq_false,Jk,inP,cW,decide_eq_true_eq] at hd;exact⟨hd,A7 h hu⟩
def Ω {g:é} {d:Int}:d∈à b g↔d=g.2.1∨(∃c∈b.2.2.2.2.1,(c.2.2.1.contains g.1)≠(c.2.2.2.1.contains g.1)∧c.2.1=d)∨(∃n∈b.2.2.2.2.2,n.1=g.1∧n.2=d):=by
 unfold à;rw[mX,aaC];simp only[List.mem_append,List.mem_singleton,List.mem_map,List.mem_filter];constructor
 ·rintro((h|⟨c,⟨h1,h2⟩,h3⟩)|⟨n,⟨h1,h2⟩,h3⟩)
  ·exact .inl h
  ·exact .inr (.inl ⟨c,h1,by simpa using h2,h3⟩)
  ·exact .inr (.inr ⟨n,h1,by simpa using h2,h3⟩)
 ·rintro(h|⟨c,h1,h2,h3⟩|⟨n,h1,h2,h3⟩)
  ·exact .inl (.inl h)
  ·exact .inl (.inr ⟨c,⟨h1,by simpa using h2⟩,h3⟩)
  ·exact .inr ⟨n,⟨h1,by simpa using h2⟩,h3⟩
def Č.gaugeR (h:Č b) {g:é} (hg:g∈b.2.1):LX g.2.2.2.2.1=true∧(-1000≤g.2.2.2.2.1.1∧g.2.2.2.2.1.1≤1000)∧g.2.2.2.2.1.2≤100∧(1≤g.1∧g.1≤1099511627776)∧(0≤g.2.1∧g.2.1≤20000)∧(1≤g.2.2.1∧g.2.2.1≤1125899906842624)∧(-1073741824≤g.2.2.2.1.1∧g.2.2.2.1.1≤g.2.2.2.1.2∧g.2.2.2.1.2≤1073741824)∧(0≤g.2.2.2.2.2∧g.2.2.2.2.2≤1048576):=(uU g).1 (h.gauge g hg)
def Č.day (h:Č b) {g:é} (hg:g∈b.2.1) {d:Int} (hd:d∈à b g):g.2.1≤d∧0≤d∧d≤20000:=by
 have hr:=h.gaugeR hg;have hgo:=Ż h.ids hg;rcases Ω.1 hd with rfl|⟨c,hc,h1,rfl⟩|⟨n,hn,h1,rfl⟩
 ·have:=hr.2.2.2.2.1; omega
 ·have hn:=(Ο c).1 (h.nums hc)
  have hx:g.1∈c.2.2.1++c.2.2.2.1:=by
   rw[dc]
   by_cases h2:g.1∈c.2.2.1
   ·exact .inl h2
   ·refine .inr ?_
    have e1:c.2.2.1.contains g.1=false:=by simpa using h2
    rw[e1] at h1
    have:c.2.2.2.1.contains g.1=true:=by cases hh:c.2.2.2.1.contains g.1<;>simp_all
    simpa using this
  obtain⟨⟨g',h3,h4⟩,_⟩:=h.pile hc hx;rw[hgo] at h3; cases h3;have:=hn.2.1;omega
 ·obtain⟨h2,g',h3,h4⟩:=Pk h (h.looks n hn);rw[h1,hgo] at h3; cases h3;omega
def kw (g:é):g.2.1∈à b g:=Ω.2 (.inl rfl)
def Ji (h:Č b) {g:é} (hg:g∈b.2.1):(à b g).length≤59:=by
 have h1:∀l:List é,g∈l→(à b g).length≤(l.flatMap fun g=>(à b g).map fun d=>((g.1,d):Int×Int)).length:=by
  intro l
  induction l with
  |nil=>intro hg; cases hg
  |cons a t ih =>
   intro hg;rw[dK,cX,dV];rcases df.1 hg with rfl|hg
   ·omega
   ·have:=ih hg; omega
 have:=h1 b.2.1 hg;have:=h.nodes;unfold Í at this;omega
def anl {p:List Int} {d:Int}:0≤atP (Í b) p d∧atP (Í b) p d≤(Í b).length:=by
 unfold atP
 cases p with
 |nil=>simp
 |cons x t =>
  try dsimp only
  cases h:iD (Í b) x d with
  |none=>simp
  |some j=>have:=(kQ h).1; dsimp only; omega
def DU (h:Č b) {c:Cmp} (hc:c∈b.2.2.2.2.1):(-1125904000000000≤(Ŵ b c).1∧(Ŵ b c).1≤1125904000000000)∧(-1125904000000000≤(Ŵ b c).2∧(Ŵ b c).2≤1125904000000000):=by
 obtain⟨r1,r2⟩:=h.rates hc;have hn:=(Ο c).1 (h.nums hc);have ha:=ĺ hn.2.2.2.2.2.1;have hb:=ĺ hn.2.2.2.2.2.2;have hf:=h.film;obtain⟨g1,g2⟩:=Yc (Pn r1 r2) hn.2.2.2.2.1;have fb:=wT (b:=b) (c:=c) (by omega) (by omega) (by omega) (by omega) (by omega) (by omega);have q1:qM (Ķ b c).1 2000000000 10000:=g1;have q2:qM (Ķ b c).2 2000000000 10000:=g2;have c1:=BH q1;have c2:=wR q2;have n3:=hn.2.2.1;have n4:=hn.2.2.2.1;unfold Ŵ
 try dsimp only
 omega
def kM (h:Č b) {g:é} (hg:g∈b.2.1) {f t:Int} (hf:0≤f):0≤ip b g f t∧ip b g f t≤12*(20001*1048576)+40*1048576:=by
 have hr:=(h.gaugeR hg).2.2.2.2.2.2.2;have h1:=tf (id:=g.1) (t:=t) hf (x:=b.2.2.2.1) fun l hl=>Bh h hl;have h2:(b.2.2.2.1.length:Int)*(20001*1048576)≤12*(20001*1048576):=fG (by have:=h.nL; omega) (by omega)
 have h3:(θ b g.1 f t).length≤40:=by
  unfold θ;rw[List.length_map];exact Nat.le_trans (List.length_filter_le _ _) h.nU
 have h4:=Fu (θ b g.1 f t)
 have hm:0≤((XS (θ b g.1 f t)).length:Int)*g.2.2.2.2.2∧((XS (θ b g.1 f t)).length:Int)*g.2.2.2.2.2≤40*1048576 :=
  ⟨fX (by omega) hr.1,fB (by omega) hr.2 hr.1 (by omega)⟩
 unfold ip;omega
end
def iG {α β:Type} (f:Nat→α→β) {l:List α} {i:Nat} {a:α} (h:l[i]?=some a):(l.take (i+1)).mapIdx f=(l.take i).mapIdx f++[f i a]:=by
 have hi:i<l.length:=(cY.1 h).1
 have:(l.take i).length=i:=by rw[di]; omega
 rw[take_succ h,List.mapIdx_append];simp[this]
def tG {α:Type} (f:Nat→List α) (j:Nat):(List.range (j+1)).flatMap f=(List.range j).flatMap f++f j:=by
 rw[List.range_succ,eW]; simp
def œ {α:Type} (f:Nat→List α) (n:Nat) (h:∀k,(f k).length=2):((List.range n).flatMap f).length=2*n:=by
 induction n with
 |zero=>rfl
 |succ n ih=>rw[tG,cX,ih,h]; omega
set_option maxHeartbeats 2000000 in
def ah0 {b:Þ} (h:Č b):Jd b=some (b,Í b,(((Í b).length:Int)+1,Û b),ľ b):=by
 unfold Jd ZT;have hN:=h.nodes;have hG:=h.nG;have hC:=h.nC;rw[Yh h.size,À,á,Õ (by omega) (by omega)]
 -- lengths of what comes
 have gl:∀g∈b.2.1,(ä b g).length≤120∧∀i,(â b i g).length≤120:=by
  intro g hg;have:=Ji h hg;constructor
  ·unfold ä;rw[List.length_append,œ _ _ (fun _=>rfl)];simp only[List.length_cons,List.length_nil]; omega
  ·intro i;unfold â;rw[List.length_append,œ _ _ (fun _=>rfl)];simp only[List.length_cons,List.length_nil]; omega
 have gls:∀i,((b.2.1.take i).flatMap (ä b)).length≤1440∧(((b.2.1.take i).mapIdx (â b)).flatten).length≤1440:=by
  intro i
  induction i with
  |zero=>simp
  |succ i ih =>
   have key:∀i,i≤b.2.1.length→((b.2.1.take i).flatMap (ä b)).length≤i*120∧(((b.2.1.take i).mapIdx (â b)).flatten).length≤i*120:=by
    intro i
    induction i with
    |zero=>intro _; simp
    |succ i ih =>
     intro hi;have ih:=ih (by omega);have hg:b.2.1[i]?=some b.2.1[i]:=cQ hi;have h2:=gl _ (cZ hg);have h3:=h2.2 i;rw[iG _ hg,take_succ hg,eW,fI,cX,cX];simp only[dK,gO,dR,fV,gq];omega
   rcases dz b.2.1.length (i+1) with h1|h1
   ·rw[ee (by omega)];have:=key b.2.1.length (cR _);rw[gL] at this;omega
   ·have:=key (i+1) h1;omega
 refine ò b.2.1 (fun i=>((b.2.1.take i).flatMap (ä b),((b.2.1.take i).mapIdx (â b)).flatten)) _ rfl (fun i g hi hg kn=>?_) (fun kn=>?_)
 ·try dsimp only
  unfold wB;have hgm:=List.mem_of_getElem? hg;have hr:=h.gaugeR hgm;have hd:=Ji h hgm;have hls:=gls i;have hat:=anl (b:=b) (p:=[g.1]) (d:=g.2.1);rw[Ó hi,É hg];rw[show pf ((b.1.1,b.1.2),b.2.1,b.2.2.1,b.2.2.2.1,b.2.2.2.2.1,b.2.2.2.2.2) g=pf b g from rfl,amu h.size,À];rw[ank _ _ _ (by dsimp only; omega),À]
  try dsimp only
  have r1:=hr.2.2.2.2.2.1;have r2:=hr.2.2.2.2.2.2.1;rw[Õ (by omega) (by omega),Õ (by omega) (by omega),Õ (by omega) (by omega),Ø (by simp only[dg,dw]; omega),Am.iff_true,Ø (by simp only[dg,dw]; omega),Am.iff_true]
  refine ņ (fun x:Int×List Lk×List (Int×Int)=>∃j:Nat,j+1≤(à b g).length∧x.1=(j:Int)+1 ∧
   x.2.1=(b.2.1.take i).flatMap (ä b)++([(0,atP (Í b) [g.1] g.2.1,g.2.2.1+g.2.2.2.1.2),(atP (Í b) [g.1] g.2.1,0,-(g.2.2.1+g.2.2.2.1.1))] ++
    (List.range j).flatMap fun(k:Nat)=>[(atP (Í b) [g.1] g.2.1+k,atP (Í b) [g.1] g.2.1+k+1,0),(atP (Í b) [g.1] g.2.1+k+1,atP (Í b) [g.1] g.2.1+k,ip b g ((à b g)[k]?.getD 0) ((à b g)[k+1]?.getD 0))]) ∧
   x.2.2=((b.2.1.take i).mapIdx (â b)).flatten++([(1,(i:Int)),(1,(i:Int))]++(List.range j).flatMap fun _=>[(2,(i:Int)),(2,(i:Int))])) (fun x=>(à b g).length-x.1.toNat) ?_
   ⟨0,gd (kw g),rfl,by simp,by simp⟩
  rintro⟨x1,ls,ss⟩ ⟨j,hj,e1,e2,e3⟩;dsimp only at e1 e2 e3 ⊢;subst e1
  have hlls:ls.length≤1562:=by
   rw[e2,cX,cX,œ _ _ (fun _=>rfl)];simp only[dg,dw]; omega
  have hlss:ss.length≤1562:=by
   rw[e3,cX,cX,œ _ _ (fun _=>rfl)];simp only[dg,dw]; omega
  rcases dz (j+1) (à b g).length with hlt|hge
  ·refine .inr ⟨((j:Int)+1+1,_,_),⟨j+1,hlt,by push_cast; rfl,rfl,rfl⟩,by dsimp only; omega,fun kn'=>?_⟩
   try dsimp only
   unfold wA
   have g1:(à b g)[j]?=some ((à b g)[j]?.getD 0):=by rw[cQ (by omega)]; rfl
   have g2:(à b g)[j+1]?=some ((à b g)[j+1]?.getD 0):=by rw[cQ hlt]; rfl
   have d1:=h.day hgm (cZ g1);have d2:=h.day hgm (cZ g2);have lb:=kM h hgm (t:=(à b g)[j+1]?.getD 0) d1.2.1
   have ec:((j:Int)+1)=((j+1:Nat):Int):=by push_cast; rfl
   rw[ec,Ó hlt,Õ (by omega) (by omega),Õ (by omega) (by omega),Õ (by omega) (by omega),Õ (by omega) (by omega)];rw[show(((j+1:Nat):Int)-1)=((j:Nat):Int) by omega,É g1,É g2];rw[show Bz ((b.1.1,b.1.2),b.2.1,b.2.2.1,b.2.2.2.1,b.2.2.2.2.1,b.2.2.2.2.2) (g.1,g.2.1,g.2.2.1,(g.2.2.2.1.1,g.2.2.2.1.2),(g.2.2.2.2.1.1,g.2.2.2.2.1.2),g.2.2.2.2.2) ((à b g)[j]?.getD 0) ((à b g)[j+1]?.getD 0)=Bz b g ((à b g)[j]?.getD 0) ((à b g)[j+1]?.getD 0) from rfl];rw[aqR h hr.2.2.2.2.2.2.2 ⟨by omega,by omega⟩ ⟨by omega,by omega⟩,À,Õ (by omega) (by omega),Õ (by omega) (by omega),Ø (by simp only[dg,dw]; omega),Am.iff_true,Ø (by simp only[dg,dw]; omega),Am.iff_true,Ì hlt (by omega)];rw[tG,tG,e2,e3]
   have a1:atP (Í b) [g.1] g.2.1+((j+1:Nat):Int)-1=atP (Í b) [g.1] g.2.1+(j:Int):=by push_cast; omega
   have a2:atP (Í b) [g.1] g.2.1+((j+1:Nat):Int)=atP (Í b) [g.1] g.2.1+(j:Int)+1:=by push_cast; omega
   have a3:0-(0-ip b g ((à b g)[j]?.getD 0) ((à b g)[j+1]?.getD 0))=ip b g ((à b g)[j]?.getD 0) ((à b g)[j+1]?.getD 0):=by omega
   rw[a1,a2,a3];simp only[du]
  ·refine .inl fun kn'=>?_
   have hje:j+1=(à b g).length:=by omega
   unfold wA;rw[show((j:Int)+1)=(((à b g).length:Nat):Int) by rw[←hje]; push_cast; rfl,Ü];dsimp only;rw[Ì hi (by omega)];rw[iG _ hg,take_succ hg,List.flatMap_append,List.flatten_append,e2,e3,show j=(à b g).length-1 by omega];simp only[List.flatMap_cons,List.flatMap_nil,List.append_nil,List.flatten_cons,List.flatten_nil];rfl
 ·try dsimp only
  unfold wB;rw[Ü,List.take_length];have hls:=gls b.2.1.length;rw[List.take_length] at hls
  have cl:∀i,i≤b.2.2.2.2.1.length→((b.2.2.2.2.1.take i).flatMap (û b)).length=2*i∧(((b.2.2.2.2.1.take i).mapIdx fun i _=>[((3:Int),(i:Int)),((3:Int),(i:Int))]).flatten).length=2*i:=by
   intro i
   induction i with
   |zero=>intro _; simp
   |succ i ih =>
    intro hi;have ih:=ih (by omega);have hg:b.2.2.2.2.1[i]?=some b.2.2.2.2.1[i]:=cQ hi;rw[iG _ hg,take_succ hg,eW,fI,cX,cX];simp only[dK,gO,dR,fV,gq,û,dg,dw];omega
  refine ò b.2.2.2.2.1 (fun i=>(b.2.1.flatMap (ä b)++(b.2.2.2.2.1.take i).flatMap (û b),(b.2.1.mapIdx (â b)).flatten++((b.2.2.2.2.1.take i).mapIdx fun i _=>[((3:Int),(i:Int)),((3:Int),(i:Int))]).flatten)) _ (by simp) (fun i c hi hc kn'=>?_) (fun kn'=>?_)
  ·try dsimp only
   unfold wz;have hcm:=List.mem_of_getElem? hc;have hn:=(Ο c).1 (h.nums hcm);have ha:=ĺ hn.2.2.2.2.2.1;have hb:=ĺ hn.2.2.2.2.2.2;have sb:=DU h hcm;have c1:=cl i (by omega);rw[Ó hi,É hc,tg (by omega) (by omega),À,ank _ _ _ (by dsimp only; omega),À,tg (by omega) (by omega),À,ank _ _ _ (by dsimp only; omega),À];rw[show wZ ((b.1.1,b.1.2),b.2.1,b.2.2.1,b.2.2.2.1,b.2.2.2.2.1,b.2.2.2.2.2) c=wZ b c from rfl,h.says hcm,À];rw[Õ (by omega) (by omega),Ø (by simp only[List.length_append,List.length_cons,List.length_nil]; omega),Am.iff_true,Ø (by simp only[List.length_append,List.length_cons,List.length_nil]; omega),Am.iff_true,Ì hi (by omega),iG _ hc,take_succ hc,List.flatMap_append,List.flatten_append];simp only[List.flatMap_cons,List.flatMap_nil,List.append_nil,List.flatten_cons,List.flatten_nil,List.append_assoc,Int.zero_sub];rfl
  ·try dsimp only
   unfold wz;rw[Ü,List.take_length];rfl
section
variable {ρ:Type}
def wv (w:List Bool) (v:Int):Bool:=w[v.toNat]?.getD false
def ahc {w:List Bool} {u v:Int} (hu:0≤u) (hv:0≤v) (h:u.toNat<w.length) (y:Bool):wv (w.set u.toNat y) v=if v=u then y else wv w v:=by
 unfold wv;rw[List.getElem?_set]
 by_cases hvu:v=u
 ·subst hvu; simp[h]
 ·have:¬u.toNat=v.toNat:=by omega
  simp[hvu,this]
def kD {x:List Int} {v:Int} (h:v.toNat<x.length) (f:Int→Option ρ):Ŋ x v.toNat f=f (gv x v):=oK (Xh h) f
def Yj {w:List Bool} {v:Int} (h:v.toNat<w.length) (f:Bool→Option ρ):Ŋ w v.toNat f=f (wv w v):=by
 refine oK ?_ f;unfold wv; rw[List.getElem?_eq_getElem h]; rfl
def ĵ {v:Int} {n:Nat} (h0:0≤v) (h1:v<n) (x:Option ρ):í ((ile 0 v)&&(ilt v (n:Int))) x=x:=by
 have:((ile 0 v)&&(ilt v (n:Int)))=true:=by simp[ile,ilt,h0,h1]
 rw[this,Am.iff_true]
end
def qm (n least:Int):List Lk→List Int→List Bool→List Int→Bool×List Int×List Bool×List Int
 |[],x,w,q=>(true,x,w,q)
 |l::t,x,w,q =>
  if l.1≠n then qm n least t x w q else
  if gv x l.2.1≤gv x n+l.2.2 then qm n least t x w q else
  if gv x n+l.2.2<least then(false,x.set l.2.1.toNat (gv x n+l.2.2),w,q) else
  if wv w l.2.1 then qm n least t (x.set l.2.1.toNat (gv x n+l.2.2)) w q else qm n least t (x.set l.2.1.toNat (gv x n+l.2.2)) (w.set l.2.1.toNat true) (q++[l.2.1])
structure iS (L:List Lk) (N:Nat) (M:Int):Prop where
 inr:InR L N
 noloop:∀l∈L,l.1≠l.2.1
 most:∀l∈L,-M≤l.2.2∧l.2.2≤M
 len:L.length≤400
 nodes:N≤1000
 m0:0≤M
 m1:M≤4503599627370496
set_option maxHeartbeats 1000000 in
def aoU {ρ:Type} {L:List Lk} {N:Nat} {M:Int} (hL:iS L N M) {n least:Int} (hn:0≤n∧n<N) {x:List Int} {w:List Bool} {q:List Int} (hx:x.length=N) (hw:w.length=N) (hq:q.length≤1000000)
 (hb : -2305843009213693952≤gv x n∧gv x n≤2305843009213693952) (K0:(Val (.pair .bool (.pair (.slice tI) (.pair (.slice .bool) (.slice tI)))))→Option ρ) (K1:(Val (.pair (.slice tI) (.pair (.slice .bool) (.slice tI))))→Option ρ) :
 Ñ (fun(v47:(Val (.pair tI (.pair (.slice tI) (.pair (.slice .bool) (.slice tI)))))) kk52=>jp [] least n L (Ú L) v47.1 v47.2.1 v47.2.2.1 v47.2.2.2 (fun u48 u49 u50 u51=>kk52 (u48,u49,u50,u51)) K0 K1) ((0:Int),x,w,q) =
  match qm n least L x w q with
  |(true,r)=>K1 r
  |(false,r)=>K0 (false,r):=by
 have hlen:=hL.len
 refine IC L (fun i (s:List Int×List Bool×List Int) t=>match qm n least t s.1 s.2.1 s.2.2 with|(true,r)=>K1 r|(false,r)=>K0 (false,r))
  (fun i s=>s.1.length=N∧s.2.1.length=N∧gv s.1 n=gv x n∧s.2.2.length≤1000000+i) (fun s hs kn=>?_) (fun i l t s hd hi hl hI kn hk=>?_) (s:=(x,w,q)) ⟨hx,hw,rfl,by simpa using hq⟩
 ·try dsimp only
  unfold jp;rw[Ü];rfl
 ·obtain⟨y,u,p⟩:=s;obtain⟨h1,h2,h3,h4⟩:=hI;dsimp only at h1 h2 h3 h4 hk ⊢;have hmem:l∈L:=List.mem_of_getElem? hl;have hr:=hL.inr l hmem;have hm:=hL.most l hmem;have hm1:=hL.m1;have hnl:=hL.noloop l hmem;unfold jp;rw[Ó hi,É hl];unfold qm
  by_cases hln:l.1=n
  ·have e0:ine l.1 n=false:=by simp[ine,hln]
   rw[Ò e0];have e1:∀(f:Bool→Option ρ) (g:Option ρ),abd (k:=tI) (v:=.bool) (i:Int) [] f g=g:=fun f g=>rfl;rw[e1,if_neg (by simp[hln])]
   have tn:n.toNat<y.length:=by omega
   have tt:l.2.1.toNat<y.length:=by omega
   have tu:l.2.1.toNat<u.length:=by omega
   rw[ĵ hn.1 (by omega),kD tn,Õ (by omega) (by omega),ĵ hr.2.1 (by omega),kD tt,Ė]
   by_cases hge:gv y l.2.1≤gv y n+l.2.2
   ·rw[if_pos (by simpa[ige] using hge),if_pos hge,Ì hi (by omega)];exact hk (y,u,p) ⟨h1,h2,h3,by dsimp only; omega⟩
   ·rw[if_neg (by simpa[ige] using hge),if_neg hge]
    have hset:gv (y.set l.2.1.toNat (gv y n+l.2.2)) n=gv x n:=by
     rw[sv hr.2.1 hn.1 tt,if_neg (fun h=>hnl (hln.trans h)),h3]
    have hself:gv (y.set l.2.1.toNat (gv y n+l.2.2)) l.2.1=gv y n+l.2.2:=by
     rw[sv hr.2.1 hr.2.1 tt,if_pos rfl]
    rw[ĵ hn.1 (by omega),kD tn,Õ (by omega) (by omega),ĵ hr.2.1 (by omega),kD tt];rw[show(Ĕ (List.set y l.2.1.toNat (gv y n+l.2.2)))=((y.length:Nat):Int) by simp[Ĕ]];rw[ĵ hr.2.1 (by omega),kD (by simpa using tt),hself,Ė]
    by_cases hlt:gv y n+l.2.2<least
    ·rw[if_pos (by simpa[ilt] using hlt),if_pos hlt]
    ·rw[if_neg (by simpa[ilt] using hlt),if_neg hlt,ĵ hr.2.1 (by omega),Yj tu,Ė]
     cases hwv:wv u l.2.1 with
     |true =>
      rw[if_neg (by simp),if_pos rfl,Ì hi (by omega)];exact hk (y.set l.2.1.toNat (gv y n+l.2.2),u,p) ⟨by simpa using h1,h2,hset,by dsimp only; omega⟩
     |false =>
      rw[if_pos (by simp),if_neg (by simp),Ø (by simp only[dI]; omega),Am.iff_true,ĵ hr.2.1 (by omega),Yj tu,Ì hi (by omega)];exact hk (y.set l.2.1.toNat (gv y n+l.2.2),u.set l.2.1.toNat true,p++[l.2.1]) ⟨by simpa using h1,by simpa using h2,hset,by simp only[cX,dI]; omega⟩
  ·have e0:ine l.1 n=true:=by simp[ine,hln]
   rw[Ô e0,if_pos hln,Ì hi (by omega)];exact hk (y,u,p) ⟨h1,h2,h3,by dsimp only; omega⟩
structure apZ (N:Nat) (n least:Int) (L:List Lk) (x:List Int) (q:List Int) (x':List Int) (w':List Bool) (q':List Int):Prop where
 lx:x'.length=N
 lw:w'.length=N
 same:gv x' n=gv x n
 le:∀v:Int,0≤v→v<N→gv x' v≤gv x v
 link:∀v m,(n,v,m)∈L→gv x' v≤gv x n+m
 chg:∀v:Int,0≤v→v<N→gv x' v=gv x v∨(v∈q'∧gv x' v<gv x v∧∃m,(n,v,m)∈L∧gv x' v=gv x n+m∧least≤gv x' v)
 new:∃l,q'=q++l∧∀v∈l,(0≤v∧v<N)∧gv x' v<gv x v
 nodup:q'.Nodup
 waits:∀v:Int,0≤v→v<N→(wv w' v=true↔v∈q')
def kV {N:Nat} {n least:Int} (hn:0≤n∧n<N):∀{L:List Lk},InR L N→(∀l∈L,l.1≠l.2.1)→∀{x:List Int} {w:List Bool} {q:List Int},x.length=N→w.length=N→q.Nodup→(∀v:Int,0≤v→v<N→(wv w v=true↔v∈q)) →
 ∀{x':List Int} {w':List Bool} {q':List Int},qm n least L x w q=(true,x',w',q')→apZ N n least L x q x' w' q'
 |[],_,_,x,w,q,hx,hw,hq,hwq,x',w',q',h=>by
  cases h;exact⟨hx,hw,rfl,fun _ _ _=>dE _,fun _ _ h=>(by cases h),fun _ _ _=>.inl rfl,⟨[],by simp,fun _ h=>by cases h⟩,hq,hwq⟩
 |l::t,hL,hnl,x,w,q,hx,hw,hq,hwq,x',w',q',h=>by
  have hLt:InR t N:=fun l hl=>hL l (by simp[hl]);have hnt:∀l∈t,l.1≠l.2.1:=fun l hl=>hnl l (by simp[hl]);have hr:=hL l (by simp);have hl0:=hnl l (by simp);unfold qm at h
  split at h
  ·rename_i hne;have a:=kV hn hLt hnt hx hw hq hwq h
   exact⟨a.lx,a.lw,a.same,a.le,fun v m hm=>by
    rcases df.1 hm with rfl|hm
    ·exact(hne rfl).elim
    ·exact a.link v m hm,fun v h0 h1=>(a.chg v h0 h1).imp id fun⟨g1,g2,m,g3,g4⟩=>⟨g1,g2,m,by simp[g3],g4⟩,a.new,a.nodup,a.waits⟩
  ·rename_i hne
   have hln:l.1=n:=by simpa using hne
   split at h
   ·rename_i hle;have a:=kV hn hLt hnt hx hw hq hwq h
    exact⟨a.lx,a.lw,a.same,a.le,fun v m hm=>by
     rcases df.1 hm with rfl|hm
     ·have:=a.le v hr.2.1 hr.2.2; simp only at hle; omega
     ·exact a.link v m hm,fun v h0 h1=>(a.chg v h0 h1).imp id fun⟨g1,g2,m,g3,g4⟩=>⟨g1,g2,m,by simp[g3],g4⟩,a.new,a.nodup,a.waits⟩
   ·rename_i hgt
    split at h
    ·cases h
    ·rename_i hls
     have tt:l.2.1.toNat<x.length:=by omega
     have tw:l.2.1.toNat<w.length:=by omega
     have hy:(x.set l.2.1.toNat (gv x n+l.2.2)).length=N:=by simpa using hx
     have hyn:gv (x.set l.2.1.toNat (gv x n+l.2.2)) n=gv x n:=by
      rw[sv hr.2.1 hn.1 tt,if_neg (fun h=>hl0 (hln.trans h))]
     have hyv:∀v,0≤v→gv (x.set l.2.1.toNat (gv x n+l.2.2)) v=if v=l.2.1 then gv x n+l.2.2 else gv x v:=fun v h0=>sv hr.2.1 h0 tt _
     have hlm:(n,l.2.1,l.2.2)∈l::t:=by rw[←hln]; simp
     -- what both ways have in common
     have fin:∀{w1:List Bool} {q1:List Int},apZ N n least t (x.set l.2.1.toNat (gv x n+l.2.2)) q1 x' w' q'→l.2.1∈q1→(∃l',q1=q++l'∧∀v∈l',v=l.2.1)→apZ N n least (l::t) x q x' w' q':=by
      intro w1 q1 a hmem hq1;obtain⟨new,hnew,hnv⟩:=a.new;obtain⟨l',hl',hlv⟩:=hq1
      have hto:gv x' l.2.1≤gv x n+l.2.2:=by
       have:=a.le l.2.1 hr.2.1 hr.2.2;rw[hyv _ hr.2.1,if_pos rfl] at this;exact this
      refine⟨a.lx,a.lw,a.same.trans hyn,fun v h0 h1=>?_,fun v m hm=>?_,fun v h0 h1=>?_,⟨l'++new,by rw[hnew,hl',du],fun v hv=>?_⟩,a.nodup,a.waits⟩
      ·have:=a.le v h0 h1;rw[hyv v h0] at this
       split at this
       ·rename_i e; subst e; omega
       ·exact this
      ·rcases df.1 hm with rfl|hm
       ·exact hto
       ·have:=a.link v m hm
        rwa [hyn] at this
      ·rcases a.chg v h0 h1 with g|⟨g1,g2,m,g3,g4,g5⟩
       ·rw[hyv v h0] at g
        split at g
        ·rename_i e;subst e;exact .inr ⟨by rw[hnew]; exact ez _ hmem,by omega,l.2.2,hlm,g,by omega⟩
        ·exact .inl g
       ·rw[hyv v h0] at g2;rw[hyn] at g4;refine .inr ⟨g1,?_,m,by simp[g3],g4,g5⟩
        split at g2
        ·rename_i e; subst e; omega
        ·exact g2
      ·rcases dc.1 hv with hv|hv
       ·rw[hlv v hv]; exact⟨hr.2,by omega⟩
       ·obtain⟨g1,g2⟩:=hnv v hv;rw[hyv v g1.1] at g2;refine⟨g1,?_⟩
        split at g2
        ·rename_i e; subst e; omega
        ·exact g2
     split at h
     ·rename_i hwt;exact fin (w1:=w) (kV hn hLt hnt hy hw hq hwq h) ((hwq _ hr.2.1 hr.2.2).1 hwt) ⟨[],by simp,fun _ h=>by cases h⟩
     ·rename_i hwt;have hnq:l.2.1∉q:=fun hc=>hwt ((hwq _ hr.2.1 hr.2.2).2 hc);refine fin (w1:=w.set l.2.1.toNat true) (kV hn hLt hnt hy (by simpa using hw) ?_ ?_ h) (by simp) ⟨[l.2.1],rfl,fun v hv=>by simpa using hv⟩
      ·rw[List.nodup_append];exact⟨hq,by simp,fun a ha b hb=>by simp at hb; subst hb; exact fun e=>hnq (e▸ha)⟩
      ·intro v h0 h1;rw[ahc hr.2.1 h0 tw]
       by_cases hv:v=l.2.1
       ·simp[hv]
       ·simp only[hv,if_false,dc,dh,or_false];exact hwq v h0 h1
def nO {n least:Int}:∀{L:List Lk},(∀l∈L,l.1≠l.2.1)→(∀l∈L,0≤l.2.1)→0≤n→∀{x:List Int} {w:List Bool} {q:List Int} {r},qm n least L x w q=(false,r)→∃v m,(n,v,m)∈L∧gv x n+m<least
 |[],_,_,_,x,w,q,r,h=>by cases h
 |l::t,hnl,h0,hn,x,w,q,r,h=>by
  have hnt:∀l∈t,l.1≠l.2.1:=fun l hl=>hnl l (by simp[hl]);have h0t:∀l∈t,0≤l.2.1:=fun l hl=>h0 l (by simp[hl]);have up:(∃v m,(n,v,m)∈t∧gv x n+m<least)→∃v m,(n,v,m)∈l::t∧gv x n+m<least:=fun⟨v,m,g1,g2⟩=>⟨v,m,by simp[g1],g2⟩;unfold qm at h
  split at h
  ·exact up (nO hnt h0t hn h)
  ·rename_i hne
   have hln:l.1=n:=by simpa using hne
   split at h
   ·exact up (nO hnt h0t hn h)
   ·split at h
    ·rename_i hlt;exact⟨l.2.1,l.2.2,by rw[←hln]; simp,hlt⟩
    ·have hyn:gv (x.set l.2.1.toNat (gv x n+l.2.2)) n=gv x n:=by
      unfold gv;rw[List.getElem?_set];have h1:=hnl l (by simp);have h2:=h0 l (by simp)
      have:¬l.2.1.toNat=n.toNat:=by omega
      simp[this]
     split at h
     ·have:=nO hnt h0t hn h;rw[hyn] at this;exact up this
     ·have:=nO hnt h0t hn h;rw[hyn] at this;exact up this
def ahU {ρ:Type} {L:List Lk} {N:Nat} {M:Int} (hL:iS L N M) {n least:Int} (hn:0≤n∧n<N) {x:List Int} {w:List Bool} {t rest:List Int} (hx:x.length=N) (hw:w.length=N) (ht:t.length=N) (hq:rest.length≤1000000)
 (hb : -2305843009213693952≤gv x n∧gv x n≤2305843009213693952) (htn:0≤gv t n∧gv t n≤1000000) (kn:List Int→List Bool→List Int→List Int→Option ρ) (k0:(Val (.pair .bool (.pair (.slice tI) (.pair (.slice .bool) (.pair (.slice tI) (.slice tI))))))→Option ρ) :
 Ĵ [] least (N:Int) L x w t (n::rest) kn k0 =
  if (N:Int)+1<gv t n+1 then k0 (false,x,w.set n.toNat false,t.set n.toNat (gv t n+1),rest) else
  match qm n least L x (w.set n.toNat false) rest with
  |(true,x',w',q')=>kn x' w' (t.set n.toNat (gv t n+1)) q'
  |(false,x',w',q')=>k0 (false,x',w',t.set n.toNat (gv t n+1),q'):=by
 have hN:=hL.nodes
 have tn:n.toNat<x.length:=by omega
 have tw:n.toNat<w.length:=by omega
 have tt:n.toNat<t.length:=by omega
 unfold Ĵ
 have e0:ieq (Ú (n::rest)) 0=false:=by
  rw[á];simp only[ieq,dg,beq_eq_false_iff_ne,ne_eq];omega
 have e1:ilt (0:Int) (Ĕ (n::rest))=true:=by simp[ilt,Ĕ]
 have e2:ile (1:Int) (Ĕ (n::rest))=true:=by simp[ile,Ĕ]; omega
 have e3:decide (1+(List.length (n::rest)-1)=List.length (n::rest))=true:=by simp; omega
 rw[Ò e0,Ĭ e1];rw[show Ŋ (n::rest) 0=fun(f:Int→Option ρ)=>f n from rfl]
 try dsimp only
 rw[Ĭ e2,Ĭ e3,ĵ hn.1 (by omega),Yj tw,ĵ hn.1 (by omega),kD tt,Õ (by omega) (by omega),ĵ hn.1 (by omega),kD tt];rw[show(Ĕ (List.set t n.toNat (gv t n+1)))=((t.length:Nat):Int) by simp[Ĕ]];rw[ĵ hn.1 (by omega),kD (by simpa using tt),sv hn.1 hn.1 tt,if_pos rfl,Õ (by omega) (by omega),Ė];rw[show List.drop 1 (n::rest)=rest from rfl]
 by_cases hlt:(N:Int)+1<gv t n+1
 ·rw[if_pos (by simpa[igt] using hlt),if_pos hlt]
 ·rw[if_neg (by simpa[igt] using hlt),if_neg hlt];rw[aoU hL hn hx (w:=w.set n.toNat false) (by simpa using hw) hq hb];generalize qm n least L x (w.set n.toNat false) rest=r;obtain⟨b,x',w',q'⟩:=r
  cases b<;>rfl
def ala {ρ:Type} {L:List Lk} {N:Int} {least:Int} {x:List Int} {w:List Bool} {t:List Int} (kn:List Int→List Bool→List Int→List Int→Option ρ) (k0:(Val (.pair .bool (.pair (.slice tI) (.pair (.slice .bool) (.pair (.slice tI) (.slice tI))))))→Option ρ) :
 Ĵ [] least N L x w t [] kn k0=k0 (true,x,w,t,[]):=by
 unfold Ĵ
 have e0:ieq (Ú ([]:List Int)) 0=true:=by rw[á]; rfl
 rw[Ô e0]
def aah (N:Nat) (t:List Int):Nat:=(t.map fun a=>((N:Int)+2-a).toNat).sum
def ah5 (N:Nat):∀(t:List Int) (i:Nat) (a b:Int),t[i]?=some a→a<b→a<(N:Int)+2→aah N (t.set i b)<aah N t
 |a0::t,0,a,b,h,h1,h2=>by
  simp at h; subst h;simp only[aah,List.set_cons_zero,eP,List.sum_cons];omega
 |a0::t,i+1,a,b,h,h1,h2=>by
  have:=ah5 N t i a b (by simpa using h) h1 h2;simp only[aah] at this;simp only[aah,List.set_cons_succ,eP,List.sum_cons];omega
def ad3 {N:Nat} {t:List Int} {n:Int} (hn:n.toNat<t.length) (h:gv t n≤(N:Int)+1):aah N (t.set n.toNat (gv t n+1))<aah N t :=
 ah5 N t n.toNat (gv t n) _ (Xh hn) (by omega) (by omega)
structure aky (L:List Lk) (S:Int→Prop) (N:Nat) (M:Int) (k:Nat) (A B:List Int) (x:List Int) (w:List Bool) (t q:List Int):Prop where
 q_eq:q=A++B
 lx:x.length=N
 lw:w.length=N
 lt:t.length=N
 nodup:q.Nodup
 rng:∀v∈q,0≤v∧v<N
 waits:∀v:Int,0≤v→v<N→(wv w v=true↔v∈q)
 t0:∀v:Int,0≤v→v<N→0≤gv t v∧gv t v≤(k:Int)+1
 tA:∀v∈A,gv t v≤k
 low:∀vs v d,Wl L S vs v d→vs.length≤k→gv x v≤d
 nxt:∀vs u d,Wl L S vs u d→vs.length≤k→u∉A→∀v m,(u,v,m)∈L→gv x v≤d+m
 rel:∀u:Int,0≤u→u<N→u∉q→gv x u≠Ģ→∀v m,(u,v,m)∈L→gv x v≤gv x u+m
 att:∀v:Int,0≤v→v<N→gv x v≠Ģ→∃vs,Wl L S vs v (gv x v)
 bd:∀v:Int,0≤v→v<N→gv x v=Ģ∨gv x v≤((k:Int)+1)*M
 bA:∀v∈A,gv x v≤(k:Int)*M
 fin:∀v∈q,gv x v<Ģ
 kN:k+1≤N
 last:k+1=N→B=[]
section
variable {L:List Lk} {S:Int→Prop} {N:Nat} {M:Int} {p:Int→Int} {k:Nat} {A B x:List Int} {w:List Bool} {t q:List Int}
def OV {a b:Nat} {M:Int} (h:a≤b) (hM:0≤M):(a:Int)*M≤(b:Int)*M:=fG (by omega) hM
def Wl.lt_free (hL:iS L N M) (hNM:N*M<Ģ) {vs:List Int} {v d:Int} (hw:Wl L S vs v d) (h:vs.length≤N):d<Ģ:=by
 have h1:=hw.high fun l hl=>(hL.most l hl).2;have h2:=OV h hL.m0;omega
def aky.next (hL:iS L N M) (hNM:N*M<Ģ) (hS:∀v,S v→0≤v∧v<N) (h:aky L S N M k [] B x w t q) (hB:B≠[]):aky L S N M (k+1) B [] x w t q:=by
 have hM:=hL.m0
 have hq:q=B:=by simpa using h.q_eq
 have hk:k+1≠N:=fun e=>hB (h.last e);have hkN:=h.kN
 have low':∀vs v d,Wl L S vs v d→vs.length≤k+1→gv x v≤d:=by
  intro vs v d hw hl
  cases hw with
  |nil hs=>exact h.low [] v 0 (.nil hs) (by simp)
  | @step vs u _ m d hw hlk=>exact h.nxt vs u d hw (by simpa using hl) (by simp) v m hlk
 refine⟨by simp[hq],h.lx,h.lw,h.lt,h.nodup,h.rng,h.waits,fun v h0 h1=>⟨(h.t0 v h0 h1).1,by have:=(h.t0 v h0 h1).2; push_cast; omega⟩,fun v hv=>?_,low',fun vs u d hw hl hu v m hlk=>?_,h.rel,h.att,fun v h0 h1=>?_,fun v hv=>?_,h.fin,by omega,fun _=>rfl⟩
 ·have:=h.rng v (by rw[hq]; exact hv);have:=(h.t0 v this.1 this.2).2;push_cast; omega
 ·have h1:=low' vs u d hw hl;have h2:=hw.lt_free hL hNM (by omega);have h3:=(hw.range hL.inr hS).1;have:=h.rel u h3.1 h3.2 (by rw[hq]; exact hu) (by omega) v m hlk;omega
 ·rcases h.bd v h0 h1 with h2|h2
  ·exact .inl h2
  ·refine .inr ?_;have:=OV (show k+1≤k+1+1 by omega) hM;push_cast at this ⊢;omega
 ·have h1:=h.rng v (by rw[hq]; exact hv);have h2:=h.fin v (by rw[hq]; exact hv);rcases h.bd v h1.1 h1.2 with h3|h3
  ·omega
  ·push_cast; exact h3
def aky.step {n:Int} {A':List Int} {least:Int} {x':List Int} {w':List Bool} {q':List Int} (hL:iS L N M) (hNM:N*M<Ģ) (hp:Pot L p) (hS:∀v,S v→0≤v∧v<N) (h:aky L S N M k (n::A') B x w t q)
 (ha:apZ N n least L x (A'++B) x' w' q'):∃B',aky L S N M k A' B' x' w' (t.set n.toNat (gv t n+1)) q':=by
 have hM:=hL.m0
 have hq:q=n::(A'++B):=by simpa using h.q_eq
 have hkN:=h.kN;have hnr:=h.rng n (by rw[hq]; simp);have hnf:=h.fin n (by rw[hq]; simp)
 have hnd:n∉A'++B:=by have:=h.nodup; rw[hq,fS] at this; exact this.1
 have htn:n.toNat<t.length:=by have:=h.lt; omega
 have tset:∀v,0≤v→gv (t.set n.toNat (gv t n+1)) v=if v=n then gv t n+1 else gv t v:=fun v h0=>sv hnr.1 h0 htn _
 have hkM:((k:Int)+1)*M<Ģ:=by
  have:=OV hkN hM;push_cast at this;omega
 have xle:∀v:Int,0≤v→v<N→gv x v≤Ģ:=fun v h0 h1=>by rcases h.bd v h0 h1 with h2|h2<;>omega
 obtain⟨l,hl,hlv⟩:=ha.new
 have att':∀v:Int,0≤v→v<N→gv x' v≠Ģ→∃vs,Wl L S vs v (gv x' v):=by
  intro v h0 h1 hne;rcases ha.chg v h0 h1 with g|⟨_,_,m,g3,g4,_⟩
  ·rw[g] at hne ⊢; exact h.att v h0 h1 hne
  ·obtain⟨vs,hw⟩:=h.att n hnr.1 hnr.2 (by omega);rw[g4]; exact⟨_,hw.step g3⟩
 refine⟨B++l,by rw[hl,du],ha.lx,ha.lw,by rw[fi]; exact h.lt,ha.nodup,fun v hv=>?_,ha.waits,fun v h0 h1=>?_,fun v hv=>?_,fun vs v d hw hlen=>?_,fun vs u d hw hlen hu v m hlk=>?_,
  fun u h0 h1 hu hf v m hlk=>?_,att',fun v h0 h1=>?_,fun v hv=>?_,fun v hv=>?_,hkN,fun hk=>?_⟩
 ·rw[hl] at hv;rcases dc.1 hv with hv|hv
  ·exact h.rng v (by rw[hq]; simp only[df]; exact .inr hv)
  ·exact(hlv v hv).1
 ·rw[tset v h0];have h2:=h.t0 v h0 h1
  split
  ·have h3:=h.tA n (by simp);have h4:=h.t0 n hnr.1 hnr.2;omega
  ·exact h2
 ·have h1:=h.rng v (by rw[hq]; simp[hv]);rw[tset v h1.1,if_neg (fun e=>hnd (by rw[←e]; simp[hv]))];exact h.tA v (by simp[hv])
 ·have h1:=h.low vs v d hw hlen;have h2:=(hw.range hL.inr hS).1;have:=ha.le v h2.1 h2.2;omega
 ·have hvr:=(hL.inr _ hlk).2
  by_cases hun:u=n
  ·subst hun;have h1:=ha.link v m hlk;have h2:=h.low vs u d hw hlen;omega
  ·have h1:=h.nxt vs u d hw hlen (by simp[hun,hu]) v m hlk;have:=ha.le v hvr.1 hvr.2;omega
 ·have hvr:=(hL.inr _ hlk).2
  have heq:gv x' u=gv x u:=by
   rcases ha.chg u h0 h1 with g|⟨g,_⟩
   ·exact g
   ·exact(hu g).elim
  by_cases hun:u=n
  ·subst hun;have h1:=ha.link v m hlk;omega
  ·have hur:u∉q:=by
    rw[hq];intro hc;rcases df.1 hc with e|hc
    ·exact hun e
    ·exact hu (by rw[hl]; exact ez _ hc)
   have h2:=h.rel u h0 h1 hur (by rw[←heq]; exact hf) v m hlk;have:=ha.le v hvr.1 hvr.2;omega
 ·rcases ha.chg v h0 h1 with g|⟨_,_,m,g3,g4,_⟩
  ·rw[g]; exact h.bd v h0 h1
  ·have h2:=h.bA n (by simp);have h3:=(hL.most _ g3).2;simp only at h3;refine .inr ?_;rw[g4,gc,gw];omega
 ·have h1:=h.rng v (by rw[hq]; simp[hv]);have h2:=h.bA v (by simp[hv]);have:=ha.le v h1.1 h1.2;omega
 ·rw[hl] at hv;rcases dc.1 hv with hv|hv
  ·have h1:=h.rng v (by rw[hq]; simp only[df]; exact .inr hv);have h2:=h.fin v (by rw[hq]; simp only[df]; exact .inr hv);have:=ha.le v h1.1 h1.2;omega
  ·obtain⟨g1,g2⟩:=hlv v hv;have:=xle v g1.1 g1.2;omega
 ·rw[h.last hk]
  cases l with
  |nil=>rfl
  |cons v l =>
   exfalso;obtain⟨g1,g2⟩:=hlv v (by simp);have:=xle v g1.1 g1.2;obtain⟨vs,hw⟩:=att' v g1.1 g1.2 (by omega);obtain⟨vs',d',k1,k2,k3⟩:=hw.simple hp;have k4:=k1.short hL.inr hS k3;have:=h.low vs' v d' k1 (by omega);omega
def aky.done (hL:iS L N M) (hNM:N*M<Ģ) (hp:Pot L p) (hS:∀v,S v→0≤v∧v<N) (h:aky L S N M k A B x w t []):akz L S N (gv x):=by
 have hkN:=h.kN;have hM:=hL.m0
 have hkM:((k:Int)+1)*M<Ģ:=by
  have:=OV hkN hM;push_cast at this;omega
 have key:∀vs v d,Wl L S vs v d→vs.length+1≤N→gv x v≤d:=by
  intro vs v d hw
  induction hw with
  |nil hs=>intro _; exact h.low [] _ 0 (.nil hs) (by simp)
  | @step vs u v m d hw hlk ih =>
   intro hlen;simp only[dg] at hlen;have h1:=ih (by omega);have h2:=hw.lt_free hL hNM (by omega);have h3:=(hw.range hL.inr hS).1;have:=h.rel u h3.1 h3.2 (by simp) (by omega) v m hlk;omega
 refine⟨h.att,fun v vs d hw=>?_,fun v h0 h1=>?_⟩
 ·obtain⟨vs',d',k1,k2,k3⟩:=hw.simple hp;have:=key vs' v d' k1 (k1.short hL.inr hS k3);omega
 ·rcases h.bd v h0 h1 with h2|h2<;>omega
def abw {ρ:Type} {r:Option ρ} (hL:iS L N M) (hNM:N*M<Ģ) (hp:Pot L p) (hS:∀v,S v→0≤v∧v<N) (k0:(Val (.pair .bool (.pair (.slice tI) (.pair (.slice .bool) (.pair (.slice tI) (.slice tI))))))→Option ρ)
 (hK:∀x w t q,x.length=N→akz L S N (gv x)→k0 (true,x,w,t,q)=r) (h:aky L S N M k A B x w t q) :
 Ñ (fun(v64:(Val (.pair (.slice tI) (.pair (.slice .bool) (.pair (.slice tI) (.slice tI)))))) kk69=>Ĵ [] (OU L) (N:Int) L v64.1 v64.2.1 v64.2.2.1 v64.2.2.2 (fun u65 u66 u67 u68=>kk69 (u65,u66,u67,u68)) k0) (x,w,t,q)=r:=by
 refine ņ (fun s:List Int×List Bool×List Int×List Int=>∃k A B,aky L S N M k A B s.1 s.2.1 s.2.2.1 s.2.2.2) (fun s=>aah N s.2.2.1) ?_ ⟨k,A,B,h⟩;rintro⟨x,w,t,q⟩ ⟨k,A,B,h⟩;dsimp only at h ⊢;have hN:=hL.nodes
 cases q with
 |nil=>exact .inl fun kn=>by rw[ala]; exact hK x w t [] h.lx (h.done hL hNM hp hS)
 |cons n rest =>
  -- the phase in which the first one is
  have hph:∃k A' B,aky L S N M k (n::A') B x w t (n::rest):=by
   cases A with
   |nil =>
    have hB:B=n::rest:=by simpa using h.q_eq.symm
    subst hB;exact⟨k+1,rest,[],h.next hL hNM hS (by simp)⟩
   |cons a A' =>
    have:=h.q_eq;simp only[eZ,List.cons.injEq] at this;obtain⟨rfl,_⟩:=this;exact⟨k,A',B,h⟩
  clear h k A B;obtain⟨k,A',B,h⟩:=hph
  have hrest:rest=A'++B:=by have:=h.q_eq; simpa using this
  have hnr:=h.rng n (by simp);have hnf:=h.fin n (by simp);have hkN:=h.kN;have h1:=h.tA n (by simp);have h2:=h.t0 n hnr.1 hnr.2;obtain⟨vs,hw⟩:=h.att n hnr.1 hnr.2 (by omega);have hlow:=hw.low' hp
  have hneg : -(400*4503599627370496)≤OU L:=by
   have:∀L':List Lk,(∀l∈L',-M≤l.2.2)→-((L'.length:Int)*M)≤OU L':=by
    intro L'
    induction L' with
    |nil=>intro _; simp[OU,Nw]
    |cons l t ih =>
     intro hh;have i1:=ih fun l hl=>hh l (by simp[hl]);have i2:=hh l (by simp);have i3:=hL.m0;unfold OU at i1 ⊢;simp only[Nw,if_true,List.length_cons,Int.natCast_succ,Int.add_mul,Int.one_mul];omega
   have h3:=this L fun l hl=>(hL.most l hl).1;have h4:(L.length:Int)*M≤400*4503599627370496:=fB (by have:=hL.len; omega) hL.m1 hL.m0 (by omega);omega
  have hrl:rest.length≤1000000:=by
   have:=ahF N (n::rest) h.nodup h.rng;simp only[dg] at this;omega
  refine .inr ?_
  have hw':(w.set n.toNat false).length=N:=by rw[fi]; exact h.lw
  cases hr:qm n (OU L) L x (w.set n.toNat false) rest with
  |mk b r' =>
  obtain⟨x',w',q'⟩:=r'
  cases b with
  |false =>
   exfalso;obtain⟨v,m,g1,g2⟩:=nO hL.noloop (fun l hl=>(hL.inr l hl).2.1) hnr.1 hr;have:=(hw.step g1).low' hp;omega
  |true =>
   have hnd:=h.nodup;rw[fS] at hnd
   have ha:=kV hnr hL.inr hL.noloop h.lx hw' hnd.2 (fun v h0 h1=>by
    rw[ahc hnr.1 h0 (by have:=h.lw; omega)]
    by_cases hv:v=n
    ·subst hv; simp[hnd.1]
    ·rw[if_neg hv,h.waits v h0 h1]
     simp[hv]) hr
   rw[hrest] at ha;obtain⟨B',hB'⟩:=h.step hL hNM hp hS ha;refine⟨(x',w',t.set n.toNat (gv t n+1),q'),⟨k,A',B',hB'⟩,ad3 (by have:=h.lt; omega) (by omega),fun kn=>?_⟩;have hF:Ģ=1152921504606846976:=rfl
   rw[ahU hL hnr h.lx h.lw h.lt hrl (by constructor<;>omega) (by constructor<;>omega),if_neg (by omega),hr]
end
def PR (f:Lk→Bool):∀(L L':List Lk),Nw f (L++L')=Nw f L+Nw f L'
 |[],L'=>by simp[Nw]
 |l::t,L'=>by
  simp only[eZ,Nw,PR f t L'];omega
def act {L:List Lk} {i:Nat} {l:Lk} (h:L[i]?=some l):OU (L.take (i+1))=OU (L.take i)+min l.2.2 0:=by
 rw[take_succ h,OU,OU,PR];simp[Nw]
def imin0 (e:Int):aam e 0=min e 0:=by
 unfold aam
 split<;>omega
def Yk {L:List Lk} {M:Int} (h:∀l∈L,-M≤l.2.2) (hM:0≤M) : -((L.length:Int)*M)≤OU L:=by
 induction L with
 |nil=>simp[OU,Nw]
 |cons l t ih =>
  have i1:=ih fun l hl=>h l (by simp[hl]);have i2:=h l (by simp);unfold OU at i1 ⊢;simp only[Nw,if_true,List.length_cons,Int.natCast_succ,Int.add_mul,Int.one_mul];omega
def aqO (L:List Lk):OU L≤0:=vD _ L
section
variable {ρ:Type} {L:List Lk} {N:Nat} {M:Int}
def ah6 (hL:iS L N M) (k0:Int→Option ρ):Ñ (fun(v75:Val Â) kk78=>il L (Ú L) v75.1 v75.2 (fun u76 u77=>kk78 (u76,u77)) k0) ((0:Int),(0:Int))=k0 (OU L):=by
 refine ņ (fun x:Int×Int=>∃i:Nat,i≤L.length∧x=(OU (L.take i),(i:Int))) (fun x=>L.length-x.2.toNat) ?_ ⟨0,by omega,rfl⟩;rintro x ⟨i,hi,rfl⟩;have hlen:=hL.len;rcases dz i L.length with h|h
 ·have hl:L[i]?=some L[i]:=cQ h;refine .inr ⟨(OU (L.take (i+1)),(i:Int)+1),⟨i+1,h,by simp⟩,by simp; omega,fun kn=>?_⟩
  try dsimp only
  unfold il
  have hb:∀j,j≤L.length→-(400*4503599627370496)≤OU (L.take j):=by
   intro j hj;have h1:=Yk (L:=L.take j) (fun l hl=>(hL.most l (List.mem_of_mem_take hl)).1) hL.m0;have h2:((L.take j).length:Int)*M≤400*4503599627370496:=fB (by rw[di]; omega) hL.m1 hL.m0 (by omega);omega
  have h1:=hb i hi;have h2:=hb (i+1) h;have h3:=aqO (L.take i);rw[act hl] at h2;rw[Ó h,É hl,imin0,Õ (by omega) (by omega),Ì h (by omega),act hl]
 ·refine .inl fun kn=>?_
  have:i=L.length:=by omega
  subst this
  try dsimp only
  unfold il;rw[Ü,List.take_length]
def akQ {x:List Int} (hx:x.length=N) (hN:N≤1000) {r:Option ρ} (k0:(Val (.pair (.slice .bool) (.slice tI)))→Option ρ)
 (hK:∀(w:List Bool) (q:List Int),w.length=N→q.Nodup→(∀v∈q,0≤v∧v<N)→(∀v:Int,0≤v→v<N→(wv w v=true↔v∈q))→(∀v:Int,0≤v→v<N→(v∈q↔gv x v≠Ģ))→k0 (w,q)=r) :
 Ñ (fun(v70:(Val (.pair tI (.pair (.slice .bool) (.slice tI))))) kk74=>ś (N:Int) x v70.1 v70.2.1 v70.2.2 (fun u71 u72 u73=>kk74 (u71,u72,u73)) k0) ((0:Int),(List.replicate N false),([]:List Int))=r:=by
 refine ņ (fun s:Int×List Bool×List Int=>∃i:Nat,i≤N∧s.1=i∧s.2.1.length=N∧s.2.2.Nodup∧s.2.2.length≤i∧(∀v∈s.2.2,0≤v∧v<i)∧(∀v:Int,0≤v→v<N→(wv s.2.1 v=true↔v∈s.2.2))∧(∀v:Int,0≤v→v<i→(v∈s.2.2↔gv x v≠Ģ))) (fun s=>N-s.1.toNat) ?_
  ⟨0,by omega,rfl,by simp,by simp,by simp,by simp,fun v h0 h1=>?_,fun v h0 h1=>by omega⟩
 ·rintro⟨s,w,q⟩ ⟨i,hi,h1,h2,h3,h4,h5,h6,h7⟩;simp only at h1 h2 h3 h4 h5 h6 h7;subst h1;rcases dz i N with h|h
  ·refine .inr ?_
   have hix:i<x.length:=by omega
   have hiw:i<w.length:=by omega
   have hnq:((i:Int))∉q:=fun hc=>by have:=(h5 _ hc).2; omega
   by_cases hf:gv x i=Ģ
   ·refine⟨((i:Int)+1,w,q),⟨i+1,h,by simp,h2,h3,by simp only; omega,fun v hv=>⟨(h5 v hv).1,by have:=(h5 v hv).2; push_cast; omega⟩,h6,fun v h0 h1=>?_⟩,by simp; omega,fun kn=>?_⟩
    ·by_cases hv:v=i
     ·subst hv; simp[hf,hnq]
     ·exact h7 v h0 (by push_cast at h1; omega)
    ·try dsimp only
     unfold ś
     have e:ilt (i:Int) (N:Int)=true:=by simp[ilt,h]
     rw[Ô e,iu hix,kD (by simpa using hix)]
     have e2:ine (gv x i) 1152921504606846976=false:=by simp[ine,hf]
     rw[Ò e2,Ì h (by omega)]
   ·refine⟨((i:Int)+1,w.set i true,q++[(i:Int)]),⟨i+1,h,by simp,by simpa using h2,?_,by simp; omega,fun v hv=>?_,fun v h0 h1=>?_,fun v h0 h1=>?_⟩,by simp; omega,fun kn=>?_⟩
    ·rw[List.nodup_append];exact⟨h3,by simp,fun a ha b hb=>by simp at hb; subst hb; exact fun e=>hnq (e▸ha)⟩
    ·rcases dc.1 hv with hv|hv
     ·exact⟨(h5 v hv).1,by have:=(h5 v hv).2; push_cast; omega⟩
     ·simp at hv; subst hv; push_cast; omega
    ·have:=ahc (w:=w) (u:=(i:Int)) (by omega) h0 (by simpa using hiw) true;rw[dn] at this;show wv (w.set i true) v=true↔v∈q++[(i:Int)];rw[this]
     by_cases hv:v=i
     ·simp[hv]
     ·simp only[hv,if_false,dc,dh,or_false];exact h6 v h0 h1
    ·show v∈q++[(i:Int)]↔_
     by_cases hv:v=i
     ·subst hv; simp[hf]
     ·simp only[dc,dh,hv,or_false];exact h7 v h0 (by push_cast at h1; omega)
    ·try dsimp only
     unfold ś
     have e:ilt (i:Int) (N:Int)=true:=by simp[ilt,h]
     rw[Ô e,iu hix,kD (by simpa using hix)]
     have e2:ine (gv x i) 1152921504606846976=true:=by simp[ine,hf]
     rw[Ô e2,Ø (by simp only[dI]; omega),Am.iff_true,iu hiw,Yj (by simpa using hiw),Ì h (by omega),dn]
  ·refine .inl fun kn=>?_
   have:i=N:=by omega
   subst this
   try dsimp only
   unfold ś
   have e:ilt (i:Int) (i:Int)=false:=by simp[ilt]
   rw[Ò e];exact hK w q h2 h3 h5 h6 h7
 ·have:wv (List.replicate N false) v=false:=by
   unfold wv;rw[List.getElem?_replicate]
   split<;>rfl
  simp[this]
def V4 (hL:iS L N M) (hN:1≤N) {S:Int→Bool} (hS:∀v,S v=true→0≤v∧v<N) {w:List Bool} {q:List Int} (hw:w.length=N) (hq:q.Nodup) (hr:∀v∈q,0≤v∧v<N) (hwq:∀v:Int,0≤v→v<N→(wv w v=true↔v∈q)) (hqs:∀v:Int,0≤v→v<N→(v∈q↔gv (vu S N) v≠Ģ)) :
 aky L (fun v=>S v=true) N M 0 q [] (vu S N) w (List.replicate N 0) q:=by
 have ht:∀v:Int,0≤v→v<N→gv (List.replicate N (0:Int)) v=0:=by
  intro v h0 h1;unfold gv;rw[List.getElem?_replicate]
  split<;>rfl
 have hg:∀v:Int,0≤v→v<N→(v∈q↔S v=true):=by
  intro v h0 h1;rw[hqs v h0 h1,jc S h0 h1]
  cases S v<;>simp[Ģ]
 have hM:=hL.m0;refine⟨by simp,ÿ S N,hw,by simp,hq,hr,hwq,fun v h0 h1=>?_,fun v hv=>?_,fun vs v d hw hl=>?_,fun vs u d hw hl hu v m hlk=>?_,fun u h0 h1 hu hf v m hlk=>?_,fun v h0 h1 hf=>?_,fun v h0 h1=>?_,fun v hv=>?_,fun v hv=>?_,by omega,fun _=>rfl⟩
 ·rw[ht v h0 h1]; omega
 ·have:=hr v hv;rw[ht v this.1 this.2]; omega
 ·cases hw with
  |nil hs =>
   have:=hS v hs;rw[jc S this.1 this.2,if_pos hs]; omega
  |step=>simp at hl
 ·cases hw with
  |nil hs =>
   have:=hS u hs;exact(hu ((hg u this.1 this.2).2 hs)).elim
  |step=>simp at hl
 ·rw[jc S h0 h1] at hf;have:=mt (hg u h0 h1).2 hu;rw[if_neg this] at hf;exact(hf rfl).elim
 ·rw[jc S h0 h1] at hf ⊢
  split at hf
  ·rename_i hs;rw[if_pos hs]; exact⟨[],.nil hs⟩
  ·exact(hf rfl).elim
 ·rw[jc S h0 h1]
  split
  ·exact .inr (by simp[hM])
  ·exact .inl rfl
 ·have h1:=hr v hv;rw[jc S h1.1 h1.2,if_pos ((hg v h1.1 h1.2).1 hv)]; simp
 ·have h1:=hr v hv;rw[jc S h1.1 h1.2,if_pos ((hg v h1.1 h1.2).1 hv)]; simp[Ģ]
structure Bad (L:List Lk) (N:Nat) (x:List Int) (w:List Bool) (t q:List Int):Prop where
 lx:x.length=N
 lw:w.length=N
 lt:t.length=N
 nodup:q.Nodup
 rng:∀v∈q,0≤v∧v<N
 waits:∀v:Int,0≤v→v<N→(wv w v=true↔v∈q)
 t0:∀v:Int,0≤v→v<N→0≤gv t v∧gv t v≤(N:Int)+1
 bd:∀v:Int,0≤v→v<N→-2305843009213693952≤gv x v∧gv x v≤0
 rel:∀u:Int,0≤u→u<N→u∉q→∀v m,(u,v,m)∈L→gv x v≤gv x u+m
def aoj {r:Option ρ} {x:List Int} {w:List Bool} {t q:List Int} (hL:iS L N M) (hp:¬∃p,Pot L p) (k0:(Val (.pair .bool (.pair (.slice tI) (.pair (.slice .bool) (.pair (.slice tI) (.slice tI))))))→Option ρ)
 (hK:∀x w t q,k0 (false,x,w,t,q)=r) (h:Bad L N x w t q) :
 Ñ (fun(v64:(Val (.pair (.slice tI) (.pair (.slice .bool) (.pair (.slice tI) (.slice tI)))))) kk69=>Ĵ [] (OU L) (N:Int) L v64.1 v64.2.1 v64.2.2.1 v64.2.2.2 (fun u65 u66 u67 u68=>kk69 (u65,u66,u67,u68)) k0) (x,w,t,q)=r:=by
 refine ņ (fun s:List Int×List Bool×List Int×List Int=>Bad L N s.1 s.2.1 s.2.2.1 s.2.2.2) (fun s=>aah N s.2.2.1) ?_ h;rintro⟨x,w,t,q⟩ h;dsimp only at h ⊢;have hN:=hL.nodes
 cases q with
 |nil =>
  exfalso;exact hp ⟨gv x,fun u v m hl=>h.rel u (hL.inr _ hl).1.1 (hL.inr _ hl).1.2 (by simp) v m hl⟩
 |cons n rest =>
  have hnr:=h.rng n (by simp);have hb:=h.bd n hnr.1 hnr.2;have ht:=h.t0 n hnr.1 hnr.2
  have hrl:rest.length≤1000000:=by
   have:=ahF N (n::rest) h.nodup h.rng;simp only[dg] at this;omega
  have hout:=fun(kn:List Int→List Bool→List Int→List Int→Option ρ)=>ahU (ρ:=ρ) hL (least:=OU L) hnr h.lx h.lw h.lt hrl ⟨hb.1,by omega⟩ ⟨ht.1,by omega⟩ kn k0
  by_cases hlt:(N:Int)+1<gv t n+1
  ·exact .inl fun kn=>by rw[hout,if_pos hlt]; exact hK _ _ _ _
  ·have hw':(w.set n.toNat false).length=N:=by rw[fi]; exact h.lw
   cases hr:qm n (OU L) L x (w.set n.toNat false) rest with
   |mk b r' =>
   obtain⟨x',w',q'⟩:=r'
   cases b with
   |false=>exact .inl fun kn=>by rw[hout,if_neg hlt,hr]; exact hK _ _ _ _
   |true =>
    have hnd:=h.nodup;rw[fS] at hnd
    have htl:n.toNat<t.length:=by have:=h.lt; omega
    have ha:=kV hnr hL.inr hL.noloop h.lx hw' hnd.2 (fun v h0 h1=>by
     rw[ahc hnr.1 h0 (by have:=h.lw; omega)]
     by_cases hv:v=n
     ·subst hv; simp[hnd.1]
     ·rw[if_neg hv,h.waits v h0 h1]
      simp[hv]) hr
    obtain⟨l,hl,hlv⟩:=ha.new;refine .inr ⟨(x',w',t.set n.toNat (gv t n+1),q'),⟨ha.lx,ha.lw,by rw[fi]; exact h.lt,ha.nodup,fun v hv=>?_,ha.waits,fun v h0 h1=>?_,fun v h0 h1=>?_,fun u h0 h1 hu v m hlk=>?_⟩,ad3 htl (by omega),fun kn=>by rw[hout,if_neg hlt,hr]⟩
    ·dsimp only at hv;rw[hl] at hv;rcases List.mem_append.1 hv with hv|hv
     ·exact h.rng v (by simp[hv])
     ·exact(hlv v hv).1
    ·try dsimp only
     rw[sv hnr.1 h0 htl];have:=h.t0 v h0 h1
     split<;>omega
    ·try dsimp only
     have h2:=h.bd v h0 h1;rcases ha.chg v h0 h1 with g|⟨_,g2,m,g3,g4,g5⟩
     ·rw[g]; exact h2
     ·have h3:=Yk (L:=L) (fun l hl=>(hL.most l hl).1) hL.m0;have h4:(L.length:Int)*M≤400*4503599627370496:=fB (by have:=hL.len; omega) hL.m1 hL.m0 (by omega);omega
    ·dsimp only at hu ⊢;have hvr:=(hL.inr _ hlk).2
     have heq:gv x' u=gv x u:=by
      rcases ha.chg u h0 h1 with g|⟨g,_⟩
      ·exact g
      ·exact(hu g).elim
     by_cases hun:u=n
     ·subst hun;have h1:=ha.link v m hlk;omega
     ·have hur:u∉n::rest:=by
       intro hc;rcases df.1 hc with e|hc
       ·exact hun e
       ·exact hu (by rw[hl]; exact ez _ hc)
      have h2:=h.rel u h0 h1 hur v m hlk;have:=ha.le v hvr.1 hvr.2;omega
end
def akx (N:Nat) (v:Int):Bool:=decide (0≤v)&&decide (v<(N:Int))
def ali (s:Int) (v:Int):Bool:=v==s
def abv (N:Nat):vu (akx N) N=List.replicate N 0:=by
 refine aid (by simp[ÿ]) fun v h0 h1=>?_;rw[ÿ] at h1;rw[jc _ h0 h1]
 have:akx N v=true:=by simp[akx,h0,h1]
 rw[if_pos this];unfold gv;rw[List.getElem?_replicate]
 split<;>rfl
def į (L:List Lk) (N:Nat):List Int:=lh L N (vu (akx N) N)
def ħ (L:List Lk) (N:Nat):Bool:=decide (Ns L (į L N)=į L N)
def ow (L:List Lk) (N:Nat) (s:Int):List Int:=lh L N (vu (ali s) N)
section
variable {L:List Lk} {N:Nat} {M:Int}
def aoD (hL:iS L N M) (hN:N≤200):N*M<Ģ:=by
 have:(N:Int)*M≤200*4503599627370496:=Int.mul_le_mul (by omega) hL.m1 hL.m0 (by omega);unfold Ģ;omega
def AZ {p:Int→Int} (hL:iS L N M) (hN:N≤200) (hp:Pot L p):akz L (fun v=>akx N v=true) N (gv (į L N)) :=
 PB hp hL.inr (fun v h=>by simpa[akx] using h) (fun l hl=>(hL.most l hl).2) hL.m0 (aoD hL hN) N (by omega)
def χ {p:Int→Int} (hL:iS L N M) (hN:N≤200) (hp:Pot L p) {s:Int} (hs:0≤s∧s<N):akz L (fun v=>ali s v=true) N (gv (ow L N s)) :=
 PB hp hL.inr (fun v h=>by simp[ali] at h; subst h; exact hs) (fun l hl=>(hL.most l hl).2) hL.m0 (aoD hL hN) N (by omega)
def abQ:∀{L:List Lk} {x:List Int},(∀u v m,(u,v,m)∈L→gv x u<Ģ→gv x v≤gv x u+m)→Ns L x=x
 |[],x,_=>rfl
 |l::t,x,h=>by
  have h1:mg x l=x:=by
   unfold mg
   split
   ·rename_i hc;have:=h l.1 l.2.1 l.2.2 (by simp) hc.1;omega
   ·rfl
  show Ns t (mg x l)=x;rw[h1];exact abQ fun u v m hm=>h u v m (by simp[hm])
def Ļ (hL:iS L N M) (hN:N≤200):ħ L N=true↔∃p,Pot L p:=by
 unfold ħ;rw[decide_eq_true_eq]
 have hle:∀v:Int,0≤v→v<N→gv (į L N) v≤0:=by
  intro v h0 h1;have:=FD hL.inr N (ÿ (akx N) N) v h0;rw[jc _ h0 h1,if_pos (by simp[akx,h0,h1])] at this;exact this
 constructor
 ·intro h;refine⟨gv (į L N),fun u v m hl=>?_⟩;have hr:=(hL.inr _ hl).1;have:=JQ hL.inr (x:=į L N) (by unfold į; rw[ĸ,ÿ]) u v m hl (by have:=hle u hr.1 hr.2; unfold Ģ; omega)
  rwa [h] at this
 ·rintro⟨p,hp⟩;have hd:=AZ hL hN hp;exact abQ fun u v m hl hf=>hd.pot hL.inr hl (by omega)
end
section
variable {ρ:Type} {L:List Lk} {N:Nat} {M:Int}
def IK (hN:N≤1000) (x:Option ρ):í ((ile (0:Int) (N:Int))&&(ë (Int.toNat (N:Int)))) x=x:=by
 rw[dn,Ø (by omega)]
 have:((ile (0:Int) (N:Int))&&true)=true:=by simp[ile]
 rw[this,Am.iff_true]
def afs (hL:iS L N M) (h1:1≤N) (hN:N≤200) (k0:(Val (.pair .bool (.pair (.slice tI) (.pair (.slice .bool) (.pair (.slice tI) (.slice tI))))))→Option ρ) {rT rF:Option ρ}
 (hT:ħ L N=true→∀w t q,k0 (true,į L N,w,t,q)=rT) (hF:∀x w t q,k0 (false,x,w,t,q)=rF) :
 (Ñ (fun(v70:(Val (.pair tI (.pair (.slice .bool) (.slice tI))))) kk74=>ś (N:Int) (List.replicate N (0:Int)) v70.1 v70.2.1 v70.2.2 (fun u71 u72 u73=>kk74 (u71,u72,u73)) (fun z9=>Ñ (fun(v64:(Val (.pair (.slice tI) (.pair (.slice .bool) (.pair (.slice tI) (.slice tI)))))) kk69=>Ĵ [] (OU L) (N:Int) L v64.1 v64.2.1 v64.2.2.1 v64.2.2.2 (fun u65 u66 u67 u68=>kk69 (u65,u66,u67,u68)) k0) ((List.replicate N (0:Int)),z9.1,(List.replicate N (0:Int)),z9.2))) ((0:Int),(List.replicate N false),([]:List Int)))=if ħ L N then rT else rF:=by
 refine akQ (by simp) (by omega) _ fun w q hw hq hr hwq hqs=>?_
 try dsimp only
 have hS:∀v,akx N v=true→0≤v∧v<N:=fun v h=>by simpa[akx] using h
 by_cases ho:ħ L N=true
 ·rw[if_pos ho];obtain⟨p,hp⟩:=(Ļ hL hN).1 ho;have hs:=V4 hL h1 hS hw hq hr hwq (fun v a b=>by rw[abv]; exact hqs v a b);rw[abv] at hs;refine abw hL (aoD hL hN) hp hS k0 (fun x w t q hx hd=>?_) hs
  have:x=į L N:=by
   refine aid (by rw[hx]; unfold į; rw[ĸ,ÿ]) fun v a b=>?_;exact hd.uniq (AZ hL hN hp) a (by omega)
  rw[this]; exact hT ho w t q
 ·rw[if_neg ho];refine aoj hL (fun hp=>ho ((Ļ hL hN).2 hp)) k0 hF ?_
  have hg:∀v,gv (List.replicate N (0:Int)) v=0:=by
   intro v;unfold gv;rw[List.getElem?_replicate]
   split<;>rfl
  refine⟨by simp,hw,by simp,hq,hr,hwq,fun v a b=>?_,fun v a b=>?_,fun u a b hu v m hl=>?_⟩
  ·rw[hg]; omega
  ·rw[hg]; omega
  ·exact(hu ((hqs u a b).2 (by rw[hg]; unfold Ģ; omega))).elim
end
def shift_ok {ρ:Type} {x:List Int} (f:Int) (hx:x.length≤1000) (hf : -2305843009213693952≤f∧f≤2305843009213693952) (hb:∀a∈x,-2305843009213693952≤a∧a≤2305843009213693952) (k0:List Int→Option ρ) :
 Ñ (fun(v60:(Val (.pair tI (.slice tI)))) kk63=>jo f (Ú x) v60.1 v60.2 (fun u61 u62=>kk63 (u61,u62)) k0) ((0:Int),x)=k0 (x.map fun a=>a-f):=by
 refine ò x (fun i=>(x.take i).map (fun a=>a-f)++x.drop i) _ (by simp) (fun i a hi ha kn=>?_) (fun kn=>?_)
 ·try dsimp only
  unfold jo
  have hlen:((x.take i).map (fun a=>a-f)++x.drop i).length=x.length:=by simp; omega
  have hget:((x.take i).map (fun a=>a-f)++x.drop i)[i]?=some a:=by
   rw[eI (by simp; omega)];simp only[dV,di,eY];rw[←ha]; congr 1; omega
  have hi':i<((x.take i).map (fun a=>a-f)++x.drop i).length:=by omega
  have ha':=hb a (cZ ha);rw[Ó hi,iu hi',ĭ hget,Õ (by omega) (by omega),iu hi',ĭ hget,Ì hi (by omega),dn,take_succ ha];congr 2;rw[fD hi,gT,du,List.set_append_right _ _ (by simp; omega)]
  have:i-(List.map (fun a=>a-f) (List.take i x)).length=0:=by simp; omega
  rw[this]
  have h1:x[i]=a:=by rw[cQ hi] at ha; simpa using ha
  simp[h1]
 ·try dsimp only
  unfold jo;rw[Ü];simp
section
variable {L:List Lk} {N:Nat} {M:Int}
def XQ (hL:iS L N M) (hN:N≤200) (ho:ħ L N=true):∀a∈į L N,-2305843009213693952≤a∧a≤0:=by
 obtain⟨p,hp⟩:=(Ļ hL hN).1 ho;have hd:=AZ hL hN hp;intro a ha;obtain⟨i,hi,rfl⟩:=dj.1 ha
 have hlen:(į L N).length=N:=by unfold į; rw[ĸ,ÿ]
 have h0:gv (į L N) i=(į L N)[i]:=by unfold gv; simp[hi]
 have hle:=FD hL.inr N (ÿ (akx N) N) (i:Int) (by omega);rw[jc _ (by omega) (by omega),if_pos (by simp[akx]; omega)] at hle;have hle':gv (į L N) i≤0:=hle;obtain⟨vs,hw⟩:=hd.att i (by omega) (by omega) (by unfold Ģ; omega);have h1:=hw.low' hp;have h3:=Yk (L:=L) (fun l hl=>(hL.most l hl).1) hL.m0;have h4:(L.length:Int)*M≤400*4503599627370496:=Int.mul_le_mul (by have:=hL.len; omega) hL.m1 hL.m0 (by omega);omega
def solP (L:List Lk) (N:Nat):List Int:=(į L N).map fun a=>a-gv (į L N) 0
def DR (hL:iS L N M) (h1:1≤N) (hN:N≤200):kX ((N:Int),L) []=some (if ħ L N then(solP L N,true) else([],false)):=by
 unfold kX zK
 try dsimp only
 rw[IK (by omega),IK (by omega),IK (by omega),dn];refine eG (ah6 hL _) ?_;refine eG (afs hL h1 hN _ (rT:=some (solP L N,true)) (rF:=some ([],false)) (fun ho w t q=>?_) (fun x w t q=>?_)) ?_
 ·try dsimp only
  have hlen:(į L N).length=N:=by unfold į; rw[ĸ,ÿ]
  have hb:=XQ hL hN ho;have h0:ilt (0:Int) (Ĕ (į L N))=true:=decide_eq_true (show(0:Int)<((į L N).length:Int) by omega);have hg:(į L N)[0]?=some (gv (į L N) 0):=Xh (v:=0) (show 0<_ by omega);have hm:=hb _ (cZ hg);rw[show(!true)=false from rfl,å,Ĭ h0,oK hg];exact shift_ok _ (by omega) ⟨hm.1,by omega⟩ (fun a ha=>⟨(hb a ha).1,by have:=(hb a ha).2; omega⟩) _
 ·rfl
 ·cases ħ L N<;>rfl
structure Ħ (L:List Lk) (N:Nat):Prop where
 n1:1≤N
 n60:N≤60
 len:L.length≤300
 inr:InR L N
 noloop:∀l∈L,l.1≠l.2.1
 most:∀l∈L,-4503599627370496≤l.2.2∧l.2.2≤4503599627370496
def Ħ.links (h:Ħ L N):iS L N 4503599627370496 :=
 ⟨h.inr,h.noloop,h.most,by have:=h.len; omega,by have:=h.n60; omega,by omega,by omega⟩
def Ħ.sub {L':List Lk} (h:Ħ L N) (hs:∀l∈L',l∈L) (hl:L'.length≤L.length):Ħ L' N :=
 ⟨h.n1,h.n60,by have:=h.len; omega,fun l hm=>h.inr l (hs l hm),fun l hm=>h.noloop l (hs l hm),fun l hm=>h.most l (hs l hm)⟩
def PP (n:Int) (L:List Lk) (v:Int):sF (n,L) v=some (decide (0≤v)&&decide (v<n)):=by
 unfold sF Zy ige
 by_cases h:0≤v
 ·have:decide (v≥0)=true:=by simpa using h
  rw[Ô this]; simp[h]
 ·have:decide (v≥0)=false:=by simpa using h
  rw[Ò this]; simp[h]
def l6 (h:Ħ L N):nW ((N:Int),L)=some (0,-1):=by
 have h1:=h.n1;have h2:=h.n60;have h3:=h.len;unfold nW RF
 try dsimp only
 rw[Ò (by simp[ilt]; omega),Ò (by simp[igt]; omega),Ò (by rw[á]; simp[igt]; omega)];refine eG (Υ L (fun _=>false) (fun i=>some (1,i)) (some (0,-1)) (fun i l hi hl kn=>?_) (fun kn=>?_)) ?_
 ·try dsimp only
  unfold sa;have hm:=List.mem_of_getElem? hl;have a:=h.inr l hm;have b:=h.noloop l hm;have c:=h.most l hm
  have e1:(decide (0≤l.1)&&decide (l.1<(N:Int)))=true:=by simp[a.1.1,a.1.2]
  have e2:(decide (0≤l.2.1)&&decide (l.2.1<(N:Int)))=true:=by simp[a.2.1,a.2.2]
  rw[Ó hi,É hl,PP,À,e1,PP,À,e2];simp only[d9,å,dm,if_false];rw[Ò (by simp[ieq,b]),Ò (by simp[ilt]; omega),Ò (by simp[igt]; omega),Ì hi (by omega)]
 ·try dsimp only
  unfold sa;rw[Ü]
 ·rw[dT.2 (by simp)]
def Aq {ρ:Type} {x:List Int} {v:Int} (h0:0≤v) (h:v.toNat<x.length) (f:Int→Option ρ):õ x v f=f (gv x v):=by
 obtain⟨i,rfl⟩:=gJ h0;exact É (Xh h) f
end
section
variable {b:Þ}
def tq (b:Þ) (g:é):(à b g).Pairwise (·<·):=vw _
def Tk (h:Č b) {g:é} (hg:g∈b.2.1):∃t,à b g=g.2.1::t:=by
 have h1:=tq b g;have h2:=kw (b:=b) g;have h3:∀d∈à b g,g.2.1≤d:=fun d hd=>(h.day hg hd).1
 cases hd:à b g with
 |nil=>rw[hd] at h2; cases h2
 |cons a t =>
  rw[hd] at h1 h2 h3;rw[dP] at h1;rcases df.1 h2 with e|e
  ·exact⟨t,by rw[e]⟩
  ·have:=h1.1 _ e;have:=h3 a (by simp);omega
def off (b:Þ) (i:Nat):Nat:=((b.2.1.take i).flatMap fun g=>(à b g).map fun d=>((g.1,d):Int×Int)).length
def D8 {i:Nat} {g:é} (hg:b.2.1[i]?=some g):Í b=((b.2.1.take i).flatMap fun g=>(à b g).map fun d=>((g.1,d):Int×Int))++(((à b g).map fun d=>((g.1,d):Int×Int))++((b.2.1.drop (i+1)).flatMap fun g=>(à b g).map fun d=>((g.1,d):Int×Int))):=by
 obtain⟨hi,rfl⟩:=cY.1 hg
 have h1:b.2.1=b.2.1.take i++(b.2.1[i]::b.2.1.drop (i+1)):=by
  rw[←fD hi,List.take_append_drop]
 unfold Í
 conv=>lhs; rw[h1]
 rw[eW,dK]
def Yi (h:Č b) {i:Nat} {g:é} (hg:b.2.1[i]?=some g) {k:Nat} {d:Int} (hk:(à b g)[k]?=some d):iD (Í b) g.1 d=some (off b i+k):=by
 obtain⟨hi,hgi⟩:=List.getElem?_eq_some_iff.1 hg;obtain⟨hkl,hkd⟩:=List.getElem?_eq_some_iff.1 hk;unfold iD;rw[D8 hg,List.findIdx?_append,List.findIdx?_append]
 have h1:List.findIdx? (fun n:Int×Int=>decide (g.1=n.1)&&decide (d=n.2)) ((b.2.1.take i).flatMap fun g=>(à b g).map fun d=>((g.1,d):Int×Int))=none:=by
  rw[dT];intro x hx;obtain⟨g',hg',hx⟩:=dv.1 hx;obtain⟨d',_,rfl⟩:=dM.1 hx;obtain⟨j,hj,rfl⟩:=dj.1 hg';rw[di] at hj;rw[fh];have:=(dG.1 h.ids) j i (by omega) hi (by omega);rw[hgi] at this;simp only[gi,decide_eq_false_iff_not];exact .inl (by omega)
 have h2:List.findIdx? (fun n:Int×Int=>decide (g.1=n.1)&&decide (d=n.2)) ((à b g).map fun d=>((g.1,d):Int×Int))=some k:=by
  rw[dN];refine⟨by simpa using hkl,by simp[hkd],fun j hj=>?_⟩;have:=(dG.1 (tq b g)) j k (by omega) hkl hj;rw[hkd] at this;simp only[List.getElem_map,cW,decide_eq_true_eq,not_and];intro _;omega
 rw[h1,h2];simp only[Option.map_some,Option.some_or,Option.none_or];unfold off;congr 1;omega
def OT {i:Nat} {g:é} (hg:b.2.1[i]?=some g) {k:Nat} {d:Int} (hk:(à b g)[k]?=some d):(Í b)[off b i+k]?=some (g.1,d):=by
 obtain⟨hkl,hkd⟩:=List.getElem?_eq_some_iff.1 hk;rw[D8 hg,List.getElem?_append_right (by unfold off; omega),List.getElem?_append_left (by unfold off; simp; omega)];unfold off;simp[hk]
def aiL (h:Č b) {i:Nat} {g:é} (hg:b.2.1[i]?=some g):atP (Í b) [g.1] g.2.1=(off b i:Int)+1:=by
 obtain⟨t,ht⟩:=Tk h (List.mem_of_getElem? hg);have:=Yi h hg (k:=0) (d:=g.2.1) (by rw[ht]; rfl);unfold atP;simp only[this];rfl
def alk (h:Č b) {i:Nat} {g:é} (hg:b.2.1[i]?=some g):off b i+(à b g).length≤(Í b).length:=by
 rw[D8 hg];unfold off;simp only[List.length_append,List.length_map];omega
def aoz {i:Nat} {g:é} (hg:b.2.1[i]?=some g):off b (i+1)=off b i+(à b g).length:=by
 unfold off;rw[take_succ hg,List.flatMap_append];simp
def acs (h:Č b) {c:Cmp} (hc:c∈b.2.2.2.2.1) {x:Int} (hx:(x∈c.2.2.1∧x∉c.2.2.2.1)∨(x∈c.2.2.2.1∧x∉c.2.2.1)):∃j,iD (Í b) x c.2.1=some j:=by
 have hm:x∈c.2.2.1++c.2.2.2.1:=by rw[dc]; exact hx.imp (·.1) (·.1)
 obtain⟨⟨g,hg,_⟩,_⟩:=h.pile hc hm;obtain⟨hgm,hgx⟩:=Φ hg;obtain⟨i,hi,hgi⟩:=dj.1 hgm
 have hd:c.2.1∈à b g:=Ω.2 (.inr (.inl ⟨c,hc,by
  rw[hgx];rcases hx with⟨h1,h2⟩|⟨h1,h2⟩
  ·have e1:c.2.2.1.contains x=true:=by simpa using h1
   have e2:c.2.2.2.1.contains x=false:=by simpa using h2
   rw[e1,e2]; simp
  ·have e1:c.2.2.2.1.contains x=true:=by simpa using h1
   have e2:c.2.2.1.contains x=false:=by simpa using h2
   rw[e1,e2]; simp,rfl⟩))
 obtain⟨k,hk,hkd⟩:=dj.1 hd;have:=Yi h (g:=g) (i:=i) (by rw[cQ hi,hgi]) (k:=k) (d:=c.2.1) (by rw[cQ hk,hkd]);rw[hgx] at this;exact⟨_,this⟩
inductive akr (b:Þ) (p:List Int) (d:Int) (n:Int):Prop
 |none:p=[]→n=0→akr b p d n
 |one (x:Int) (j:Nat):p=[x]→iD (Í b) x d=some j→n=(j:Int)+1→akr b p d n
def aaE (h:Č b) {c:Cmp} (hc:c∈b.2.2.2.2.1):akr b (è c.2.2.1 c.2.2.2.1) c.2.1 (cx b c):=by
 have hl:=(h.lefts hc).1
 cases hp:è c.2.2.1 c.2.2.2.1 with
 |nil=>exact .none rfl (by unfold cx atP; rw[hp])
 |cons x t =>
  rw[hp] at hl
  have:t=[]:=by cases t with|nil=>rfl|cons=>simp at hl
  subst this;obtain⟨j,hj⟩:=acs h hc (x:=x) (.inl (iY.1 (by rw[hp]; simp)));exact .one x j rfl hj (by unfold cx atP; rw[hp]; simp only[hj])
def Tl (h:Č b) {c:Cmp} (hc:c∈b.2.2.2.2.1):akr b (è c.2.2.2.1 c.2.2.1) c.2.1 (cy b c):=by
 have hl:=(h.lefts hc).2.1
 cases hp:è c.2.2.2.1 c.2.2.1 with
 |nil=>exact .none rfl (by unfold cy atP; rw[hp])
 |cons x t =>
  rw[hp] at hl
  have:t=[]:=by cases t with|nil=>rfl|cons=>simp at hl
  subst this;obtain⟨j,hj⟩:=acs h hc (x:=x) (.inr (iY.1 (by rw[hp]; simp)));exact .one x j rfl hj (by unfold cy atP; rw[hp]; simp only[hj])
def akr.rng {p:List Int} {d n:Int} (h:akr b p d n):0≤n∧n<((Í b).length+1:Nat):=by
 rcases h with⟨_,h⟩|⟨x,j,_,h1,h2⟩
 ·omega
 ·have:=(kQ h1).1;omega
def apc (h:Č b) {c:Cmp} (hc:c∈b.2.2.2.2.1):cx b c≠cy b c:=by
 have hl:=(h.lefts hc).2.2;rcases aaE h hc with⟨h1,h2⟩|⟨x,j,h1,h2,h3⟩
 ·rcases Tl h hc with⟨g1,g2⟩|⟨y,k,g1,g2,g3⟩
  ·rw[h1,g1] at hl; simp at hl
  ·omega
 ·rcases Tl h hc with⟨g1,g2⟩|⟨y,k,g1,g2,g3⟩
  ·omega
  ·intro e
   have:j=k:=by omega
   subst this;have e1:=(kQ h2).2;have e2:=(kQ g2).2;rw[e1] at e2;simp only[Option.some.injEq,Prod.mk.injEq] at e2
   have m1:x∈è c.2.2.1 c.2.2.2.1:=by rw[h1]; simp
   have m2:y∈è c.2.2.2.1 c.2.2.1:=by rw[g1]; simp
   rw[e2.1] at m1;exact(iY.1 m1).2 (iY.1 m2).1
def SD (h:Č b):(Û b).length=2*(Í b).length+2*b.2.2.2.2.1.length:=by
 have h1:∀l:List é,(∀g∈l,g∈b.2.1)→(l.flatMap (ä b)).length=2*(l.flatMap fun g=>(à b g).map fun d=>((g.1,d):Int×Int)).length:=by
  intro l
  induction l with
  |nil=>intro _; rfl
  |cons g t ih =>
   intro hm;have:=ih fun g hg=>hm g (by simp[hg]);have hp:=List.length_pos_of_mem (kw (b:=b) g);simp only[List.flatMap_cons,List.length_append,List.length_map,this];unfold ä;rw[List.length_append,œ _ _ (fun _=>rfl)];simp only[List.length_cons,List.length_nil];omega
 have h2:∀l:List Cmp,(l.flatMap (û b)).length=2*l.length:=by
  intro l
  induction l with
  |nil=>rfl
  |cons c t ih =>
   simp only[dK,cX,ih,û,dg,dw];omega
 unfold Û;rw[List.length_append,h1 _ fun _ h=>h,h2];rfl
def Ń (h:Č b) {i:Nat} {g:é} (hg:b.2.1[i]?=some g) {l:Lk}:l∈ä b g ↔
 l=(0,(off b i:Int)+1,g.2.2.1+g.2.2.2.1.2)∨l=((off b i:Int)+1,0,-(g.2.2.1+g.2.2.2.1.1)) ∨
 ∃(k:Nat) (d e:Int),(à b g)[k]?=some d∧(à b g)[k+1]?=some e∧(l=((off b i:Int)+k+1,(off b i:Int)+k+2,0)∨l=((off b i:Int)+k+2,(off b i:Int)+k+1,ip b g d e)):=by
 unfold ä;rw[aiL h hg];simp only[List.mem_append,List.mem_cons,List.not_mem_nil,or_false,List.mem_flatMap,List.mem_range];constructor
 ·rintro((h1|h1)|⟨k,hk,h1⟩)
  ·exact .inl h1
  ·exact .inr (.inl h1)
  ·refine .inr (.inr ⟨k,(à b g)[k],(à b g)[k+1],cQ (by omega),cQ (by omega),?_⟩);rw[cQ (show k<(à b g).length by omega),cQ (show k+1<(à b g).length by omega)] at h1;simp only[fu] at h1
   have e1:(off b i:Int)+1+k=(off b i:Int)+k+1:=by omega
   have e2:(off b i:Int)+k+1+1=(off b i:Int)+k+2:=by omega
   rw[e1,e2] at h1;exact h1
 ·rintro(h1|h1|⟨k,d,e,hd,he,h1⟩)
  ·exact .inl (.inl h1)
  ·exact .inl (.inr h1)
  ·obtain⟨h2,rfl⟩:=cY.1 hd;obtain⟨h3,rfl⟩:=cY.1 he;refine .inr ⟨k,by omega,?_⟩;rw[hd,he];simp only[fu]
   have e1:(off b i:Int)+1+k=(off b i:Int)+k+1:=by omega
   have e2:(off b i:Int)+k+1+1=(off b i:Int)+k+2:=by omega
   rw[e1,e2];exact h1
def pv {l:Lk}:l∈Û b↔(∃(i:Nat) (g:é),b.2.1[i]?=some g∧l∈ä b g)∨∃c∈b.2.2.2.2.1,l=(cy b c,cx b c,(Ŵ b c).2)∨l=(cx b c,cy b c,-(Ŵ b c).1):=by
 unfold Û;simp only[List.mem_append,List.mem_flatMap,û,List.mem_cons,List.not_mem_nil,or_false];constructor
 ·rintro(⟨g,hg,h⟩|h)
  ·obtain⟨i,hi,rfl⟩:=dj.1 hg;exact .inl ⟨i,_,cQ hi,h⟩
  ·exact .inr h
 ·rintro(⟨i,g,hg,h⟩|h)
  ·exact .inl ⟨g,cZ hg,h⟩
  ·exact .inr h
def Č.sys (h:Č b):Ħ (Û b) ((Í b).length+1):=by
 have hN:=h.nodes;have hL:=h.links
 have key:∀l∈Û b,((0≤l.1∧l.1<((Í b).length+1:Nat))∧(0≤l.2.1∧l.2.1<((Í b).length+1:Nat)))∧l.1≠l.2.1∧(-4503599627370496≤l.2.2∧l.2.2≤4503599627370496):=by
  intro l hl;rcases pv.1 hl with⟨i,g,hg,hl⟩|⟨c,hc,hl⟩
  ·have hgm:=cZ hg;have hr:=h.gaugeR hgm;have ho:=alk h hg;have hp:=gd (kw (b:=b) g);have r1:=hr.2.2.2.2.2.1;have r2:=hr.2.2.2.2.2.2.1;rcases(Ń h hg).1 hl with rfl|rfl|⟨k,d,e,hd,he,h1⟩
   ·dsimp only; omega
   ·dsimp only; omega
   ·obtain⟨h2,_⟩:=cY.1 he;have d1:=h.day hgm (cZ hd);have lb:=kM h hgm (t:=e) d1.2.1;rcases h1 with rfl|rfl
    ·dsimp only; omega
    ·dsimp only; omega
  ·have a:=(aaE h hc).rng;have b':=(Tl h hc).rng;have ne:=apc h hc;have sb:=DU h hc;rcases hl with rfl|rfl
   ·dsimp only; omega
   ·dsimp only; omega
 exact⟨by omega,by omega,by rw[SD h]; omega,fun l hl=>(key l hl).1,fun l hl=>(key l hl).2.1,fun l hl=>(key l hl).2.2⟩
end
def anh {ρ:Type}:@wq ρ=@il ρ:=rfl
def ang {ρ:Type}:@wp ρ=@ś ρ:=rfl
def anf {ρ:Type}:@wo ρ=@Ĵ ρ:=rfl
def aeb {ρ:Type} {N:Nat} (hN:N≤1000) (x:Option ρ):í ((ile (0:Int) (N:Int))&&(ë N)) x=x:=by
 have:=IK hN x
 rwa [dn] at this
section
variable {L:List Lk} {N:Nat} {M:Int}
def akP {s:Int} (hs:0≤s∧s<N):(List.replicate N Ģ).set s.toNat 0=vu (ali s) N:=by
 refine aid (by simp[ÿ]) fun v h0 h1=>?_
 have hv:v<N:=by simpa using h1
 rw[jc _ h0 hv,sv hs.1 h0 (by simp; omega)];unfold ali
 by_cases h:v=s
 ·simp[h]
 ·simp only[h,if_false,beq_iff_eq];unfold gv;rw[List.getElem?_replicate]
  have:v.toNat<N:=by omega
  simp[this]
def ane (hL:iS L N M) (h1:1≤N) (hN:N≤200) (ho:ħ L N=true) {s:Int} (hs:0≤s∧s<N):By ((N:Int),L) [] s=some (ow L N s):=by
 obtain⟨p,hp⟩:=(Ļ hL hN).1 ho;unfold By KT;rw[anh,ang,anf];dsimp only;rw[IK (by omega),Int.toNat_natCast];refine ò (List.replicate N (0:Int)) (fun i=>List.replicate i Ģ++List.replicate (N-i) 0) _ (by simp) (fun i a hi ha kn=>?_) (fun kn=>?_)
 ·dsimp only;unfold oX
  have hiN:i<N:=by simpa using hi
  have hl:i<(List.replicate i Ģ++List.replicate (N-i) (0:Int)).length:=by simp; omega
  rw[Ó hi,iu hl,ĭ (cQ hl),Ì hiN (by omega),dn];congr 2;rw[List.set_append_right _ _ (by simp)]
  have:N-i=(N-(i+1))+1:=by omega
  rw[this,fR,Nat.sub_self,List.replicate_succ,List.set_cons_zero,List.replicate_succ'];simp
 ·try dsimp only
  unfold oX;rw[Ü];dsimp only
  have e0:List.replicate (List.replicate N (0:Int)).length Ģ++List.replicate (N-(List.replicate N (0:Int)).length) 0=List.replicate N Ģ:=by simp
  rw[e0]
  have hlen:s.toNat<(List.replicate N Ģ).length:=by simp; omega
  rw[show Ĕ (List.replicate N Ģ)=((N:Nat):Int) by simp[Ĕ],ĵ hs.1 hs.2,kD hlen,aeb (by omega),aeb (by omega),akP hs];refine eG (ah6 hL _) ?_
  have hS:∀v,ali s v=true→0≤v∧v<N:=fun v h=>by simp[ali] at h; subst h; exact hs
  refine akQ (ÿ _ _) (by omega) _ fun w q hw hq hr hwq hqs=>?_;have hs0:=V4 hL h1 hS hw hq hr hwq hqs;refine abw hL (aoD hL hN) hp hS _ (fun x w t q hx hd=>?_) hs0
  have:x=ow L N s:=by
   refine aid (by rw[hx]; unfold ow; rw[ĸ,ÿ]) fun v a b=>?_;exact hd.uniq (χ hL hN hp hs) a (by omega)
  dsimp only;rw[this]
def g9 (L:List Lk) (N:Nat) (s t:Int):Int×Int :=
 if !ħ L N then(0,9) else if gv (ow L N s) t=Ģ then(0,5) else(gv (ow L N s) t,0)
def apI (h:Ħ L N) {ns:List Int} (hn:∀n∈ns,0≤n∧n<N) (hl:ns.length≤1000):Ja ((N:Int),L) ns=some (if ħ L N then 0 else 9):=by
 have h2:=h.n60;unfold Ja Rx;rw[l6 h,À];dsimp only;rw[Ò (by rfl)];refine Eq.trans (Υ ns (fun _=>false) (fun _=>some 1) (some (if ħ L N then 0 else 9)) (fun i n hi hm kn=>?_) (fun kn=>?_)) ?_
 ·try dsimp only
  unfold rY;have a:=hn n (List.mem_of_getElem? hm)
  have e:(decide (0≤n)&&decide (n<(N:Int)))=true:=by simp[a.1,a.2]
  rw[Ó hi,É hm,PP,À,e,Ì hi (by omega)];simp
 ·try dsimp only
  unfold rY;rw[Ü,DR h.links h.n1 (by omega),À]
  cases ħ L N<;>rfl
 ·rw[dT.2 (by simp)]
def Ph (h:Ħ L N) {s t:Int} (hs:0≤s∧s<N) (ht:0≤t∧t<N):qC ((N:Int),L) s t=some (g9 L N s t):=by
 have h2:=h.n60;unfold qC RL g9
 rw[apI h (fun n hn=>by simp at hn; rcases hn with rfl|rfl<;>assumption) (by simp),À]
 by_cases ho:ħ L N=true
 ·rw[if_pos ho,Ò (by rfl),ane h.links h.n1 (by omega) ho hs,À,Aq ht.1 (by unfold ow; rw[ĸ,ÿ]; omega),Ė,if_neg (show ¬(!ħ L N)=true by simp[ho])]
  by_cases hf:gv (ow L N s) t=Ģ
  ·rw[if_pos (by simpa[ieq] using hf),if_pos hf]
  ·rw[if_neg (by simpa[ieq] using hf),if_neg hf]
 ·rw[if_neg ho,Ô (by rfl),if_pos (show(!ħ L N)=true by simpa using ho)]
end
def î (b:Þ) (c:Cmp):Þ:=(b.1,b.2.1,b.2.2.1,b.2.2.2.1,b.2.2.2.2.1++[c],b.2.2.2.2.2)
def i6:Þ:=((0,0),[],[],[],[],[])
def AR (b:Þ) (c:Cmp):Þ×Int:=if ê b≠0 then(i6,ê b) else if ê (î b c)≠0 then(i6,ê (î b c)) else(î b c,0)
def alx {b:Þ} (h:Č b) {c:Cmp} (hA:c.2.2.1.length≤1000) (hB:c.2.2.2.1.length≤1000):ō (î b c):=by
 have hs:=h.size;have:=h.nC;refine⟨hs.gauges,hs.uses,hs.loans,by simp[î]; omega,hs.looks,fun d hd=>?_⟩;rcases dc.1 (show d∈b.2.2.2.2.1++[c] from hd) with hd|hd
 ·exact hs.piles d hd
 ·simp at hd; subst hd; exact⟨hA,hB⟩
def anr {b:Þ} (hs:ō b) (hr:∀g∈b.2.1,I64 g.2.2.2.2.1.1) {c:Cmp} (hA:c.2.2.1.length≤1000) (hB:c.2.2.2.1.length≤1000):ph b c=some (AR b c):=by
 unfold ph Z6 AR;have h1:=hs.gauges; have h2:=hs.uses; have h3:=hs.loans; have h4:=hs.compares; have h5:=hs.looks;rw[Ø (by omega),Am.iff_true,Ø (by omega),Am.iff_true,ji hs hr,À]
 by_cases hc:ê b=0
 ·have h:=(ì b).1 hc;rw[Ò (by simp[ine,hc]),Ø (by omega),Am.iff_true,Ø (by omega),Am.iff_true,Ø (by omega),Am.iff_true,Ø (by omega),Am.iff_true,Ø (by omega),Am.iff_true,if_neg (show ¬(ê b≠0) from fun h=>h hc)];refine ò b.2.2.2.2.1 (fun _=>b.2.2.2.2.1) _ rfl (fun i d hi hd kn=>?_) (fun kn=>?_)
  ·dsimp only;unfold wJ;obtain⟨p1,p2⟩:=hs.piles d (List.mem_of_getElem? hd)
   have e1:b.2.2.2.2.1.set i d=b.2.2.2.2.1:=by
    obtain⟨h,rfl⟩:=cY.1 hd;exact List.set_getElem_self h
   rw[Ó hi,iu hi,ĭ hd,Ø (by omega),Am.iff_true,Ø (by omega),Am.iff_true,iu hi,ĭ hd,dn];rw[show(d.1,d.2.1,d.2.2.1,d.2.2.2)=d from rfl,e1,iu hi,oK hd,Ì hi (by omega)];rw[show(d.1,d.2.1,d.2.2.1,d.2.2.2.1,d.2.2.2.2)=d from rfl,e1]
  ·try dsimp only
   unfold wJ;rw[Ü];dsimp only;rw[Ø (by simp only[List.length_singleton]; omega),Am.iff_true];rw[show Ā (b.1,b.2.1,b.2.2.1,b.2.2.2.1,b.2.2.2.2.1++[c],b.2.2.2.2.2)=Ā (î b c) from rfl,ji (alx h hA hB) hr,À]
   by_cases hc2:ê (î b c)=0
   ·rw[Ò (by simp[ine,hc2]),if_neg (show ¬(ê (î b c)≠0) from fun h=>h hc2)];rfl
   ·rw[Ô (by simp[ine,hc2]),if_pos hc2];rfl
 ·rw[Ô (by simp[ine,hc]),if_pos hc];rfl
def Ë (c:Cmp):Cmp:=(c.1,c.2.1,c.2.2.1,c.2.2.2.1,0,c.2.2.2.2.2)
def agr (b:Þ) (c:Cmp):Int:=LF (Ķ b c).1+(iZ b c).1-c.2.2.2.2.2.1
def E7 (b:Þ) (c:Cmp):Int:=(Ķ b c).2.1 / (Ķ b c).2.2+(iZ b c).2+c.2.2.2.2.2.1
def Pv (b:Þ) (c:Cmp) (s:Int×Int):(Int×Int)×Int:=if E7 b c<agr b c then((0,0),5) else((s.1+agr b c,s.2+E7 b c),0)
structure aha (b:Þ) (c:Cmp):Prop where
 nums:Nv c=true
 r1:qM (yk (Ů b) (è c.2.2.1 c.2.2.2.1)) 1000 100
 r2:qM (yk (Ů b) (è c.2.2.2.1 c.2.2.1)) 1000 100
def Č.cmp {b:Þ} (h:Č b) {c:Cmp} (hc:c∈b.2.2.2.2.1):aha b c:=⟨h.nums hc,(h.rates hc).1,(h.rates hc).2⟩
def yh {b:Þ} (hf:0≤b.1.1∧b.1.1≤b.1.2∧b.1.2≤1000000) {c:Cmp} (h:aha b c):qM (Ķ b c).1 2000000000 10000∧qM (Ķ b c).2 2000000000 10000∧(-3000000000≤LF (Ķ b c).1+(iZ b c).1∧LF (Ķ b c).1+(iZ b c).1≤3000000000) ∧
 (-3000000000≤(Ķ b c).2.1 / (Ķ b c).2.2+(iZ b c).2∧(Ķ b c).2.1 / (Ķ b c).2.2+(iZ b c).2≤3000000000)∧(0≤c.2.2.2.2.2.1∧c.2.2.2.2.2.1≤1073741824):=by
 have hn:=(Ο c).1 h.nums;have ha:=ĺ hn.2.2.2.2.2.1;have hb:=ĺ hn.2.2.2.2.2.2;obtain⟨g1,g2⟩:=Yc (Pn h.r1 h.r2) hn.2.2.2.2.1;have fb:=wT (b:=b) (c:=c) (by omega) (by omega) (by omega) (by omega) (by omega) (by omega);have q1:qM (Ķ b c).1 2000000000 10000:=g1;have q2:qM (Ķ b c).2 2000000000 10000:=g2;have c1:=BH q1;have c2:=wR q2;exact⟨q1,q2,by omega,by omega,hn.2.2.2.1⟩
def aon {b:Þ} (hs:ō b) (hf:0≤b.1.1∧b.1.1≤b.1.2∧b.1.2≤1000000) {c:Cmp} (h:aha b c) {s:Int×Int} (h1 : -2305843009213693952≤s.1∧s.1≤2305843009213693952) (h2 : -2305843009213693952≤s.2∧s.2≤2305843009213693952):vg b c s=some (Pv b c s):=by
 have hn:=(Ο c).1 h.nums;have ha:=ĺ hn.2.2.2.2.2.1;have hb:=ĺ hn.2.2.2.2.2.2;obtain⟨q1,q2,b1,b2,b3⟩:=yh hf h;unfold vg Sf Pv agr E7;rw[aee hs (by omega) (by omega) h.r1 h.r2 hn.2.2.2.2.1,À,aij (by omega) (by omega) (by omega) (by omega) (by omega) (by omega),À,anU q1.rat,À,aiX q2.rat,À];dsimp only;rw[Õ (by omega) (by omega),Õ (by omega) (by omega),Õ (by omega) (by omega),Õ (by omega) (by omega),Ė]
 by_cases hlt:(Ķ b c).2.1 / (Ķ b c).2.2+(iZ b c).2+c.2.2.2.2.2.1<LF (Ķ b c).1+(iZ b c).1-c.2.2.2.2.2.1
 ·rw[if_pos (by simpa[igt] using hlt),if_pos hlt]
 ·rw[if_neg (by simpa[igt] using hlt),if_neg hlt,Õ (by omega) (by omega),Õ (by omega) (by omega)]
def ú (b:Þ):List Lk:=(Û b).take ((Û b).length-2)
def Ł (b:Þ) (c:Cmp):(Int×Int)×Int :=
 if (AR b (Ë c)).2≠0 then((0,0),(AR b (Ë c)).2) else
 if (g9 (ú (î b (Ë c))) ((Í (î b (Ë c))).length+1) (cy (î b (Ë c)) (Ë c)) (cx (î b (Ë c)) (Ë c))).2≠0 then
  ((0,0),(g9 (ú (î b (Ë c))) ((Í (î b (Ë c))).length+1) (cy (î b (Ë c)) (Ë c)) (cx (î b (Ë c)) (Ë c))).2) else
 if (g9 (ú (î b (Ë c))) ((Í (î b (Ë c))).length+1) (cx (î b (Ë c)) (Ë c)) (cy (î b (Ë c)) (Ë c))).2≠0 then
  ((0,0),(g9 (ú (î b (Ë c))) ((Í (î b (Ë c))).length+1) (cx (î b (Ë c)) (Ë c)) (cy (î b (Ë c)) (Ë c))).2) else
 Pv b (Ë c) (-(g9 (ú (î b (Ë c))) ((Í (î b (Ë c))).length+1) (cx (î b (Ë c)) (Ë c)) (cy (î b (Ë c)) (Ë c))).1,
  (g9 (ú (î b (Ë c))) ((Í (î b (Ë c))).length+1) (cy (î b (Ë c)) (Ë c)) (cx (î b (Ë c)) (Ë c))).1)
def ae5 {L:List Lk} {N:Nat} (h:Ħ L N) {s t:Int} (hs:0≤s∧s<N) (ht:0≤t∧t<N) : -2305843009213693952≤(g9 L N s t).1∧(g9 L N s t).1≤2305843009213693952:=by
 unfold g9;have h2:=h.n60
 split
 ·simp
 ·rename_i ho
  have ho':ħ L N=true:=by simpa using ho
  obtain⟨p,hp⟩:=(Ļ h.links (by omega)).1 ho';have hd:=χ h.links (by omega) hp hs
  split
  ·simp
  ·rename_i hne;dsimp only;have hb:=hd.bd t ht.1 ht.2;obtain⟨vs,hw⟩:=hd.att t ht.1 ht.2 hne;have h3:=hw.low' hp;have h4:=Yk (L:=L) (fun l hl=>(h.most l hl).1) (M:=4503599627370496) (by omega);have h5:=h.len;unfold Ģ at hb
   constructor<;>omega
def akp {b:Þ} (hs:ō b) (hr:∀g∈b.2.1,I64 g.2.2.2.2.1.1) {c:Cmp} (hA:c.2.2.1.length≤1000) (hB:c.2.2.2.1.length≤1000):w9 b c=some (Ł b c):=by
 unfold w9 EZ Ł;rw[show ph b (c.1,c.2.1,c.2.2.1,c.2.2.2.1,0,c.2.2.2.2.2)=ph b (Ë c) from rfl,anr hs hr (c:=Ë c) hA hB,À]
 by_cases hw:(AR b (Ë c)).2=0
 ·rw[Ò (by simp[ine,hw]),if_neg (show ¬((AR b (Ë c)).2≠0) from fun h=>h hw)]
  -- the book is valid, and so is the greater one
  have hb:ê b=0:=by
   unfold AR at hw
   split at hw
   ·rename_i h; exact(h hw).elim
   ·rename_i h; simpa using h
  have hm:ê (î b (Ë c))=0:=by
   unfold AR at hw;rw[if_neg (by simp[hb])] at hw
   split at hw
   ·rename_i h; exact(h hw).elim
   ·rename_i h; simpa using h
  have he:AR b (Ë c)=(î b (Ë c),0):=by
   unfold AR;rw[if_neg (by simp[hb]),if_neg (by simp[hm])]
  have g:=(ì b).1 hb;have gm:=(ì _).1 hm
  have hmem:Ë c∈(î b (Ë c)).2.2.2.2.1:=by simp[î]
  have hN:=gm.nodes;have hll:=SD gm
  have hcl:(î b (Ë c)).2.2.2.2.1.length=b.2.2.2.2.1.length+1:=by simp[î]
  have hlk:=gm.links;have hsys:Ħ (ú (î b (Ë c))) ((Í (î b (Ë c))).length+1):=gm.sys.sub (fun l hl=>List.mem_of_mem_take hl) (by unfold ú; rw[List.length_take]; omega);have hx:=(aaE gm hmem).rng;have hy:=(Tl gm hmem).rng;have lA:c.2.2.1.length≤1000:=hA;rw[he];dsimp only;rw[ah0 gm,À];dsimp only;rw[á,Õ (by omega) (by omega)]
  have e1:((ile (0:Int) (((Û (î b (Ë c))).length:Int)-2))&&(ile (((Û (î b (Ë c))).length:Int)-2) (Ĕ (Û (î b (Ë c))))))=true:=by
   simp[ile,Ĕ]; omega
  have e2:(((Û (î b (Ë c))).length:Int)-2).toNat=(Û (î b (Ë c))).length-2:=by omega
  rw[Ĭ e1,tg (by omega) (by omega),À,ank _ _ _ (by dsimp only; omega),À,tg (by omega) (by omega),À,ank _ _ _ (by dsimp only; omega),À,e2]
  have e3:(((Í (î b (Ë c))).length:Int)+1)=(((Í (î b (Ë c))).length+1:Nat):Int):=by push_cast; rfl
  rw[e3];rw[show List.take ((Û (î b (Ë c))).length-2) (Û (î b (Ë c)))=ú (î b (Ë c)) from rfl];dsimp only;rw[show atP (Í (î b (Ë c))) (è c.2.2.1 c.2.2.2.1) c.2.1=cx (î b (Ë c)) (Ë c) from rfl,show atP (Í (î b (Ë c))) (è c.2.2.2.1 c.2.2.1) c.2.1=cy (î b (Ë c)) (Ë c) from rfl];rw[Ph hsys hy hx,À,Ph hsys hx hy];have b1:=ae5 hsys hy hx;have b2:=ae5 hsys hx hy;generalize hB1:g9 (ú (î b (Ë c))) ((Í (î b (Ë c))).length+1) (cy (î b (Ë c)) (Ë c)) (cx (î b (Ë c)) (Ë c))=B1 at b1 ⊢;generalize hB2:g9 (ú (î b (Ë c))) ((Í (î b (Ë c))).length+1) (cx (î b (Ë c)) (Ë c)) (cy (î b (Ë c)) (Ë c))=B2 at b2 ⊢
  by_cases h1:B1.2=0
  ·rw[Ò (by simp[ine,h1]),if_neg (show ¬(B1.2≠0) from fun h=>h h1),À]
   by_cases h2:B2.2=0
   ·rw[Ò (by simp[ine,h2]),if_neg (show ¬(B2.2≠0) from fun h=>h h2),Õ (by omega) (by omega)];have hck:aha b (Ë c):=⟨(gm.cmp hmem).nums,(gm.cmp hmem).r1,(gm.cmp hmem).r2⟩;rw[show vg b (c.1,c.2.1,c.2.2.1,c.2.2.2.1,0,c.2.2.2.2.2) (0-B2.1,B1.1)=vg b (Ë c) (0-B2.1,B1.1) from rfl,aon g.size g.film hck (by dsimp only; omega) (by dsimp only; omega),À,Int.zero_sub]
   ·rw[Ô (by simp[ine,h2]),if_pos h2]
  ·rw[Ô (by simp[ine,h1]),if_pos h1]
 ·rw[Ô (by simp[ine,hw]),if_pos hw]
structure In (b:Þ):Prop where
 size:ō b
 num:∀g∈b.2.1,I64 g.2.2.2.2.1.1
def aa6 (b:Þ):Sys×List (Int×Int)×Int:=if ê b≠0 then((0,[]),[],ê b) else((((Í b).length:Int)+1,Û b),ľ b,0)
def qI {b:Þ} (h:In b):Į b=some (aa6 b):=by
 unfold Į Lc aa6;rw[ji h.size h.num,À]
 by_cases hc:ê b=0
 ·rw[Ò (by simp[ine,hc]),ah0 ((ì b).1 hc),À,if_neg (show ¬(ê b≠0) from fun h=>h hc)]
 ·rw[Ô (by simp[ine,hc]),if_pos hc]
def cmp0:Cmp:=(0,0,[],[],0,0,0,0)
def tC (b:Þ) (i:Int):Cmp×Int:=if ê b≠0 then(cmp0,ê b) else if i<0∨(b.2.2.2.2.1.length:Int)≤i then(cmp0,1) else(b.2.2.2.2.1[i.toNat]?.getD cmp0,0)
def an2 {b:Þ} (h:In b) (i:Int):Jc b i=some (tC b i):=by
 unfold Jc Sd tC;rw[ji h.size h.num,À]
 by_cases hc:ê b=0
 ·rw[Ò (by simp[ine,hc]),if_neg (show ¬(ê b≠0) from fun h=>h hc),á]
  by_cases h1:i<0
  ·rw[Ô (by simp[ilt,h1]),if_pos (.inl h1)]; rfl
  ·rw[Ò (by simp[ilt]; omega)]
   by_cases h2:(b.2.2.2.2.1.length:Int)≤i
   ·rw[Ô (by simp[ige,h2]),if_pos (.inr h2)]; rfl
   ·rw[Ò (by simp[ige]; omega),if_neg (by omega)];obtain⟨j,rfl⟩:=gJ (show 0≤i by omega)
    have hj:j<b.2.2.2.2.1.length:=by omega
    rw[É (cQ hj),dn,cQ hj];rfl
 ·rw[Ô (by simp[ine,hc]),if_pos hc]; rfl
def ae9 {b:Þ} {i:Int} (h:(tC b i).2=0):Č b∧(tC b i).1∈b.2.2.2.2.1∧b.2.2.2.2.1[i.toNat]?=some (tC b i).1∧0≤i:=by
 unfold tC at h ⊢
 split at h
 ·rename_i hc; exact(hc h).elim
 ·rename_i hc
  have hc0:ê b=0:=by simpa using hc
  split at h
  ·simp at h
  ·rename_i hi
   have hj:i.toNat<b.2.2.2.2.1.length:=by omega
   rw[if_neg hc,if_neg hi,cQ hj];exact⟨(ì b).1 hc0,ft hj,rfl,by omega⟩
def apO (b:Þ) (i:Int):(Int×Int)×Int:=if (tC b i).2≠0 then((0,0),(tC b i).2) else(Ŵ b (tC b i).1,0)
def arl {b:Þ} (h:In b) (i:Int):Pa b i=some (apO b i):=by
 unfold Pa Z8 apO;rw[an2 h,À]
 by_cases hw:(tC b i).2=0
 ·obtain⟨g,hm,_,_⟩:=ae9 hw;rw[Ò (by simp[ine,hw]),g.says hm,À,if_neg (show ¬((tC b i).2≠0) from fun h=>h hw)]
 ·rw[Ô (by simp[ine,hw]),if_pos hw]
def exB:Þ:=((0,2),[(1,0,1000,(-5,5),(1,10),1),(2,0,1000,(-50,50),(1,4),0)],[(1,10)],[(1,(20,29),3)],[(7,10,[1],[2],-20,1,100,200)],[])
def AD:In exB:=⟨⟨by decide,by decide,by decide,by decide,by decide,by decide⟩,by
 intro g hg;simp[exB] at hg
 rcases hg with rfl|rfl<;>exact⟨by decide,by decide⟩⟩
def exC:Cmp:=(8,10,[1],[2],0,0,0,0)
def mN (b:Þ) (x d:Int):Int:=match iD (Í b) x d with|some j=>(j:Int)+1|none=>0
def aiW (b:Þ) (n:Int×Int):Int×Int:=if ê b≠0 then(0,ê b) else if mN b n.1 n.2=0 then(0,5) else(mN b n.1 n.2,0)
def TW {b:Þ} (h:In b) (n:Int×Int):Ŧ b n=some (aiW b n):=by
 have hl:=JZ h.size;unfold Ŧ Sy aiW;rw[ji h.size h.num,À]
 by_cases hc:ê b=0
 ·rw[Ò (by simp[ine,hc]),if_neg (show ¬(ê b≠0) from fun h=>h hc),Yh h.size,À,show þ (Í b) n=þ (Í b) (n.1,n.2) from rfl,ae0 (by omega),À];unfold mN
  cases hx:iD (Í b) n.1 n.2 with
  |none=>rfl
  |some j =>
   have:=(kQ hx).1;simp only;rw[Ò (by simp[ilt]),Õ (by omega) (by omega),if_neg (by omega)]
 ·rw[Ô (by simp[ine,hc]),if_pos hc]
def jr (b:Þ) (n:Int×Int):Þ:=(b.1,b.2.1,b.2.2.1,b.2.2.2.1,b.2.2.2.2.1,b.2.2.2.2.2++[n])
def ad1 {b:Þ} (h:Č b) (n:Int×Int):ō (jr b n):=by
 have hs:=h.size;have:=h.nK;exact⟨hs.gauges,hs.uses,hs.loans,hs.compares,by simp[jr]; omega,hs.piles⟩
def akq (b:Þ) (n:Int×Int):Þ×Int:=if ê b≠0 then(i6,ê b) else if ê (jr b n)≠0 then(i6,ê (jr b n)) else(jr b n,0)
def arq {b:Þ} (h:In b) (n:Int×Int):kv b n=some (akq b n):=by
 have hs:=h.size;have h1:=hs.gauges; have h2:=hs.uses; have h3:=hs.loans; have h4:=hs.compares; have h5:=hs.looks;unfold kv Z9 akq;rw[ji hs h.num,À]
 by_cases hc:ê b=0
 ·have hg:=(ì b).1 hc;rw[Ò (by simp[ine,hc]),Ø (by omega),Am.iff_true,Ø (by omega),Am.iff_true,Ø (by omega),Am.iff_true,Ø (by omega),Am.iff_true,Ø (by omega),Am.iff_true,if_neg (show ¬(ê b≠0) from fun h=>h hc)];refine ò b.2.2.2.2.1 (fun _=>b.2.2.2.2.1) _ rfl (fun i d hi hd kn=>?_) (fun kn=>?_)
  ·dsimp only;unfold wK;obtain⟨p1,p2⟩:=hs.piles d (List.mem_of_getElem? hd)
   have e1:b.2.2.2.2.1.set i d=b.2.2.2.2.1:=by
    obtain⟨h,rfl⟩:=cY.1 hd;exact List.set_getElem_self h
   rw[Ó hi,iu hi,ĭ hd,Ø (by omega),Am.iff_true,Ø (by omega),Am.iff_true,iu hi,ĭ hd,dn];rw[show(d.1,d.2.1,d.2.2.1,d.2.2.2)=d from rfl,e1,iu hi,oK hd,Ì hi (by omega)];rw[show(d.1,d.2.1,d.2.2.1,d.2.2.2.1,d.2.2.2.2)=d from rfl,e1]
  ·try dsimp only
   unfold wK;rw[Ü];dsimp only;rw[Ø (by simp only[List.length_singleton]; omega),Am.iff_true];rw[show Ā (b.1,b.2.1,b.2.2.1,b.2.2.2.1,b.2.2.2.2.1,b.2.2.2.2.2++[n])=Ā (jr b n) from rfl,ji (ad1 hg n) h.num,À]
   by_cases hc2:ê (jr b n)=0
   ·rw[Ò (by simp[ine,hc2]),if_neg (show ¬(ê (jr b n)≠0) from fun h=>h hc2)];rfl
   ·rw[Ô (by simp[ine,hc2]),if_pos hc2];rfl
 ·rw[Ô (by simp[ine,hc]),if_pos hc];rfl
section
variable {b:Þ}
def alm:off b b.2.1.length=(Í b).length:=by unfold off Í; rw[List.take_length]
def ahV:∀n,n≤b.2.1.length→∀j,j<off b n→∃(i:Nat) (g:é) (k:Nat),b.2.1[i]?=some g∧k<(à b g).length∧j=off b i+k:=by
 intro n
 induction n with
 |zero=>intro _ j hj; simp[off] at hj
 |succ n ih =>
  intro hn j hj;have hg:b.2.1[n]?=some b.2.1[n]:=cQ (by omega);rw[aoz hg] at hj
  by_cases h:j<off b n
  ·exact ih (by omega) j h
  ·exact⟨n,_,j-off b n,hg,by omega,by omega⟩
def Wy {v:Int} (h0:1≤v) (h1:v<((Í b).length+1:Nat)):∃(i:Nat) (g:é) (k:Nat),b.2.1[i]?=some g∧k<(à b g).length∧v=(off b i:Int)+k+1:=by
 obtain⟨i,g,k,h2,h3,h4⟩:=ahV (b:=b) b.2.1.length (cR _) (v-1).toNat (by rw[alm]; omega);exact⟨i,g,k,h2,h3,by omega⟩
def GL (b:Þ) (L:List Lk):Prop:=∀(i:Nat) (g:é),b.2.1[i]?=some g→∀l∈ä b g,l∈L
def aie:GL b (Û b):=fun i g hg l hl=>pv.2 (.inl ⟨i,g,hg,hl⟩)
def akI {L:List Lk} (h:Č b) (hL:GL b L) {v:Int} (h0:0≤v) (h1:v<((Í b).length+1:Nat)):∃vs d,Wl L (fun u=>u=0) vs v d∧d≤4503599627370496:=by
 by_cases hv:v=0
 ·exact⟨[],0,.nil hv,by omega⟩
 obtain⟨i,g,k,hg,hk,rfl⟩:=Wy (by omega) h1;have hr:=h.gaugeR (cZ hg);have r1:=hr.2.2.2.2.2.1;have r2:=hr.2.2.2.2.2.2.1
 have key:∀k:Nat,k<(à b g).length→∃vs,Wl L (fun u=>u=0) vs ((off b i:Int)+k+1) (g.2.2.1+g.2.2.2.1.2):=by
  intro k
  induction k with
  |zero =>
   intro _;have hw:Wl L (fun u=>u=0) [0] ((off b i:Int)+1) (0+(g.2.2.1+g.2.2.2.1.2)):=Wl.step (.nil rfl) (hL i g hg _ ((Ń h hg).2 (.inl rfl)));rw[gS] at hw;exact⟨[0],by simpa using hw⟩
  |succ k ih =>
   intro hk;obtain⟨vs,hw⟩:=ih (by omega);have hw':=Wl.step hw (hL i g hg _ ((Ń h hg).2 (.inr (.inr ⟨k,_,_,cQ (show k<_ by omega),cQ hk,.inl rfl⟩))));rw[f0] at hw'
   have e:(off b i:Int)+((k+1:Nat):Int)+1=(off b i:Int)+k+2:=by push_cast; omega
   exact⟨_,by rw[e]; exact hw'⟩
 obtain⟨vs,hw⟩:=key k hk;exact⟨vs,_,hw,by omega⟩
def abp {L:List Lk} (h:Č b) (hL:GL b L) {v:Int} (h0:0≤v) (h1:v<((Í b).length+1:Nat)):∃vs d,Wl L (fun u=>u=v) vs 0 d∧d≤4503599627370496:=by
 by_cases hv:v=0
 ·exact⟨[],0,.nil hv.symm,by omega⟩
 obtain⟨i,g,k,hg,hk,rfl⟩:=Wy (by omega) h1;have hgm:=cZ hg;have hr:=h.gaugeR hgm;have r1:=hr.2.2.2.2.2.1;have r2:=hr.2.2.2.2.2.2.1;have hd:=Ji h hgm
 have key:∀m:Nat,m≤k→∃vs d,Wl L (fun u=>u=(off b i:Int)+k+1) vs ((off b i:Int)+(k-m:Nat)+1) d∧d≤m*(12*(20001*1048576)+40*1048576):=by
  intro m
  induction m with
  |zero=>intro _; exact⟨[],0,.nil (by simp),by simp⟩
  |succ m ih =>
   intro hm;obtain⟨vs,d,hw,hd⟩:=ih (by omega)
   have e1:((k-m:Nat):Int)=((k-(m+1):Nat):Int)+1:=by omega
   have hl:(((off b i:Int)+(k-(m+1):Nat)+2,(off b i:Int)+(k-(m+1):Nat)+1,ip b g ((à b g)[k-(m+1)]'(by omega)) ((à b g)[k-(m+1)+1]'(by omega))):Lk)∈L :=
    hL i g hg _ ((Ń h hg).2 (.inr (.inr ⟨k-(m+1),_,_,cQ (by omega),cQ (by omega),.inr rfl⟩)))
   have hb:=kM h hgm (f:=(à b g)[k-(m+1)]'(by omega)) (t:=(à b g)[k-(m+1)+1]'(by omega)) (h.day hgm (ft _)).2.1
   have e2:(off b i:Int)+(k-m:Nat)+1=(off b i:Int)+(k-(m+1):Nat)+2:=by omega
   rw[e2] at hw;exact⟨_,_,.step hw hl,by push_cast; omega⟩
 obtain⟨vs,d,hw,hdb⟩:=key k (cR _)
 have e:(off b i:Int)+(k-k:Nat)+1=(off b i:Int)+1:=by omega
 rw[e] at hw;have hw':=Wl.step hw (hL i g hg _ ((Ń h hg).2 (.inr (.inl rfl))));exact⟨_,_,hw',by omega⟩
end
structure ya (L:List Lk) (N:Nat):Prop where
 to:∀v:Int,0≤v→v<N→∃vs d,Wl L (fun u=>u=0) vs v d∧d≤4503599627370496
 from':∀v:Int,0≤v→v<N→∃vs d,Wl L (fun u=>u=v) vs 0 d∧d≤4503599627370496
def Č.tied {b:Þ} (h:Č b):ya (Û b) ((Í b).length+1):=⟨fun v h0 h1=>akI h aie h0 h1,fun v h0 h1=>abp h aie h0 h1⟩
def Č.tiedL {b:Þ} {L:List Lk} (h:Č b) (hL:GL b L):ya L ((Í b).length+1):=⟨fun v h0 h1=>akI h hL h0 h1,fun v h0 h1=>abp h hL h0 h1⟩
section
variable {L:List Lk} {N:Nat}
def PO {L:List Lk} {s:Int} {vs:List Int} {v d:Int}:Wl L (fun v=>ali s v=true) vs v d↔Wl L (fun u=>u=s) vs v d :=
 ⟨fun h=>h.mono fun u hu=>by simpa[ali] using hu,fun h=>h.mono fun u hu=>by simpa[ali] using hu⟩
def akh (h:Ħ L N) (ht:ya L N) (ho:ħ L N=true) {v:Int} (h0:0≤v) (h1:v<N):gv (ow L N 0) v≤4503599627370496:=by
 have h2:=h.n60;have h3:=h.n1;obtain⟨p,hp⟩:=(Ļ h.links (by omega)).1 ho;obtain⟨vs,d,hw,hd⟩:=ht.to v h0 h1;have:=(χ h.links (by omega) hp (s:=0) ⟨by omega,by omega⟩).low v vs d (PO.2 hw);omega
def akg (h:Ħ L N) (ht:ya L N) (ho:ħ L N=true) {v:Int} (h0:0≤v) (h1:v<N):gv (ow L N v) 0≤4503599627370496:=by
 have h2:=h.n60;have h3:=h.n1;obtain⟨p,hp⟩:=(Ļ h.links (by omega)).1 ho;obtain⟨vs,d,hw,hd⟩:=ht.from' v h0 h1;have:=(χ h.links (by omega) hp (s:=v) ⟨h0,h1⟩).low 0 vs d (PO.2 hw);omega
def ag1 (h:Ħ L N) (ho:ħ L N=true) {v:Int} (h0:0≤v) (h1:v<N):gv (ow L N v) v=0:=by
 have h2:=h.n60;obtain⟨p,hp⟩:=(Ļ h.links (by omega)).1 ho;have hd:=χ h.links (by omega) hp (s:=v) ⟨h0,h1⟩;have h3:=hd.low v [] 0 (.nil (by simp[ali]));obtain⟨vs,hw⟩:=hd.att v h0 h1 (by unfold Ģ; omega);obtain⟨s,hs,hx⟩:=(PO.1 hw).pot hp;subst hs;omega
end
def XB {b:Þ}:∀i,i≤b.2.2.2.2.1.length→((b.2.2.2.2.1.take i).flatMap (û b)).length=2*i∧(((b.2.2.2.2.1.take i).mapIdx fun i _=>[((3:Int),(i:Int)),((3:Int),(i:Int))]).flatten).length=2*i:=by
 intro i
 induction i with
 |zero=>intro _; simp
 |succ i ih =>
  intro hi;have ih:=ih (by omega);have hg:b.2.2.2.2.1[i]?=some b.2.2.2.2.1[i]:=cQ hi;rw[iG _ hg,take_succ hg,eW,fI,cX,cX];simp only[dK,gO,dR,fV,gq,û,dg,dw];omega
section
variable {L:List Lk} {N:Nat}
def JC (h:Ħ L N):ĥ ((N:Int),L)=some (ħ L N,0):=by
 have h2:=h.n60;unfold ĥ s8;rw[l6 h,À];dsimp only;rw[Ò (by rfl),DR h.links h.n1 (by omega),À]
 cases ħ L N<;>rfl
end
def jS (b:Þ) (n:Int×Int):Þ×Int:=if mN b n.1 n.2≠0 then(b,0) else if ê (jr b n)≠0 then(i6,ê (jr b n)) else(jr b n,0)
def ŋ:Þ→List (Int×Int)→Þ×Int
 |b,[]=>(b,0)
 |b,n::t=>if (jS b n).2≠0 then(i6,(jS b n).2) else ŋ (jS b n).1 t
def ċ (b:Þ) (ns:List (Int×Int)):Þ×Int :=
 if ê b≠0 then(i6,ê b) else if (ŋ b ns).2≠0 then(i6,(ŋ b ns).2) else
 if ħ (Û (ŋ b ns).1) ((Í (ŋ b ns).1).length+1) then((ŋ b ns).1,0) else(i6,9)
def abt {b:Þ} (h:Č b) {n:Int×Int} (e:(jS b n).2=0):Č (jS b n).1:=by
 unfold jS at e ⊢
 split
 ·exact h
 ·rename_i h1;rw[if_neg h1] at e
  split
  ·rename_i h2;rw[if_pos h2] at e;exact absurd e h2
  ·rename_i h2;exact(ì _).1 (by simpa using h2)
def aff {b:Þ} {n:Int×Int} (e:(jS b n).2=0):(jS b n).1.2.1=b.2.1:=by
 unfold jS at e ⊢
 split
 ·rfl
 ·rename_i h1;rw[if_neg h1] at e
  split
  ·rename_i h2;rw[if_pos h2] at e;exact absurd e h2
  ·rfl
def Fz:∀{ns:List (Int×Int)} {b:Þ},Č b→(ŋ b ns).2=0→Č (ŋ b ns).1
 |[],b,h,_=>h
 |n::t,b,h,e=>by
  unfold ŋ at e ⊢
  split
  ·rename_i h1; rw[if_pos h1] at e; exact absurd e h1
  ·rename_i h1;rw[if_neg h1] at e;exact Fz (abt h (by simpa using h1)) e
def vy:∀{ns:List (Int×Int)} {b:Þ},(ŋ b ns).2=0→(ŋ b ns).1.2.1=b.2.1
 |[],b,_=>rfl
 |n::t,b,e=>by
  unfold ŋ at e ⊢
  split
  ·rename_i h1; rw[if_pos h1] at e; exact absurd e h1
  ·rename_i h1;rw[if_neg h1] at e;rw[vy e,aff (by simpa using h1)]
def Č.inn {b:Þ} (h:Č b) (hn:∀g∈b.2.1,I64 g.2.2.2.2.1.1):In b:=⟨h.size,hn⟩
def jy {b:Þ} (h:Č b):aa6 b=((((Í b).length:Int)+1,Û b),ľ b,0):=by
 unfold aa6;rw[if_neg (by simp[(ì b).2 h])]
def Fo {b:Þ} (h:Č b) (n:Int×Int):aiW b n=if mN b n.1 n.2=0 then(0,5) else(mN b n.1 n.2,0):=by
 unfold aiW;rw[if_neg (by simp[(ì b).2 h])]
abbrev Flat:Type:=Int×Int×List é×List (Int×Int)×List JA×List Cmp×List (Int×Int)
def flat (b:Þ):Flat:=(b.1.1,b.1.2,b.2.1,b.2.2.1,b.2.2.2.1,b.2.2.2.2.1,b.2.2.2.2.2)
def Ar (b:Þ):(((flat b).1,(flat b).2.1),(flat b).2.2)=b:=rfl
section
variable {ρ:Type}
def aqz (ns:List (Int×Int)) (E1:Int×Flat→Option ρ) (K1:Flat→Option ρ) (b:Þ):Option ρ :=
 Ñ (fun(v:Int×Flat) kk=>ĕ (Ú ns) ns v.1 v.2.1 v.2.2.1 v.2.2.2.1 v.2.2.2.2.1 v.2.2.2.2.2.1 v.2.2.2.2.2.2.1 v.2.2.2.2.2.2.2 (fun u1 u2 u3 u4 u5 u6 u7 u8=>kk (u1,u2,u3,u4,u5,u6,u7,u8)) (fun z=>E1 z) (fun z=>K1 z)) ((0:Int),b.1.1,b.1.2,b.2.1,b.2.2.1,b.2.2.2.1,b.2.2.2.2.1,b.2.2.2.2.2)
def ak2 {ns:List (Int×Int)} (hl:ns.length≤1000) {E1:Int×Flat→Option ρ} {K1:Flat→Option ρ} (R:Int→Option ρ) (h1:∀z,z.1≠0→E1 z=R z.1) {b:Þ} (hg:Č b) (hn:∀g∈b.2.1,I64 g.2.2.2.2.1.1) :
 aqz ns E1 K1 b=if (ŋ b ns).2≠0 then R (ŋ b ns).2 else K1 (flat (ŋ b ns).1):=by
 unfold aqz
 refine IC ns (fun(i:Nat) (s:Flat) (t:List (Int×Int))=>if (ŋ ((s.1,s.2.1),s.2.2) t).2≠0 then R (ŋ ((s.1,s.2.1),s.2.2) t).2 else K1 (flat (ŋ ((s.1,s.2.1),s.2.2) t).1))
  (fun i s=>Č ((s.1,s.2.1),s.2.2)∧∀g∈s.2.2.1,I64 g.2.2.2.2.1.1) (fun s hs kn=>?_) (fun i n t s hd hi ha hs kn hk=>?_) (s:=flat b) ⟨hg,hn⟩
 ·dsimp only;unfold ĕ;rw[Ü];rfl
 ·dsimp only;unfold ĕ;obtain⟨hs1,hs2⟩:=hs;have hin:In ((s.1,s.2.1),s.2.2):=hs1.inn hs2;rw[Ó hi,iu hi,ĭ ha];rw[show Ŧ ((s.1,s.2.1),s.2.2.1,s.2.2.2.1,s.2.2.2.2.1,s.2.2.2.2.2.1,s.2.2.2.2.2.2) n=Ŧ ((s.1,s.2.1),s.2.2) n from rfl,TW hin,À];rw[show kv ((s.1,s.2.1),s.2.2.1,s.2.2.2.1,s.2.2.2.2.1,s.2.2.2.2.2.1,s.2.2.2.2.2.2) n=kv ((s.1,s.2.1),s.2.2) n from rfl,arq hin,À];rw[Fo hs1];generalize hB:(((s.1,s.2.1),s.2.2):Þ)=B at hs1 hin ⊢
  have hu:ŋ B (n::t)=if (jS B n).2≠0 then(i6,(jS B n).2) else ŋ (jS B n).1 t:=rfl
  rw[hu]
  by_cases h0:mN B n.1 n.2=0
  ·rw[if_pos h0,Ò (by rfl)]
   by_cases h2:ê (jr B n)=0
   ·have e:jS B n=(jr B n,0):=by unfold jS; rw[if_neg (by simp[h0]),if_neg (by simp[h2])]
    have e2:akq B n=(jr B n,0):=by unfold akq; rw[if_neg (by simp[(ì B).2 hs1]),if_neg (by simp[h2])]
    rw[e2,e,Ò (by rfl),Ì hi (by omega),if_neg (show ¬((0:Int)≠0) by simp)];subst hB;exact hk (s.1,s.2.1,s.2.2.1,s.2.2.2.1,s.2.2.2.2.1,s.2.2.2.2.2.1,s.2.2.2.2.2.2++[n]) ⟨(ì _).1 h2,hs2⟩
   ·have e:jS B n=(i6,ê (jr B n)):=by unfold jS; rw[if_neg (by simp[h0]),if_pos h2]
    have e2:akq B n=(i6,ê (jr B n)):=by unfold akq; rw[if_neg (by simp[(ì B).2 hs1]),if_pos h2]
    rw[e2,e,Ô (by simp[ine,h2]),if_pos h2,if_pos h2];exact h1 _ h2
  ·have e:jS B n=(B,0):=by unfold jS; rw[if_pos h0]
   rw[if_neg h0,Ô (by rfl),Ì hi (by omega),e,if_neg (show ¬((0:Int)≠0) by simp)];subst hB;exact hk s ⟨hs1,hs2⟩
def vB {b:Þ} (hI:In b) {ns:List (Int×Int)} (hl:ns.length≤1000) {E0:Int→Option ρ} {E1:Int×Flat→Option ρ} {E2:Flat→Sys×List (Int×Int)×Int→Option ρ} {E3:Flat→Sys×List (Int×Int)×Int→Bool×Int→Option ρ}
 {K:Flat→Sys×List (Int×Int)×Int→Bool×Int→Option ρ} (R:Int→Option ρ) (h0:∀e,e≠0→E0 e=R e) (h1:∀z,z.1≠0→E1 z=R z.1) (h3:∀z s r,E3 z s r=R 9) :
 Ã (Ā b) (fun r1=>ifb (ine r1 (0:Int)) (E0 r1) (aqz ns E1 (fun z8=>Ã (Į ((z8.1,z8.2.1),z8.2.2)) fun r9=>ifb (ine r9.2.2 (0:Int)) (E2 z8 r9) (Ã (ĥ r9.1) fun r10=>ifb (!r10.1) (E3 z8 r9 r10) (K z8 r9 r10))) b)) =
 if (ċ b ns).2≠0 then R (ċ b ns).2 else K (flat (ċ b ns).1) ((((Í (ċ b ns).1).length:Int)+1,Û (ċ b ns).1),ľ (ċ b ns).1,0) (true,0):=by
 rw[ji hI.size hI.num,À];unfold ċ
 by_cases hc:ê b=0
 ·have hg:=(ì b).1 hc;rw[Ò (by simp[ine,hc]),if_neg (show ¬(ê b≠0) from fun h=>h hc),ak2 hl R h1 hg hI.num]
  by_cases hr:(ŋ b ns).2=0
  ·rw[if_neg (show ¬((ŋ b ns).2≠0) from fun h=>h hr),if_neg (show ¬((ŋ b ns).2≠0) from fun h=>h hr)];have hB:=Fz hg hr
   have hBn:∀g∈(ŋ b ns).1.2.1,I64 g.2.2.2.2.1.1:=by rw[vy hr]; exact hI.num
   generalize (ŋ b ns).1=B at hB hBn ⊢;rw[Ar,qI (hB.inn hBn),À,jy hB,Ò (by rfl)];dsimp only;rw[show(((Í B).length:Int)+1)=(((Í B).length+1:Nat):Int) by push_cast; rfl,JC hB.sys,À]
   cases ho:ħ (Û B) ((Í B).length+1) with
   |true =>
    rw[if_neg (by simp)];simp only[d9,å];push_cast;rfl
   |false =>
    rw[if_pos (by simp)];simp only[gh,Ĝ];rw[h3];rfl
  ·rw[if_pos hr,if_pos hr,if_pos hr]
 ·rw[Ô (by simp[ine,hc]),h0 _ hc,if_pos hc,if_pos hc]
end
def Nn (b:Þ) (id day:Int):Bool:=b.2.2.1.any fun u=>u.1==id&&u.2==day
def agJ (b:Þ) (g:é) (d:Int):Int:=match jW b g.1 d with|some l=>l.2.2|none=>if Nn b g.1 d then g.2.2.2.2.2 else 0
def alN (l:JA) (id:Int) {f t:Int} (hft:f≤t):(if l.1=id∧0<ě l f (t+1) then ě l f (t+1)*l.2.2 else 0)=(if l.1=id∧0<ě l f t then ě l f t*l.2.2 else 0)+(if l.1=id∧l.2.1.1≤t∧t≤l.2.1.2 then l.2.2 else 0):=by
 by_cases hid:l.1=id
 ·by_cases h1:l.2.1.1≤t∧t≤l.2.1.2
  ·have e:ě l f (t+1)=ě l f t+1:=by unfold ě; omega
   have p:0≤ě l f t:=by unfold ě; omega
   rw[e,if_pos ⟨hid,by omega⟩,if_pos (show l.1=id∧l.2.1.1≤t∧t≤l.2.1.2 from⟨hid,h1⟩),gc,gw]
   by_cases hp:0<ě l f t
   ·rw[if_pos ⟨hid,hp⟩]
   ·rw[if_neg (fun h=>hp h.2)]
    have:ě l f t=0:=by omega
    rw[this];omega
  ·rw[if_neg (show ¬(l.1=id∧l.2.1.1≤t∧t≤l.2.1.2) from fun h=>h1 h.2),f0]
   by_cases hlo:l.2.1.1≤t
   ·have e:ě l f (t+1)=ě l f t:=by unfold ě; omega
    rw[e]
   ·have p1:¬0<ě l f (t+1):=by unfold ě; omega
    have p2:¬0<ě l f t:=by unfold ě; omega
    rw[if_neg (fun h=>p1 h.2),if_neg (fun h=>p2 h.2)]
 ·rw[if_neg (fun h=>hid h.1),if_neg (fun h=>hid h.1),if_neg (fun h=>hid h.1)];rfl
def W5 (id:Int) {f t:Int} (hft:f≤t):∀{x:List JA},x.Pairwise (fun a c=>¬(a.1=c.1∧a.2.1.1≤c.2.1.2∧c.2.1.1≤a.2.1.2)) →
 Ą id f (t+1) x=Ą id f t x+(match x.find? (fun l=>l.1==id&&inP t l.2.1.1 l.2.1.2) with|some l=>l.2.2|none=>0)
 |[],_=>rfl
 |l::r,hp=>by
  rw[dP] at hp;have ih:=W5 id hft hp.2;simp only[Ą];rw[ih,alN l id hft,gB]
  by_cases hm:l.1=id∧l.2.1.1≤t∧t≤l.2.1.2
  ·have e:(l.1==id&&inP t l.2.1.1 l.2.1.2)=true:=by simp[inP,hm.1,hm.2.1,hm.2.2]
   have hn:r.find? (fun l=>l.1==id&&inP t l.2.1.1 l.2.1.2)=none:=by
    rw[eJ];intro c hc hcm;simp only[inP,cW,beq_iff_eq,decide_eq_true_eq] at hcm;exact hp.1 c hc ⟨by rw[hm.1,hcm.1],by omega,by omega⟩
   rw[if_pos hm,e,hn];simp only;omega
  ·have e:(l.1==id&&inP t l.2.1.1 l.2.1.2)=false:=by
    rw[eF];intro h;simp only[inP,cW,beq_iff_eq,decide_eq_true_eq] at h;exact hm h
   rw[if_neg hm,e];simp only;omega
section
variable {b:Þ}
def Č.apart (h:Č b):b.2.2.2.1.Pairwise (fun a c=>¬(a.1=c.1∧a.2.1.1≤c.2.1.2∧c.2.1.1≤a.2.1.2)):=by
 rw[List.pairwise_iff_getElem];intro i j hi hj hij ⟨h1,h2,h3⟩;have hz:=h.loans j _ (List.getElem?_eq_getElem hj);unfold IE at hz
 have hany:(b.2.2.2.1.take j).any (fun x=>x.1==b.2.2.2.1[j].1&&(decide (x.2.1.1≤b.2.2.2.1[j].2.1.2)&&decide (b.2.2.2.1[j].2.1.1≤x.2.1.2)))=true:=by
  rw[dQ];exact⟨b.2.2.2.1[i],dj.2 ⟨i,by rw[di]; omega,by rw[fh]⟩,by simp[h1,h2,h3]⟩
 rw[hany] at hz
 (repeat' split at hz)<;>first|omega|simp_all
def Č.notUsed (h:Č b) {id d:Int} {l:JA} (hl:jW b id d=some l):Nn b id d=false:=by
 have hm:=gC hl;have hp:=f8 hl;simp only[inP,cW,beq_iff_eq,decide_eq_true_eq] at hp;obtain⟨j,hj,rfl⟩:=dj.1 hm;have hz:=h.loans j _ (cQ hj);rw[eF];intro hu;obtain⟨u,hu,hue⟩:=dQ.1 hu;simp only[cW,beq_iff_eq] at hue
 have hany:b.2.2.1.any (fun u=>u.1==b.2.2.2.1[j].1&&inP u.2 b.2.2.2.1[j].2.1.1 b.2.2.2.1[j].2.1.2)=true:=by
  rw[dQ];exact⟨u,hu,by simp only[inP,cW,beq_iff_eq,decide_eq_true_eq]; exact⟨by rw[hue.1,hp.1],by omega,by omega⟩⟩
 unfold IE at hz;rw[hany] at hz
 (repeat' split at hz)<;>first|omega|simp_all
def abj {id f t:Int} (hft:f≤t):XS (θ b id f (t+1))=XS (θ b id f t)++if Nn b id t then[t] else[]:=by
 have hm:∀t x,x∈θ b id f t↔Nn b id x=true∧f≤x∧x<t:=by
  intro t x;unfold θ Nn;simp only[List.mem_map,List.mem_filter,List.any_eq_true,inP,Bool.and_eq_true,beq_iff_eq,decide_eq_true_eq];constructor
  ·rintro⟨u,⟨h1,h2,h3,h4⟩,rfl⟩;exact⟨⟨u,h1,h2,rfl⟩,h3,by omega⟩
  ·rintro⟨⟨u,h1,h2,rfl⟩,h3,h4⟩;exact⟨u,⟨h1,h2,h3,by omega⟩,rfl⟩
 refine aaX (vw _) ?_ fun x=>?_
 ·rw[List.pairwise_append]
  refine⟨vw _,by split<;>simp,fun a ha c hc=>?_⟩
  rw[mX,hm] at ha
  split at hc
  ·rw[dh] at hc; omega
  ·cases hc
 ·rw[mX,hm,dc,mX,hm]
  by_cases hu:Nn b id t=true
  ·rw[if_pos hu,dh];constructor
   ·rintro⟨h1,h2,h3⟩
    by_cases he:x=t
    ·exact .inr he
    ·exact .inl ⟨h1,h2,by omega⟩
   ·rintro(⟨h1,h2,h3⟩|rfl)
    ·exact⟨h1,h2,by omega⟩
    ·exact⟨hu,hft,by omega⟩
  ·rw[if_neg hu];constructor
   ·rintro⟨h1,h2,h3⟩;refine .inl ⟨h1,h2,?_⟩
    by_cases he:x=t
    ·rw[he] at h1; exact absurd h1 hu
    ·omega
   ·rintro(⟨h1,h2,h3⟩|h)
    ·exact⟨h1,h2,by omega⟩
    ·cases h
def SA (h:Č b) (g:é) {f t:Int} (hft:f≤t):ip b g f (t+1)=ip b g f t+agJ b g t:=by
 unfold ip agJ;rw[W5 g.1 hft h.apart,abj hft];show Ą g.1 f t b.2.2.2.1+(match jW b g.1 t with|some l=>l.2.2|none=>0)+_=_
 cases ha:jW b g.1 t with
 |some l =>
  rw[h.notUsed ha];simp only[dm,if_false,dR];omega
 |none =>
  simp only
  cases Nn b g.1 t with
  |true=>simp only[if_true,cX,dI,Int.natCast_add,gc]; omega
  |false=>simp only[dm,if_false,dR]; omega
def Ah (g:é) {f t:Int} (hft:t≤f):ip b g f t=0:=by
 unfold ip
 have h1:∀x:List JA,Ą g.1 f t x=0:=by
  intro x
  induction x with
  |nil=>rfl
  |cons l r ih =>
   simp only[Ą];rw[ih,if_neg (by unfold ě; omega)];rfl
 have h2:θ b g.1 f t=[]:=by
  unfold θ
  rw[List.filter_eq_nil_iff.2 fun u hu hc=>by
   simp only[inP,cW,beq_iff_eq,decide_eq_true_eq] at hc
   omega]
  rfl
 rw[h1,h2];have h3:XS ([]:List Int)=[]:=rfl;rw[h3];simp
end
section
variable {b:Þ}
def O2 (h:Č b) (g:é) {f t u:Int} (h1:f≤t) (h2:t≤u):ip b g f u=ip b g f t+ip b g t u:=by
 obtain⟨n,rfl⟩:∃n:Nat,u=t+n:=⟨(u-t).toNat,by omega⟩;clear h2
 induction n with
 |zero=>simp[Ah]
 |succ n ih =>
  have e:t+((n+1:Nat):Int)=(t+n)+1:=by omega
  rw[e,SA h g (show f≤t+(n:Int) by omega),SA h g (show t≤t+(n:Int) by omega),ih];omega
def E4 (h:Č b) {g:é} (hg:g∈b.2.1) {f t:Int} (hf:0≤f):0≤ip b g f t:=(kM h hg hf).1
def Ŷ (b:Þ) (id d:Int):Int:=match iD (Í b) id d with|some j=>(j:Int)+1|none=>0
def qU (h:Č b) {i:Nat} {g:é} (hg:b.2.1[i]?=some g) {k:Nat} {d:Int} (hk:(à b g)[k]?=some d):Ŷ b g.1 d=(off b i:Int)+k+1:=by
 unfold Ŷ;rw[Yi h hg hk];simp only;omega
structure qJ (b:Þ) (p:Int→Int) (g:é):Prop where
 hi:p (Ŷ b g.1 g.2.1)≤p 0+(g.2.2.1+g.2.2.2.1.2)
 lo:p 0+(g.2.2.1+g.2.2.2.1.1)≤p (Ŷ b g.1 g.2.1)
 down:∀d e,d∈à b g→e∈à b g→d≤e→p (Ŷ b g.1 e)≤p (Ŷ b g.1 d)
 loss:∀d e,d∈à b g→e∈à b g→d≤e→p (Ŷ b g.1 d)≤p (Ŷ b g.1 e)+ip b g d e
def lR (h:Č b) {i:Nat} {g:é} (hg:b.2.1[i]?=some g) {p:Int→Int}:(∀l∈ä b g,p l.2.1≤p l.1+l.2.2)↔qJ b p g:=by
 have hgm:=cZ hg;obtain⟨tl,htl⟩:=Tk h hgm
 have h0:Ŷ b g.1 g.2.1=(off b i:Int)+1:=by
  have:=qU h hg (k:=0) (d:=g.2.1) (by rw[htl]; rfl);rw[this];omega
 constructor
 ·intro hl;have e1:=hl _ ((Ń h hg).2 (.inl rfl));have e2:=hl _ ((Ń h hg).2 (.inr (.inl rfl)));simp only at e1 e2
  have step:∀(k:Nat) (d e:Int),(à b g)[k]?=some d→(à b g)[k+1]?=some e→p (Ŷ b g.1 e)≤p (Ŷ b g.1 d)∧p (Ŷ b g.1 d)≤p (Ŷ b g.1 e)+ip b g d e:=by
   intro k d e hd he;have a1:=hl _ ((Ń h hg).2 (.inr (.inr ⟨k,d,e,hd,he,.inl rfl⟩)));have a2:=hl _ ((Ń h hg).2 (.inr (.inr ⟨k,d,e,hd,he,.inr rfl⟩)));simp only at a1 a2;rw[qU h hg hd,qU h hg he]
   have e3:(off b i:Int)+((k+1:Nat):Int)+1=(off b i:Int)+k+2:=by omega
   rw[e3];exact⟨by omega,a2⟩
  have pair:∀(n k:Nat) (d e:Int),(à b g)[k]?=some d→(à b g)[k+n]?=some e→p (Ŷ b g.1 e)≤p (Ŷ b g.1 d)∧p (Ŷ b g.1 d)≤p (Ŷ b g.1 e)+ip b g d e:=by
   intro n
   induction n with
   |zero =>
    intro k d e hd he;rw[fF,hd] at he;cases he;rw[Ah g (dE _)];omega
   |succ n ih =>
    intro k d e hd he;have hlt:=(cY.1 he).1;have hm:(à b g)[k+n]?=some ((à b g)[k+n]'(by omega)):=cQ (by omega);obtain⟨a1,a2⟩:=ih k d _ hd hm;obtain⟨a3,a4⟩:=step (k+n) _ e hm he
    have o1:d≤(à b g)[k+n]'(by omega):=by
     obtain⟨hkl,hkd⟩:=cY.1 hd;rcases fA n with rfl|hn
     ·rw[←hkd]; exact Int.le_of_eq (by congr 1)
     ·have:=(dG.1 (tq b g)) k (k+n) hkl (by omega) (by omega);rw[hkd] at this; omega
    have o2:(à b g)[k+n]'(by omega)≤e:=by
     obtain⟨hel,hee⟩:=cY.1 he;have:=(dG.1 (tq b g)) (k+n) (k+(n+1)) (by omega) hel (by omega);rw[hee] at this; omega
    have:=O2 h g o1 o2;omega
  have any:∀d e,d∈à b g→e∈à b g→d≤e→p (Ŷ b g.1 e)≤p (Ŷ b g.1 d)∧p (Ŷ b g.1 d)≤p (Ŷ b g.1 e)+ip b g d e:=by
   intro d e hd he hde;obtain⟨k,hk,rfl⟩:=dj.1 hd;obtain⟨m,hm,rfl⟩:=dj.1 he
   have hkm:k≤m:=by
    rcases dz m k with hlt|hge
    ·have:=(dG.1 (tq b g)) m k hm hk hlt; omega
    ·exact hge
   exact pair (m-k) k _ _ (cQ hk) (by rw[show k+(m-k)=m by omega]; exact cQ hm)
  exact⟨by rw[h0]; omega,by rw[h0]; omega,fun d e hd he hde=>(any d e hd he hde).1,fun d e hd he hde=>(any d e hd he hde).2⟩
 ·intro hf l hl;rcases(Ń h hg).1 hl with rfl|rfl|⟨k,d,e,hd,he,rfl|rfl⟩
  ·have:=hf.hi; rw[h0] at this; simp only; omega
  ·have:=hf.lo; rw[h0] at this; simp only; omega
  ·have hde:d≤e:=by
    obtain⟨a1,a2⟩:=cY.1 hd;obtain⟨a3,a4⟩:=cY.1 he;have:=(dG.1 (tq b g)) k (k+1) a1 a3 (by omega);rw[a2,a4] at this; omega
   have:=hf.down d e (cZ hd) (cZ he) hde;rw[qU h hg hd,qU h hg he] at this
   have e3:(off b i:Int)+((k+1:Nat):Int)+1=(off b i:Int)+k+2:=by omega
   rw[e3] at this;simp only;omega
  ·have hde:d≤e:=by
    obtain⟨a1,a2⟩:=cY.1 hd;obtain⟨a3,a4⟩:=cY.1 he;have:=(dG.1 (tq b g)) k (k+1) a1 a3 (by omega);rw[a2,a4] at this; omega
   have:=hf.loss d e (cZ hd) (cZ he) hde;rw[qU h hg hd,qU h hg he] at this
   have e3:(off b i:Int)+((k+1:Nat):Int)+1=(off b i:Int)+k+2:=by omega
   rw[e3] at this;simp only;exact this
def X0 (h:Č b) {p:Int→Int}:Pot (Û b) p↔(∀g∈b.2.1,qJ b p g)∧∀c∈b.2.2.2.2.1,p (cx b c)≤p (cy b c)+(Ŵ b c).2∧p (cy b c)+(Ŵ b c).1≤p (cx b c):=by
 constructor
 ·intro hp;refine⟨fun g hg=>?_,fun c hc=>?_⟩
  ·obtain⟨i,hi,rfl⟩:=dj.1 hg;exact(lR h (cQ hi)).1 fun l hl=>hp l.1 l.2.1 l.2.2 (pv.2 (.inl ⟨i,_,cQ hi,hl⟩))
  ·have a1:=hp _ _ _ (pv.2 (.inr ⟨c,hc,.inl rfl⟩));have a2:=hp _ _ _ (pv.2 (.inr ⟨c,hc,.inr rfl⟩));omega
 ·rintro⟨hg,hc⟩ u v m hl;rcases pv.1 hl with⟨i,g,hig,hl⟩|⟨c,hcm,hl⟩
  ·exact(lR h hig).2 (hg g (cZ hig)) (u,v,m) hl
  ·obtain⟨a1,a2⟩:=hc c hcm;rcases hl with hl|hl
   ·obtain⟨rfl,rfl,rfl⟩:u=cy b c∧v=cx b c∧m=(Ŵ b c).2:=by simpa using hl
    exact a1
   ·obtain⟨rfl,rfl,rfl⟩:u=cx b c∧v=cy b c∧m = -(Ŵ b c).1:=by simpa using hl
    omega
end
def ap6:List Int→Int
 |[]=>0
 |[a]=>a
 |a::b::t=>max a (ap6 (b::t))
def acy:∀{l:List Int},l≠[]→(∀a∈l,a≤ap6 l)∧ap6 l∈l
 |[],h=>absurd rfl h
 |[a],_=>⟨fun x hx=>by rw[dh] at hx; rw[hx]; exact dE _,by simp[ap6]⟩
 |a::b::t,_=>by
  obtain⟨h1,h2⟩:=acy (l:=b::t) (by simp);have e:ap6 (a::b::t)=max a (ap6 (b::t)):=rfl;rw[e];constructor
  ·intro x hx;rcases df.1 hx with rfl|hx
   ·omega
   ·have:=h1 x hx; omega
  ·rcases Int.le_total a (ap6 (b::t)) with h|h
   ·rw[Int.max_eq_right h]; exact gp _ h2
   ·rw[Int.max_eq_left h]; exact List.mem_cons_self
section
variable {b:Þ}
def Nr (b:Þ) (f:Int→Int→Int) (z:Int) (v:Int):Int:=if v=0 then z else match (Í b)[(v-1).toNat]? with|some n=>f n.1 n.2|none=>0
def lg (f:Int→Int→Int) (z:Int):Nr b f z 0=z:=by unfold Nr; rw[if_pos rfl]
def yl (h:Č b) (f:Int→Int→Int) (z:Int) {g:é} (hg:g∈b.2.1) {d:Int} (hd:d∈à b g):Nr b f z (Ŷ b g.1 d)=f g.1 d:=by
 obtain⟨i,hi,rfl⟩:=List.mem_iff_getElem.1 hg;obtain⟨k,hk,rfl⟩:=List.mem_iff_getElem.1 hd;have hgi:=List.getElem?_eq_getElem hi;have hdk:=List.getElem?_eq_getElem hk;rw[qU h hgi hdk];unfold Nr
 have e:((off b i:Int)+k+1-1).toNat=off b i+k:=by omega
 rw[if_neg (by omega),e,OT hgi hdk]
def OC (b:Þ) (l:List Int) (d:Int):Int:=match l with|[]=>0|x::_=>Ŷ b x d
def aiM (l:List Int) (d:Int):atP (Í b) l d=OC b l d:=by
 unfold atP OC Ŷ
 cases l<;>rfl
def LA (c:Cmp):cx b c=OC b (è c.2.2.1 c.2.2.2.1) c.2.1:=aiM _ _
def Lz (c:Cmp):cy b c=OC b (è c.2.2.2.1 c.2.2.1) c.2.1:=aiM _ _
def nf (h:Č b) {c:Cmp} (hc:c∈b.2.2.2.2.1) {x:Int} (hx:x∈è c.2.2.1 c.2.2.2.1∨x∈è c.2.2.2.1 c.2.2.1):∃g∈b.2.1,g.1=x∧c.2.1∈à b g:=by
 have hx':(x∈c.2.2.1∧x∉c.2.2.2.1)∨(x∈c.2.2.2.1∧x∉c.2.2.1):=by
  rcases hx with hx|hx
  ·exact .inl (iY.1 hx)
  ·exact .inr (iY.1 hx)
 have hm:x∈c.2.2.1++c.2.2.2.1:=by rw[dc]; exact hx'.imp (·.1) (·.1)
 obtain⟨⟨g,hg,_⟩,_⟩:=h.pile hc hm;obtain⟨hgm,hid⟩:=Φ hg;refine⟨g,hgm,hid,Ω.2 (.inr (.inl ⟨c,hc,?_,rfl⟩))⟩;rw[hid];intro he;rw[dJ,ej,ej] at he;rcases hx' with⟨a,e⟩|⟨a,e⟩
 ·exact e (he.1 a)
 ·exact e (he.2 a)
def fill (b:Þ) (p:Int→Int) (g:é) (d:Int):Int:=ap6 ((à b g).map fun e=>if d≤e then p (Ŷ b g.1 e) else p (Ŷ b g.1 e)-ip b g e d)
def S8 {p:Int→Int} {g:é} (d:Int):(∀e∈à b g,(if d≤e then p (Ŷ b g.1 e) else p (Ŷ b g.1 e)-ip b g e d)≤fill b p g d)∧∃e∈à b g,fill b p g d=if d≤e then p (Ŷ b g.1 e) else p (Ŷ b g.1 e)-ip b g e d:=by
 have hne:((à b g).map fun e=>if d≤e then p (Ŷ b g.1 e) else p (Ŷ b g.1 e)-ip b g e d)≠[]:=by
  intro h;have:=List.map_eq_nil_iff.1 h;have h2:=kw (b:=b) g;rw[this] at h2;cases h2
 obtain⟨h1,h2⟩:=acy hne;refine⟨fun e he=>h1 _ (dM.2 ⟨e,he,rfl⟩),?_⟩;obtain⟨e,he,hx⟩:=dM.1 h2;exact⟨e,he,hx.symm⟩
def O5 (h:Č b) {p:Int→Int} {g:é} (hg:g∈b.2.1) (hf:qJ b p g) {d:Int} (hd:d∈à b g):fill b p g d=p (Ŷ b g.1 d):=by
 obtain⟨h1,e,he,h2⟩:=S8 (b:=b) (p:=p) (g:=g) d;have h3:=h1 d hd;rw[if_pos (dE _)] at h3
 have h4:fill b p g d≤p (Ŷ b g.1 d):=by
  rw[h2]
  split
  ·rename_i hde;exact hf.down d e hd he hde
  ·rename_i hde;have:=hf.loss e d he hd (by omega);omega
 omega
def IQ (h:Č b) {p:Int→Int} {g:é} (hg:g∈b.2.1) (hf:qJ b p g) {d e:Int} (h0:g.2.1≤d) (hde:d≤e):fill b p g e≤fill b p g d∧fill b p g d≤fill b p g e+ip b g d e:=by
 obtain⟨a1,x,hx,a2⟩:=S8 (b:=b) (p:=p) (g:=g) d;obtain⟨b1,y,hy,b2⟩:=S8 (b:=b) (p:=p) (g:=g) e;have hm:=(h.gaugeR hg).2.2.2.2.1;have hl:=E4 h hg (f:=d) (t:=e) (by omega);have dx:=h.day hg hx;have dy:=h.day hg hy;constructor
 ·have q:=a1 y hy;rw[b2]
  by_cases c1:e≤y
  ·rw[if_pos c1];rw[if_pos (by omega)] at q;exact q
  ·rw[if_neg c1]
   by_cases c2:d≤y
   ·rw[if_pos c2] at q;have:=E4 h hg (f:=y) (t:=e) dy.2.1;omega
   ·rw[if_neg c2] at q;have:=O2 h g (f:=y) (t:=d) (u:=e) (by omega) hde;omega
 ·have q:=b1 x hx;rw[a2]
  by_cases c1:d≤x
  ·rw[if_pos c1]
   by_cases c2:e≤x
   ·rw[if_pos c2] at q;omega
   ·rw[if_neg c2] at q;have:=O2 h g (f:=d) (t:=x) (u:=e) c1 (by omega);have:=E4 h hg (f:=d) (t:=x) (by omega);omega
  ·rw[if_neg c1];rw[if_neg (by omega)] at q;have:=O2 h g (f:=x) (t:=d) (u:=e) (by omega) hde;omega
end
section
variable {b:Þ} {c:Cmp}
def agw:ú (î b c)=(î b c).2.1.flatMap (ä (î b c))++b.2.2.2.2.1.flatMap (û (î b c)):=by
 unfold ú
 have e:Û (î b c)=((î b c).2.1.flatMap (ä (î b c))++b.2.2.2.2.1.flatMap (û (î b c)))++û (î b c) c:=by
  unfold Û;rw[show(î b c).2.2.2.2.1=b.2.2.2.2.1++[c] from rfl,List.flatMap_append,List.append_assoc];simp
 rw[e,cX,show(û (î b c) c).length=2 from rfl,Nat.add_sub_cancel,List.take_left]
def O4 (h':Č (î b c)) {p:Int→Int}:Pot (ú (î b c)) p↔(∀g∈b.2.1,qJ (î b c) p g)∧∀d∈b.2.2.2.2.1,p (cx (î b c) d)≤p (cy (î b c) d)+(Ŵ b d).2∧p (cy (î b c) d)+(Ŵ b d).1≤p (cx (î b c) d):=by
 rw[agw];constructor
 ·intro hp;refine⟨fun g hg=>?_,fun d hd=>?_⟩
  ·obtain⟨i,hi,rfl⟩:=dj.1 hg;exact(lR h' (i:=i) (cQ hi)).1 fun l hl=>hp l.1 l.2.1 l.2.2 (dc.2 (.inl (dv.2 ⟨_,ft hi,hl⟩)))
  ·have a1:=hp (cy (î b c) d) (cx (î b c) d) (Ŵ (î b c) d).2 (dc.2 (.inr (dv.2 ⟨d,hd,by simp[û]⟩)));have a2:=hp (cx (î b c) d) (cy (î b c) d) (-(Ŵ (î b c) d).1) (dc.2 (.inr (dv.2 ⟨d,hd,by simp[û]⟩)));have e:Ŵ (î b c) d=Ŵ b d:=rfl;rw[e] at a1 a2;omega
 ·rintro⟨hg,hc⟩ u v m hl;rcases dc.1 hl with hl|hl
  ·obtain⟨g,hgm,hl⟩:=dv.1 hl;obtain⟨i,hi,rfl⟩:=dj.1 hgm;exact(lR h' (i:=i) (cQ hi)).2 (hg _ hgm) (u,v,m) hl
  ·obtain⟨d,hd,hl⟩:=dv.1 hl;obtain⟨a1,a2⟩:=hc d hd;have e:Ŵ (î b c) d=Ŵ b d:=rfl;simp only[û,df,fY,or_false,e] at hl;rcases hl with hl|hl
   ·obtain⟨rfl,rfl,rfl⟩:u=cy (î b c) d∧v=cx (î b c) d∧m=(Ŵ b d).2:=by simpa using hl
    exact a1
   ·obtain⟨rfl,rfl,rfl⟩:u=cx (î b c) d∧v=cy (î b c) d∧m = -(Ŵ b d).1:=by simpa using hl
    omega
def vm {g:é} {d:Int} (hd:d∈à b g):d∈à (î b c) g:=by
 rcases Ω.1 hd with e|⟨x,hx,h1,h2⟩|hn
 ·exact Ω.2 (.inl e)
 ·exact Ω.2 (.inr (.inl ⟨x,dc.2 (.inl hx),h1,h2⟩))
 ·exact Ω.2 (.inr (.inr hn))
def alG (g:é) (f t:Int):ip (î b c) g f t=ip b g f t:=rfl
def LJ {b':Þ} (h':Č b') {l:List Int} {day:Int} (f:Int→Int→Int) (z:Int) (hl:∀x∈l,∃g∈b'.2.1,g.1=x∧day∈à b' g):Nr b' f z (OC b' l day)=match l with|[]=>z|x::_=>f x day:=by
 unfold OC
 cases l with
 |nil=>exact lg f z
 |cons x t =>
  obtain⟨g,hg,rfl,hd⟩:=hl x (by simp);exact yl h' f z hg hd
def alg (h:Č b) (h':Č (î b c)):(∃p,Pot (Û b) p)↔∃p,Pot (ú (î b c)) p:=by
 constructor
 ·rintro⟨p,hp⟩;obtain⟨hg,hc⟩:=(X0 h).1 hp
  let f:Int→Int→Int:=fun id d=>match ŏ b id with|some g=>fill b p g d|none=>0
  have hfv:∀g∈b.2.1,∀d,f g.1 d=fill b p g d:=fun g hgm d=>by
   show(match ŏ b g.1 with|some g=>fill b p g d|none=>0)=_;rw[Ż h.ids hgm]
  have hq:∀g∈b.2.1,∀d∈à (î b c) g,Nr (î b c) f (p 0) (Ŷ (î b c) g.1 d)=fill b p g d:=fun g hgm d hd=>by
   rw[yl h' f (p 0) hgm hd,hfv g hgm d]
  refine⟨Nr (î b c) f (p 0),(O4 h').2 ⟨fun g hgm=>?_,fun d hd=>?_⟩⟩
  ·have gf:=hg g hgm;have hmade:g.2.1∈à b g:=kw g;have e0:=hq g hgm g.2.1 (kw g);rw[O5 h hgm gf hmade] at e0;refine⟨?_,?_,fun x y hx hy hxy=>?_,fun x y hx hy hxy=>?_⟩
   ·rw[e0,lg]; exact gf.hi
   ·rw[e0,lg]; exact gf.lo
   ·rw[hq g hgm x hx,hq g hgm y hy];exact(IQ h hgm gf (h'.day hgm hx).1 hxy).1
   ·rw[hq g hgm x hx,hq g hgm y hy,alG];exact(IQ h hgm gf (h'.day hgm hx).1 hxy).2
  ·have key:∀l:List Int,(∀x∈l,∃g∈b.2.1,g.1=x∧d.2.1∈à b g)→Nr (î b c) f (p 0) (OC (î b c) l d.2.1)=p (OC b l d.2.1):=by
    intro l hl;rw[LJ h' f (p 0) (fun x hx=>by obtain⟨g,q1,q2,q3⟩:=hl x hx; exact⟨g,q1,q2,vm q3⟩)]
    cases l with
    |nil=>rfl
    |cons x t =>
     obtain⟨g,q1,rfl,q3⟩:=hl x (by simp);show f g.1 d.2.1=p (Ŷ b g.1 d.2.1);rw[hfv g q1,O5 h q1 (hg g q1) q3]
   rw[LA,Lz,key _ (fun x hx=>nf h hd (.inl hx)),key _ (fun x hx=>nf h hd (.inr hx)),←LA,←Lz];exact hc d hd
 ·rintro⟨p,hp⟩;obtain⟨hg,hc⟩:=(O4 h').1 hp
  let f:Int→Int→Int:=fun id d=>p (Ŷ (î b c) id d)
  have hq:∀g∈b.2.1,∀d∈à b g,Nr b f (p 0) (Ŷ b g.1 d)=p (Ŷ (î b c) g.1 d):=fun g hgm d hd=>yl h f (p 0) hgm hd;refine⟨Nr b f (p 0),(X0 h).2 ⟨fun g hgm=>?_,fun d hd=>?_⟩⟩
  ·have gf:=hg g hgm;have e0:=hq g hgm g.2.1 (kw g);refine⟨?_,?_,fun x y hx hy hxy=>?_,fun x y hx hy hxy=>?_⟩
   ·rw[e0,lg]; exact gf.hi
   ·rw[e0,lg]; exact gf.lo
   ·rw[hq g hgm x hx,hq g hgm y hy];exact gf.down x y (vm hx) (vm hy) hxy
   ·rw[hq g hgm x hx,hq g hgm y hy];exact gf.loss x y (vm hx) (vm hy) hxy
  ·have key:∀l:List Int,(∀x∈l,∃g∈b.2.1,g.1=x∧d.2.1∈à b g)→Nr b f (p 0) (OC b l d.2.1)=p (OC (î b c) l d.2.1):=by
    intro l hl;rw[LJ h f (p 0) hl]
    cases l<;>rfl
   rw[LA,Lz,key _ (fun x hx=>nf h hd (.inl hx)),key _ (fun x hx=>nf h hd (.inr hx)),←LA,←Lz];exact hc d hd
end
end Go.Proofs.ZzM
end
