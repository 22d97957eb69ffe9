/- lemmas -/
import Derived.Test.YtmadligicacpkaaGreatAmG
import Derived.Test.YtmadligicacpkaaGreatMdTA
set_option linter.all false
set_option linter.unusedSectionVars false
set_option linter.unusedVariables false
set_option linter.unusedSimpArgs false
noncomputable section
namespace Go.Am
section
variable {ρ:Type}
def Ī {α β:Type} (e:Nat→α→Option β):Nat→List α→Option β
 |_,[]=>none
 |i,a::t=>match e i a with
  |some b=>some b
  |none=>Ī e (i+1) t
def j6 {α β:Type} (l:List α) (e:Nat→α→Option β) (k0:β→Option ρ) (k1:Option ρ) {f:Int→(Int→Option ρ)→Option ρ}
 (h:∀(i:Nat) (a:α),i<l.length→l[i]?=some a→∀kn,f i kn=match e i a with|some b=>k0 b|none=>kn ((i:Int)+1))
 (hn:∀kn,f l.length kn=k1):Ñ f 0=match Ī e 0 l with|some b=>k0 b|none=>k1:=by
 refine aif l (fun i t=>match Ī e i t with|some b=>k0 b|none=>k1) hn fun i a t hd hi ha kn hk=>?_;rw[h i a hi ha kn,hk,Ī]
 cases e i a<;>rfl
def ð {α σ:Type} (l:List α) (g:Nat→σ) (r:Option ρ) {f:Int×σ→(Int×σ→Option ρ)→Option ρ} {s0:σ} (h0:g 0=s0)
 (h:∀(i:Nat) (a:α),i<l.length→l[i]?=some a→∀kn,f (i,g i) kn=kn ((i:Int)+1,g (i+1)))
 (hn:∀kn,f (l.length,g l.length) kn=r):Ñ f (0,s0)=r:=by
 subst h0
 have hs:∀s,(s=g 0)→Ñ f (0,s)=r:=fun s e=>Gr l (fun _ _ _=>r) (fun i s=>s=g i) (fun s hs kn=>by rw[hs]; exact hn kn) (fun i a t s hd hi ha hI kn hk=>by
  rw[hI,h i a hi ha kn]; exact hk _ rfl) e
 exact hs _ rfl
def aie {α σ:Type} (l:List α) (g:Nat→σ) (r:Option ρ) {f:Int×σ→(Int×σ→Option ρ)→Option ρ} {s0:σ} (P:Nat→Prop) (h0:g 0=s0) (hP:P 0)
 (h:∀(i:Nat) (a:α),i<l.length→l[i]?=some a→P i→∀kn,f (i,g i) kn=r∨(P (i+1)∧f (i,g i) kn=kn ((i:Int)+1,g (i+1))))
 (hn:P l.length→∀kn,f (l.length,g l.length) kn=r):Ñ f (0,s0)=r:=by
 subst h0
 have hs:∀s,(s=g 0∧P 0)→Ñ f (0,s)=r:=fun s e=>Gr l (fun _ _ _=>r) (fun i s=>s=g i∧P i) (fun s hs kn=>by rw[hs.1]; exact hn hs.2 kn) (fun i a t s hd hi ha hI kn hk=>by
  rcases h i a hi ha hI.2 kn with h1|⟨h1,h2⟩
  ·rw[hI.1,h1]
  ·rw[hI.1,h2]; exact hk _ ⟨rfl,h1⟩) e
 exact hs _ ⟨rfl,hP⟩
def Î {i n:Nat} (h:i<n) (hn:n≤1000000000) (f:Int→Option ρ):ck ((i:Int)+1) f=f ((i:Int)+1):=Õ (by omega) (by omega) f
def ifb_lt {i n:Nat} (h:i<n) (x y:Option ρ):ifb (ilt (i:Int) (ag4 n)) x y=x:=by simp[Ğ,Nu,h]
def à (n:Nat) (x y:Option ρ):ifb (ilt (n:Int) (ag4 n)) x y=y:=by simp[Ğ,Nu]
def Ó {α:Type} {l:List α} {i:Nat} (h:i<l.length) (x y:Option ρ):ifb (ilt (i:Int) (Ý l)) x y=x:=ifb_lt h x y
def Qb {α:Type} (p:α→Bool):∀(i:Nat) (l:List α),Ī (fun i a=>bif p a then some (i:Int) else none) i l=(l.findIdx? p).map fun j=>((i+j:Nat):Int)
 |_,[]=>rfl
 |i,a::t=>by
  simp only[Ī,List.findIdx?_cons]
  cases hp:p a with
  |true=>simp
  |false =>
   simp only[cond_false,dg,if_false];rw[Qb p (i+1) t]
   cases t.findIdx? p with
   |none=>rfl
   |some j=>simp only[dJ]; congr 1; omega
def ic {α β:Type} {e:Nat→α→Option β}:∀{i:Nat} {l:List α},Ī e i l=none↔∀j a,l[j]?=some a→e (i+j) a=none
 |_,[]=>by simp[Ī]
 |i,a::t=>by
  simp only[Ī];constructor
  ·intro h j b hb
   cases he:e i a with
   |some c=>rw[he] at h; cases h
   |none =>
    rw[he] at h
    cases j with
    |zero=>simp at hb; subst hb; simpa using he
    |succ j=>have:=(ic.1 h) j b (by simpa using hb); rw[←this]; congr 1; omega
  ·intro h;have h0:=h 0 a (by simp);simp only[fk] at h0;rw[h0]
   exact ic.2 fun j b hb=>by have:=h (j+1) b (by simpa using hb); rw[←this]; congr 1; omega
def take_succ {α:Type} {l:List α} {i:Nat} {a:α} (h:l[i]?=some a):l.take (i+1)=l.take i++[a]:=by rw[List.take_succ,h]; rfl
end
end Go.Am
end

noncomputable section
namespace Go.Proofs.ZzM
open Go Go.Am
section
variable {ρ:Type}
def Ņ {τ:Type} {f:τ→(τ→Option ρ)→Option ρ} {r:Option ρ} (I:τ→Prop) (μ:τ→Nat)
 (h:∀x,I x→(∀kn,f x kn=r)∨∃y,I y∧μ y<μ x∧∀kn,f x kn=kn y) {x:τ} (hx:I x):Ñ f x=r :=
 sT (F:=fun _=>r) I μ (fun x hx kn hk=>by
  rcases h x hx with h1|⟨y,h1,h2,h3⟩
  ·exact h1 kn
  ·rw[h3,hk y h1 h2]) hx
def gI {α:Type} (l:List α) (p:α→Bool) (k0:Int→Option ρ) (k1:Option ρ) {f:Int→(Int→Option ρ)→Option ρ}
 (h:∀(i:Nat) (a:α),i<l.length→l[i]?=some a→∀kn,f i kn=if p a then k0 i else kn ((i:Int)+1))
 (hn:∀kn,f l.length kn=k1):Ñ f 0=match l.findIdx? p with|some j=>k0 j|none=>k1:=by
 rw[j6 l (fun i a=>bif p a then some (i:Int) else none) k0 k1 (fun i a hi ha kn=>by rw[h i a hi ha kn]; cases p a<;>rfl) hn,Qb]
 cases l.findIdx? p with
 |none=>rfl
 |some j=>simp
def į {α:Type} (l:List α) (p:α→Bool) (k0:Int→Option ρ) (K k1:Option ρ) {f:Int→(Int→Option ρ)→Option ρ} (hK:∀j:Nat,k0 j=K)
 (h:∀(i:Nat) (a:α),i<l.length→l[i]?=some a→∀kn,f i kn=if p a then k0 i else kn ((i:Int)+1))
 (hn:∀kn,f l.length kn=k1):Ñ f 0=if l.any p then K else k1:=by
 rw[gI l p k0 k1 h hn]
 cases hf:l.findIdx? p with
 |none =>
  have:l.any p=false:=by
   rw[ez];intro x hx;have:=eh.1 hf x hx;simp[this]
  simp[this]
 |some j =>
  have:l.any p=true:=by
   have:=dG.1 hf;obtain⟨hj,hp,_⟩:=this;exact eO.2 ⟨_,fc hj,hp⟩
  simp[this,hK]
end
abbrev é:Type:=Int×Int×Int×(Int×Int)×((Int×Int)×Int)
abbrev KV:Type:=Int×((Int×Int)×Int)
abbrev Cmp:Type:=Int×Int×List Int×List Int×Int×(Int×(Int×Int))
abbrev Ü:Type:=(Int×Int)×List é×List (Int×Int)×List KV×List Cmp×List (Int×Int)
abbrev Sys:Type:=Int×List (Int×Int×Int)
abbrev Maker:Type:=Ü×List (Int×Int)×Sys×List (Int×Int)
section
variable {ρ:Type}
def Ö {b:Bool} (h:b=true) (x y:Option ρ):ifb b x y=x:=by rw[h]; rfl
def Ò {b:Bool} (h:b=false) (x y:Option ρ):ifb b x y=y:=by rw[h]; rfl
end
def I64 (n:Int):Prop:=-9223372036854775808≤n∧n≤9223372036854775807
def inP (n lo hi:Int):Bool:=decide (lo≤n)&&decide (n≤hi)
def Hr (n:Int):Bool:=inP n 0 20000
def jp (s:Int×Int) (lo hi:Int):Bool:=decide (lo≤s.1)&&(decide (s.1≤s.2)&&decide (s.2≤hi))
def υ (n lo hi:Int):Ě n lo hi=some (inP n lo hi):=by
 unfold Ě IJ inP ile
 cases decide (lo≤n)<;>rfl
def Xh (n:Int):m6 n=some (Hr n):=by
 unfold m6 PL;rw[υ]; rfl
def Gv (s:Int×Int) (lo hi:Int):Η s lo hi=some (jp s lo hi):=by
 unfold Η IR jp ile
 cases decide (lo≤s.1)<;>cases decide (s.1≤s.2)<;>rfl
def UO {n:Int} (h:I64 n):qP n=some (n.natAbs:Int):=by
 obtain⟨h1,h2⟩:=h;unfold qP WB
 by_cases hn:n<0
 ·have:ilt n 0=true:=by simpa using hn
  rw[Ö this];congr 1;simp only[IntKind.wrap,IntKind.bits,IntKind.signed];simp;omega
 ·have:ilt n 0=false:=by simpa using hn
  rw[Ò this];congr 1;simp only[IntKind.wrap,IntKind.bits,IntKind.signed];simp;omega
def amm (a b:Nat):Qg a b=some ((Nat.gcd a b:Nat):Int):=by
 unfold Qg acQ;refine Ņ (fun x:Int×Int=>∃c d:Nat,x=((c:Int),(d:Int))∧Nat.gcd c d=Nat.gcd a b) (fun x=>x.2.toNat) ?_ ⟨a,b,rfl,rfl⟩;rintro x ⟨c,d,rfl,hg⟩
 cases d with
 |zero =>
  refine .inl fun kn=>?_;rw[Nat.gcd_zero_right] at hg;unfold zz;simp[hg,ine]
 |succ d =>
  refine .inr ⟨(((d+1:Nat):Int),((c % (d+1):Nat):Int)),⟨d+1,c % (d+1),rfl,?_⟩,?_,fun kn=>?_⟩
  ·rw[←hg,gD c (d+1),Nat.gcd_rec (d+1) c,gD]
  ·have:=gp c (gk d);simp only[di];omega
  ·unfold zz
   have h1:ine ((d+1:Nat):Int) 0=true:=by simp[ine]; omega
   have h2:ł ((d+1:Nat):Int) 0=false:=by simp[ł]; omega
   simp only[h1,Ö Ò h2];congr 1
def JG (r:Int×Int):Bool :=
 decide (1≤r.2)&&(decide (r.2≤2147483647)&&(decide ((r.1.natAbs:Int)≤2147483647)&&decide (Nat.gcd r.1.natAbs r.2.natAbs=1)))
def XT {r:Int×Int} (h:I64 r.1):tk r=some (JG r):=by
 unfold tk Pr JG
 by_cases h1:1≤r.2
 ·by_cases h2:r.2≤2147483647
  ·have h3:I64 r.2:=⟨by omega,by omega⟩
   have e1:ige r.2 1=true:=by simp[ige,h1]
   have e2:ile r.2 2147483647=true:=by simp[ile,h2]
   rw[Ö e1,Ö e2,UO h,À]
   by_cases h4:(r.1.natAbs:Int)≤2147483647
   ·have e4:ile (r.1.natAbs:Int) 2147483647=true:=by simp[ile,h4]
    rw[Ö e4,À,UO h3,À,amm,À];congr 1;rw[dH];simp only[ieq,beq_iff_eq,h1,h2,h4,decide_true,dO,decide_eq_true_eq];omega
   ·have e4:ile (r.1.natAbs:Int) 2147483647=false:=by simp[ile]; omega
    rw[Ò e4];simp[h4]
  ·have e1:ige r.2 1=true:=by simp[ige,h1]
   have e2:ile r.2 2147483647=false:=by simp[ile]; omega
   rw[Ö e1,Ò e2];simp[h2]
 ·have e1:ige r.2 1=false:=by simp[ige]; omega
  rw[Ò e1];simp[h1]
def pm (g:é):Bool :=
 JG g.2.2.2.2.1&&inP g.2.2.2.2.1.1 (-1000) 1000&&decide (g.2.2.2.2.1.2≤100)&&inP g.1 1 1099511627776&&Hr g.2.1&&inP g.2.2.1 1 1125899906842624&&jp g.2.2.2.1 (-1073741824) 1073741824&&inP g.2.2.2.2.2 0 1048576
def agb {g:é} (h:I64 g.2.2.2.2.1.1):vx g=some (pm g):=by
 unfold vx C8 pm;rw[XT h,υ,υ,Xh,υ,Gv,υ];generalize JG g.2.2.2.2.1=x1;generalize inP g.2.2.2.2.1.1 (-1000) 1000=x2;generalize inP g.1 1 1099511627776=x3;generalize Hr g.2.1=x4;generalize inP g.2.2.1 1 1125899906842624=x5;generalize jp g.2.2.2.1 (-1073741824) 1073741824=x6;generalize inP g.2.2.2.2.2 0 1048576=x7;unfold ile;generalize decide (g.2.2.2.2.1.2≤100)=x8
 cases x1<;>cases x2<;>cases x3<;>cases x4<;>cases x5<;>cases x6<;>cases x8<;>rfl
section
variable {ρ:Type}
def Gx {α:Type} {l:List α} {i:Nat} {a:α} (h0:0<i) (h:l[i-1]?=some a) (f:α→Option ρ):ü l ((i:Int)-1) f=f a:=by
 have:((i:Int)-1)=((i-1:Nat):Int):=by omega
 rw[this,Ë h]
def Qt {i:Nat} (h:0<i) (hn:i≤1000000000) (f:Int→Option ρ):ck ((i:Int)-1) f=f ((i:Int)-1):=Õ (by omega) (by omega) f
def gK {i n:Nat} (h:i<n) (x:Option ρ):è ((ile 0 (i:Int))&&(ilt (i:Int) (n:Int))) x=x:=by
 have:((ile 0 (i:Int))&&(ilt (i:Int) (n:Int)))=true:=by simp[ile,ilt,h]
 rw[this,Am.iff_true]
def ĥ {α:Type} {l:List α} {i:Nat} {a:α} (h:l[i]?=some a) (f:α→Option ρ):ľ l (Int.toNat (i:Int)) f=f a:=by
 rw[di]; exact nM h f
end
def Ds {α:Type} (key:α→Int) (l:List α) (i:Nat) (a:α):Bool :=
 decide (0<i)&&(l[i-1]?).any fun q=>decide (key a≤key q)
def DH {α:Type} {l:List α} {i:Nat} (hi:i<l.length) (h0:0<i):∃q,l[i-1]?=some q :=
 ⟨l[i-1],cG (by omega)⟩
def XM {α:Type} (key:α→Int) (l:List α):(∀i a,l[i]?=some a→Ds key l i a=false)↔l.Pairwise (fun a b=>key a<key b):=by
 rw[dC];constructor
 ·intro h
  have step:∀i (h1:i+1<l.length),key l[i]<key l[i+1]:=by
   intro i h1;have:=h (i+1) l[i+1] (cG h1);simp only[Ds,Nat.add_sub_cancel,gk,decide_true,dO,cG (show i<l.length by omega),Option.any_some,decide_eq_false_iff_not] at this;omega
  intro i j hi hj hij
  induction j with
  |zero=>omega
  |succ j ih =>
   have:=step j hj;rcases dv i j with hlt|hge
   ·have:=ih (by omega) hlt; omega
   ·have:i=j:=by omega
    subst this; assumption
 ·intro h i a ha;obtain⟨hi,rfl⟩:=List.getElem?_eq_some_iff.1 ha;unfold Ds
  cases i with
  |zero=>rfl
  |succ i =>
   have:=h i (i+1) (by omega) hi (by omega);simp only[Nat.add_sub_cancel,gk,decide_true,dO,cG (show i<l.length by omega),Option.any_some,decide_eq_false_iff_not];omega
def nB (l:List é) (i:Nat) (g:é):Option Int :=
 if !pm g then some 1 else if Ds (fun g=>g.1) l i g then some 6 else none
def iT (b:Ü):Int:=(Ī (nB b.2.1) 0 b.2.1).getD 0
def SU {b:Ü} (hr:∀g∈b.2.1,I64 g.2.2.2.2.1.1) (hn:b.2.1.length≤1000):Ŷ b=some (iT b):=by
 unfold Ŷ ph;refine Eq.trans (j6 b.2.1 (nB b.2.1) some (some 0) (fun i a hi ha kn=>?_) (fun kn=>?_)) ?_
 ·try dsimp only
  unfold iG;rw[Ó hi,Ë ha,agb (hr a (List.mem_of_getElem? ha)),À];unfold nB
  cases hg:pm a with
  |false=>simp
  |true =>
   simp only[dY,î,dg,if_false];rcases fh i with h0|h0
   ·subst h0
    have:igt ((0:Nat):Int) 0=false:=by simp[igt]
    rw[Ò this,Î hi (by omega)];simp[Ds]
   ·obtain⟨q,hq⟩:=DH hi h0
    have h1:igt (i:Int) 0=true:=by simp[igt]; omega
    rw[Ö h1,Qt h0 (by omega),Gx h0 hq];simp only[Ds,h0,decide_true,Bool.true_and,hq,Option.any_some];unfold ile
    cases h2:decide (a.1≤q.1) with
    |true=>simp
    |false =>
     rw[î,Î hi (by omega)];simp
 ·try dsimp only
  unfold iG;rw[à]
 ·unfold iT
  cases Ī (nB b.2.1) 0 b.2.1<;>rfl
def Ym (l:List é):List (Int×é):=l.foldl (fun m g=>Mo (k:=tI) (v:=Ð) g.1 g m) []
def gU (b:Ü):List (Int×é):=Ym b.2.1
def Tb {b:Ü} (hn:b.2.1.length≤1000):Ω b=some (gU b):=by
 unfold Ω C5;refine ð b.2.1 (fun i=>Ym (b.2.1.take i)) _ rfl (fun i a hi ha kn=>?_) (fun kn=>?_)
 ·try dsimp only
  unfold ml;rw[Ó hi,Ë ha,Î hi (by omega),take_succ ha];simp only[Ym,List.foldl_append,List.foldl_cons,List.foldl_nil]
 ·try dsimp only
  unfold ml;rw[à,List.take_length];rfl
def Zd (x y:Int) (g:é):∀m:List (Int×é),rX (k:=tI) (v:=Ð) x (Mo (k:=tI) (v:=Ð) y g m)=if x=y then some g else rX (k:=tI) (v:=Ð) x m
 |[]=>by
  unfold Mo rX jV rX
  by_cases h:x=y<;>simp[h]
 |e::m=>by
  unfold Mo
  by_cases h:y=e.1
  ·have:jV tI y e.1=true:=by simp[jV,h]
   rw[this]
   try dsimp only
   unfold rX jV
   by_cases h2:x=y
   ·simp[h2]
   ·have:¬x=e.1:=fun h3=>h2 (h3.trans h.symm);simp[h2,this]
  ·have:jV tI y e.1=false:=by simp[jV,h]
   rw[this]
   try dsimp only
   have ih:=Zd x y g m;unfold rX
   by_cases h2:x=e.1
   ·have:jV tI x e.1=true:=by simp[jV,h2]
    rw[this];have:¬x=y:=fun h3=>h (h3.symm.trans h2);simp[this]
   ·have:jV tI x e.1=false:=by simp[jV,h2]
    rw[this];exact ih
def Ŧ (b:Ü) (id:Int):Option é:=b.2.1.find? fun g=>g.1==id
def ack (x:Int) (l:List é):rX (k:=tI) (v:=Ð) x (Ym l)=l.reverse.find? fun g=>g.1==x:=by
 unfold Ym;rw[←List.foldr_reverse]
 induction l.reverse with
 |nil=>rfl
 |cons g t ih =>
  rw[List.foldr_cons,Zd,ih,gh]
  by_cases h:x=g.1
  ·simp[h]
  ·have:(g.1==x)=false:=by simp; exact fun h2=>h h2.symm
   simp[h,this]
def aa2 {l:List é} (h:l.Pairwise fun a b=>a.1<b.1) (x:Int):l.reverse.find? (fun g=>g.1==x)=l.find? fun g=>g.1==x:=by
 induction l with
 |nil=>rfl
 |cons g t ih =>
  rw[dA] at h;rw[List.reverse_cons,List.find?_append,ih h.2,gh]
  by_cases hx:g.1=x
  ·have:t.find? (fun g=>g.1==x)=none:=ee.2 fun y hy=>by have:g.1<y.1:=h.1 y hy; simp; omega
   rw[this]; simp[hx]
  ·have:(g.1==x)=false:=by simp[hx]
   simp[this]
def zr {b:Ü} (h:b.2.1.Pairwise fun a b=>a.1<b.1) (x:Int):rX (k:=tI) (v:=Ð) x (gU b)=Ŧ b x:=by
 unfold gU Ŧ;rw[ack,aa2 h]
def mw (s:List (Int×é)) (id day:Int):Int :=
 match rX (k:=tI) (v:=Ð) id s with
 |some g=>if day<g.2.1 then 4 else 0
 |none=>5
def acm (s:List (Int×é)) (id day:Int):iz s id day=some (mw s id day):=by
 unfold iz ru mw
 cases h:rX (k:=tI) (v:=Ð) id s with
 |none=>simp only[X2,h]
 |some g =>
  simp only[X2,h];rw[Ğ]
  by_cases h2:day<g.2.1<;>simp[h2]
def afB (s:List (Int×é)) (id day:Int):Int:=if !Hr day then 1 else mw s id day
def YG (s:List (Int×é)) (id day:Int):ļ id day s=some (afB s id day):=by
 unfold ļ C7 afB;rw[Xh,À,acm,À]
 cases Hr day<;>rfl
def SQ (b:Ü) (s:List (Int×é)) (i:Nat) (l:KV):Int :=
 if !jp l.2.1 0 20000 then 1 else if !inP l.2.2 0 1048576 then 1 else if mw s l.1 l.2.1.1 != 0 then mw s l.1 l.2.1.1 else
 if (b.2.2.2.1.take i).any (fun x=>x.1==l.1&&(decide (x.2.1.1≤l.2.1.2)&&decide (l.2.1.1≤x.2.1.2))) then 9 else
 if b.2.2.1.any (fun u=>u.1==l.1&&inP u.2 l.2.1.1 l.2.1.2) then 9 else 0
def abf {b:Ü} (hn:b.2.2.2.1.length≤1000) (hu:b.2.2.1.length≤1000) (s:List (Int×é)) {i:Nat} {l:KV} (hl:b.2.2.2.1[i]?=some l):Ν b s i=some (SQ b s i l):=by
 unfold Ν uS SQ;have hi:i<b.2.2.2.1.length:=(List.getElem?_eq_some_iff.1 hl).1;rw[Ë hl,Gv,À,υ,À,acm,À]
 cases jp l.2.1 0 20000 with
 |false=>rfl
 |true =>
 cases inP l.2.2 0 1048576 with
 |false=>rfl
 |true =>
 cases hm:(mw s l.1 l.2.1.1 != 0) with
 |true =>
  have:ine (mw s l.1 l.2.1.1) 0=true:=hm;simp[this]
 |false =>
 have hm':ine (mw s l.1 l.2.1.1) 0=false:=hm
 have hg:((ile (0:Int) (i:Int))&&(ile (i:Int) (č b.2.2.2.1)))=true:=by simp[ile,č]; omega
 simp only[dY,î,hm',dg,if_false];rw[Ė hg,di]
 have inner:∀(k:Int→Option Int),Ñ (fun(v:Int) kk=>Ζ b.2.2.1 (Ý b.2.2.1) l.1 l.2.1.1 l.2.1.2 v (fun u=>kk u) (fun z=>ifb (ige z 0) (k 9) (k 0)) (fun _=>k 0)) (0:Int)=if b.2.2.1.any (fun u=>u.1==l.1&&inP u.2 l.2.1.1 l.2.1.2) then k 9 else k 0:=by
  intro k;refine į b.2.2.1 _ (fun z=>ifb (ige z 0) (k 9) (k 0)) (k 9) (k 0) (fun j=>?_) (fun j a hj ha kn=>?_) (fun kn=>?_)
  ·have:ige (j:Int) 0=true:=by simp[ige]
   rw[Ö this]
  ·try dsimp only
   unfold Ζ;rw[Ó hj,Ë ha,υ,À,Î hj (by omega)]
   cases h1:(a.1==l.1) with
   |false =>
    have:ieq a.1 l.1=false:=h1;simp[this]
   |true =>
    have:ieq a.1 l.1=true:=h1;rw[this]
    cases inP a.2 l.2.1.1 l.2.1.2<;>simp
  ·try dsimp only
   unfold Ζ;rw[à]
 rw[inner];refine eI (į (b.2.2.2.1.take i) (fun x=>x.1==l.1&&(decide (x.2.1.1≤l.2.1.2)&&decide (l.2.1.1≤x.2.1.2))) (fun z=>ifb (ige z 0) (some 9) (if b.2.2.1.any (fun u=>u.1==l.1&&inP u.2 l.2.1.1 l.2.1.2) then some 9 else some 0)) (some 9) (if b.2.2.1.any (fun u=>u.1==l.1&&inP u.2 l.2.1.1 l.2.1.2) then some 9 else some 0) (fun j=>?_) (fun j a hj ha kn=>?_) (fun kn=>?_)) ?_
 ·have:ige (j:Int) 0=true:=by simp[ige]
  rw[Ö this]
 ·try dsimp only
  unfold jH
  have hj':j≤1000:=by rw[cY] at hj; omega
  rw[Ó hj,Ë ha,Î hj (by rw[cY]; omega)]
  cases h1:(a.1==l.1) with
  |false =>
   have:ieq a.1 l.1=false:=h1;simp[this]
  |true =>
   have:ieq a.1 l.1=true:=h1;rw[this]
   cases h2:decide (a.2.1.1≤l.2.1.2)<;>cases h3:decide (l.2.1.1≤a.2.1.2)<;>simp[ile,h2,h3,Ğ]<;>simp_all
 ·try dsimp only
  unfold jH;rw[à]
 ·cases List.any (b.2.2.2.1.take i) _<;>cases b.2.2.1.any _<;>rfl
def aka {l:List Int} (hn:l.length≤1000000) (x:Int):jf l x=some (match l.findIdx? (·==x) with|some j=>(j:Int)|none=>-1):=by
 unfold jf lI;refine Eq.trans (gI l (·==x) some (some (-1)) (fun i a hi ha kn=>?_) (fun kn=>?_)) ?_
 ·try dsimp only
  unfold π;rw[Ó hi,Ë ha,Î hi (by omega),Ğ]
  by_cases h:x=a
  ·subst h; simp[ieq]
  ·have h2:¬a=x:=fun e=>h e.symm;simp[ieq,h,h2]
 ·try dsimp only
  unfold π;rw[à]
 ·cases l.findIdx? (·==x)<;>rfl
def m9 {l:List Int} (hn:l.length≤1000000) (x:Int):Ģ l x=some (l.contains x):=by
 unfold Ģ jn;rw[aka hn,À];congr 1
 cases h:l.findIdx? (·==x) with
 |none =>
  have:l.contains x=false:=by
   rw[eE];intro hc;have:=eh.1 h x (by simpa using hc);simp at this
  rw[this]; rfl
 |some j =>
  obtain⟨hj,hp,_⟩:=dG.1 h
  have:l.contains x=true:=by
   have h2:l[j]=x:=by simpa using hp
   rw[←h2]; simp
  rw[this];simp[ige]
def å (a b:List Int):List Int:=a.filter fun x=>!b.contains x
def rA {a b:List Int} (ha:a.length≤1000000) (hb:b.length≤1000000):ŧ a b=some (å a b):=by
 unfold ŧ WS;rw[Ô (by omega),Am.iff_true]
 have second:∀z:Nat,z<a.length→å (a.take z) b=a.take z→b.contains (a[z]?.getD 0)=true →
  Ñ (fun(v13:(Val (.pair tI (.pair tI (.slice tI))))) kk17=>jT b v13.1 v13.2.1 v13.2.2 (fun u14 u15 u16=>kk17 (u14,u15,u16)) (fun z12=>è ((ile (0:Int) z12.1)&&(ile z12.1 (č z12.2))) (è ((ile (0:Int) z12.1)&&(ile z12.1 (č (List.take (Int.toNat z12.1) z12.2++List.replicate (List.length z12.2-(Int.toNat z12.1)) (0:Int)++List.drop ((Int.toNat z12.1)+(List.length z12.2-(Int.toNat z12.1))) z12.2)))) (some (List.take (Int.toNat z12.1) (List.drop 0 (List.take (Int.toNat z12.1) z12.2++List.replicate (List.length z12.2-(Int.toNat z12.1)) (0:Int)++List.drop ((Int.toNat z12.1)+(List.length z12.2-(Int.toNat z12.1))) z12.2))))))) ((z:Int),((z:Int)+1),a)=some (å a b):=by
  intro z hz hp hc
  refine Ņ (fun x:Int×Int×List Int=>∃i j:Nat,x.1=i∧x.2.1=j∧i<j∧j≤a.length∧x.2.2.length=a.length∧x.2.2.take i=å (a.take j) b∧x.2.2.drop j=a.drop j) (fun x=>a.length-x.2.1.toNat) ?_
   ⟨z,z+1,rfl,by simp,by omega,by omega,rfl,?_,rfl⟩
  ·rintro⟨x1,x2,s⟩ ⟨i,j,h1,h2,hij,hja,hl,ht,hd⟩;simp only at h1 h2 hl ht hd;subst h1 h2;rcases dv j a.length with hj|hj
   ·refine .inr ?_
    have hsj:s[j]?=some a[j]:=by
     have h3:(s.drop j)[0]?=(a.drop j)[0]?:=by rw[hd]
     rw[eN,eN] at h3;simpa[cG hj] using h3
    have hjs:j<s.length:=by omega
    have hta:å (a.take (j+1)) b=å (a.take j) b++if b.contains a[j] then[] else[a[j]]:=by
     rw[take_succ (cG hj),å,å,gn];congr 1
     cases h:b.contains a[j] with
     |true=>simp only[dL,h,dY,dg,if_false,dR,if_true]
     |false=>simp only[dL,h,gq,dg,if_false,dR,if_true]
    cases h:b.contains a[j] with
    |true =>
     refine⟨(i,(j:Int)+1,s),⟨i,j+1,rfl,by simp,by omega,by omega,hl,?_,?_⟩,by simp; omega,fun kn=>?_⟩
     ·rw[hta,h]; simpa using ht
     ·have:=congrArg (List.drop 1) hd;simpa[fV,Nat.add_comm] using this
     ·try dsimp only
      unfold jT;rw[Ó hjs,gK hjs,ĥ hsj,m9 hb,À,h];simp only[Bool.not_true,î];rw[Î hjs (by omega)]
    |false =>
     have his:i<s.length:=by omega
     refine⟨((i:Int)+1,(j:Int)+1,s.set i a[j]),⟨i+1,j+1,by simp,by simp,by omega,by omega,by simpa using hl,?_,?_⟩,by simp; omega,fun kn=>?_⟩
     ·show List.take (i+1) (s.set i a[j])=_;rw[hta,h,List.take_succ,fF,List.take_set_of_le (cH i),ht];simp[his]
     ·show List.drop (j+1) (s.set i a[j])=_;rw[List.drop_set_of_lt (by omega)];have:=congrArg (List.drop 1) hd;simpa[fV,Nat.add_comm] using this
     ·try dsimp only
      unfold jT;rw[Ó hjs,gK hjs,ĥ hsj,m9 hb,À,h];simp only[Bool.not_false,ĺ];rw[gK his,ĥ (List.getElem?_eq_getElem his),Î his (by omega),Î hjs (by omega),Int.toNat_natCast]
   ·refine .inl fun kn=>?_
    have hje:j=s.length:=by omega
    try dsimp only
    unfold jT;rw[hje,à];dsimp only
    have g1:((ile (0:Int) (i:Int))&&(ile (i:Int) (č s)))=true:=by simp[ile,č]; omega
    rw[Ė g1]
    have g2:((ile (0:Int) (i:Int))&&(ile (i:Int) (č (List.take (Int.toNat (i:Int)) s++List.replicate (List.length s-(Int.toNat (i:Int))) (0:Int)++List.drop ((Int.toNat (i:Int))+(List.length s-(Int.toNat (i:Int)))) s))))=true:=by
     simp[ile,č]; omega
    rw[Ė g2,di,List.drop_zero,dh,List.take_append_of_le_length (by simp; omega),List.take_take,Nat.min_self,ht];rw[dP (by omega)]
  ·show List.take z a=å (a.take (z+1)) b;have hz':a[z]?=some a[z]:=cG hz;rw[take_succ hz',å,gn];rw[hz'] at hc;simp only[fe] at hc
   have:List.filter (fun x=>!b.contains x) [a[z]]=[]:=by simp only[dL,hc,dY,dg,if_false,dR]
   rw[this,dF];exact hp.symm
 refine eI (gI a (fun x=>b.contains x) (fun z4=>ifb (ieq z4 (-1:Int)) (some a) (ck (z4+(1:Int)) fun n5=>Ñ (fun(v13:(Val (.pair tI (.pair tI (.slice tI))))) kk17=>jT b v13.1 v13.2.1 v13.2.2 (fun u14 u15 u16=>kk17 (u14,u15,u16)) (fun z12=>è ((ile (0:Int) z12.1)&&(ile z12.1 (č z12.2))) (è ((ile (0:Int) z12.1)&&(ile z12.1 (č (List.take (Int.toNat z12.1) z12.2++List.replicate (List.length z12.2-(Int.toNat z12.1)) (0:Int)++List.drop ((Int.toNat z12.1)+(List.length z12.2-(Int.toNat z12.1))) z12.2)))) (some (List.take (Int.toNat z12.1) (List.drop 0 (List.take (Int.toNat z12.1) z12.2++List.replicate (List.length z12.2-(Int.toNat z12.1)) (0:Int)++List.drop ((Int.toNat z12.1)+(List.length z12.2-(Int.toNat z12.1))) z12.2))))))) (z4,n5,a))) (some a) (fun i x hi hx kn=>?_) (fun kn=>?_)) ?_
 ·try dsimp only
  unfold uP;rw[Ó hi,gK hi,ĥ hx,m9 hb,À,Î hi (by omega),Ğ]
 ·try dsimp only
  unfold uP;rw[à]
 ·cases h:a.findIdx? (fun x=>b.contains x) with
  |none =>
   have:å a b=a:=by
    rw[å,List.filter_eq_self];intro x hx;have:=eh.1 h x hx;simpa using this
   rw[this]
  |some z =>
   obtain⟨hz,hc,hlt⟩:=dG.1 h
   have h1:ieq (z:Int) (-1)=false:=by simp[ieq]
   try dsimp only
   rw[Ò h1,Î hz (by omega)];refine second z hz ?_ ?_
   ·rw[å,List.filter_eq_self];intro x hx;obtain⟨j,hj,rfl⟩:=cZ.1 hx;rw[cY] at hj;rw[List.getElem_take];have:=hlt j (by omega);simpa using this
   ·rw[cG hz]; exact hc
def ww (l:List Int) (i:Nat) (a:Int):Option Bool:=if !inP a 1 1099511627776 then some false else if Ds (fun x=>x) l i a then some false else none
def la (l:List Int):Bool:=match Ī (ww l) 0 l with|some _=>false|none=>decide (l.length≤6)
def Gu {l:List Int} (hn:l.length≤1000000):l5 l=some (la l):=by
 unfold l5 IQ;refine Eq.trans (j6 l (ww l) some (some (decide (l.length≤6))) (fun i a hi ha kn=>?_) (fun kn=>?_)) ?_
 ·try dsimp only
  unfold nZ;rw[Ó hi,Ë ha,υ,À];unfold ww
  cases inP a 1 1099511627776 with
  |false=>rfl
  |true =>
   simp only[dY,î,dg,if_false];rcases fh i with h0|h0
   ·subst h0
    have:igt ((0:Nat):Int) 0=false:=by simp[igt]
    rw[Ò this,Î hi (by omega)];simp[Ds]
   ·obtain⟨q,hq⟩:=DH hi h0
    have h1:igt (i:Int) 0=true:=by simp[igt]; omega
    rw[Ö h1,Qt h0 (by omega),Gx h0 hq];simp only[Ds,h0,decide_true,Bool.true_and,hq,Option.any_some];unfold ile
    cases h2:decide (a≤q) with
    |true=>rfl
    |false =>
     rw[î,Î hi (by omega)];rfl
 ·try dsimp only
  unfold nZ;rw[à,æ];simp[ile];omega
 ·have hb:∀x,Ī (ww l) 0 l=some x→x=false:=by
   have:∀(m:List Int) (j:Nat) (x:Bool),Ī (ww l) j m=some x→x=false:=by
    intro m
    induction m with
    |nil=>intro j x h; cases h
    |cons a m ih =>
     intro j x h;unfold Ī at h
     cases hp:ww l j a with
     |none=>rw[hp] at h; exact ih _ _ h
     |some y =>
      rw[hp] at h;cases h;unfold ww at hp
      split at hp
      ·cases hp; rfl
      ·split at hp
       ·cases hp; rfl
       ·cases hp
   exact this l 0
  unfold la
  cases h:Ī (ww l) 0 l with
  |none=>rfl
  |some x=>rw[hb x h]
def DI (l:List Int):la l=true↔(∀x∈l,1≤x∧x≤1099511627776)∧l.Pairwise (·<·)∧l.length≤6:=by
 have h0:Ī (ww l) 0 l=none↔(∀x∈l,1≤x∧x≤1099511627776)∧l.Pairwise (·<·):=by
  rw[ic,←XM (fun x=>x) l];constructor
  ·intro h
   have h1:∀(j:Nat) (a:Int),l[j]?=some a→inP a 1 1099511627776=true∧Ds (fun x=>x) l j a=false:=by
    intro j a ha;have:=h j a ha;rw[Nat.zero_add] at this;unfold ww at this
    split at this
    ·cases this
    ·split at this
     ·cases this
     ·rename_i h1 h2;exact⟨by simpa using h1,by simpa using h2⟩
   refine⟨fun x hx=>?_,fun i a ha=>(h1 i a ha).2⟩;obtain⟨j,hj,rfl⟩:=cZ.1 hx;have:=(h1 j l[j] (cG hj)).1;simpa[inP] using this
  ·rintro⟨h1,h2⟩ j a ha;rw[df];have h3:=h1 a (cO ha)
   have:inP a 1 1099511627776=true:=by simpa[inP] using h3
   simp[ww,this,h2 j a ha]
 unfold la
 cases h:Ī (ww l) 0 l with
 |none =>
  obtain⟨h1,h2⟩:=h0.1 h;simp only[decide_eq_true_eq];exact⟨fun h3=>⟨h1,h2,h3⟩,fun h3=>h3.2.2⟩
 |some x =>
  constructor
  ·intro h2; cases h2
  ·rintro⟨h1,h2,h3⟩;rw[h0.2 ⟨h1,h2⟩] at h; cases h
def akc {a b:List Int} (ha:a.length≤1000000) (hb:b.length≤1000000):ì [a,b]=some (a++b):=by
 have hk:∀n:Nat,n≤4000000→∀(f:Int→Option (List Int)),ck (n:Int) f=f n:=fun n h f=>Õ (by omega) (by omega) f
 have second:Ñ (fun(v9:(Val (.pair tI (.slice tI)))) kk12=>ï [a,b] (Ý [a,b]) v9.1 v9.2 (fun u10 u11=>kk12 (u10,u11)) (fun z8=>some z8)) ((0:Int),([]:List Int))=some (a++b):=by
  refine ð [a,b] (fun i=>([a,b].take i).flatten) (some (a++b)) (f:=fun(v9:(Val (.pair tI (.slice tI)))) kk12=>ï [a,b] (Ý [a,b]) v9.1 v9.2 (fun u10 u11=>kk12 (u10,u11)) (fun z8=>some z8)) rfl (fun i x hi hx kn=>?_) (fun kn=>?_)
  ·try dsimp only
   unfold ï;rw[Ó hi,Ë hx,Î hi (by simp),take_succ hx,List.flatten_append]
   have:ç ((List.take i [a,b]).flatten.length+x.length)=true:=by
    refine Ô ?_
    have h1:x.length≤1000000:=by
     have:=cO hx;simp at this
     rcases this with rfl|rfl<;>assumption
    have h2:(List.take i [a,b]).flatten.length≤2000000:=by
     have:i=0∨i=1:=by simp at hi; omega
     rcases this with rfl|rfl<;>simp<;>omega
    omega
   rw[Ė this];simp
  ·try dsimp only
   unfold ï;rw[à];simp
 unfold ì iE;refine Ņ (fun x:Int×Int=>∃i:Nat,i≤2∧x=((([a,b].take i).flatten.length:Int),(i:Int))) (fun x=>2-x.2.toNat) ?_ ⟨0,by omega,rfl⟩;rintro x ⟨i,hi,rfl⟩;rcases Nat.lt_or_ge i 2 with h2|h2
 ·refine .inr ⟨((([a,b].take (i+1)).flatten.length:Int),(i:Int)+1),⟨i+1,h2,by simp⟩,by simp; omega,fun kn=>?_⟩;have hi':i<[a,b].length:=h2;obtain⟨x,hx⟩:∃x,[a,b][i]?=some x:=⟨_,cG hi'⟩
  have hxl:x.length≤1000000:=by
   have:=cO hx;simp at this
   rcases this with rfl|rfl<;>assumption
  have h3:(List.take i [a,b]).flatten.length≤2000000:=by
   have:i=0∨i=1:=by omega
   rcases this with rfl|rfl<;>simp<;>omega
  try dsimp only
  unfold Į;rw[Ó hi',Ë hx,æ]
  have e1:(((List.take i [a,b]).flatten.length:Int)+(x.length:Int))=((List.take i [a,b]).flatten.length+x.length:Nat):=by omega
  rw[e1,hk _ (by omega)]
  have:ilt ((((List.take i [a,b]).flatten.length+x.length:Nat)):Int) 0=false:=by simp[ilt]; omega
  rw[Ò this,Î hi' (by simp),take_succ hx];simp
 ·refine .inl fun kn=>?_
  obtain rfl:i=2:=by omega
  try dsimp only
  unfold Į;rw[show((2:Nat):Int)=(([a,b].length:Nat):Int) from rfl,à]
  have e1:((List.take 2 [a,b]).flatten.length:Int)=((a.length+b.length:Nat):Int):=by simp
  have e2:ilt (((a.length+b.length:Nat)):Int) 0=false:=by simp[ilt]; omega
  rw[e1];dsimp only;rw[Ò e2,Int.sub_zero,hk _ (by omega)];rcases Nat.eq_zero_or_pos (a.length+b.length) with h0|h0
  ·have:igt (((a.length+b.length:Nat)):Int) 0=false:=by simp[igt]; omega
   rw[Ò this];exact second
  ·have:igt (((a.length+b.length:Nat)):Int) 0=true:=by simp[igt]; omega
   rw[Ö this]
   have:((ilt (0:Int) (((a.length+b.length:Nat)):Int))&&(ç (Int.toNat (((a.length+b.length:Nat)):Int))))=true:=by
    rw[di,Ô (by omega)];simp[ilt]; omega
   rw[Ė this]
   have:ile 0 (č (List.replicate (Int.toNat (((a.length+b.length:Nat)):Int)) (0:Int)))=true:=by simp[ile]
   rw[Ė this];exact second
def kX (b:Ü) (id day:Int):Option KV:=b.2.2.2.1.find? fun l=>l.1==id&&inP day l.2.1.1 l.2.1.2
def Xp {α:Type} (p:α→Bool):∀l:List α,l.find? p=(match l.findIdx? p with|some j=>l[j]?|none=>none)
 |[]=>rfl
 |a::l=>by
  rw[gh,List.findIdx?_cons]
  cases h:p a with
  |true=>simp
  |false =>
   simp only[dg,if_false];rw[Xp p l]
   cases l.findIdx? p<;>simp
def anB {b:Ü} (hn:b.2.2.2.1.length≤1000) (id day:Int):zU b id day=some (match kX b id day with|some l=>(l,true)|none=>((0,(0,0),0),false)):=by
 unfold zU W4;refine Eq.trans (gI b.2.2.2.1 (fun l=>l.1==id&&inP day l.2.1.1 l.2.1.2) (fun z5=>ifb (ilt z5 (0:Int)) (some (((0:Int),((0:Int),(0:Int)),(0:Int)),false)) (ü b.2.2.2.1 z5 fun e6=>some (e6,true))) (some ((0,(0,0),0),false)) (fun i a hi ha kn=>?_) (fun kn=>?_)) ?_
 ·try dsimp only
  unfold uT;rw[Ó hi,Ë ha,υ,À,Î hi (by omega)]
  cases h1:(a.1==id) with
  |false =>
   have:ieq a.1 id=false:=h1;simp[this]
  |true =>
   have:ieq a.1 id=true:=h1;rw[this]
   cases inP day a.2.1.1 a.2.1.2<;>simp
 ·try dsimp only
  unfold uT;rw[à]
 ·unfold kX;rw[Xp]
  cases h:b.2.2.2.1.findIdx? (fun l=>l.1==id&&inP day l.2.1.1 l.2.1.2) with
  |none=>rfl
  |some j =>
   obtain⟨hj,_,_⟩:=dG.1 h
   have:ilt (j:Int) 0=false:=by simp[ilt]
   try dsimp only
   rw[Ò this,Ë (cG hj),cG hj]
def am6 (a:Int):List Int→List Int
 |[]=>[a]
 |b::t=>if a≤b then a::b::t else b::am6 a t
def Ud:List Int→List Int
 |[]=>[]
 |a::t=>am6 a (Ud t)
def wG (p:Option Int):List Int→List Int
 |[]=>[]
 |a::t=>if p=some a then wG (some a) t else a::wG (some a) t
def Yn (l:List Int):List Int:=wG none (Ud l)
def P0 (a:Int):∀l,(am6 a l).Perm (a::l)
 |[]=>List.Perm.refl _
 |b::t=>by
  unfold am6
  split
  ·exact List.Perm.refl _
  ·exact((P0 a t).cons b).trans (List.Perm.swap a b t)
def uX:∀l,(Ud l).Perm l
 |[]=>List.Perm.refl _
 |a::t=>(P0 a _).trans ((uX t).cons a)
def PZ (a:Int):∀{l:List Int},l.Pairwise (·≤·)→(am6 a l).Pairwise (·≤·)
 |[],_=>by simp[am6]
 |b::t,h=>by
  rw[List.pairwise_cons] at h;unfold am6
  split
  ·rename_i hab;refine dA.2 ⟨fun x hx=>?_,dA.2 h⟩;rcases cQ.1 hx with rfl|hx
   ·exact hab
   ·have:=h.1 x hx; omega
  ·rename_i hab;refine dA.2 ⟨fun x hx=>?_,PZ a h.2⟩;rcases cQ.1 ((P0 a t).mem_iff.1 hx) with rfl|hx
   ·omega
   ·exact h.1 x hx
def uW:∀l:List Int,(Ud l).Pairwise (·≤·)
 |[]=>List.Pairwise.nil
 |a::t=>PZ a (uW t)
def akz (l:List Int):Dz l=Ud l:=by
 have h1:(Dz l).Pairwise (·≤·):=by
  have:=List.pairwise_mergeSort (le:=fun a b:Int=>decide (a≤b)) (fun a b c h1 h2=>by simp at *; omega) (fun a b=>by simp; omega) l
  exact this.imp fun h=>by simpa using h
 exact List.Perm.eq_of_pairwise (le:=(·≤·)) (fun a b _ _ h1 h2=>by omega) h1 (uW l) ((List.mergeSort_perm l _).trans (uX l).symm)
def S6 (a:Int):∀(l:List Int) (p:Option Int),wG p (l++[a])=wG p l++(if (match l.getLast? with|some b=>some b|none=>p)=some a then[] else[a])
 |[],p=>by simp only[fN,wG,List.getLast?_nil]; rfl
 |b::t,p=>by
  have ih:=S6 a t (some b)
  have e:(match (b::t).getLast? with|some c=>some c|none=>p)=(match t.getLast? with|some c=>some c|none=>some b):=by
   cases t with
   |nil=>rfl
   |cons c t =>
    rw[List.getLast?_cons_cons]
    cases h:(c::t).getLast? with
    |none=>simp at h
    |some x=>rfl
  rw[e];simp only[eM,wG,ih]
  split<;>simp
def B0 (l:List Int):∀m,m≤l.length→Lib.compactUpTo l.toArray m=wG none (l.take m)
 |0,_=>by simp[Lib.compactUpTo,wG]
 |m+1,h=>by
  have hm:m<l.length:=h;rw[Lib.compactUpTo_succ,B0 l m (by omega),take_succ (cG hm),S6];congr 1
  have e1:l.toArray[m]! = l[m]:=by simp[getElem!_pos,hm]
  rw[e1];unfold Lib.keeps;rw[e1]
  cases m with
  |zero=>simp
  |succ m =>
   have hm':m<l.length:=by omega
   have e2:l.toArray[m+1-1]! = l[m]:=by simp[getElem!_pos,hm']
   rw[e2]
   have e3:(l.take (m+1)).getLast?=some l[m]:=by rw[take_succ (cG hm'),List.getLast?_append]; rfl
   rw[e3]
   by_cases hne:l[m+1]=l[m]
   ·simp[hne]
   ·have:¬l[m]=l[m+1]:=fun h=>hne h.symm;simp[hne,this]
def adu (l:List Int):zX l=wG none l:=by
 unfold zX Lib.compact;rw[B0 l l.length (Nat.le_refl _),List.take_length]
def ahs (l:List Int):zX (Dz l)=Yn l:=by rw[akz,adu]; rfl
def Yb:∀{l:List Int} {p:Option Int} {x:Int},p≠some x→(x∈wG p l↔x∈l)
 |[],_,_,_=>Iff.rfl
 |a::t,p,x,hp=>by
  unfold wG
  by_cases hx:x=a
  ·subst hx;rw[if_neg hp]; simp
  ·have ih:=Yb (l:=t) (p:=some a) (x:=x) (fun e=>hx (by cases e; rfl))
   split<;>simp[ih,hx]
def ad5:∀{l:List Int} {p:Option Int},l.Pairwise (·≤·)→(∀q,p=some q→∀x∈l,q≤x)→(wG p l).Pairwise (·<·)∧∀q,p=some q→∀x∈wG p l,q<x
 |[],p,_,_=>⟨List.Pairwise.nil,fun _ _ _ h=>by cases h⟩
 |a::t,p,h,hp=>by
  rw[List.pairwise_cons] at h;obtain⟨i1,i2⟩:=ad5 (l:=t) (p:=some a) h.2 (fun q hq x hx=>by cases hq; exact h.1 x hx);unfold wG
  split
  ·rename_i e;exact⟨i1,fun q hq x hx=>by rw[e] at hq; cases hq; exact i2 _ rfl x hx⟩
  ·rename_i e;refine⟨dA.2 ⟨fun x hx=>i2 _ rfl x hx,i1⟩,fun q hq x hx=>?_⟩;have:=hp q hq a (by simp);have hne:q≠a:=fun h=>e (by rw[hq,h]);rcases cQ.1 hx with rfl|hx
   ·omega
   ·have:=i2 _ rfl x hx; omega
def pN {l:List Int} {x:Int}:x∈Yn l↔x∈l:=by
 unfold Yn;rw[Yb (by simp),(uX l).mem_iff]
def Cc (l:List Int):(Yn l).Pairwise (·<·):=(ad5 (uW l) (fun q hq=>by cases hq)).1
def Yc:∀(l:List Int) (p:Option Int),(wG p l).length≤l.length
 |[],_=>cH _
 |a::t,p=>by
  have:=Yc t (some a);unfold wG
  split<;>simp<;>omega
def DB (l:List Int):(Yn l).length≤l.length:=by
 unfold Yn;have:=Yc (Ud l) none
 rwa [(uX l).length_eq] at this
def adO {l m:List Int} (hl:l.Pairwise (·<·)) (hm:m.Pairwise (·<·)) (h:∀x,x∈l↔x∈m):l=m:=by
 induction l generalizing m with
 |nil =>
  cases m with
  |nil=>rfl
  |cons a t=>have:=(h a).2 (by simp); cases this
 |cons a t ih =>
  rw[dA] at hl
  cases m with
  |nil=>have:=(h a).1 (by simp); cases this
  |cons b u =>
   rw[dA] at hm
   have hab:a=b:=by
    rcases cQ.1 ((h a).1 (by simp)) with h1|h1
    ·exact h1
    ·rcases cQ.1 ((h b).2 (by simp)) with h2|h2
     ·exact h2.symm
     ·have:=hm.1 a h1; have:=hl.1 b h2; omega
   subst hab;rw[ih hl.2 hm.2 fun x=>?_];constructor
   ·intro hx;rcases cQ.1 ((h x).1 (by simp[hx])) with h1|h1
    ·have:=hl.1 x hx; omega
    ·exact h1
   ·intro hx;rcases cQ.1 ((h x).2 (by simp[hx])) with h1|h1
    ·have:=hm.1 x hx; omega
    ·exact h1
def AF (b:Ü) (s:List (Int×é)) (c:Cmp):Int :=
 if (c.2.2.1++c.2.2.2.1).any (fun id=>mw s id c.2.1==5) then 5 else
 if (c.2.2.1++c.2.2.2.1).any (fun id=>mw s id c.2.1==4) then 4 else
 if (c.2.2.1++c.2.2.2.1).any (fun id=>(kX b id c.2.1).isSome) then 9 else
 if 1<(å c.2.2.1 c.2.2.2.1).length then 1 else if 1<(å c.2.2.2.1 c.2.2.1).length then 1 else
 if (å c.2.2.1 c.2.2.2.1).length+(å c.2.2.2.1 c.2.2.1).length=0 then 1 else 0
def K8 (c:Cmp):Bool :=
 inP c.1 1 1099511627776&&(Hr c.2.1&&(inP c.2.2.2.2.1 (-1125899906842624) 1125899906842624&&(inP c.2.2.2.2.2.1 0 1073741824&&(jp c.2.2.2.2.2.2 (-10000) 10000&&(la c.2.2.1&&la c.2.2.2.1)))))
def oi (b:Ü) (s:List (Int×é)) (i:Nat) (c:Cmp):Int :=
 if !K8 c then 1 else if (b.2.2.2.2.1.take i).any (fun x=>x.1==c.1) then 6 else AF b s c
def yI (a b:List Int):(å a b).length≤a.length:=dz _ _
set_option maxHeartbeats 1000000 in
def Qv {b:Ü} (hn:b.2.2.2.2.1.length≤1000) (hl:b.2.2.2.1.length≤1000) (s:List (Int×é)) {i:Nat} {c:Cmp} (hA:c.2.2.1.length≤1000) (hB:c.2.2.2.1.length≤1000)
 (hc:b.2.2.2.2.1[i]?=some c):Ł b s i=some (oi b s i c):=by
 have hi:i<b.2.2.2.2.1.length:=(List.getElem?_eq_some_iff.1 hc).1;unfold Ł np oi K8;rw[Ë hc,υ,À]
 cases inP c.1 1 1099511627776 with
 |false=>rfl
 |true =>
 rw[Xh,À]
 cases Hr c.2.1 with
 |false=>rfl
 |true =>
 rw[υ,À]
 cases inP c.2.2.2.2.1 (-1125899906842624) 1125899906842624 with
 |false=>rfl
 |true =>
 rw[υ,À]
 cases inP c.2.2.2.2.2.1 0 1073741824 with
 |false=>rfl
 |true =>
 rw[Gv,À]
 cases jp c.2.2.2.2.2.2 (-10000) 10000 with
 |false=>rfl
 |true =>
 rw[Gu (by omega),À]
 cases la c.2.2.1 with
 |false=>rfl
 |true =>
 rw[Gu (by omega),À]
 cases la c.2.2.2.1 with
 |false=>rfl
 |true =>
 have hg:((ile (0:Int) (i:Int))&&(ile (i:Int) (č b.2.2.2.2.1)))=true:=by simp[ile,č]; omega
 simp only[dY,î,Bool.and_self,dg,if_false];rw[Ė hg,di]
 -- what comes behind the IDs
 have rest:(Ã (ì ([c.2.2.1,c.2.2.2.1])) fun r12=>Ñ (fun(v36:Int) kk38=>Ō s r12 (Ý ([(5:Int),(4:Int)])) c.2.1 ([(5:Int),(4:Int)]) v36 (fun u37=>kk38 u37) (fun z23=>some z23) (fun _=>Ñ (fun(v33:Int) kk35=>ŋ r12 (Ý r12) b.1.1 b.1.2 b.2.1 b.2.2.1 b.2.2.2.1 b.2.2.2.2.1 b.2.2.2.2.2 c.2.1 v33 (fun u34=>kk35 u34) (fun z28=>some z28) (fun _=>Ã (ŧ c.2.2.1 c.2.2.2.1) fun r30=>Ã (ŧ c.2.2.2.1 c.2.2.1) fun r31=>ifb (igt (Ý r30) (1:Int)) (some (1:Int)) (ifb (igt (Ý r31) (1:Int)) (some (1:Int)) (ck ((Ý r30)+(Ý r31)) fun n32=>ifb (ieq n32 (0:Int)) (some (1:Int)) (some (0:Int)))))) (0:Int))) (0:Int))=some (AF b s c):=by
  rw[akc (by omega) (by omega),À]
  have hall:(c.2.2.1++c.2.2.2.1).length≤2000:=by simp; omega
  have last:(Ã (ŧ c.2.2.1 c.2.2.2.1) fun r30=>Ã (ŧ c.2.2.2.1 c.2.2.1) fun r31=>ifb (igt (Ý r30) (1:Int)) (some (1:Int)) (ifb (igt (Ý r31) (1:Int)) (some (1:Int)) (ck ((Ý r30)+(Ý r31)) fun n32=>ifb (ieq n32 (0:Int)) (some (1:Int)) (some (0:Int))))) =
   some (if 1<(å c.2.2.1 c.2.2.2.1).length then 1 else if 1<(å c.2.2.2.1 c.2.2.1).length then 1 else if (å c.2.2.1 c.2.2.2.1).length+(å c.2.2.2.1 c.2.2.1).length=0 then 1 else 0):=by
   rw[rA (by omega) (by omega),À,rA (by omega) (by omega),À];have l1:=yI c.2.2.1 c.2.2.2.1;have l2:=yI c.2.2.2.1 c.2.2.1;rw[æ,æ,Õ (by omega) (by omega)]
   by_cases c1:1<(å c.2.2.1 c.2.2.2.1).length
   ·rw[Ö (by simp[igt]; omega),if_pos c1]
   rw[Ò (by simp[igt]; omega),if_neg c1]
   by_cases c2:1<(å c.2.2.2.1 c.2.2.1).length
   ·rw[Ö (by simp[igt]; omega),if_pos c2]
   rw[Ò (by simp[igt]; omega),if_neg c2]
   by_cases c3:(å c.2.2.1 c.2.2.2.1).length+(å c.2.2.2.1 c.2.2.1).length=0
   ·rw[Ö (by simp[ieq]; omega),if_pos c3]
   rw[Ò (by simp[ieq]; omega),if_neg c3]
  refine eI (j6 [(5:Int),4] (fun _ want=>if (c.2.2.1++c.2.2.2.1).any (fun id=>mw s id c.2.1==want) then some want else none) some (some (if (c.2.2.1++c.2.2.2.1).any (fun id=>(kX b id c.2.1).isSome) then 9 else if 1<(å c.2.2.1 c.2.2.2.1).length then 1 else if 1<(å c.2.2.2.1 c.2.2.1).length then 1 else if (å c.2.2.1 c.2.2.2.1).length+(å c.2.2.2.1 c.2.2.1).length=0 then 1 else 0)) (fun j want hj hw kn=>?_) (fun kn=>?_)) ?_
  ·try dsimp only
   unfold Ō;rw[Ó hj,gK hj,ĥ hw];refine Eq.trans (į (c.2.2.1++c.2.2.2.1) (fun id=>mw s id c.2.1==want) (fun _=>some want) (some want) (kn ((j:Int)+1)) (fun _=>rfl) (fun k a hk ha kn'=>?_) (fun kn'=>?_)) ?_
   ·try dsimp only
    unfold g8;rw[Ó hk,Ë ha,acm,À,Î hk (by omega),Ğ]
   ·try dsimp only
    unfold g8;rw[à,Î hj (by simp)]
   ·cases List.any (c.2.2.1++c.2.2.2.1) (fun id=>mw s id c.2.1==want)<;>rfl
  ·try dsimp only
   unfold Ō;rw[à];refine Eq.trans (į (c.2.2.1++c.2.2.2.1) (fun id=>(kX b id c.2.1).isSome) (fun _=>some 9) (some 9) (some (if 1<(å c.2.2.1 c.2.2.2.1).length then 1 else if 1<(å c.2.2.2.1 c.2.2.1).length then 1 else if (å c.2.2.1 c.2.2.2.1).length+(å c.2.2.2.1 c.2.2.1).length=0 then 1 else 0)) (fun _=>rfl) (fun k a hk ha kn'=>?_) (fun kn'=>?_)) ?_
   ·try dsimp only
    unfold ŋ;have haw:=anB hl a c.2.1;rw[Ó hk,Ë ha,Î hk (by omega)];rw[show zU ((b.1.1,b.1.2),b.2.1,b.2.2.1,b.2.2.2.1,b.2.2.2.2.1,b.2.2.2.2.2) a c.2.1=zU b a c.2.1 from rfl,haw,À]
    cases kX b a c.2.1<;>rfl
   ·try dsimp only
    unfold ŋ;rw[à,last]
   ·cases List.any (c.2.2.1++c.2.2.2.1) (fun id=>(kX b id c.2.1).isSome)<;>rfl
  ·unfold AF Ī Ī Ī
   try dsimp only
   cases List.any (c.2.2.1++c.2.2.2.1) (fun id=>mw s id c.2.1==5) with
   |true=>rfl
   |false =>
   cases List.any (c.2.2.1++c.2.2.2.1) (fun id=>mw s id c.2.1==4)<;>rfl
 refine eI (į (b.2.2.2.2.1.take i) (fun x=>x.1==c.1) (fun z11=>ifb (ige z11 (0:Int)) (some 6) (some (AF b s c))) (some 6) (some (AF b s c)) (fun j=>?_) (fun j a hj ha kn=>?_) (fun kn=>?_)) ?_
 ·have:ige (j:Int) 0=true:=by simp[ige]
  rw[Ö this]
 ·try dsimp only
  unfold g9;rw[rest,Ó hj,Ë ha,Î hj (by rw[List.length_take]; omega),Ğ]
 ·try dsimp only
  unfold g9;rw[à,rest]
 ·cases List.any (b.2.2.2.2.1.take i) (fun x=>x.1==c.1)<;>rfl
def Xu (b:Ü) (g:é):List Int :=
 [g.2.1]++(b.2.2.2.2.1.filter fun c=>!(c.2.2.1.contains g.1==c.2.2.2.1.contains g.1)).map (fun c=>c.2.1)++(b.2.2.2.2.2.filter fun n=>n.1==g.1).map (fun n=>n.2)
def Þ (b:Ü) (g:é):List Int:=Yn (Xu b g)
structure ŷ (b:Ü):Prop where
 gauges:b.2.1.length≤1000
 uses:b.2.2.1.length≤1000
 loans:b.2.2.2.1.length≤1000
 compares:b.2.2.2.2.1.length≤1000
 looks:b.2.2.2.2.2.length≤1000
 piles:∀c∈b.2.2.2.2.1,c.2.2.1.length≤1000∧c.2.2.2.1.length≤1000
def Yj (l:List Int):(Dz l).length=l.length:=List.length_mergeSort l
def aa9 {b:Ü} (hs:ŷ b) (g:é):(Xu b g).length≤2001:=by
 have h1:=hs.compares;have h2:=hs.looks;have h3:=dz (fun c:Cmp=>!(c.2.2.1.contains g.1==c.2.2.2.1.contains g.1)) b.2.2.2.2.1;have h4:=dz (fun n:Int×Int=>n.1==g.1) b.2.2.2.2.2;simp only[Xu,cJ,dT,dl];omega
def ai0 {b:Ü} (hs:ŷ b) (g:é):og b g=some (Þ b g):=by
 unfold og W0;have hr:=aa9 hs g
 have hd:(Þ b g).length≤2001:=by
  unfold Þ;have:=DB (Xu b g);omega
 have hcl:=hs.compares;have hll:=hs.looks;refine ð b.2.2.2.2.1 (fun i=>[g.2.1]++((b.2.2.2.2.1.take i).filter fun c=>!(c.2.2.1.contains g.1==c.2.2.2.1.contains g.1)).map (fun c=>c.2.1)) _ rfl (fun i c hi hc kn=>?_) (fun kn=>?_)
 ·try dsimp only
  unfold uR;obtain⟨p1,p2⟩:=hs.piles c (List.mem_of_getElem? hc);rw[Ó hi,Ë hc,m9 (by omega),À,m9 (by omega),À,Î hi (by omega),Î hi (by omega),take_succ hc,List.filter_append,List.map_append]
  have hlen:([g.2.1]++((b.2.2.2.2.1.take i).filter fun c=>!(c.2.2.1.contains g.1==c.2.2.2.1.contains g.1)).map (fun c=>c.2.1)).length≤1001:=by
   have h3:=dz (fun c:Cmp=>!(c.2.2.1.contains g.1==c.2.2.2.1.contains g.1)) (b.2.2.2.2.1.take i);rw[cY] at h3;simp only[cJ,dT,dl];omega
  rw[Ô (by simp only[dl]; omega),Am.iff_true]
  cases h:(c.2.2.1.contains g.1==c.2.2.2.1.contains g.1) with
  |true=>simp only[dY,î,dL,h,dg,if_false,dR,eZ,dF]
  |false=>simp only[gq,ĺ,dL,h,if_true,dR,ej,eZ,dh]
 ·try dsimp only
  unfold uR;rw[à,List.take_length];refine ð b.2.2.2.2.2 (fun i=>[g.2.1]++(b.2.2.2.2.1.filter fun c=>!(c.2.2.1.contains g.1==c.2.2.2.1.contains g.1)).map (fun c=>c.2.1)++((b.2.2.2.2.2.take i).filter fun n=>n.1==g.1).map (fun n=>n.2)) _ (by simp) (fun i n hi hn kn=>?_) (fun kn=>?_)
  ·try dsimp only
   unfold uQ;rw[Ó hi,Ë hn,Î hi (by omega),Î hi (by omega),take_succ hn,List.filter_append,List.map_append]
   have hlen:([g.2.1]++(b.2.2.2.2.1.filter fun c=>!(c.2.2.1.contains g.1==c.2.2.2.1.contains g.1)).map (fun c=>c.2.1)++((b.2.2.2.2.2.take i).filter fun n=>n.1==g.1).map (fun n=>n.2)).length≤2001:=by
    have h3:=dz (fun c:Cmp=>!(c.2.2.1.contains g.1==c.2.2.2.1.contains g.1)) b.2.2.2.2.1;have h4:=dz (fun n:Int×Int=>n.1==g.1) (b.2.2.2.2.2.take i);rw[cY] at h4;simp only[cJ,dT,dl];omega
   rw[Ô (by simp only[dl]; omega),Am.iff_true]
   cases h:(n.1==g.1) with
   |true =>
    have:ieq n.1 g.1=true:=h;simp[h,this]
   |false =>
    have:ieq n.1 g.1=false:=h;simp[h,this]
  ·try dsimp only
   unfold uQ;rw[à,List.take_length];rw[show([g.2.1]++(b.2.2.2.2.1.filter fun c=>!(c.2.2.1.contains g.1==c.2.2.2.1.contains g.1)).map (fun c=>c.2.1)++(b.2.2.2.2.2.filter fun n=>n.1==g.1).map (fun n=>n.2))=Xu b g from rfl];dsimp only;rw[Ô (by omega),Am.iff_true,Ô (by rw[Yj]; omega),Am.iff_true,ahs];rfl
def Ê (b:Ü):List (Int×Int):=b.2.1.flatMap fun g=>(Þ b g).map fun d=>((g.1,d):Int×Int)
def G4 {b:Ü} (hs:ŷ b) (g:é):(Þ b g).length≤2001:=by
 unfold Þ;have:=DB (Xu b g);have:=aa9 hs g;omega
def vh {α β:Type} (f:α→List β) (n:Nat) (h:∀a,(f a).length≤n):∀l:List α,(l.flatMap f).length≤l.length*n
 |[]=>by simp
 |a::l=>by
  have:=vh f n h l;have:=h a;simp only[dN,cJ,cW,dn,eY];omega
def Vd {b:Ü} (hs:ŷ b):pB b=some (Ê b):=by
 unfold pB PG;have hg:=hs.gauges
 have hlen:∀l:List é,(l.flatMap fun g=>(Þ b g).map fun d=>((g.1,d):Int×Int)).length≤l.length*2001:=fun l =>
  vh _ 2001 (fun g=>by rw[dT]; exact G4 hs g) l
 refine ð b.2.1 (fun i=>(b.2.1.take i).flatMap fun g=>(Þ b g).map fun d=>((g.1,d):Int×Int)) _ rfl (fun i g hi hg' kn=>?_) (fun kn=>?_)
 ·try dsimp only
  unfold qH;rw[Ó hi,Ë hg'];rw[show og ((b.1.1,b.1.2),b.2.1,b.2.2.1,b.2.2.2.1,b.2.2.2.2.1,b.2.2.2.2.2) g=og b g from rfl,ai0 hs,À];have hd:=G4 hs g;have hi2:=hlen (b.2.1.take i)
  have htl:(b.2.1.take i).length≤1000:=by rw[cY]; omega
  refine ð (Þ b g) (fun j=>((b.2.1.take i).flatMap fun g=>(Þ b g).map fun d=>((g.1,d):Int×Int))++((Þ b g).take j).map fun d=>((g.1,d):Int×Int)) _ (by simp) (fun j d hj hd' kn'=>?_) (fun kn'=>?_)
  ·try dsimp only
   unfold qG;rw[Ó hj,Ë hd',Î hj (by omega),take_succ hd',List.map_append];rw[Ô (by simp only[List.length_append,List.length_map,List.length_take,List.length_singleton]; omega),Am.iff_true];simp
  ·try dsimp only
   unfold qG;rw[à,List.take_length];dsimp only;rw[Î hi (by omega),take_succ hg',List.flatMap_append];simp
 ·try dsimp only
  unfold qH;rw[à,List.take_length];rfl
def wN (b:Ü) (s:List (Int×é)):List Int :=
 b.2.2.1.map (fun u=>afB s u.1 u.2)++(b.2.2.2.1.mapIdx (fun i l=>SQ b s i l)++(b.2.2.2.2.1.mapIdx (fun i c=>oi b s i c)++b.2.2.2.2.2.map (fun u=>afB s u.1 u.2)))
def Zj {α:Type} {f:Int→Option Int} {g:Nat→α→Int} (l:List α) (h:∀(i:Nat) (a:α),l[i]?=some a→f i=some (g i a)):Ny f (wF l.length)=some (l.mapIdx g):=by
 have h1:∀i,i<l.length→f (i:Int)=some ((l.mapIdx g)[i]?.getD 0):=by
  intro i hi;rw[h i l[i] (cG hi)];simp[hi]
 have h2:∀x∈wF l.length,f x=some ((l.mapIdx g)[x.toNat]?.getD 0):=by
  intro x hx;unfold wF at hx;obtain⟨i,hi,rfl⟩:=List.mem_map.1 hx;rw[h1 i (by simpa using hi)];rfl
 rw[D8 h2];congr 1;refine List.ext_getElem (by simp[wF]) fun i h3 h4=>?_
 have h5:i<l.length:=by simpa using h4
 simp[wF,h5]
def akL {b:Ü} (hs:ŷ b) (s:List (Int×é)):mU b s=some (wN b s):=by
 unfold mU wN
 rw[D8 (fun u _=>YG s u.1 u.2),À,Zj b.2.2.2.1 (fun i l hl=>abf hs.loans hs.uses s hl),À,
  Zj b.2.2.2.2.1 (fun i c hc=>Qv hs.compares hs.loans s (hs.piles c (cO hc)).1 (hs.piles c (cO hc)).2 hc),À,D8 (fun u _=>YG s u.1 u.2),À]
def ä (b:Ü):Int :=
 if !jp b.1 0 1000000 then 1 else
 if 12<b.2.1.length then 2 else if 40<b.2.2.1.length then 2 else if 12<b.2.2.2.1.length then 2 else if 40<b.2.2.2.2.1.length then 2 else if 10<b.2.2.2.2.2.length then 2 else
 if iT b != 0 then iT b else
 match (wN b (gU b)).find? (fun e=>e != 0) with
 |some e=>e
 |none=>if 59<(Ê b).length then 2 else if 300<2*b.2.1.length+2*((Ê b).length-b.2.1.length:Int)+2*b.2.2.2.2.1.length then 2 else 0
def HI {b:Ü} (hs:ŷ b):(Ê b).length≤2001000:=by
 have:=vh (fun g:é=>(Þ b g).map fun d=>((g.1,d):Int×Int)) 2001 (fun g=>by rw[List.length_map]; exact G4 hs g) b.2.1;have h2:=hs.gauges;unfold Ê;omega
def iH {b:Ü} (hs:ŷ b) (hr:∀g∈b.2.1,I64 g.2.2.2.2.1.1):û b=some (ä b):=by
 unfold û PR ä;rw[Gv,À]
 cases jp b.1 0 1000000 with
 |false=>rfl
 |true =>
 have h1:=hs.gauges;have h2:=hs.compares;have h3:=HI hs;rw[Ò (show(!true)=false from rfl),if_neg (by simp)];simp only[æ]
 by_cases c0:12<b.2.1.length
 ·rw[Ö (by simp[igt]; omega),if_pos c0]
 rw[Ò (by simp[igt]; omega),if_neg c0]
 by_cases c1:40<b.2.2.1.length
 ·rw[Ö (by simp[igt]; omega),if_pos c1]
 rw[Ò (by simp[igt]; omega),if_neg c1]
 by_cases c2:12<b.2.2.2.1.length
 ·rw[Ö (by simp[igt]; omega),if_pos c2]
 rw[Ò (by simp[igt]; omega),if_neg c2]
 by_cases c3:40<b.2.2.2.2.1.length
 ·rw[Ö (by simp[igt]; omega),if_pos c3]
 rw[Ò (by simp[igt]; omega),if_neg c3]
 by_cases c4:10<b.2.2.2.2.2.length
 ·rw[Ö (by simp[igt]; omega),if_pos c4]
 rw[Ò (by simp[igt]; omega),if_neg c4];rw[SU hr h1,À]
 cases hm:(iT b != 0) with
 |true =>
  have:ine (iT b) 0=true:=hm;rw[Ö this,if_pos rfl]
 |false =>
 have:ine (iT b) 0=false:=hm;rw[Ò this,if_neg (by simp)];rw[Tb h1,À];unfold Yy;rw[akL hs,À]
 cases(wN b (gU b)).find? (fun e=>e != 0) with
 |some e=>rfl
 |none =>
 dsimp only;rw[Vd hs,À]
 by_cases c5:59<(Ê b).length
 ·rw[Ö (by simp[igt]; omega),if_pos c5]
 rw[Ò (by simp[igt]; omega),if_neg c5];rw[Õ (by omega) (by omega),Õ (by omega) (by omega),Õ (by omega) (by omega),Õ (by omega) (by omega),Õ (by omega) (by omega),Õ (by omega) (by omega)]
 by_cases c6:300<2*b.2.1.length+2*((Ê b).length-b.2.1.length:Int)+2*b.2.2.2.2.1.length
 ·rw[Ö (by simp[igt]; omega),if_pos c6]
 rw[Ò (by simp[igt]; omega),if_neg c6]
def wrapU {n:Nat} (h:n<18446744073709551616):IntKind.wrap .u64 (n:Int)=n:=by
 simp only[IntKind.wrap,IntKind.bits,IntKind.signed];simp;omega
def wrapI {n:Nat} (h:n<9223372036854775808):IntKind.wrap .i64 (n:Int)=n:=by
 simp only[IntKind.wrap,IntKind.bits,IntKind.signed];simp;omega
def gV (l:List (Int×Int)) (x d:Int):Option Nat:=l.findIdx? fun n=>decide (x=n.1)&&decide (d=n.2)
def abF {l:List (Int×Int)} (hn:l.length≤100000000) (x d:Int):ú l (x,d)=some (match gV l x d with|some j=>(j:Int)|none=>-1):=by
 unfold ú ű;refine Eq.trans (gI l (fun n=>decide (x=n.1)&&decide (d=n.2)) some (some (-1)) (fun i a hi ha kn=>?_) (fun kn=>?_)) ?_
 ·try dsimp only
  unfold Ĥ;rw[Ó hi,Ë ha,Î hi (by omega),Ğ,Bool.and_true]
 ·try dsimp only
  unfold Ĥ;rw[à]
 ·unfold gV
  cases List.findIdx? (fun n=>decide (x=n.1)&&decide (d=n.2)) l<;>rfl
def atP (l:List (Int×Int)) (p:List Int) (d:Int):Int :=
 match p with
 |[]=>0
 |x::_=>match gV l x d with|some j=>(j:Int)+1|none=>0
def jY {l:List (Int×Int)} {x d:Int} {j:Nat} (h:gV l x d=some j):j<l.length∧l[j]?=some (x,d):=by
 unfold gV at h;obtain⟨hj,hp,_⟩:=List.findIdx?_eq_some_iff_getElem.1 h;refine⟨hj,?_⟩;rw[List.getElem?_eq_getElem hj];simp only[Bool.and_eq_true,decide_eq_true_eq] at hp;congr 1;exact Prod.ext hp.1.symm hp.2.symm
def ajJ (m:Maker) (p:List Int) (d:Int) (hn:m.2.1.length≤100000000):gT m p d=some (atP m.2.1 p d):=by
 unfold gT yx atP
 cases p with
 |nil=>simp[æ,ieq]
 |cons x p =>
  have h:ieq (Ý (x::p)) 0=false:=by
   rw[æ];simp only[ieq,cW,beq_eq_false_iff_ne,ne_eq];omega
  rw[h,î,show(0:Int)=((0:Nat):Int) from rfl,Ë (a:=x) rfl,abF hn,À]
  cases hx:gV m.2.1 x d with
  |none=>dsimp only; rw[Õ (by omega) (by omega)]; simp only[hx]; rfl
  |some j =>
   have:=(jY hx).1;dsimp only;rw[Õ (by omega) (by omega)];simp only[hx]
def DF (s:List (Int×é)) (p:List Int):Int×Int :=
 match p with
 |[]=>(0,1)
 |x::_=>match rX (k:=tI) (v:=Ð) x s with
  |some g=>g.2.2.2.2.1
  |none=>(0,0)
def Yx (s:List (Int×é)) (p:List Int):ix s p=some (DF s p):=by
 unfold ix nl DF
 cases p with
 |nil=>simp[æ,ieq]
 |cons x p =>
  have h:ieq (Ý (x::p)) 0=false:=by
   rw[æ];simp only[ieq,cW,beq_eq_false_iff_ne,ne_eq];omega
  rw[h,î,show(0:Int)=((0:Nat):Int) from rfl,Ë (a:=x) rfl]
  cases hx:rX (k:=tI) (v:=Ð) x s with
  |none=>simp only[X2,hx]
  |some g=>simp only[X2,hx]
def ad1 {l:List (Int×Int)} (hr:∀r∈l,I64 r.1) (hn:l.length≤1000):jB l=some (if l.any (fun r=>!JG r) then 1 else 0):=by
 unfold jB Pk;refine Eq.trans (į l (fun r=>!JG r) (fun _=>some 1) (some 1) (some 0) (fun _=>rfl) (fun i a hi ha kn=>?_) (fun kn=>?_)) ?_
 ·try dsimp only
  unfold qC;rw[Ó hi,Ë ha,XT (hr a (List.mem_of_getElem? ha)),À,Î hi (by omega),Ğ]
 ·try dsimp only
  unfold qC;rw[à]
 ·cases l.any (fun r=>!JG r)<;>rfl
def ng (n d:Int):Int×Int:=(n / (Nat.gcd n.natAbs d.natAbs:Nat),d / (Nat.gcd n.natAbs d.natAbs:Nat))
def jE (r:Int×Int):JG r=true↔1≤r.2∧r.2≤2147483647∧(r.1.natAbs:Int)≤2147483647∧Nat.gcd r.1.natAbs r.2.natAbs=1:=by
 simp[JG]
def zn {n d:Int} (hd:0<d):∃g:Nat,0<g∧g=Nat.gcd n.natAbs d.natAbs∧n=(ng n d).1*g∧d=(ng n d).2*g:=by
 have hg:0<Nat.gcd n.natAbs d.natAbs:=Nat.gcd_pos_of_pos_right _ (by omega);refine⟨_,hg,rfl,?_,?_⟩
 ·exact(Int.ediv_mul_cancel (Int.ofNat_dvd_left.2 (Nat.gcd_dvd_left _ _))).symm
 ·exact(Int.ediv_mul_cancel (Int.ofNat_dvd_left.2 (Nat.gcd_dvd_right _ _))).symm
def UT {n d:Int} (hd:0<d) (hn:n.natAbs≤2147483647) (hd2:d≤2147483647):JG (ng n d)=true:=by
 obtain⟨g,h0,hg,h1,h2⟩:=zn (n:=n) hd;rw[jE]
 have a1:n.natAbs=(ng n d).1.natAbs*g:=by conv=>lhs; rw[h1]; rw[fp,ft]
 have a2:d.natAbs=(ng n d).2.natAbs*g:=by conv=>lhs; rw[h2]; rw[fp,ft]
 have p2:0<(ng n d).2:=by
  rcases Int.lt_trichotomy (ng n d).2 0 with h|h|h
  ·have:=Int.mul_neg_of_neg_of_pos h (show(0:Int)<g by omega); omega
  ·rw[h] at h2; simp at h2; omega
  ·exact h
 have b1:(ng n d).1.natAbs≤n.natAbs:=by rw[a1]; exact fM _ h0
 have b2:(ng n d).2.natAbs≤d.natAbs:=by rw[a2]; exact fM _ h0
 refine⟨by omega,by omega,by omega,?_⟩;have:=Nat.gcd_mul_right (ng n d).1.natAbs g (ng n d).2.natAbs;rw[←a1,←a2,←hg] at this
 have h3:(Nat.gcd (ng n d).1.natAbs (ng n d).2.natAbs)*g=1*g:=by omega
 exact Nat.eq_of_mul_eq_mul_right h0 h3
def Te {n d:Int} (hd:0<d) (hn:n.natAbs≤2147483647) (hd2:d≤2147483647):pA n d=some (ng n d,0):=by
 obtain⟨g,h0,hg,h1,h2⟩:=zn (n:=n) hd;have hr:=(jE _).1 (UT hd hn hd2);unfold pA C3;rw[UO ⟨by omega,by omega⟩,À,UO ⟨by omega,by omega⟩,À,amm,À,←hg]
 have a1:n.natAbs=(ng n d).1.natAbs*g:=by conv=>lhs; rw[h1]; rw[fp,ft]
 have a2:d.natAbs=(ng n d).2.natAbs*g:=by conv=>lhs; rw[h2]; rw[fp,ft]
 have q1:Int.tdiv (n.natAbs:Int) (g:Int)=((ng n d).1.natAbs:Int):=by
  rw[a1,gG]; exact gc _ (by omega)
 have q2:Int.tdiv (d.natAbs:Int) (g:Int)=((ng n d).2.natAbs:Int):=by
  rw[a2,gG]; exact gc _ (by omega)
 have z:ł (g:Int) 0=false:=by simp[ł]; omega
 have g1:igt ((ng n d).1.natAbs:Int) 2147483647=false:=by simp[igt]; omega
 have g2:igt ((ng n d).2.natAbs:Int) 2147483647=false:=by simp[igt]; omega
 rw[Ò z,Ò z,q1,q2,wrapU (by omega),wrapU (by omega),wrapI (by omega),wrapI (by omega),Ò g1,Ò g2]
 have hd0:ilt d 0=false:=by simp[ilt]; omega
 rw[hd0]
 have e2:((ng n d).2.natAbs:Int)=(ng n d).2:=by omega
 rw[e2]
 by_cases hneg:n<0
 ·have hn0:ilt n 0=true:=by simp[ilt,hneg]
  have:(ng n d).1≤0:=by
   rcases gj 0 (ng n d).1 with h|h
   ·have:=Int.mul_pos h (show(0:Int)<g by omega); omega
   ·exact h
  rw[hn0];rw[show(!true==false)=true from rfl,ĺ,Õ (by omega) (by omega)]
  have:0-((ng n d).1.natAbs:Int)=(ng n d).1:=by omega
  rw[this]
 ·have hn0:ilt n 0=false:=by simp[ilt]; omega
  have:0≤(ng n d).1:=by
   rcases gj (ng n d).1 0 with h|h
   ·have:=Int.mul_neg_of_neg_of_pos h (show(0:Int)<g by omega); omega
   ·exact h
  rw[hn0];rw[show(!false==false)=false from rfl,î]
  have:((ng n d).1.natAbs:Int)=(ng n d).1:=by omega
  rw[this]
structure pJ (r:Int×Int) (n d:Int):Prop where
 rat:JG r=true
 num : -n≤r.1∧r.1≤n
 den:r.2≤d
def pJ.pos {r:Int×Int} {n d:Int} (h:pJ r n d):1≤r.2:=((jE r).1 h.rat).1
def pJ.i64 {r:Int×Int} {n d:Int} (h:pJ r n d):I64 r.1:=by
 have:=((jE r).1 h.rat).2.2.1;exact⟨by omega,by omega⟩
def ahe {x y:Int×Int} (hx:JG x=true) (hy:JG y=true):jB [x,y]=some 0:=by
 rw[ad1]
 ·simp[hx,hy]
 ·intro r hr
  have:JG r=true:=by simp at hr; rcases hr with rfl|rfl<;>assumption
  have:=((jE r).1 this).2.2.1;exact⟨by omega,by omega⟩
 ·simp
def me {a b m n:Int} (h1 : -m≤a∧a≤m) (h2 : -n≤b∧b≤n) : -(m*n)≤a*b∧a*b≤m*n:=by
 have hm:0≤m:=by omega
 have hn:0≤n:=by omega
 have h3:(a*b).natAbs≤(m*n).natAbs:=by
  rw[fp,fp];exact fW (by omega) (by omega)
 have h4:0≤m*n:=fH hm hn;omega
def subP (x y:Int×Int):Int×Int:=ng (x.1*y.2-y.1*x.2) (x.2*y.2)
def Hu {x y:Int×Int} (hx:pJ x 1000 100) (hy:pJ y 1000 100):(x.1*y.2-y.1*x.2).natAbs≤200000∧0<x.2*y.2∧x.2*y.2≤10000:=by
 have h1:=me hx.num (show -100≤y.2∧y.2≤100 from⟨by have:=hy.pos; omega,hy.den⟩);have h2:=me hy.num (show -100≤x.2∧x.2≤100 from⟨by have:=hx.pos; omega,hx.den⟩);have h3:=me (show -100≤x.2∧x.2≤100 from⟨by have:=hx.pos; omega,hx.den⟩) (show -100≤y.2∧y.2≤100 from⟨by have:=hy.pos; omega,hy.den⟩);have h4:=Int.mul_pos (show 0<x.2 by have:=hx.pos; omega) (show 0<y.2 by have:=hy.pos; omega);refine⟨by omega,h4,by omega⟩
def Sub_ok {x y:Int×Int} (hx:pJ x 1000 100) (hy:pJ y 1000 100):Xt x y=some (subP x y,0):=by
 obtain⟨b1,b2,b3⟩:=Hu hx hy;have h1:=me hx.num (show -100≤y.2∧y.2≤100 from⟨by have:=hy.pos; omega,hy.den⟩);have h2:=me hy.num (show -100≤x.2∧x.2≤100 from⟨by have:=hx.pos; omega,hx.den⟩);unfold Xt acU;rw[ahe hx.rat hy.rat,À];rw[show ine (0:Int) 0=false from rfl,î,Õ (by omega) (by omega),Õ (by omega) (by omega),Õ (by omega) (by omega),Õ (by omega) (by omega),Te b2 (by omega) (by omega),À];rfl
def ahD {n d:Int} (hd:0<d):(ng n d).1.natAbs≤n.natAbs∧(ng n d).2≤d:=by
 obtain⟨g,h0,hg,h1,h2⟩:=zn (n:=n) hd
 have a1:n.natAbs=(ng n d).1.natAbs*g:=by conv=>lhs; rw[h1]; rw[fp,ft]
 have a2:d.natAbs=(ng n d).2.natAbs*g:=by conv=>lhs; rw[h2]; rw[fp,ft]
 have b1:(ng n d).1.natAbs≤n.natAbs:=by rw[a1]; exact fM _ h0
 have b2:(ng n d).2.natAbs≤d.natAbs:=by rw[a2]; exact fM _ h0
 exact⟨b1,by omega⟩
def MO {x y:Int×Int} (hx:pJ x 1000 100) (hy:pJ y 1000 100):pJ (subP x y) 200000 10000:=by
 obtain⟨b1,b2,b3⟩:=Hu hx hy;obtain⟨c1,c2⟩:=ahD (n:=x.1*y.2-y.1*x.2) b2;exact⟨UT b2 (by omega) (by omega),by unfold subP; omega,by unfold subP; omega⟩
def D3 (k:Int×Int) (n:Int):Int×Int:=ng (k.1*n) k.2
def HJ {k:Int×Int} (hk:pJ k 200000 10000) {n:Int} (hn : -10000≤n∧n≤10000):(k.1*n).natAbs≤2000000000:=by
 have:=me hk.num hn;omega
def ac9 {n:Int} (hn : -10000≤n∧n≤10000):JG (n,1)=true:=by
 rw[jE];exact⟨by simp,by simp,by simp; omega,by simp⟩
def amB {k:Int×Int} (hk:pJ k 200000 10000) {n:Int} (hn : -10000≤n∧n≤10000):Qj k (n,1)=some (D3 k n,0):=by
 have b:=HJ hk hn;have p:=hk.pos;have q:=hk.den;unfold Qj acW;rw[ahe hk.rat (ac9 hn),À];rw[show ine (0:Int) 0=false from rfl,î,Õ (by simp only; omega) (by simp only; omega),Int.mul_one,Õ (by omega) (by omega),Te (by omega) (by simp only; omega) (by omega),À];rfl
def Vh {k:Int×Int} (hk:pJ k 200000 10000) {n:Int} (hn : -10000≤n∧n≤10000):pJ (D3 k n) 2000000000 10000:=by
 have b:=HJ hk hn;have p:=hk.pos;have q:=hk.den;obtain⟨c1,c2⟩:=ahD (n:=k.1*n) (show 0<k.2 by omega);exact⟨UT (by omega) (by omega) (by omega),by unfold D3; omega,by unfold D3; omega⟩
def amt (x y:Int×Int):Int:=if x=y then 0 else if x.1*y.2<y.1*x.2 then -1 else if y.1*x.2<x.1*y.2 then 1 else 0
def ams {x y:Int×Int} {m d:Int} (hx:pJ x m d) (hy:pJ y m d) (hm:m≤2000000000) (hd:d≤10000):Qh x y=some (amt x y):=by
 have h1:=me hx.num (show -d≤y.2∧y.2≤d from⟨by have:=hy.pos; have:=hy.den; omega,hy.den⟩);have h2:=me hy.num (show -d≤x.2∧x.2≤d from⟨by have:=hx.pos; have:=hx.den; omega,hx.den⟩);have h0:0≤m∧0≤d:=⟨by have:=hx.num; omega,by have:=hx.pos; have:=hx.den; omega⟩;have h3:m*d≤2000000000*10000:=Int.mul_le_mul hm hd h0.2 (by omega);unfold Qh acS amt;rw[Õ (by omega) (by omega),Õ (by omega) (by omega)];simp only[Ğ,Bool.and_true,Bool.and_eq_true,decide_eq_true_eq,ł,ilt,igt,gt_iff_lt];have:(x.1=y.1∧x.2=y.2)↔x=y:=⟨fun h=>Prod.ext h.1 h.2,fun h=>by rw[h]; exact⟨rfl,rfl⟩⟩;simp only[this]
 (repeat' split)<;>rfl
def U9 (k:Int×Int) (heat:Int×Int):(Int×Int)×(Int×Int) :=
 if 0<amt (D3 k heat.1) (D3 k heat.2) then(D3 k heat.2,D3 k heat.1) else(D3 k heat.1,D3 k heat.2)
def amX {k heat:Int×Int} (hk:pJ k 200000 10000) (hh:jp heat (-10000) 10000=true):oe k heat=some (U9 k heat):=by
 simp only[jp,Bool.and_eq_true,decide_eq_true_eq] at hh;obtain⟨h1,h2,h3⟩:=hh;have n1 : -10000≤heat.1∧heat.1≤10000:=⟨by omega,by omega⟩;have n2 : -10000≤heat.2∧heat.2≤10000:=⟨by omega,by omega⟩;have r1:pJ (heat.1,1) 10000 10000:=⟨ac9 n1,n1,by simp⟩;have r2:pJ (heat.2,1) 10000 10000:=⟨ac9 n2,n2,by simp⟩;unfold oe uH Qi Pu rE rt;rw[ahe r1.rat r2.rat,À];have:ieq 0 0=true:=rfl;rw[Ö this,ams r1 r2 (by omega) (by omega),À]
 have hc:ile (amt (heat.1,1) (heat.2,1)) 0=true:=by
  unfold amt;simp only[ile,decide_eq_true_eq,Int.mul_one]
  split
  ·omega
  ·split
   ·omega
   ·rw[if_neg (by omega)]; omega
 rw[hc,À];simp only[Bool.not_true,î];rw[XT hk.i64,hk.rat,À];simp only[Bool.not_true,î];rw[amB hk n1,À,amB hk n2,À];simp only[show ine (0:Int) 0=false from rfl,î];rw[ams (Vh hk n1) (Vh hk n2) (by omega) (by omega),À];unfold U9;rw[Ğ]
 by_cases h:0<amt (D3 k heat.1) (D3 k heat.2)
 ·rw[if_pos h,if_pos (by simpa[igt] using h)]; rfl
 ·rw[if_neg h,if_neg (by simpa[igt] using h)]; rfl
def rateK (s:List (Int×é)) (c:Cmp):Int×Int:=subP (DF s (å c.2.2.1 c.2.2.2.1)) (DF s (å c.2.2.2.1 c.2.2.1))
def Ļ (b:Ü) (c:Cmp):(Int×Int)×(Int×Int):=U9 (rateK (gU b) c) c.2.2.2.2.2.2
def aaR {b:Ü} (hs:ŷ b) {c:Cmp} (hA:c.2.2.1.length≤1000) (hB:c.2.2.2.1.length≤1000)
 (h1:pJ (DF (gU b) (å c.2.2.1 c.2.2.2.1)) 1000 100) (h2:pJ (DF (gU b) (å c.2.2.2.1 c.2.2.1)) 1000 100) (hh:jp c.2.2.2.2.2.2 (-10000) 10000=true):oC b c=some (Ļ b c):=by
 unfold oC IT;rw[Tb hs.gauges,À,rA (by omega) (by omega),À,Yx,À,rA (by omega) (by omega),À,Yx,À];unfold vw uI;rw[Sub_ok h1 h2,À,À]
 try dsimp only
 rw[amX (MO h1 h2) hh,À];rfl
def jj (b:Ü) (c:Cmp):Int×Int :=
 (((c.2.2.1.length-1:Nat):Int)*b.1.1-((c.2.2.2.1.length-1:Nat):Int)*b.1.2,((c.2.2.1.length-1:Nat):Int)*b.1.2-((c.2.2.2.1.length-1:Nat):Int)*b.1.1)
def aeX {b:Ü} {c:Cmp} (hA:c.2.2.1.length≤1000) (hB:c.2.2.2.1.length≤1000) (h1:0≤b.1.1) (h2:b.1.1≤1000000) (h3:0≤b.1.2) (h4:b.1.2≤1000000):tp b c=some (jj b c):=by
 unfold tp PN jj
 have e:∀n:Nat,QY 0 ((n:Int)-1)=((n-1:Nat):Int):=by
  intro n;unfold QY
  split<;>omega
 have bd:∀(n:Nat) (x:Int),n≤1000→0≤x→x≤1000000→0≤((n-1:Nat):Int)*x∧((n-1:Nat):Int)*x≤1000000000:=by
  intro n x hn h0 hx;refine⟨fH (by omega) h0,?_⟩;have:=ff (show((n-1:Nat):Int)≤1000 by omega) hx h0 (by omega);omega
 have b1:=bd _ _ hA h1 h2;have b2:=bd _ _ hA h3 h4;have b3:=bd _ _ hB h1 h2;have b4:=bd _ _ hB h3 h4;simp only[æ];rw[Õ (by omega) (by omega),Õ (by omega) (by omega)];simp only[e];rw[Õ (by omega) (by omega),Õ (by omega) (by omega),Õ (by omega) (by omega),Õ (by omega) (by omega),Õ (by omega) (by omega),Õ (by omega) (by omega)]
def Xo {n d:Int} (hd:1≤d) (hn : -4000000000≤n∧n≤4000000000):tj n d=some (n / d):=by
 unfold tj FQ
 have z:ł d 0=false:=by simp[ł]; omega
 rw[Ò z];have t:=Int.mul_tdiv_add_tmod n d
 have b1 : -4000000000≤Int.tdiv n d∧Int.tdiv n d≤4000000000:=by
  have:=Int.natAbs_tdiv_le_natAbs n d;omega
 rw[Õ (by omega) (by omega),Ò z,Ğ]
 by_cases h:Int.tmod n d<0
 ·rw[if_pos (by simpa[ilt] using h),Õ (by omega) (by omega)];congr 1
  have h5 : -d<Int.tmod n d:=by
   have h6:=gE n d;have h7:=gp n.natAbs (show 0<d.natAbs by omega);omega
  refine(fQ (by omega)).2 ⟨?_,?_⟩ |>.symm
  ·rw[Int.sub_mul,fu]; omega
  ·rw[Int.sub_mul,fu (Int.tdiv n d)]; omega
 ·rw[if_neg (by simpa[ilt] using h)];congr 1
  have h5:Int.tmod n d<d:=by
   have h6:=gE n d;have h7:=gp n.natAbs (show 0<d.natAbs by omega);omega
  refine(fQ (by omega)).2 ⟨?_,?_⟩ |>.symm
  ·rw[fu]; omega
  ·rw[fu (Int.tdiv n d)]; omega
def ame {x:Int×Int} (hx:JG x=true):jB [x]=some 0:=by
 rw[ad1]
 ·simp[hx]
 ·intro r hr
  have:JG r=true:=by simp at hr; subst hr; assumption
  have:=((jE r).1 this).2.2.1;exact⟨by omega,by omega⟩
 ·simp
def Jn (r:Int×Int):Int:=-(-r.1 / r.2)
def afx {r:Int×Int} (h:JG r=true):yU r=some (r.1 / r.2,0):=by
 unfold yU Px;have:=(jE r).1 h;rw[ame h,À];rw[show ine (0:Int) 0=false from rfl,î,Xo (by omega) (by omega),À]
def Jh {n d:Int} (hd:1≤d):(n / d).natAbs≤n.natAbs:=by
 exact Int.natAbs_ediv_le_natAbs n d
def akd {r:Int×Int} (h:JG r=true):GW r=some (Jn r,0):=by
 unfold GW WH Jn;have:=(jE r).1 h;rw[ame h,À];rw[show ine (0:Int) 0=false from rfl,î,Õ (by omega) (by omega),Xo (by omega) (by omega),À];have hb:=Jh (n:=0-r.1) (show 1≤r.2 by omega);rw[Õ (by omega) (by omega),Int.zero_sub,Int.zero_sub]
def Ι (b:Ü) (c:Cmp):Int×Int :=
 (c.2.2.2.2.1-c.2.2.2.2.2.1-(jj b c).2-(Ļ b c).2.1 / (Ļ b c).2.2,c.2.2.2.2.1+c.2.2.2.2.2.1-(jj b c).1-Jn (Ļ b c).1)
structure đ (b:Ü):Prop where
 film:0≤b.1.1∧b.1.1≤b.1.2∧b.1.2≤1000000
 nG:b.2.1.length≤12
 nU:b.2.2.1.length≤40
 nL:b.2.2.2.1.length≤12
 nC:b.2.2.2.2.1.length≤40
 nK:b.2.2.2.2.2.length≤10
 gauge:∀g∈b.2.1,pm g=true
 ids:b.2.1.Pairwise fun a b=>a.1<b.1
 uses:∀u∈b.2.2.1,afB (gU b) u.1 u.2=0
 loans:∀i l,b.2.2.2.1[i]?=some l→SQ b (gU b) i l=0
 compares:∀i c,b.2.2.2.2.1[i]?=some c→oi b (gU b) i c=0
 looks:∀u∈b.2.2.2.2.2,afB (gU b) u.1 u.2=0
 nodes:(Ê b).length≤59
 links:2*(Ê b).length+2*b.2.2.2.2.1.length≤300
def vc (b:Ü):iT b=0↔(∀g∈b.2.1,pm g=true)∧b.2.1.Pairwise fun a b=>a.1<b.1:=by
 have h0:Ī (nB b.2.1) 0 b.2.1=none↔(∀g∈b.2.1,pm g=true)∧b.2.1.Pairwise fun a b=>a.1<b.1:=by
  rw[ic,←XM (fun g:é=>g.1) b.2.1];constructor
  ·intro h
   have h1:∀(j:Nat) (a:é),b.2.1[j]?=some a→pm a=true∧Ds (fun g:é=>g.1) b.2.1 j a=false:=by
    intro j a ha;have:=h j a ha;rw[Nat.zero_add] at this;unfold nB at this
    split at this
    ·cases this
    ·split at this
     ·cases this
     ·rename_i h1 h2;exact⟨by simpa using h1,by simpa using h2⟩
   refine⟨fun x hx=>?_,fun i a ha=>(h1 i a ha).2⟩;obtain⟨j,hj,rfl⟩:=cZ.1 hx;exact(h1 j _ (cG hj)).1
  ·rintro⟨h1,h2⟩ j a ha;rw[df];simp[nB,h1 a (cO ha),h2 j a ha]
 rw[←h0];unfold iT
 cases h:Ī (nB b.2.1) 0 b.2.1 with
 |none=>simp
 |some e =>
  have:∀(m:List é) (j:Nat) (x:Int),Ī (nB b.2.1) j m=some x→x≠0:=by
   intro m
   induction m with
   |nil=>intro j x h; cases h
   |cons a m ih =>
    intro j x h;unfold Ī at h
    cases hp:nB b.2.1 j a with
    |none=>rw[hp] at h; exact ih _ _ h
    |some y =>
     rw[hp] at h;cases h;unfold nB at hp
     split at hp
     ·cases hp; omega
     ·split at hp
      ·cases hp; omega
      ·cases hp
  simp[this _ _ _ h]
def ê (b:Ü):ä b=0↔đ b:=by
 unfold ä;constructor
 ·intro h
  split at h
  ·omega
  rename_i h1
  (repeat' split at h)<;>try omega
  ·rename_i hg
   have hg':iT b≠0:=by simpa using hg
   exact(hg' h).elim
  ·rename_i hf;have:=fO hf;rename_i e;simp at this;exact(this h).elim
  ·rename_i hn1 hn2 hn3 hn4 hn5 hg e hf hn6 hn7
   have hg0:iT b=0:=by simpa using hg
   obtain⟨g1,g2⟩:=(vc b).1 hg0
   have hall:∀x∈wN b (gU b),x=0:=fun x hx=>by
    have:=ee.1 hf x hx;simpa using this
   simp only[wN,cN] at hall
   have hs:jp b.1 0 1000000=true:=by simpa using h1
   simp only[jp,cI,decide_eq_true_eq] at hs;refine⟨⟨hs.1,hs.2.1,hs.2.2⟩,by omega,by omega,by omega,by omega,by omega,g1,g2,fun u hu=>hall _ (.inl (dQ.2 ⟨u,hu,rfl⟩)),fun i l hl=>?_,fun i c hc=>?_,fun u hu=>hall _ (.inr (.inr (.inr (dQ.2 ⟨u,hu,rfl⟩)))),by omega,by omega⟩
   ·obtain⟨hi,rfl⟩:=cM.1 hl;exact hall _ (.inr (.inl (gC.2 ⟨i,hi,rfl⟩)))
   ·obtain⟨hi,rfl⟩:=cM.1 hc;exact hall _ (.inr (.inr (.inl (gC.2 ⟨i,hi,rfl⟩))))
 ·intro h
  have hs:jp b.1 0 1000000=true:=by simp[jp,h.film.1,h.film.2.1,h.film.2.2]
  have hg:iT b=0:=(vc b).2 ⟨h.gauge,h.ids⟩
  have hall:(wN b (gU b)).find? (fun e=>e != 0)=none:=by
   rw[ee];intro x hx;simp only[wN,cN,dQ,gC] at hx
   have:x=0:=by
    rcases hx with⟨u,hu,rfl⟩|⟨i,hi,rfl⟩|⟨i,hi,rfl⟩|⟨u,hu,rfl⟩
    ·exact h.uses u hu
    ·exact h.loans i _ (cG hi)
    ·exact h.compares i _ (cG hi)
    ·exact h.looks u hu
   simp[this]
  have:=h.nG; have:=h.nU; have:=h.nL; have:=h.nC; have:=h.nK; have:=h.nodes; have:=h.links;rw[hs,hg,hall];simp only[dY,dg,if_false,bne_self_eq_false];rw[if_neg (by omega),if_neg (by omega),if_neg (by omega),if_neg (by omega),if_neg (by omega),if_neg (by omega),if_neg (by omega)]
section
variable {b:Ü}
def Ĭ {l:List Int} (h:la l=true):l.length≤6:=((DI l).1 h).2.2
def đ.nums (h:đ b) {c:Cmp} (hc:c∈b.2.2.2.2.1):K8 c=true:=by
 obtain⟨i,hi,rfl⟩:=List.mem_iff_getElem.1 hc;have:=h.compares i _ (List.getElem?_eq_getElem hi);unfold oi at this
 split at this
 ·omega
 ·rename_i h; simpa using h
def đ.pilesOf (h:đ b) {c:Cmp} (hc:c∈b.2.2.2.2.1):AF b (gU b) c=0:=by
 obtain⟨i,hi,rfl⟩:=List.mem_iff_getElem.1 hc;have:=h.compares i _ (List.getElem?_eq_getElem hi);unfold oi at this
 split at this
 ·omega
 ·split at this
  ·omega
  ·exact this
def Κ (c:Cmp):K8 c=true↔(1≤c.1∧c.1≤1099511627776)∧(0≤c.2.1∧c.2.1≤20000)∧(-1125899906842624≤c.2.2.2.2.1∧c.2.2.2.2.1≤1125899906842624)∧(0≤c.2.2.2.2.2.1∧c.2.2.2.2.2.1≤1073741824)∧jp c.2.2.2.2.2.2 (-10000) 10000=true∧la c.2.2.1=true∧la c.2.2.2.1=true:=by
 simp[K8,inP,Hr,and_assoc]
def đ.size (h:đ b):ŷ b:=by
 have h1:=h.nG; have h2:=h.nU; have h3:=h.nL; have h4:=h.nC; have h5:=h.nK;refine⟨by omega,by omega,by omega,by omega,by omega,fun c hc=>?_⟩;have:=(Κ c).1 (h.nums hc);have a:=Ĭ this.2.2.2.2.2.1;have b:=Ĭ this.2.2.2.2.2.2;omega
def s7 (g:é):pm g=true↔JG g.2.2.2.2.1=true∧(-1000≤g.2.2.2.2.1.1∧g.2.2.2.2.1.1≤1000)∧g.2.2.2.2.1.2≤100∧(1≤g.1∧g.1≤1099511627776)∧(0≤g.2.1∧g.2.1≤20000)∧(1≤g.2.2.1∧g.2.2.1≤1125899906842624)∧(-1073741824≤g.2.2.2.1.1∧g.2.2.2.1.1≤g.2.2.2.1.2∧g.2.2.2.1.2≤1073741824)∧(0≤g.2.2.2.2.2∧g.2.2.2.2.2≤1048576):=by
 simp[pm,inP,Hr,jp,and_assoc]
def mV {id:Int} {g:é} (h:Ŧ b id=some g):g∈b.2.1∧g.1=id:=by
 unfold Ŧ at h;exact⟨List.mem_of_find?_eq_some h,by simpa using List.find?_some h⟩
def vd (hi:b.2.1.Pairwise fun a b=>a.1<b.1) {g:é} (hg:g∈b.2.1):Ŧ b g.1=some g:=by
 unfold Ŧ
 induction hl:b.2.1 generalizing b with
 |nil=>rw[hl] at hg; cases hg
 |cons a t ih =>
  rw[hl] at hg hi;rw[dA] at hi;rw[gh];rcases cQ.1 hg with rfl|hg
  ·simp
  ·have h1:=hi.1 g hg
   have:(a.1==g.1)=false:=by simp; omega
   rw[this];have:=ih (b:=(b.1,t,b.2.2)) hi.2 hg rfl;exact this
def HK (h:đ b) {id day:Int} (hm:mw (gU b) id day=0):∃g,Ŧ b id=some g∧g.2.1≤day:=by
 unfold mw at hm;rw[zr h.ids] at hm
 split at hm
 ·rename_i g hg
  split at hm
  ·omega
  ·exact⟨g,hg,by omega⟩
 ·omega
def Nz (s:List (Int×é)) (id day:Int):mw s id day=0∨mw s id day=4∨mw s id day=5:=by
 unfold mw
 split
 ·split<;>simp
 ·simp
def đ.pile (h:đ b) {c:Cmp} (hc:c∈b.2.2.2.2.1) {x:Int} (hx:x∈c.2.2.1++c.2.2.2.1):(∃g,Ŧ b x=some g∧g.2.1≤c.2.1)∧kX b x c.2.1=none:=by
 have hp:=h.pilesOf hc;unfold AF at hp
 split at hp
 ·omega
 rename_i h5
 split at hp
 ·omega
 rename_i h4
 split at hp
 ·omega
 rename_i h9;have a5:=(ez.1 (eE.2 h5)) x hx;have a4:=(ez.1 (eE.2 h4)) x hx;have a9:=(ez.1 (eE.2 h9)) x hx;simp at a5 a4 a9;refine⟨HK h ?_,a9⟩;rcases Nz (gU b) x c.2.1 with h0|h0|h0
 ·exact h0
 ·exact(a4 h0).elim
 ·exact(a5 h0).elim
def đ.lefts (h:đ b) {c:Cmp} (hc:c∈b.2.2.2.2.1):(å c.2.2.1 c.2.2.2.1).length≤1∧(å c.2.2.2.1 c.2.2.1).length≤1∧(å c.2.2.1 c.2.2.2.1).length+(å c.2.2.2.1 c.2.2.1).length≠0:=by
 have hp:=h.pilesOf hc;unfold AF at hp
 (repeat' split at hp)<;>first|omega|exact⟨by omega,by omega,by omega⟩
def jw {a c:List Int} {x:Int}:x∈å a c↔x∈a∧x∉c:=by
 simp[å]
def đ.rate (h:đ b) {p:List Int} (hp:∀x∈p,∃g,Ŧ b x=some g):pJ (DF (gU b) p) 1000 100:=by
 unfold DF
 cases p with
 |nil =>
  have:pJ (0,1) 1000 100:=⟨by decide,by decide,by decide⟩;exact this
 |cons x t =>
  obtain⟨g,hg⟩:=hp x (by simp)
  try dsimp only
  rw[zr h.ids,hg];have:=(s7 g).1 (h.gauge g (mV hg).1);exact⟨this.1,this.2.1,this.2.2.1⟩
def đ.rates (h:đ b) {c:Cmp} (hc:c∈b.2.2.2.2.1):pJ (DF (gU b) (å c.2.2.1 c.2.2.2.1)) 1000 100∧pJ (DF (gU b) (å c.2.2.2.1 c.2.2.1)) 1000 100:=by
 constructor
 ·exact h.rate fun x hx=>by
   obtain⟨⟨g,hg,_⟩,_⟩:=h.pile hc (dV _ (jw.1 hx).1);exact⟨g,hg⟩
 ·exact h.rate fun x hx=>by
   obtain⟨⟨g,hg,_⟩,_⟩:=h.pile hc (dK _ (jw.1 hx).1);exact⟨g,hg⟩
def đ.growth (h:đ b) {c:Cmp} (hc:c∈b.2.2.2.2.1):oC b c=some (Ļ b c):=by
 obtain⟨r1,r2⟩:=h.rates hc;have hn:=(Κ c).1 (h.nums hc);have a:=Ĭ hn.2.2.2.2.2.1;have b:=Ĭ hn.2.2.2.2.2.2;exact aaR h.size (by omega) (by omega) r1 r2 hn.2.2.2.2.1
def đ.films (h:đ b) {c:Cmp} (hA:c.2.2.1.length≤1000) (hB:c.2.2.2.1.length≤1000):tp b c=some (jj b c):=by
 have:=h.film;exact aeX hA hB (by omega) (by omega) (by omega) (by omega)
def U8 {k heat:Int×Int} (hk:pJ k 200000 10000) (hh:jp heat (-10000) 10000=true):pJ (U9 k heat).1 2000000000 10000∧pJ (U9 k heat).2 2000000000 10000:=by
 simp only[jp,Bool.and_eq_true,decide_eq_true_eq] at hh;have r1:=Vh hk (n:=heat.1) ⟨by omega,by omega⟩;have r2:=Vh hk (n:=heat.2) ⟨by omega,by omega⟩;unfold U9
 split
 ·exact⟨r2,r1⟩
 ·exact⟨r1,r2⟩
def vk {c:Cmp} (hA:c.2.2.1.length≤1000) (hB:c.2.2.2.1.length≤1000) (h1:0≤b.1.1) (h2:b.1.1≤1000000) (h3:0≤b.1.2) (h4:b.1.2≤1000000) :
 (-1000000000≤(jj b c).1∧(jj b c).1≤1000000000)∧(-1000000000≤(jj b c).2∧(jj b c).2≤1000000000):=by
 have bd:∀(n:Nat) (x:Int),n≤1000→0≤x→x≤1000000→0≤((n-1:Nat):Int)*x∧((n-1:Nat):Int)*x≤1000000000:=by
  intro n x hn h0 hx;refine⟨fH (by omega) h0,?_⟩;have:=ff (show((n-1:Nat):Int)≤1000 by omega) hx h0 (by omega);omega
 have b1:=bd _ _ hA h1 h2;have b2:=bd _ _ hA h3 h4;have b3:=bd _ _ hB h1 h2;have b4:=bd _ _ hB h3 h4;unfold jj
 try dsimp only
 omega
def vf {r:Int×Int} (h:pJ r 2000000000 10000) : -2000000000≤r.1 / r.2∧r.1 / r.2≤2000000000:=by
 have:=Jh (n:=r.1) h.pos;have:=h.num;omega
def zZ {r:Int×Int} (h:pJ r 2000000000 10000) : -2000000000≤Jn r∧Jn r≤2000000000:=by
 have:=Jh (n:=-r.1) h.pos;have:=h.num;unfold Jn;omega
def đ.says (h:đ b) {c:Cmp} (hc:c∈b.2.2.2.2.1):vv b c=some (Ι b c):=by
 obtain⟨r1,r2⟩:=h.rates hc;have hn:=(Κ c).1 (h.nums hc);have ha:=Ĭ hn.2.2.2.2.2.1;have hb:=Ĭ hn.2.2.2.2.2.2;have hf:=h.film;obtain⟨g1,g2⟩:=U8 (MO r1 r2) hn.2.2.2.2.1;have fb:=vk (b:=b) (c:=c) (by omega) (by omega) (by omega) (by omega) (by omega) (by omega);have q1:pJ (Ļ b c).1 2000000000 10000:=g1;have q2:pJ (Ļ b c).2 2000000000 10000:=g2;have c1:=zZ q1;have c2:=vf q2;unfold vv WM Ι;rw[h.growth hc,À,h.films (by omega) (by omega),À,afx q2.rat,À,akd q1.rat,À]
 try dsimp only
 have n3:=hn.2.2.1;have n4:=hn.2.2.2.1;rw[Õ (by omega) (by omega),Õ (by omega) (by omega),Õ (by omega) (by omega),Õ (by omega) (by omega),Õ (by omega) (by omega),Õ (by omega) (by omega)]
end
def ĕ (l:KV) (f t:Int):Int:=min l.2.1.2 (t-1)-max l.2.1.1 f+1
def Ĵ (id f t:Int):List KV→Int
 |[]=>0
 |l::r=>(if l.1=id∧0<ĕ l f t then ĕ l f t*l.2.2 else 0)+Ĵ id f t r
def yE (id f t:Int):∀(x y:List KV),Ĵ id f t (x++y)=Ĵ id f t x+Ĵ id f t y
 |[],y=>by simp[Ĵ]
 |l::r,y=>by
  simp only[eM,Ĵ,yE id f t r y];omega
def iA (b:Ü) (id f t:Int):List Int:=(b.2.2.1.filter fun u=>u.1==id&&inP u.2 f (t-1)).map fun u=>u.2
def iw (b:Ü) (g:é) (f t:Int):Int:=Ĵ g.1 f t b.2.2.2.1+(Yn (iA b g.1 f t)).length*g.2.2.2.2.2
def yK (a c:Int):Xj a c=min a c:=by unfold Xj; split<;>omega
def adc (a c:Int):QY a c=max a c:=by unfold QY; split<;>omega
def I0 {b:Ü} (h:đ b) {l:KV} (hl:l∈b.2.2.2.1):(0≤l.2.1.1∧l.2.1.1≤l.2.1.2∧l.2.1.2≤20000)∧(0≤l.2.2∧l.2.2≤1048576):=by
 obtain⟨i,hi,rfl⟩:=List.mem_iff_getElem.1 hl;have:=h.loans i _ (List.getElem?_eq_getElem hi);unfold SQ at this
 split at this
 ·omega
 rename_i h1
 split at this
 ·omega
 rename_i h2;simp only[eA,Bool.not_eq_false,jp,inP,cI,decide_eq_true_eq] at h1 h2;exact⟨h1,h2⟩
def T5 {l:KV} (h:(0≤l.2.1.1∧l.2.1.1≤l.2.1.2∧l.2.1.2≤20000)∧(0≤l.2.2∧l.2.2≤1048576)) {f t:Int} (hf:0≤f) (hd:0<ĕ l f t):0≤ĕ l f t*l.2.2∧ĕ l f t*l.2.2≤20001*1048576:=by
 refine⟨Int.mul_nonneg (by omega) h.2.1,Int.mul_le_mul ?_ h.2.2 h.2.1 (by omega)⟩;unfold ĕ;omega
def rz {id f t:Int} (hf:0≤f):∀{x:List KV},(∀l∈x,(0≤l.2.1.1∧l.2.1.1≤l.2.1.2∧l.2.1.2≤20000)∧(0≤l.2.2∧l.2.2≤1048576))→0≤Ĵ id f t x∧Ĵ id f t x≤x.length*(20001*1048576)
 |[],_=>by simp[Ĵ]
 |l::r,h=>by
  have ih:=rz (id:=id) (t:=t) hf (x:=r) fun l hl=>h l (by simp[hl]);simp only[Ĵ,cW,fZ,fS,f7]
  split
  ·rename_i hc;have:=T5 (h l (by simp)) hf hc.2;omega
  ·omega
def am4 {b:Ü} (h:đ b) {g:é} (hg:0≤g.2.2.2.2.2∧g.2.2.2.2.2≤1048576) {f t:Int} (hf:0≤f∧f≤100000) (ht:0≤t∧t≤100000):zT b g f t=some (iw b g f t):=by
 have hL:=h.nL;have hU:=h.nU
 have hlb:∀i,0≤Ĵ g.1 f t (b.2.2.2.1.take i)∧Ĵ g.1 f t (b.2.2.2.1.take i)≤12*(20001*1048576):=by
  intro i;have h1:=rz (id:=g.1) (t:=t) hf.1 (x:=b.2.2.2.1.take i) fun l hl=>I0 h (List.mem_of_mem_take hl);have h2:((b.2.2.2.1.take i).length:Int)*(20001*1048576)≤12*(20001*1048576):=fm (by rw[cY]; omega) (by omega);omega
 unfold zT WP;refine Ņ (fun x:Int×Int=>∃i:Nat,i≤b.2.2.2.1.length∧x=(Ĵ g.1 f t (b.2.2.2.1.take i),(i:Int))) (fun x=>b.2.2.2.1.length-x.2.toNat) ?_ ⟨0,by omega,rfl⟩;rintro x ⟨i,hi,rfl⟩;rcases Nat.lt_or_ge i b.2.2.2.1.length with hlt|hge
 ·have hl:b.2.2.2.1[i]?=some b.2.2.2.1[i]:=cG hlt;have hz:=I0 h (cO hl);refine .inr ⟨(Ĵ g.1 f t (b.2.2.2.1.take (i+1)),(i:Int)+1),⟨i+1,hlt,by simp⟩,by simp; omega,fun kn=>?_⟩
  try dsimp only
  unfold uO;have b1:=hlb i;have b2:=hlb (i+1)
  have e1:Ĵ g.1 f t (b.2.2.2.1.take (i+1))=Ĵ g.1 f t (b.2.2.2.1.take i)+(if b.2.2.2.1[i].1=g.1∧0<ĕ b.2.2.2.1[i] f t then ĕ b.2.2.2.1[i] f t*b.2.2.2.1[i].2.2 else 0):=by
   rw[take_succ hl,yE]; simp[Ĵ]
  rw[Ó hlt,Ë hl,Õ (by omega) (by omega),yK,adc,Õ (by omega) (by omega),Õ (by omega) (by omega)];rw[show min b.2.2.2.1[i].2.1.2 (t-1)-max b.2.2.2.1[i].2.1.1 f+1=ĕ b.2.2.2.1[i] f t from rfl,Ğ]
  by_cases hid:b.2.2.2.1[i].1=g.1
  ·rw[if_pos (by simpa[ieq] using hid),Ğ]
   by_cases hd:0<ĕ b.2.2.2.1[i] f t
   ·have lb:=T5 hz hf.1 hd;rw[if_pos ⟨hid,hd⟩] at e1;rw[if_pos (by simpa[igt] using hd),Õ (by omega) (by omega),Õ (by omega) (by omega),Î hlt (by omega),e1]
   ·rw[if_neg (fun hc=>hd hc.2)] at e1;rw[if_neg (by simpa[igt] using hd),Î hlt (by omega),e1,fX]
  ·rw[if_neg (fun hc=>hid hc.1)] at e1;rw[if_neg (by simpa[ieq] using hid),Î hlt (by omega),e1,fX]
 ·refine .inl fun kn=>?_
  have:i=b.2.2.2.1.length:=by omega
  subst this
  try dsimp only
  unfold uO;rw[à,List.take_length]
  have hud:∀x:List (Int×Int),x.length≤40→((x.filter fun u=>u.1==g.1&&inP u.2 f (t-1)).map fun u=>u.2).length≤40:=by
   intro x hx;rw[dT];exact dt (dz _ _) hx
  refine ð b.2.2.1 (fun i=>((b.2.2.1.take i).filter fun u=>u.1==g.1&&inP u.2 f (t-1)).map fun u=>u.2) _ rfl (fun i u hi hu kn'=>?_) (fun kn'=>?_)
  ·try dsimp only
   unfold uN;have hx:=hud (b.2.2.1.take i) (by rw[List.length_take]; omega);rw[Ó hi,Ë hu,Õ (by omega) (by omega),υ,À,Ô (by simp only[List.length_singleton]; omega),Am.iff_true,Î hi (by omega),Î hi (by omega),take_succ hu,List.filter_append,List.map_append]
   cases h1:(u.1==g.1) with
   |false =>
    have:ieq u.1 g.1=false:=h1;simp only[this,î,dL,h1,Bool.false_and,dg,if_false,dR,eZ,dF]
   |true =>
    have:ieq u.1 g.1=true:=h1;rw[this]
    cases h2:inP u.2 f (t-1) with
    |false=>simp only[ĺ,î,dL,h1,h2,dO,dg,if_false,dR,eZ,dF]
    |true=>simp only[ĺ,dL,h1,h2,dO,if_true,dR,eZ,ej]
  ·try dsimp only
   unfold uN;rw[à,List.take_length];rw[show((b.2.2.1.filter fun u=>u.1==g.1&&inP u.2 f (t-1)).map fun u=>u.2)=iA b g.1 f t from rfl];have h40:(iA b g.1 f t).length≤40:=hud _ hU
   have hc40:(Yn (iA b g.1 f t)).length≤40:=by
    have:=DB (iA b g.1 f t);omega
   have hm:0≤((Yn (iA b g.1 f t)).length:Int)*g.2.2.2.2.2∧((Yn (iA b g.1 f t)).length:Int)*g.2.2.2.2.2≤40*1048576 :=
    ⟨fH (by omega) hg.1,ff (by omega) hg.2 hg.1 (by omega)⟩
   have b1:=hlb b.2.2.2.1.length;rw[List.take_length] at b1;dsimp only;rw[Ô (by omega),Am.iff_true,Ô (by rw[Yj]; omega),Am.iff_true,ahs,æ,Õ (by omega) (by omega),Õ (by omega) (by omega)];rfl
abbrev Lk:Type:=Int×Int×Int
inductive Wl (L:List Lk) (S:Int→Prop):List Int→Int→Int→Prop
 |nil {v:Int}:S v→Wl L S [] v 0
 |step {vs:List Int} {u v m d:Int}:Wl L S vs u d→(u,v,m)∈L→Wl L S (u::vs) v (d+m)
def Pot (L:List Lk) (p:Int→Int):Prop:=∀u v m,(u,v,m)∈L→p v≤p u+m
def InR (L:List Lk) (N:Nat):Prop:=∀l∈L,(0≤l.1∧l.1<N)∧(0≤l.2.1∧l.2.1<N)
section
variable {L:List Lk} {S:Int→Prop} {N:Nat} {p:Int→Int}
def Wl.cut (hp:Pot L p) {vs:List Int} {v d:Int} (h:Wl L S vs v d):∀x∈vs,∃vs1 d1,Wl L S vs1 x d1∧(x::vs1) <:+ vs∧d1+(p v-p x)≤d:=by
 induction h with
 |nil h=>intro x hx; cases hx
 | @step vs u v m d hw hl ih =>
  intro x hx;have h1:=hp u v m hl;rcases cQ.1 hx with rfl|hx
  ·exact⟨vs,d,hw,List.suffix_refl _,by omega⟩
  ·obtain⟨vs1,d1,g1,g2,g3⟩:=ih x hx;exact⟨vs1,d1,g1,g2.trans (List.suffix_cons _ _),by omega⟩
def Wl.simple (hp:Pot L p) {vs:List Int} {v d:Int} (h:Wl L S vs v d):∃vs' d',Wl L S vs' v d'∧d'≤d∧(v::vs').Nodup:=by
 induction h with
 |nil h=>exact⟨[],0,.nil h,dE _,by simp⟩
 | @step vs u v m d hw hl ih =>
  obtain⟨vs1,d1,g1,g2,g3⟩:=ih;have hw1:=Wl.step g1 hl
  by_cases hv:v∈u::vs1
  ·obtain⟨vs2,d2,k1,k2,k3⟩:=hw1.cut hp v hv;exact⟨vs2,d2,k1,by omega,g3.sublist k2.sublist⟩
  ·exact⟨u::vs1,d1+m,hw1,by omega,fC.2 ⟨hv,g3⟩⟩
def Wl.range (hL:InR L N) (hS:∀v,S v→0≤v∧v<N) {vs:List Int} {v d:Int} (h:Wl L S vs v d):(0≤v∧v<N)∧∀u∈vs,0≤u∧u<N:=by
 induction h with
 |nil h=>exact⟨hS _ h,fun u hu=>by cases hu⟩
 | @step vs u v m d hw hl ih =>
  refine⟨(hL _ hl).2,fun w hw'=>?_⟩;rcases cQ.1 hw' with rfl|h
  ·exact ih.1
  ·exact ih.2 w h
def aen:∀(N:Nat) (l:List Int),l.Nodup→(∀x∈l,0≤x∧x<N)→l.length≤N
 |0,l,_,h=>by
  cases l with
  |nil=>simp
  |cons a l=>have:=h a (by simp); omega
 |N+1,l,hn,h=>by
  have h1:(l.erase (N:Int)).length≤N:=aen N _ (hn.erase _) fun x hx=>by
   have h2:=(hn.mem_erase_iff).1 hx;have:=h x h2.2;have:=h2.1;omega
  have:=List.length_erase (a:=(N:Int)) (l:=l)
  split at this<;>omega
def Wl.short (hL:InR L N) (hS:∀v,S v→0≤v∧v<N) {vs:List Int} {v d:Int} (h:Wl L S vs v d) (hn:(v::vs).Nodup):vs.length+1≤N:=by
 have:=h.range hL hS
 exact aen N (v::vs) hn fun x hx=>by
  rcases cQ.1 hx with rfl|hx
  ·exact this.1
  ·exact this.2 x hx
def K9 (f:Lk→Bool):List Lk→Int
 |[]=>0
 |l::t=>(if f l then min l.2.2 0 else 0)+K9 f t
def ah0 (f:Lk→Bool):∀L:List Lk,K9 (fun _=>true) L≤K9 f L
 |[]=>dE _
 |l::t=>by
  have:=ah0 f t;simp only[K9,if_true]
  split<;>omega
def tM (f:Lk→Bool):∀L:List Lk,K9 f L≤0
 |[]=>dE _
 |l::t=>by
  have:=tM f t;simp only[K9]
  split<;>omega
def aeD {f:Lk→Bool} {l:Lk} (hf:f l=true):∀{L:List Lk},l∈L→K9 f L≤l.2.2
 |a::t,h=>by
  simp only[K9];rcases cQ.1 h with rfl|h
  ·have:=tM f t;rw[if_pos hf]; omega
  ·have:=aeD hf h
   split<;>omega
def ahZ {f g:Lk→Bool} (h:∀l,f l=true→g l=false):∀L:List Lk,K9 (fun l=>f l||g l) L=K9 f L+K9 g L
 |[]=>rfl
 |l::t=>by
  have ih:=ahZ h t;simp only[K9,ih]
  by_cases hf:f l=true
  ·simp[hf,h l hf]; omega
  ·have hf':f l=false:=by simpa using hf
   by_cases hg:g l=true
   ·simp[hf',hg]; omega
   ·simp[hf',hg]
def Wl.low {vs:List Int} {v d:Int} (h:Wl L S vs v d):vs.Nodup→K9 (fun l=>vs.contains l.1) L≤d:=by
 induction h with
 |nil h=>intro _; exact tM _ _
 | @step vs u v m d hw hl ih =>
  intro hn;rw[fC] at hn;have h1:=ih hn.2;have h2:K9 (fun l=>l.1==u) L≤m:=aeD (f:=fun l=>l.1==u) (l:=(u,v,m)) (by simp) hl
  have h3:=ahZ (f:=fun l:Lk=>l.1==u) (g:=fun l=>vs.contains l.1) (fun l hf=>by
   simp only[beq_iff_eq] at hf;rw[hf]
   simpa using hn.1) L
  have h4:(fun l:Lk=>(u::vs).contains l.1)=fun l=>(l.1==u)||vs.contains l.1:=by funext l; rw[List.contains_cons]
  rw[h4,h3];omega
def Mm (L:List Lk):Int:=K9 (fun _=>true) L
def Wl.low' (hp:Pot L p) {vs:List Int} {v d:Int} (h:Wl L S vs v d):Mm L≤d:=by
 obtain⟨vs',d',h1,h2,h3⟩:=h.simple hp;have:=h1.low (List.nodup_cons.1 h3).2;have:=ah0 (fun l=>vs'.contains l.1) L;unfold Mm;omega
def Wl.high {M:Int} (hM:∀l∈L,l.2.2≤M) {vs:List Int} {v d:Int} (h:Wl L S vs v d):d≤vs.length*M:=by
 induction h with
 |nil h=>simp
 | @step vs u v m d hw hl ih =>
  have:=hM _ hl;simp only[cW,fZ,fS,f7];simp only at this;omega
def Wl.lowM {M:Int} (hM:∀l∈L,-M≤l.2.2) {vs:List Int} {v d:Int} (h:Wl L S vs v d) : -(vs.length*M)≤d:=by
 induction h with
 |nil h=>simp
 | @step vs u v m d hw hl ih =>
  have:=hM _ hl;simp only[cW,fZ,fS,f7];simp only at this;omega
def Wl.mono {S':Int→Prop} (hS:∀v,S v→S' v) {vs:List Int} {v d:Int} (h:Wl L S vs v d):Wl L S' vs v d:=by
 induction h with
 |nil h=>exact .nil (hS _ h)
 |step hw hl ih=>exact .step ih hl
def Wl.pot (hp:Pot L p) {vs:List Int} {v d:Int} (h:Wl L S vs v d):∃s,S s∧p v-p s≤d:=by
 induction h with
 | @nil v h=>exact⟨v,h,by omega⟩
 | @step vs u v m d hw hl ih =>
  obtain⟨s,h1,h2⟩:=ih;have:=hp u v m hl;exact⟨s,h1,by omega⟩
end
abbrev ķ:Int:=1152921504606846976
structure ag8 (L:List Lk) (S:Int→Prop) (N:Nat) (x:Int→Int):Prop where
 att:∀v:Int,0≤v→v<N→x v≠ķ→∃vs,Wl L S vs v (x v)
 low:∀v vs d,Wl L S vs v d→x v≤d
 bd:∀v:Int,0≤v→v<N→x v≤ķ
def ag8.uniq {L:List Lk} {S:Int→Prop} {N:Nat} {x y:Int→Int} (hx:ag8 L S N x) (hy:ag8 L S N y) {v:Int} (h0:0≤v) (h1:v<N):x v=y v:=by
 have key:∀{x y:Int→Int},ag8 L S N x→ag8 L S N y→x v≤y v:=by
  intro x y hx hy
  by_cases h:y v=ķ
  ·rw[h]; exact hx.bd v h0 h1
  ·obtain⟨vs,hw⟩:=hy.att v h0 h1 h;exact hx.low v vs _ hw
 exact Int.le_antisymm (key hx hy) (key hy hx)
def gv (x:List Int) (v:Int):Int:=x[v.toNat]?.getD 0
def Ug {x:List Int} {v:Int} (h:v.toNat<x.length):x[v.toNat]?=some (gv x v):=by
 unfold gv; rw[List.getElem?_eq_getElem h]; rfl
def yL {x:List Int} {u v:Int} (hu:0≤u) (hv:0≤v) (h:u.toNat<x.length) (y:Int):gv (x.set u.toNat y) v=if v=u then y else gv x v:=by
 unfold gv;rw[List.getElem?_set]
 by_cases hvu:v=u
 ·subst hvu; simp[h]
 ·have:¬u.toNat=v.toNat:=by omega
  simp[hvu,this]
def aeS {x y:List Int} (hl:x.length=y.length) (h:∀v:Int,0≤v→v<x.length→gv x v=gv y v):x=y:=by
 refine List.ext_getElem hl fun i h1 h2=>?_;have:=h i (by omega) (by omega);unfold gv at this;simpa[h1,h2] using this
def lp (x:List Int) (l:Lk):List Int:=if gv x l.1<ķ∧gv x l.1+l.2.2<gv x l.2.1 then x.set l.2.1.toNat (gv x l.1+l.2.2) else x
def K5 (L:List Lk) (x:List Int):List Int:=L.foldl lp x
def kh (L:List Lk):Nat→List Int→List Int
 |0,x=>x
 |n+1,x=>kh L n (K5 L x)
def nH (x:List Int) (l:Lk):(lp x l).length=x.length:=by unfold lp; split<;>simp
def wM (L:List Lk):∀x:List Int,(K5 L x).length=x.length:=by
 induction L with
 |nil=>intro x; rfl
 |cons l t ih=>intro x; show(K5 t (lp x l)).length=_; rw[ih,nH]
def ğ (L:List Lk):∀(n:Nat) (x:List Int),(kh L n x).length=x.length
 |0,x=>rfl
 |n+1,x=>by rw[kh,ğ L n,wM]
def Ch (L:List Lk):∀(n:Nat) (x:List Int),kh L (n+1) x=K5 L (kh L n x)
 |0,x=>rfl
 |n+1,x=>by rw[kh,Ch L n]; rfl
section
variable {L0:List Lk} {S:Int→Prop} {N:Nat}
def Yu {x:List Int} {l:Lk} (hl:(0≤l.1∧l.1<N)∧(0≤l.2.1∧l.2.1<N)) (hx:x.length=N) (v:Int) (hv:0≤v):gv (lp x l) v≤gv x v:=by
 unfold lp
 split
 ·rename_i h;rw[yL hl.2.1 hv (by omega)]
  split
  ·rename_i h2; subst h2; omega
  ·exact dE _
 ·exact dE _
def DK:∀{L:List Lk},InR L N→∀{x:List Int},x.length=N→∀v,0≤v→gv (K5 L x) v≤gv x v
 |[],_,x,_,v,_=>dE _
 |l::t,hL,x,hx,v,hv=>by
  have h1:=Yu (hL l (by simp)) hx v hv;have h2:=DK (L:=t) (fun l hl=>hL l (by simp[hl])) (x:=lp x l) (by rw[nH,hx]) v hv;show gv (K5 t (lp x l)) v≤_;omega
def HB:∀{L:List Lk},InR L N→∀{x:List Int},x.length=N→∀u v m,(u,v,m)∈L→gv x u<ķ→gv (K5 L x) v≤gv x u+m
 |l::t,hL,x,hx,u,v,m,hm,hf=>by
  have ht:InR t N:=fun l hl=>hL l (by simp[hl])
  have hx':(lp x l).length=N:=by rw[nH,hx]
  show gv (K5 t (lp x l)) v≤_;rcases cQ.1 hm with rfl|hm
  ·have hl:=hL (u,v,m) (by simp);have h2:=DK ht hx' v hl.2.1
   have h3:gv (lp x (u,v,m)) v≤gv x u+m:=by
    unfold lp
    split
    ·rw[yL hl.2.1 hl.2.1 (by simp only at hl; simp only; omega),if_pos rfl]; exact dE _
    ·rename_i h; simp only[not_and,Int.not_lt] at h; exact h hf
   omega
  ·have hl:=hL (u,v,m) (by simp[hm]);have h1:=Yu (hL l (by simp)) hx u hl.1.1;have:=HB ht hx' u v m hm (by omega);omega
def Att (L0:List Lk) (S:Int→Prop) (N:Nat) (x:List Int):Prop:=∀v:Int,0≤v→v<N→gv x v<ķ→∃vs,Wl L0 S vs v (gv x v)
def afN {x:List Int} {l:Lk} (hl:(0≤l.1∧l.1<N)∧(0≤l.2.1∧l.2.1<N)) (hm:l∈L0) (hx:x.length=N) (h:Att L0 S N x):Att L0 S N (lp x l):=by
 unfold lp
 split
 ·rename_i hc;intro v h0 h1 hf;rw[yL hl.2.1 h0 (by omega)] at hf ⊢
  split
  ·rename_i h2;obtain⟨vs,hw⟩:=h l.1 hl.1.1 hl.1.2 hc.1;exact⟨_,h2▸Wl.step hw hm⟩
  ·rename_i h2;rw[if_neg h2] at hf;exact h v h0 h1 hf
 ·exact h
def YF:∀{L:List Lk},InR L N→(∀l∈L,l∈L0)→∀{x:List Int},x.length=N→Att L0 S N x→Att L0 S N (K5 L x)
 |[],_,_,_,_,h=>h
 |l::t,hL,hsub,x,hx,h=>YF (L:=t) (fun l hl=>hL l (by simp[hl])) (fun l hl=>hsub l (by simp[hl])) (x:=lp x l) (by rw[nH,hx]) (afN (hL l (by simp)) (hsub l (by simp)) hx h)
def Tj (hL:InR L0 N):∀(n:Nat) {x:List Int},x.length=N→Att L0 S N x→Att L0 S N (kh L0 n x)
 |0,_,_,h=>h
 |n+1,x,hx,h=>Tj hL n (by rw[wM,hx]) (YF hL (fun _ h=>h) hx h)
def DJ (hL:InR L0 N):∀(n:Nat) {x:List Int},x.length=N→∀v,0≤v→gv (kh L0 n x) v≤gv x v
 |0,_,_,_,_=>dE _
 |n+1,x,hx,v,hv=>Int.le_trans (DJ hL n (by rw[wM,hx]) v hv) (DK hL hx v hv)
def tB (S:Int→Bool) (N:Nat):List Int:=(List.range N).map fun(i:Nat)=>if S i then 0 else ķ
def iB (S:Int→Bool) {N:Nat} {v:Int} (h0:0≤v) (h1:v<N):gv (tB S N) v=if S v then 0 else ķ:=by
 unfold gv tB
 have:v.toNat<N:=by omega
 rw[fG,eW this];simp only[dJ,fe];rw[Int.toNat_of_nonneg h0]
def ö (S:Int→Bool) (N:Nat):(tB S N).length=N:=by simp[tB]
end
def HA {L:List Lk} {S:Int→Bool} {N:Nat} {M:Int} (hL:InR L N) (hS:∀v,S v=true→0≤v∧v<N) (hM:∀l∈L,l.2.2≤M):∀(n:Nat),n*M<ķ→0≤M→∀vs v d,Wl L (fun v=>S v=true) vs v d→vs.length≤n→gv (kh L n (tB S N)) v≤d
 |0,_,_,vs,v,d,hw,hl=>by
  cases hw with
  |nil h =>
   have:=hS v h;rw[kh,iB S this.1 this.2,if_pos h]; exact dE _
  |step=>simp at hl
 |n+1,hn,hM0,vs,v,d,hw,hl=>by
  have hn':n*M<ķ:=by rw[fZ,fS,f7] at hn; omega
  have hlen:(kh L n (tB S N)).length=N:=by rw[ğ,ö]
  rw[Ch]
  cases hw with
  |nil h =>
   have h1:=DK hL hlen v (hS v h).1;have h2:=HA hL hS hM n hn' hM0 [] v 0 (.nil h) (by simp);omega
  | @step vs u _ m d hw hlk =>
   have h2:=HA hL hS hM n hn' hM0 vs u d hw (by simpa using hl);have h3:=hw.high hM;have h4:(vs.length:Int)*M≤n*M:=fm (by simp at hl; omega) hM0;have:=HB hL hlen u v m hlk (by omega);omega
def M7 {L:List Lk} {S:Int→Bool} {N:Nat} {M:Int} {p:Int→Int} (hp:Pot L p) (hL:InR L N) (hS:∀v,S v=true→0≤v∧v<N) (hM:∀l∈L,l.2.2≤M) (hM0:0≤M) (hN:N*M<ķ) (n:Nat) (hn:N≤n+1):ag8 L (fun v=>S v=true) N (gv (kh L n (tB S N))):=by
 have hatt:Att L (fun v=>S v=true) N (tB S N):=fun v h0 h1 hf=>by
  rw[iB S h0 h1] at hf ⊢
  split
  ·rename_i h; exact⟨[],.nil h⟩
  ·rename_i h; rw[if_neg h] at hf; omega
 have hbd:∀v:Int,0≤v→v<N→gv (kh L n (tB S N)) v≤ķ:=fun v h0 h1=>by
  have:=DJ hL n (ö S N) v h0;rw[iB S h0 h1] at this
  have hF:(0:Int)≤ķ:=by decide
  split at this<;>omega
 have hlow:∀(n:Nat),N≤n+1→∀v vs d,Wl L (fun v=>S v=true) vs v d→gv (kh L n (tB S N)) v≤d:=by
  intro n hn v vs d hw;obtain⟨vs',d',h1,h2,h3⟩:=hw.simple hp;have h4:=h1.short hL hS h3
  have hpos:0<N:=by omega
  obtain⟨k,rfl⟩:∃k,N=k+1:=⟨N-1,by omega⟩
  have hk:(k:Int)*M<ķ:=by rw[fZ,fS,f7] at hN; omega
  have h5:=HA hL hS hM k hk hM0 vs' v d' h1 (by omega);obtain⟨j,rfl⟩:∃j,n=k+j:=⟨n-k,by omega⟩
  have h6:∀(j:Nat),gv (kh L (k+j) (tB S (k+1))) v≤gv (kh L k (tB S (k+1))) v:=by
   intro j
   induction j with
   |zero=>exact dE _
   |succ j ih =>
    rw[←eP,Ch];have:=DK hL (x:=kh L (k+j) (tB S (k+1))) (by rw[ğ,ö]) v (h1.range hL hS).1.1;omega
  have:=h6 j;omega
 exact⟨fun v h0 h1 hne=>Tj hL n (ö S N) hatt v h0 h1 (by have:=hbd v h0 h1; omega),hlow n hn,hbd⟩
def ag8.pot {L:List Lk} {S:Int→Prop} {N:Nat} {x:Int→Int} (h:ag8 L S N x) (hL:InR L N) {u v m:Int} (hl:(u,v,m)∈L) (hf:x u≠ķ):x v≤x u+m:=by
 obtain⟨vs,hw⟩:=h.att u (hL _ hl).1.1 (hL _ hl).1.2 hf;exact h.low v _ _ (.step hw hl)
def ô (b:Ü) (g:é):List Lk :=
 [(0,atP (Ê b) [g.1] g.2.1,g.2.2.1+g.2.2.2.1.2),(atP (Ê b) [g.1] g.2.1,0,-(g.2.2.1+g.2.2.2.1.1))] ++
 (List.range ((Þ b g).length-1)).flatMap fun(k:Nat)=>[(atP (Ê b) [g.1] g.2.1+k,atP (Ê b) [g.1] g.2.1+k+1,0),(atP (Ê b) [g.1] g.2.1+k+1,atP (Ê b) [g.1] g.2.1+k,iw b g ((Þ b g)[k]?.getD 0) ((Þ b g)[k+1]?.getD 0))]
def cx (b:Ü) (c:Cmp):Int:=atP (Ê b) (å c.2.2.1 c.2.2.2.1) c.2.1
def cy (b:Ü) (c:Cmp):Int:=atP (Ê b) (å c.2.2.2.1 c.2.2.1) c.2.1
def Ā (b:Ü) (c:Cmp):List Lk:=[(cy b c,cx b c,(Ι b c).2),(cx b c,cy b c,-(Ι b c).1)]
def ß (b:Ü):List Lk:=b.2.1.flatMap (ô b)++b.2.2.2.2.1.flatMap (Ā b)
def ò (b:Ü) (i:Nat) (g:é):List (Int×Int):=[(1,(i:Int)),(1,(i:Int))]++(List.range ((Þ b g).length-1)).flatMap fun _=>[(2,(i:Int)),(2,(i:Int))]
def Ť (b:Ü):List (Int×Int):=(b.2.1.mapIdx (ò b)).flatten++(b.2.2.2.2.1.mapIdx fun i _=>[(3,(i:Int)),(3,(i:Int))]).flatten
section
variable {b:Ü}
def X6 (h:đ b) {id day:Int} (hu:afB (gU b) id day=0):(0≤day∧day≤20000)∧∃g,Ŧ b id=some g∧g.2.1≤day:=by
 unfold afB at hu
 split at hu
 ·omega
 ·rename_i hd;simp only[eA,Bool.not_eq_false,Hr,inP,cI,decide_eq_true_eq] at hd;exact⟨hd,HK h hu⟩
def jC {g:é} {d:Int}:d∈Þ b g↔d=g.2.1∨(∃c∈b.2.2.2.2.1,(c.2.2.1.contains g.1)≠(c.2.2.2.1.contains g.1)∧c.2.1=d)∨(∃n∈b.2.2.2.2.2,n.1=g.1∧n.2=d):=by
 unfold Þ;rw[pN,Xu];simp only[List.mem_append,List.mem_singleton,List.mem_map,List.mem_filter];constructor
 ·rintro((h|⟨c,⟨h1,h2⟩,h3⟩)|⟨n,⟨h1,h2⟩,h3⟩)
  ·exact .inl h
  ·exact .inr (.inl ⟨c,h1,by simpa using h2,h3⟩)
  ·exact .inr (.inr ⟨n,h1,by simpa using h2,h3⟩)
 ·rintro(h|⟨c,h1,h2,h3⟩|⟨n,h1,h2,h3⟩)
  ·exact .inl (.inl h)
  ·exact .inl (.inr ⟨c,⟨h1,by simpa using h2⟩,h3⟩)
  ·exact .inr ⟨n,⟨h1,by simpa using h2⟩,h3⟩
def đ.gaugeR (h:đ b) {g:é} (hg:g∈b.2.1):JG g.2.2.2.2.1=true∧(-1000≤g.2.2.2.2.1.1∧g.2.2.2.2.1.1≤1000)∧g.2.2.2.2.1.2≤100∧(1≤g.1∧g.1≤1099511627776)∧(0≤g.2.1∧g.2.1≤20000)∧(1≤g.2.2.1∧g.2.2.1≤1125899906842624)∧(-1073741824≤g.2.2.2.1.1∧g.2.2.2.1.1≤g.2.2.2.1.2∧g.2.2.2.1.2≤1073741824)∧(0≤g.2.2.2.2.2∧g.2.2.2.2.2≤1048576):=(s7 g).1 (h.gauge g hg)
def đ.day (h:đ b) {g:é} (hg:g∈b.2.1) {d:Int} (hd:d∈Þ b g):g.2.1≤d∧0≤d∧d≤20000:=by
 have hr:=h.gaugeR hg;have hgo:=vd h.ids hg;rcases jC.1 hd with rfl|⟨c,hc,h1,rfl⟩|⟨n,hn,h1,rfl⟩
 ·have:=hr.2.2.2.2.1; omega
 ·have hn:=(Κ c).1 (h.nums hc)
  have hx:g.1∈c.2.2.1++c.2.2.2.1:=by
   rw[cN]
   by_cases h2:g.1∈c.2.2.1
   ·exact .inl h2
   ·refine .inr ?_
    have e1:c.2.2.1.contains g.1=false:=by simpa using h2
    rw[e1] at h1
    have:c.2.2.2.1.contains g.1=true:=by cases hh:c.2.2.2.1.contains g.1<;>simp_all
    simpa using this
  obtain⟨⟨g',h3,h4⟩,_⟩:=h.pile hc hx;rw[hgo] at h3; cases h3;have:=hn.2.1;omega
 ·obtain⟨h2,g',h3,h4⟩:=X6 h (h.looks n hn);rw[h1,hgo] at h3; cases h3;omega
def jI (g:é):g.2.1∈Þ b g:=jC.2 (.inl rfl)
def G3 (h:đ b) {g:é} (hg:g∈b.2.1):(Þ b g).length≤59:=by
 have h1:∀l:List é,g∈l→(Þ b g).length≤(l.flatMap fun g=>(Þ b g).map fun d=>((g.1,d):Int×Int)).length:=by
  intro l
  induction l with
  |nil=>intro hg; cases hg
  |cons a t ih =>
   intro hg;rw[dN,cJ,dT];rcases cQ.1 hg with rfl|hg
   ·omega
   ·have:=ih hg; omega
 have:=h1 b.2.1 hg;have:=h.nodes;unfold Ê at this;omega
def ajK {p:List Int} {d:Int}:0≤atP (Ê b) p d∧atP (Ê b) p d≤(Ê b).length:=by
 unfold atP
 cases p with
 |nil=>simp
 |cons x t =>
  try dsimp only
  cases h:gV (Ê b) x d with
  |none=>simp
  |some j=>have:=(jY h).1; dsimp only; omega
def Cd (h:đ b) {c:Cmp} (hc:c∈b.2.2.2.2.1):(-1125904000000000≤(Ι b c).1∧(Ι b c).1≤1125904000000000)∧(-1125904000000000≤(Ι b c).2∧(Ι b c).2≤1125904000000000):=by
 obtain⟨r1,r2⟩:=h.rates hc;have hn:=(Κ c).1 (h.nums hc);have ha:=Ĭ hn.2.2.2.2.2.1;have hb:=Ĭ hn.2.2.2.2.2.2;have hf:=h.film;obtain⟨g1,g2⟩:=U8 (MO r1 r2) hn.2.2.2.2.1;have fb:=vk (b:=b) (c:=c) (by omega) (by omega) (by omega) (by omega) (by omega) (by omega);have q1:pJ (Ļ b c).1 2000000000 10000:=g1;have q2:pJ (Ļ b c).2 2000000000 10000:=g2;have c1:=zZ q1;have c2:=vf q2;have n3:=hn.2.2.1;have n4:=hn.2.2.2.1;unfold Ι
 try dsimp only
 omega
def jU (h:đ b) {g:é} (hg:g∈b.2.1) {f t:Int} (hf:0≤f):0≤iw b g f t∧iw b g f t≤12*(20001*1048576)+40*1048576:=by
 have hr:=(h.gaugeR hg).2.2.2.2.2.2.2;have h1:=rz (id:=g.1) (t:=t) hf (x:=b.2.2.2.1) fun l hl=>I0 h hl;have h2:(b.2.2.2.1.length:Int)*(20001*1048576)≤12*(20001*1048576):=fm (by have:=h.nL; omega) (by omega)
 have h3:(iA b g.1 f t).length≤40:=by
  unfold iA;rw[List.length_map];exact Nat.le_trans (List.length_filter_le _ _) h.nU
 have h4:=DB (iA b g.1 f t)
 have hm:0≤((Yn (iA b g.1 f t)).length:Int)*g.2.2.2.2.2∧((Yn (iA b g.1 f t)).length:Int)*g.2.2.2.2.2≤40*1048576 :=
  ⟨fH (by omega) hr.1,ff (by omega) hr.2 hr.1 (by omega)⟩
 unfold iw;omega
end
def gY {α β:Type} (f:Nat→α→β) {l:List α} {i:Nat} {a:α} (h:l[i]?=some a):(l.take (i+1)).mapIdx f=(l.take i).mapIdx f++[f i a]:=by
 have hi:i<l.length:=(cM.1 h).1
 have:(l.take i).length=i:=by rw[cY]; omega
 rw[take_succ h,List.mapIdx_append];simp[this]
def rO {α:Type} (f:Nat→List α) (j:Nat):(List.range (j+1)).flatMap f=(List.range j).flatMap f++f j:=by
 rw[List.range_succ,eG]; simp
def Ů {α:Type} (f:Nat→List α) (n:Nat) (h:∀k,(f k).length=2):((List.range n).flatMap f).length=2*n:=by
 induction n with
 |zero=>rfl
 |succ n ih=>rw[rO,cJ,ih,h]; omega
set_option maxHeartbeats 2000000 in
def aeI {b:Ü} (h:đ b):GY b=some (b,Ê b,(((Ê b).length:Int)+1,ß b),Ť b):=by
 unfold GY WO;have hN:=h.nodes;have hG:=h.nG;have hC:=h.nC;rw[Vd h.size,À,æ,Õ (by omega) (by omega)]
 -- lengths of what comes
 have gl:∀g∈b.2.1,(ô b g).length≤120∧∀i,(ò b i g).length≤120:=by
  intro g hg;have:=G3 h hg;constructor
  ·unfold ô;rw[List.length_append,Ů _ _ (fun _=>rfl)];simp only[List.length_cons,List.length_nil]; omega
  ·intro i;unfold ò;rw[List.length_append,Ů _ _ (fun _=>rfl)];simp only[List.length_cons,List.length_nil]; omega
 have gls:∀i,((b.2.1.take i).flatMap (ô b)).length≤1440∧(((b.2.1.take i).mapIdx (ò b)).flatten).length≤1440:=by
  intro i
  induction i with
  |zero=>simp
  |succ i ih =>
   have key:∀i,i≤b.2.1.length→((b.2.1.take i).flatMap (ô b)).length≤i*120∧(((b.2.1.take i).mapIdx (ò b)).flatten).length≤i*120:=by
    intro i
    induction i with
    |zero=>intro _; simp
    |succ i ih =>
     intro hi;have ih:=ih (by omega);have hg:b.2.1[i]?=some b.2.1[i]:=cG hi;have h2:=gl _ (cO hg);have h3:=h2.2 i;rw[gY _ hg,take_succ hg,eG,fo,cJ,cJ];simp only[dN,gy,dF,fT,f0];omega
   rcases dv b.2.1.length (i+1) with h1|h1
   ·rw[dP (by omega)];have:=key b.2.1.length (cH _);rw[List.take_length] at this;omega
   ·have:=key (i+1) h1;omega
 refine ð b.2.1 (fun i=>((b.2.1.take i).flatMap (ô b),((b.2.1.take i).mapIdx (ò b)).flatten)) _ rfl (fun i g hi hg kn=>?_) (fun kn=>?_)
 ·try dsimp only
  unfold uM;have hgm:=List.mem_of_getElem? hg;have hr:=h.gaugeR hgm;have hd:=G3 h hgm;have hls:=gls i;have hat:=ajK (b:=b) (p:=[g.1]) (d:=g.2.1);rw[Ó hi,Ë hg];rw[show og ((b.1.1,b.1.2),b.2.1,b.2.2.1,b.2.2.2.1,b.2.2.2.2.1,b.2.2.2.2.2) g=og b g from rfl,ai0 h.size,À];rw[ajJ _ _ _ (by dsimp only; omega),À]
  try dsimp only
  have r1:=hr.2.2.2.2.2.1;have r2:=hr.2.2.2.2.2.2.1;rw[Õ (by omega) (by omega),Õ (by omega) (by omega),Õ (by omega) (by omega),Ô (by simp only[cW,dj]; omega),Am.iff_true,Ô (by simp only[cW,dj]; omega),Am.iff_true]
  refine Ņ (fun x:Int×List Lk×List (Int×Int)=>∃j:Nat,j+1≤(Þ b g).length∧x.1=(j:Int)+1 ∧
   x.2.1=(b.2.1.take i).flatMap (ô b)++([(0,atP (Ê b) [g.1] g.2.1,g.2.2.1+g.2.2.2.1.2),(atP (Ê b) [g.1] g.2.1,0,-(g.2.2.1+g.2.2.2.1.1))] ++
    (List.range j).flatMap fun(k:Nat)=>[(atP (Ê b) [g.1] g.2.1+k,atP (Ê b) [g.1] g.2.1+k+1,0),(atP (Ê b) [g.1] g.2.1+k+1,atP (Ê b) [g.1] g.2.1+k,iw b g ((Þ b g)[k]?.getD 0) ((Þ b g)[k+1]?.getD 0))]) ∧
   x.2.2=((b.2.1.take i).mapIdx (ò b)).flatten++([(1,(i:Int)),(1,(i:Int))]++(List.range j).flatMap fun _=>[(2,(i:Int)),(2,(i:Int))])) (fun x=>(Þ b g).length-x.1.toNat) ?_
   ⟨0,fR (jI g),rfl,by simp,by simp⟩
  rintro⟨x1,ls,ss⟩ ⟨j,hj,e1,e2,e3⟩;dsimp only at e1 e2 e3 ⊢;subst e1
  have hlls:ls.length≤1562:=by
   rw[e2,cJ,cJ,Ů _ _ (fun _=>rfl)];simp only[cW,dj]; omega
  have hlss:ss.length≤1562:=by
   rw[e3,cJ,cJ,Ů _ _ (fun _=>rfl)];simp only[cW,dj]; omega
  rcases dv (j+1) (Þ b g).length with hlt|hge
  ·refine .inr ⟨((j:Int)+1+1,_,_),⟨j+1,hlt,by push_cast; rfl,rfl,rfl⟩,by dsimp only; omega,fun kn'=>?_⟩
   try dsimp only
   unfold uL
   have g1:(Þ b g)[j]?=some ((Þ b g)[j]?.getD 0):=by rw[cG (by omega)]; rfl
   have g2:(Þ b g)[j+1]?=some ((Þ b g)[j+1]?.getD 0):=by rw[cG hlt]; rfl
   have d1:=h.day hgm (cO g1);have d2:=h.day hgm (cO g2);have lb:=jU h hgm (t:=(Þ b g)[j+1]?.getD 0) d1.2.1
   have ec:((j:Int)+1)=((j+1:Nat):Int):=by push_cast; rfl
   rw[ec,Ó hlt,Õ (by omega) (by omega),Õ (by omega) (by omega),Õ (by omega) (by omega),Õ (by omega) (by omega)];rw[show(((j+1:Nat):Int)-1)=((j:Nat):Int) by omega,Ë g1,Ë g2];rw[show zT ((b.1.1,b.1.2),b.2.1,b.2.2.1,b.2.2.2.1,b.2.2.2.2.1,b.2.2.2.2.2) (g.1,g.2.1,g.2.2.1,(g.2.2.2.1.1,g.2.2.2.1.2),(g.2.2.2.2.1.1,g.2.2.2.2.1.2),g.2.2.2.2.2) ((Þ b g)[j]?.getD 0) ((Þ b g)[j+1]?.getD 0)=zT b g ((Þ b g)[j]?.getD 0) ((Þ b g)[j+1]?.getD 0) from rfl];rw[am4 h hr.2.2.2.2.2.2.2 ⟨by omega,by omega⟩ ⟨by omega,by omega⟩,À,Õ (by omega) (by omega),Õ (by omega) (by omega),Ô (by simp only[cW,dj]; omega),Am.iff_true,Ô (by simp only[cW,dj]; omega),Am.iff_true,Î hlt (by omega)];rw[rO,rO,e2,e3]
   have a1:atP (Ê b) [g.1] g.2.1+((j+1:Nat):Int)-1=atP (Ê b) [g.1] g.2.1+(j:Int):=by push_cast; omega
   have a2:atP (Ê b) [g.1] g.2.1+((j+1:Nat):Int)=atP (Ê b) [g.1] g.2.1+(j:Int)+1:=by push_cast; omega
   have a3:0-(0-iw b g ((Þ b g)[j]?.getD 0) ((Þ b g)[j+1]?.getD 0))=iw b g ((Þ b g)[j]?.getD 0) ((Þ b g)[j+1]?.getD 0):=by omega
   rw[a1,a2,a3];simp only[dh]
  ·refine .inl fun kn'=>?_
   have hje:j+1=(Þ b g).length:=by omega
   unfold uL;rw[show((j:Int)+1)=(((Þ b g).length:Nat):Int) by rw[←hje]; push_cast; rfl,à];dsimp only;rw[Î hi (by omega)];rw[gY _ hg,take_succ hg,List.flatMap_append,List.flatten_append,e2,e3,show j=(Þ b g).length-1 by omega];simp only[List.flatMap_cons,List.flatMap_nil,List.append_nil,List.flatten_cons,List.flatten_nil];rfl
 ·try dsimp only
  unfold uM;rw[à,List.take_length];have hls:=gls b.2.1.length;rw[List.take_length] at hls
  have cl:∀i,i≤b.2.2.2.2.1.length→((b.2.2.2.2.1.take i).flatMap (Ā b)).length=2*i∧(((b.2.2.2.2.1.take i).mapIdx fun i _=>[((3:Int),(i:Int)),((3:Int),(i:Int))]).flatten).length=2*i:=by
   intro i
   induction i with
   |zero=>intro _; simp
   |succ i ih =>
    intro hi;have ih:=ih (by omega);have hg:b.2.2.2.2.1[i]?=some b.2.2.2.2.1[i]:=cG hi;rw[gY _ hg,take_succ hg,eG,fo,cJ,cJ];simp only[dN,gy,dF,fT,f0,Ā,cW,dj];omega
  refine ð b.2.2.2.2.1 (fun i=>(b.2.1.flatMap (ô b)++(b.2.2.2.2.1.take i).flatMap (Ā b),(b.2.1.mapIdx (ò b)).flatten++((b.2.2.2.2.1.take i).mapIdx fun i _=>[((3:Int),(i:Int)),((3:Int),(i:Int))]).flatten)) _ (by simp) (fun i c hi hc kn'=>?_) (fun kn'=>?_)
  ·try dsimp only
   unfold uK;have hcm:=List.mem_of_getElem? hc;have hn:=(Κ c).1 (h.nums hcm);have ha:=Ĭ hn.2.2.2.2.2.1;have hb:=Ĭ hn.2.2.2.2.2.2;have sb:=Cd h hcm;have c1:=cl i (by omega);rw[Ó hi,Ë hc,rA (by omega) (by omega),À,ajJ _ _ _ (by dsimp only; omega),À,rA (by omega) (by omega),À,ajJ _ _ _ (by dsimp only; omega),À];rw[show vv ((b.1.1,b.1.2),b.2.1,b.2.2.1,b.2.2.2.1,b.2.2.2.2.1,b.2.2.2.2.2) c=vv b c from rfl,h.says hcm,À];rw[Õ (by omega) (by omega),Ô (by simp only[List.length_append,List.length_cons,List.length_nil]; omega),Am.iff_true,Ô (by simp only[List.length_append,List.length_cons,List.length_nil]; omega),Am.iff_true,Î hi (by omega),gY _ hc,take_succ hc,List.flatMap_append,List.flatten_append];simp only[List.flatMap_cons,List.flatMap_nil,List.append_nil,List.flatten_cons,List.flatten_nil,List.append_assoc,Int.zero_sub];rfl
  ·try dsimp only
   unfold uK;rw[à,List.take_length];rfl
section
variable {ρ:Type}
def wv (w:List Bool) (v:Int):Bool:=w[v.toNat]?.getD false
def adW {w:List Bool} {u v:Int} (hu:0≤u) (hv:0≤v) (h:u.toNat<w.length) (y:Bool):wv (w.set u.toNat y) v=if v=u then y else wv w v:=by
 unfold wv;rw[List.getElem?_set]
 by_cases hvu:v=u
 ·subst hvu; simp[h]
 ·have:¬u.toNat=v.toNat:=by omega
  simp[hvu,this]
def jL {x:List Int} {v:Int} (h:v.toNat<x.length) (f:Int→Option ρ):ľ x v.toNat f=f (gv x v):=nM (Ug h) f
def Vf {w:List Bool} {v:Int} (h:v.toNat<w.length) (f:Bool→Option ρ):ľ w v.toNat f=f (wv w v):=by
 refine nM ?_ f;unfold wv; rw[List.getElem?_eq_getElem h]; rfl
def ħ {v:Int} {n:Nat} (h0:0≤v) (h1:v<n) (x:Option ρ):è ((ile 0 v)&&(ilt v (n:Int))) x=x:=by
 have:((ile 0 v)&&(ilt v (n:Int)))=true:=by simp[ile,ilt,h0,h1]
 rw[this,Am.iff_true]
end
def pj (n least:Int):List Lk→List Int→List Bool→List Int→Bool×List Int×List Bool×List Int
 |[],x,w,q=>(true,x,w,q)
 |l::t,x,w,q =>
  if l.1≠n then pj n least t x w q else
  if gv x l.2.1≤gv x n+l.2.2 then pj n least t x w q else
  if gv x n+l.2.2<least then(false,x.set l.2.1.toNat (gv x n+l.2.2),w,q) else
  if wv w l.2.1 then pj n least t (x.set l.2.1.toNat (gv x n+l.2.2)) w q else pj n least t (x.set l.2.1.toNat (gv x n+l.2.2)) (w.set l.2.1.toNat true) (q++[l.2.1])
structure il (L:List Lk) (N:Nat) (M:Int):Prop where
 inr:InR L N
 noloop:∀l∈L,l.1≠l.2.1
 most:∀l∈L,-M≤l.2.2∧l.2.2≤M
 len:L.length≤400
 nodes:N≤1000
 m0:0≤M
 m1:M≤4503599627370496
set_option maxHeartbeats 1000000 in
def ak9 {ρ:Type} {L:List Lk} {N:Nat} {M:Int} (hL:il L N M) {n least:Int} (hn:0≤n∧n<N) {x:List Int} {w:List Bool} {q:List Int} (hx:x.length=N) (hw:w.length=N) (hq:q.length≤1000000)
 (hb : -2305843009213693952≤gv x n∧gv x n≤2305843009213693952) (K0:(Val (.pair .bool (.pair (.slice tI) (.pair (.slice .bool) (.slice tI)))))→Option ρ) (K1:(Val (.pair (.slice tI) (.pair (.slice .bool) (.slice tI))))→Option ρ) :
 Ñ (fun(v47:(Val (.pair tI (.pair (.slice tI) (.pair (.slice .bool) (.slice tI)))))) kk52=>iP [] least n L (Ý L) v47.1 v47.2.1 v47.2.2.1 v47.2.2.2 (fun u48 u49 u50 u51=>kk52 (u48,u49,u50,u51)) K0 K1) ((0:Int),x,w,q) =
  match pj n least L x w q with
  |(true,r)=>K1 r
  |(false,r)=>K0 (false,r):=by
 have hlen:=hL.len
 refine Gr L (fun i (s:List Int×List Bool×List Int) t=>match pj n least t s.1 s.2.1 s.2.2 with|(true,r)=>K1 r|(false,r)=>K0 (false,r))
  (fun i s=>s.1.length=N∧s.2.1.length=N∧gv s.1 n=gv x n∧s.2.2.length≤1000000+i) (fun s hs kn=>?_) (fun i l t s hd hi hl hI kn hk=>?_) (s:=(x,w,q)) ⟨hx,hw,rfl,by simpa using hq⟩
 ·try dsimp only
  unfold iP;rw[à];rfl
 ·obtain⟨y,u,p⟩:=s;obtain⟨h1,h2,h3,h4⟩:=hI;dsimp only at h1 h2 h3 h4 hk ⊢;have hmem:l∈L:=List.mem_of_getElem? hl;have hr:=hL.inr l hmem;have hm:=hL.most l hmem;have hm1:=hL.m1;have hnl:=hL.noloop l hmem;unfold iP;rw[Ó hi,Ë hl];unfold pj
  by_cases hln:l.1=n
  ·have e0:ine l.1 n=false:=by simp[ine,hln]
   rw[Ò e0];have e1:∀(f:Bool→Option ρ) (g:Option ρ),X2 (k:=tI) (v:=.bool) (i:Int) [] f g=g:=fun f g=>rfl;rw[e1,if_neg (by simp[hln])]
   have tn:n.toNat<y.length:=by omega
   have tt:l.2.1.toNat<y.length:=by omega
   have tu:l.2.1.toNat<u.length:=by omega
   rw[ħ hn.1 (by omega),jL tn,Õ (by omega) (by omega),ħ hr.2.1 (by omega),jL tt,Ğ]
   by_cases hge:gv y l.2.1≤gv y n+l.2.2
   ·rw[if_pos (by simpa[ige] using hge),if_pos hge,Î hi (by omega)];exact hk (y,u,p) ⟨h1,h2,h3,by dsimp only; omega⟩
   ·rw[if_neg (by simpa[ige] using hge),if_neg hge]
    have hset:gv (y.set l.2.1.toNat (gv y n+l.2.2)) n=gv x n:=by
     rw[yL hr.2.1 hn.1 tt,if_neg (fun h=>hnl (hln.trans h)),h3]
    have hself:gv (y.set l.2.1.toNat (gv y n+l.2.2)) l.2.1=gv y n+l.2.2:=by
     rw[yL hr.2.1 hr.2.1 tt,if_pos rfl]
    rw[ħ hn.1 (by omega),jL tn,Õ (by omega) (by omega),ħ hr.2.1 (by omega),jL tt];rw[show(č (List.set y l.2.1.toNat (gv y n+l.2.2)))=((y.length:Nat):Int) by simp[č]];rw[ħ hr.2.1 (by omega),jL (by simpa using tt),hself,Ğ]
    by_cases hlt:gv y n+l.2.2<least
    ·rw[if_pos (by simpa[ilt] using hlt),if_pos hlt]
    ·rw[if_neg (by simpa[ilt] using hlt),if_neg hlt,ħ hr.2.1 (by omega),Vf tu,Ğ]
     cases hwv:wv u l.2.1 with
     |true =>
      rw[if_neg (by simp),if_pos rfl,Î hi (by omega)];exact hk (y.set l.2.1.toNat (gv y n+l.2.2),u,p) ⟨by simpa using h1,h2,hset,by dsimp only; omega⟩
     |false =>
      rw[if_pos (by simp),if_neg (by simp),Ô (by simp only[dl]; omega),Am.iff_true,ħ hr.2.1 (by omega),Vf tu,Î hi (by omega)];exact hk (y.set l.2.1.toNat (gv y n+l.2.2),u.set l.2.1.toNat true,p++[l.2.1]) ⟨by simpa using h1,by simpa using h2,hset,by simp only[cJ,dl]; omega⟩
  ·have e0:ine l.1 n=true:=by simp[ine,hln]
   rw[Ö e0,if_pos hln,Î hi (by omega)];exact hk (y,u,p) ⟨h1,h2,h3,by dsimp only; omega⟩
structure amd (N:Nat) (n least:Int) (L:List Lk) (x:List Int) (q:List Int) (x':List Int) (w':List Bool) (q':List Int):Prop where
 lx:x'.length=N
 lw:w'.length=N
 same:gv x' n=gv x n
 le:∀v:Int,0≤v→v<N→gv x' v≤gv x v
 link:∀v m,(n,v,m)∈L→gv x' v≤gv x n+m
 chg:∀v:Int,0≤v→v<N→gv x' v=gv x v∨(v∈q'∧gv x' v<gv x v∧∃m,(n,v,m)∈L∧gv x' v=gv x n+m∧least≤gv x' v)
 new:∃l,q'=q++l∧∀v∈l,(0≤v∧v<N)∧gv x' v<gv x v
 nodup:q'.Nodup
 waits:∀v:Int,0≤v→v<N→(wv w' v=true↔v∈q')
def j7 {N:Nat} {n least:Int} (hn:0≤n∧n<N):∀{L:List Lk},InR L N→(∀l∈L,l.1≠l.2.1)→∀{x:List Int} {w:List Bool} {q:List Int},x.length=N→w.length=N→q.Nodup→(∀v:Int,0≤v→v<N→(wv w v=true↔v∈q)) →
 ∀{x':List Int} {w':List Bool} {q':List Int},pj n least L x w q=(true,x',w',q')→amd N n least L x q x' w' q'
 |[],_,_,x,w,q,hx,hw,hq,hwq,x',w',q',h=>by
  cases h;exact⟨hx,hw,rfl,fun _ _ _=>dE _,fun _ _ h=>(by cases h),fun _ _ _=>.inl rfl,⟨[],by simp,fun _ h=>by cases h⟩,hq,hwq⟩
 |l::t,hL,hnl,x,w,q,hx,hw,hq,hwq,x',w',q',h=>by
  have hLt:InR t N:=fun l hl=>hL l (by simp[hl]);have hnt:∀l∈t,l.1≠l.2.1:=fun l hl=>hnl l (by simp[hl]);have hr:=hL l (by simp);have hl0:=hnl l (by simp);unfold pj at h
  split at h
  ·rename_i hne;have a:=j7 hn hLt hnt hx hw hq hwq h
   exact⟨a.lx,a.lw,a.same,a.le,fun v m hm=>by
    rcases cQ.1 hm with rfl|hm
    ·exact(hne rfl).elim
    ·exact a.link v m hm,fun v h0 h1=>(a.chg v h0 h1).imp id fun⟨g1,g2,m,g3,g4⟩=>⟨g1,g2,m,by simp[g3],g4⟩,a.new,a.nodup,a.waits⟩
  ·rename_i hne
   have hln:l.1=n:=by simpa using hne
   split at h
   ·rename_i hle;have a:=j7 hn hLt hnt hx hw hq hwq h
    exact⟨a.lx,a.lw,a.same,a.le,fun v m hm=>by
     rcases cQ.1 hm with rfl|hm
     ·have:=a.le v hr.2.1 hr.2.2; simp only at hle; omega
     ·exact a.link v m hm,fun v h0 h1=>(a.chg v h0 h1).imp id fun⟨g1,g2,m,g3,g4⟩=>⟨g1,g2,m,by simp[g3],g4⟩,a.new,a.nodup,a.waits⟩
   ·rename_i hgt
    split at h
    ·cases h
    ·rename_i hls
     have tt:l.2.1.toNat<x.length:=by omega
     have tw:l.2.1.toNat<w.length:=by omega
     have hy:(x.set l.2.1.toNat (gv x n+l.2.2)).length=N:=by simpa using hx
     have hyn:gv (x.set l.2.1.toNat (gv x n+l.2.2)) n=gv x n:=by
      rw[yL hr.2.1 hn.1 tt,if_neg (fun h=>hl0 (hln.trans h))]
     have hyv:∀v,0≤v→gv (x.set l.2.1.toNat (gv x n+l.2.2)) v=if v=l.2.1 then gv x n+l.2.2 else gv x v:=fun v h0=>yL hr.2.1 h0 tt _
     have hlm:(n,l.2.1,l.2.2)∈l::t:=by rw[←hln]; simp
     -- what both ways have in common
     have fin:∀{w1:List Bool} {q1:List Int},amd N n least t (x.set l.2.1.toNat (gv x n+l.2.2)) q1 x' w' q'→l.2.1∈q1→(∃l',q1=q++l'∧∀v∈l',v=l.2.1)→amd N n least (l::t) x q x' w' q':=by
      intro w1 q1 a hmem hq1;obtain⟨new,hnew,hnv⟩:=a.new;obtain⟨l',hl',hlv⟩:=hq1
      have hto:gv x' l.2.1≤gv x n+l.2.2:=by
       have:=a.le l.2.1 hr.2.1 hr.2.2;rw[hyv _ hr.2.1,if_pos rfl] at this;exact this
      refine⟨a.lx,a.lw,a.same.trans hyn,fun v h0 h1=>?_,fun v m hm=>?_,fun v h0 h1=>?_,⟨l'++new,by rw[hnew,hl',dh],fun v hv=>?_⟩,a.nodup,a.waits⟩
      ·have:=a.le v h0 h1;rw[hyv v h0] at this
       split at this
       ·rename_i e; subst e; omega
       ·exact this
      ·rcases cQ.1 hm with rfl|hm
       ·exact hto
       ·have:=a.link v m hm
        rwa [hyn] at this
      ·rcases a.chg v h0 h1 with g|⟨g1,g2,m,g3,g4,g5⟩
       ·rw[hyv v h0] at g
        split at g
        ·rename_i e;subst e;exact .inr ⟨by rw[hnew]; exact dV _ hmem,by omega,l.2.2,hlm,g,by omega⟩
        ·exact .inl g
       ·rw[hyv v h0] at g2;rw[hyn] at g4;refine .inr ⟨g1,?_,m,by simp[g3],g4,g5⟩
        split at g2
        ·rename_i e; subst e; omega
        ·exact g2
      ·rcases cN.1 hv with hv|hv
       ·rw[hlv v hv]; exact⟨hr.2,by omega⟩
       ·obtain⟨g1,g2⟩:=hnv v hv;rw[hyv v g1.1] at g2;refine⟨g1,?_⟩
        split at g2
        ·rename_i e; subst e; omega
        ·exact g2
     split at h
     ·rename_i hwt;exact fin (w1:=w) (j7 hn hLt hnt hy hw hq hwq h) ((hwq _ hr.2.1 hr.2.2).1 hwt) ⟨[],by simp,fun _ h=>by cases h⟩
     ·rename_i hwt;have hnq:l.2.1∉q:=fun hc=>hwt ((hwq _ hr.2.1 hr.2.2).2 hc);refine fin (w1:=w.set l.2.1.toNat true) (j7 hn hLt hnt hy (by simpa using hw) ?_ ?_ h) (by simp) ⟨[l.2.1],rfl,fun v hv=>by simpa using hv⟩
      ·rw[List.nodup_append];exact⟨hq,by simp,fun a ha b hb=>by simp at hb; subst hb; exact fun e=>hnq (e▸ha)⟩
      ·intro v h0 h1;rw[adW hr.2.1 h0 tw]
       by_cases hv:v=l.2.1
       ·simp[hv]
       ·simp only[hv,if_false,cN,cR,or_false];exact hwq v h0 h1
def mT {n least:Int}:∀{L:List Lk},(∀l∈L,l.1≠l.2.1)→(∀l∈L,0≤l.2.1)→0≤n→∀{x:List Int} {w:List Bool} {q:List Int} {r},pj n least L x w q=(false,r)→∃v m,(n,v,m)∈L∧gv x n+m<least
 |[],_,_,_,x,w,q,r,h=>by cases h
 |l::t,hnl,h0,hn,x,w,q,r,h=>by
  have hnt:∀l∈t,l.1≠l.2.1:=fun l hl=>hnl l (by simp[hl]);have h0t:∀l∈t,0≤l.2.1:=fun l hl=>h0 l (by simp[hl]);have up:(∃v m,(n,v,m)∈t∧gv x n+m<least)→∃v m,(n,v,m)∈l::t∧gv x n+m<least:=fun⟨v,m,g1,g2⟩=>⟨v,m,by simp[g1],g2⟩;unfold pj at h
  split at h
  ·exact up (mT hnt h0t hn h)
  ·rename_i hne
   have hln:l.1=n:=by simpa using hne
   split at h
   ·exact up (mT hnt h0t hn h)
   ·split at h
    ·rename_i hlt;exact⟨l.2.1,l.2.2,by rw[←hln]; simp,hlt⟩
    ·have hyn:gv (x.set l.2.1.toNat (gv x n+l.2.2)) n=gv x n:=by
      unfold gv;rw[List.getElem?_set];have h1:=hnl l (by simp);have h2:=h0 l (by simp)
      have:¬l.2.1.toNat=n.toNat:=by omega
      simp[this]
     split at h
     ·have:=mT hnt h0t hn h;rw[hyn] at this;exact up this
     ·have:=mT hnt h0t hn h;rw[hyn] at this;exact up this
def aeB {ρ:Type} {L:List Lk} {N:Nat} {M:Int} (hL:il L N M) {n least:Int} (hn:0≤n∧n<N) {x:List Int} {w:List Bool} {t rest:List Int} (hx:x.length=N) (hw:w.length=N) (ht:t.length=N) (hq:rest.length≤1000000)
 (hb : -2305843009213693952≤gv x n∧gv x n≤2305843009213693952) (htn:0≤gv t n∧gv t n≤1000000) (kn:List Int→List Bool→List Int→List Int→Option ρ) (k0:(Val (.pair .bool (.pair (.slice tI) (.pair (.slice .bool) (.pair (.slice tI) (.slice tI))))))→Option ρ) :
 Ħ [] least (N:Int) L x w t (n::rest) kn k0 =
  if (N:Int)+1<gv t n+1 then k0 (false,x,w.set n.toNat false,t.set n.toNat (gv t n+1),rest) else
  match pj n least L x (w.set n.toNat false) rest with
  |(true,x',w',q')=>kn x' w' (t.set n.toNat (gv t n+1)) q'
  |(false,x',w',q')=>k0 (false,x',w',t.set n.toNat (gv t n+1),q'):=by
 have hN:=hL.nodes
 have tn:n.toNat<x.length:=by omega
 have tw:n.toNat<w.length:=by omega
 have tt:n.toNat<t.length:=by omega
 unfold Ħ
 have e0:ieq (Ý (n::rest)) 0=false:=by
  rw[æ];simp only[ieq,cW,beq_eq_false_iff_ne,ne_eq];omega
 have e1:ilt (0:Int) (č (n::rest))=true:=by simp[ilt,č]
 have e2:ile (1:Int) (č (n::rest))=true:=by simp[ile,č]; omega
 have e3:decide (1+(List.length (n::rest)-1)=List.length (n::rest))=true:=by simp; omega
 rw[Ò e0,Ė e1];rw[show ľ (n::rest) 0=fun(f:Int→Option ρ)=>f n from rfl]
 try dsimp only
 rw[Ė e2,Ė e3,ħ hn.1 (by omega),Vf tw,ħ hn.1 (by omega),jL tt,Õ (by omega) (by omega),ħ hn.1 (by omega),jL tt];rw[show(č (List.set t n.toNat (gv t n+1)))=((t.length:Nat):Int) by simp[č]];rw[ħ hn.1 (by omega),jL (by simpa using tt),yL hn.1 hn.1 tt,if_pos rfl,Õ (by omega) (by omega),Ğ];rw[show List.drop 1 (n::rest)=rest from rfl]
 by_cases hlt:(N:Int)+1<gv t n+1
 ·rw[if_pos (by simpa[igt] using hlt),if_pos hlt]
 ·rw[if_neg (by simpa[igt] using hlt),if_neg hlt];rw[ak9 hL hn hx (w:=w.set n.toNat false) (by simpa using hw) hq hb];generalize pj n least L x (w.set n.toNat false) rest=r;obtain⟨b,x',w',q'⟩:=r
  cases b<;>rfl
def ahH {ρ:Type} {L:List Lk} {N:Int} {least:Int} {x:List Int} {w:List Bool} {t:List Int} (kn:List Int→List Bool→List Int→List Int→Option ρ) (k0:(Val (.pair .bool (.pair (.slice tI) (.pair (.slice .bool) (.pair (.slice tI) (.slice tI))))))→Option ρ) :
 Ħ [] least N L x w t [] kn k0=k0 (true,x,w,t,[]):=by
 unfold Ħ
 have e0:ieq (Ý ([]:List Int)) 0=true:=by rw[æ]; rfl
 rw[Ö e0]
def Xe (N:Nat) (t:List Int):Nat:=(t.map fun a=>((N:Int)+2-a).toNat).sum
def aeM (N:Nat):∀(t:List Int) (i:Nat) (a b:Int),t[i]?=some a→a<b→a<(N:Int)+2→Xe N (t.set i b)<Xe N t
 |a0::t,0,a,b,h,h1,h2=>by
  simp at h; subst h;simp only[Xe,List.set_cons_zero,ej,List.sum_cons];omega
 |a0::t,i+1,a,b,h,h1,h2=>by
  have:=aeM N t i a b (by simpa using h) h1 h2;simp only[Xe] at this;simp only[Xe,List.set_cons_succ,ej,List.sum_cons];omega
def aaF {N:Nat} {t:List Int} {n:Int} (hn:n.toNat<t.length) (h:gv t n≤(N:Int)+1):Xe N (t.set n.toNat (gv t n+1))<Xe N t :=
 aeM N t n.toNat (gv t n) _ (Ug hn) (by omega) (by omega)
structure ag7 (L:List Lk) (S:Int→Prop) (N:Nat) (M:Int) (k:Nat) (A B:List Int) (x:List Int) (w:List Bool) (t q:List Int):Prop where
 q_eq:q=A++B
 lx:x.length=N
 lw:w.length=N
 lt:t.length=N
 nodup:q.Nodup
 rng:∀v∈q,0≤v∧v<N
 waits:∀v:Int,0≤v→v<N→(wv w v=true↔v∈q)
 t0:∀v:Int,0≤v→v<N→0≤gv t v∧gv t v≤(k:Int)+1
 tA:∀v∈A,gv t v≤k
 low:∀vs v d,Wl L S vs v d→vs.length≤k→gv x v≤d
 nxt:∀vs u d,Wl L S vs u d→vs.length≤k→u∉A→∀v m,(u,v,m)∈L→gv x v≤d+m
 rel:∀u:Int,0≤u→u<N→u∉q→gv x u≠ķ→∀v m,(u,v,m)∈L→gv x v≤gv x u+m
 att:∀v:Int,0≤v→v<N→gv x v≠ķ→∃vs,Wl L S vs v (gv x v)
 bd:∀v:Int,0≤v→v<N→gv x v=ķ∨gv x v≤((k:Int)+1)*M
 bA:∀v∈A,gv x v≤(k:Int)*M
 fin:∀v∈q,gv x v<ķ
 kN:k+1≤N
 last:k+1=N→B=[]
section
variable {L:List Lk} {S:Int→Prop} {N:Nat} {M:Int} {p:Int→Int} {k:Nat} {A B x:List Int} {w:List Bool} {t q:List Int}
def Mn {a b:Nat} {M:Int} (h:a≤b) (hM:0≤M):(a:Int)*M≤(b:Int)*M:=fm (by omega) hM
def Wl.lt_free (hL:il L N M) (hNM:N*M<ķ) {vs:List Int} {v d:Int} (hw:Wl L S vs v d) (h:vs.length≤N):d<ķ:=by
 have h1:=hw.high fun l hl=>(hL.most l hl).2;have h2:=Mn h hL.m0;omega
def ag7.next (hL:il L N M) (hNM:N*M<ķ) (hS:∀v,S v→0≤v∧v<N) (h:ag7 L S N M k [] B x w t q) (hB:B≠[]):ag7 L S N M (k+1) B [] x w t q:=by
 have hM:=hL.m0
 have hq:q=B:=by simpa using h.q_eq
 have hk:k+1≠N:=fun e=>hB (h.last e);have hkN:=h.kN
 have low':∀vs v d,Wl L S vs v d→vs.length≤k+1→gv x v≤d:=by
  intro vs v d hw hl
  cases hw with
  |nil hs=>exact h.low [] v 0 (.nil hs) (by simp)
  | @step vs u _ m d hw hlk=>exact h.nxt vs u d hw (by simpa using hl) (by simp) v m hlk
 refine⟨by simp[hq],h.lx,h.lw,h.lt,h.nodup,h.rng,h.waits,fun v h0 h1=>⟨(h.t0 v h0 h1).1,by have:=(h.t0 v h0 h1).2; push_cast; omega⟩,fun v hv=>?_,low',fun vs u d hw hl hu v m hlk=>?_,h.rel,h.att,fun v h0 h1=>?_,fun v hv=>?_,h.fin,by omega,fun _=>rfl⟩
 ·have:=h.rng v (by rw[hq]; exact hv);have:=(h.t0 v this.1 this.2).2;push_cast; omega
 ·have h1:=low' vs u d hw hl;have h2:=hw.lt_free hL hNM (by omega);have h3:=(hw.range hL.inr hS).1;have:=h.rel u h3.1 h3.2 (by rw[hq]; exact hu) (by omega) v m hlk;omega
 ·rcases h.bd v h0 h1 with h2|h2
  ·exact .inl h2
  ·refine .inr ?_;have:=Mn (show k+1≤k+1+1 by omega) hM;push_cast at this ⊢;omega
 ·have h1:=h.rng v (by rw[hq]; exact hv);have h2:=h.fin v (by rw[hq]; exact hv);rcases h.bd v h1.1 h1.2 with h3|h3
  ·omega
  ·push_cast; exact h3
def ag7.step {n:Int} {A':List Int} {least:Int} {x':List Int} {w':List Bool} {q':List Int} (hL:il L N M) (hNM:N*M<ķ) (hp:Pot L p) (hS:∀v,S v→0≤v∧v<N) (h:ag7 L S N M k (n::A') B x w t q)
 (ha:amd N n least L x (A'++B) x' w' q'):∃B',ag7 L S N M k A' B' x' w' (t.set n.toNat (gv t n+1)) q':=by
 have hM:=hL.m0
 have hq:q=n::(A'++B):=by simpa using h.q_eq
 have hkN:=h.kN;have hnr:=h.rng n (by rw[hq]; simp);have hnf:=h.fin n (by rw[hq]; simp)
 have hnd:n∉A'++B:=by have:=h.nodup; rw[hq,fC] at this; exact this.1
 have htn:n.toNat<t.length:=by have:=h.lt; omega
 have tset:∀v,0≤v→gv (t.set n.toNat (gv t n+1)) v=if v=n then gv t n+1 else gv t v:=fun v h0=>yL hnr.1 h0 htn _
 have hkM:((k:Int)+1)*M<ķ:=by
  have:=Mn hkN hM;push_cast at this;omega
 have xle:∀v:Int,0≤v→v<N→gv x v≤ķ:=fun v h0 h1=>by rcases h.bd v h0 h1 with h2|h2<;>omega
 obtain⟨l,hl,hlv⟩:=ha.new
 have att':∀v:Int,0≤v→v<N→gv x' v≠ķ→∃vs,Wl L S vs v (gv x' v):=by
  intro v h0 h1 hne;rcases ha.chg v h0 h1 with g|⟨_,_,m,g3,g4,_⟩
  ·rw[g] at hne ⊢; exact h.att v h0 h1 hne
  ·obtain⟨vs,hw⟩:=h.att n hnr.1 hnr.2 (by omega);rw[g4]; exact⟨_,hw.step g3⟩
 refine⟨B++l,by rw[hl,dh],ha.lx,ha.lw,by rw[eT]; exact h.lt,ha.nodup,fun v hv=>?_,ha.waits,fun v h0 h1=>?_,fun v hv=>?_,fun vs v d hw hlen=>?_,fun vs u d hw hlen hu v m hlk=>?_,
  fun u h0 h1 hu hf v m hlk=>?_,att',fun v h0 h1=>?_,fun v hv=>?_,fun v hv=>?_,hkN,fun hk=>?_⟩
 ·rw[hl] at hv;rcases cN.1 hv with hv|hv
  ·exact h.rng v (by rw[hq]; simp only[cQ]; exact .inr hv)
  ·exact(hlv v hv).1
 ·rw[tset v h0];have h2:=h.t0 v h0 h1
  split
  ·have h3:=h.tA n (by simp);have h4:=h.t0 n hnr.1 hnr.2;omega
  ·exact h2
 ·have h1:=h.rng v (by rw[hq]; simp[hv]);rw[tset v h1.1,if_neg (fun e=>hnd (by rw[←e]; simp[hv]))];exact h.tA v (by simp[hv])
 ·have h1:=h.low vs v d hw hlen;have h2:=(hw.range hL.inr hS).1;have:=ha.le v h2.1 h2.2;omega
 ·have hvr:=(hL.inr _ hlk).2
  by_cases hun:u=n
  ·subst hun;have h1:=ha.link v m hlk;have h2:=h.low vs u d hw hlen;omega
  ·have h1:=h.nxt vs u d hw hlen (by simp[hun,hu]) v m hlk;have:=ha.le v hvr.1 hvr.2;omega
 ·have hvr:=(hL.inr _ hlk).2
  have heq:gv x' u=gv x u:=by
   rcases ha.chg u h0 h1 with g|⟨g,_⟩
   ·exact g
   ·exact(hu g).elim
  by_cases hun:u=n
  ·subst hun;have h1:=ha.link v m hlk;omega
  ·have hur:u∉q:=by
    rw[hq];intro hc;rcases cQ.1 hc with e|hc
    ·exact hun e
    ·exact hu (by rw[hl]; exact dV _ hc)
   have h2:=h.rel u h0 h1 hur (by rw[←heq]; exact hf) v m hlk;have:=ha.le v hvr.1 hvr.2;omega
 ·rcases ha.chg v h0 h1 with g|⟨_,_,m,g3,g4,_⟩
  ·rw[g]; exact h.bd v h0 h1
  ·have h2:=h.bA n (by simp);have h3:=(hL.most _ g3).2;simp only at h3;refine .inr ?_;rw[g4,fS,f7];omega
 ·have h1:=h.rng v (by rw[hq]; simp[hv]);have h2:=h.bA v (by simp[hv]);have:=ha.le v h1.1 h1.2;omega
 ·rw[hl] at hv;rcases cN.1 hv with hv|hv
  ·have h1:=h.rng v (by rw[hq]; simp only[cQ]; exact .inr hv);have h2:=h.fin v (by rw[hq]; simp only[cQ]; exact .inr hv);have:=ha.le v h1.1 h1.2;omega
  ·obtain⟨g1,g2⟩:=hlv v hv;have:=xle v g1.1 g1.2;omega
 ·rw[h.last hk]
  cases l with
  |nil=>rfl
  |cons v l =>
   exfalso;obtain⟨g1,g2⟩:=hlv v (by simp);have:=xle v g1.1 g1.2;obtain⟨vs,hw⟩:=att' v g1.1 g1.2 (by omega);obtain⟨vs',d',k1,k2,k3⟩:=hw.simple hp;have k4:=k1.short hL.inr hS k3;have:=h.low vs' v d' k1 (by omega);omega
def ag7.done (hL:il L N M) (hNM:N*M<ķ) (hp:Pot L p) (hS:∀v,S v→0≤v∧v<N) (h:ag7 L S N M k A B x w t []):ag8 L S N (gv x):=by
 have hkN:=h.kN;have hM:=hL.m0
 have hkM:((k:Int)+1)*M<ķ:=by
  have:=Mn hkN hM;push_cast at this;omega
 have key:∀vs v d,Wl L S vs v d→vs.length+1≤N→gv x v≤d:=by
  intro vs v d hw
  induction hw with
  |nil hs=>intro _; exact h.low [] _ 0 (.nil hs) (by simp)
  | @step vs u v m d hw hlk ih =>
   intro hlen;simp only[cW] at hlen;have h1:=ih (by omega);have h2:=hw.lt_free hL hNM (by omega);have h3:=(hw.range hL.inr hS).1;have:=h.rel u h3.1 h3.2 (by simp) (by omega) v m hlk;omega
 refine⟨h.att,fun v vs d hw=>?_,fun v h0 h1=>?_⟩
 ·obtain⟨vs',d',k1,k2,k3⟩:=hw.simple hp;have:=key vs' v d' k1 (k1.short hL.inr hS k3);omega
 ·rcases h.bd v h0 h1 with h2|h2<;>omega
def Yi {ρ:Type} {r:Option ρ} (hL:il L N M) (hNM:N*M<ķ) (hp:Pot L p) (hS:∀v,S v→0≤v∧v<N) (k0:(Val (.pair .bool (.pair (.slice tI) (.pair (.slice .bool) (.pair (.slice tI) (.slice tI))))))→Option ρ)
 (hK:∀x w t q,x.length=N→ag8 L S N (gv x)→k0 (true,x,w,t,q)=r) (h:ag7 L S N M k A B x w t q) :
 Ñ (fun(v64:(Val (.pair (.slice tI) (.pair (.slice .bool) (.pair (.slice tI) (.slice tI)))))) kk69=>Ħ [] (Mm L) (N:Int) L v64.1 v64.2.1 v64.2.2.1 v64.2.2.2 (fun u65 u66 u67 u68=>kk69 (u65,u66,u67,u68)) k0) (x,w,t,q)=r:=by
 refine Ņ (fun s:List Int×List Bool×List Int×List Int=>∃k A B,ag7 L S N M k A B s.1 s.2.1 s.2.2.1 s.2.2.2) (fun s=>Xe N s.2.2.1) ?_ ⟨k,A,B,h⟩;rintro⟨x,w,t,q⟩ ⟨k,A,B,h⟩;dsimp only at h ⊢;have hN:=hL.nodes
 cases q with
 |nil=>exact .inl fun kn=>by rw[ahH]; exact hK x w t [] h.lx (h.done hL hNM hp hS)
 |cons n rest =>
  -- the phase in which the first one is
  have hph:∃k A' B,ag7 L S N M k (n::A') B x w t (n::rest):=by
   cases A with
   |nil =>
    have hB:B=n::rest:=by simpa using h.q_eq.symm
    subst hB;exact⟨k+1,rest,[],h.next hL hNM hS (by simp)⟩
   |cons a A' =>
    have:=h.q_eq;simp only[eM,List.cons.injEq] at this;obtain⟨rfl,_⟩:=this;exact⟨k,A',B,h⟩
  clear h k A B;obtain⟨k,A',B,h⟩:=hph
  have hrest:rest=A'++B:=by have:=h.q_eq; simpa using this
  have hnr:=h.rng n (by simp);have hnf:=h.fin n (by simp);have hkN:=h.kN;have h1:=h.tA n (by simp);have h2:=h.t0 n hnr.1 hnr.2;obtain⟨vs,hw⟩:=h.att n hnr.1 hnr.2 (by omega);have hlow:=hw.low' hp
  have hneg : -(400*4503599627370496)≤Mm L:=by
   have:∀L':List Lk,(∀l∈L',-M≤l.2.2)→-((L'.length:Int)*M)≤Mm L':=by
    intro L'
    induction L' with
    |nil=>intro _; simp[Mm,K9]
    |cons l t ih =>
     intro hh;have i1:=ih fun l hl=>hh l (by simp[hl]);have i2:=hh l (by simp);have i3:=hL.m0;unfold Mm at i1 ⊢;simp only[K9,if_true,List.length_cons,Int.natCast_succ,Int.add_mul,Int.one_mul];omega
   have h3:=this L fun l hl=>(hL.most l hl).1;have h4:(L.length:Int)*M≤400*4503599627370496:=ff (by have:=hL.len; omega) hL.m1 hL.m0 (by omega);omega
  have hrl:rest.length≤1000000:=by
   have:=aen N (n::rest) h.nodup h.rng;simp only[cW] at this;omega
  refine .inr ?_
  have hw':(w.set n.toNat false).length=N:=by rw[eT]; exact h.lw
  cases hr:pj n (Mm L) L x (w.set n.toNat false) rest with
  |mk b r' =>
  obtain⟨x',w',q'⟩:=r'
  cases b with
  |false =>
   exfalso;obtain⟨v,m,g1,g2⟩:=mT hL.noloop (fun l hl=>(hL.inr l hl).2.1) hnr.1 hr;have:=(hw.step g1).low' hp;omega
  |true =>
   have hnd:=h.nodup;rw[fC] at hnd
   have ha:=j7 hnr hL.inr hL.noloop h.lx hw' hnd.2 (fun v h0 h1=>by
    rw[adW hnr.1 h0 (by have:=h.lw; omega)]
    by_cases hv:v=n
    ·subst hv; simp[hnd.1]
    ·rw[if_neg hv,h.waits v h0 h1]
     simp[hv]) hr
   rw[hrest] at ha;obtain⟨B',hB'⟩:=h.step hL hNM hp hS ha;refine⟨(x',w',t.set n.toNat (gv t n+1),q'),⟨k,A',B',hB'⟩,aaF (by have:=h.lt; omega) (by omega),fun kn=>?_⟩;have hF:ķ=1152921504606846976:=rfl
   rw[aeB hL hnr h.lx h.lw h.lt hrl (by constructor<;>omega) (by constructor<;>omega),if_neg (by omega),hr]
end
def Nt (f:Lk→Bool):∀(L L':List Lk),K9 f (L++L')=K9 f L+K9 f L'
 |[],L'=>by simp[K9]
 |l::t,L'=>by
  simp only[eM,K9,Nt f t L'];omega
def Za {L:List Lk} {i:Nat} {l:Lk} (h:L[i]?=some l):Mm (L.take (i+1))=Mm (L.take i)+min l.2.2 0:=by
 rw[take_succ h,Mm,Mm,Nt];simp[K9]
def imin0 (e:Int):Xj e 0=min e 0:=by
 unfold Xj
 split<;>omega
def Vg {L:List Lk} {M:Int} (h:∀l∈L,-M≤l.2.2) (hM:0≤M) : -((L.length:Int)*M)≤Mm L:=by
 induction L with
 |nil=>simp[Mm,K9]
 |cons l t ih =>
  have i1:=ih fun l hl=>h l (by simp[hl]);have i2:=h l (by simp);unfold Mm at i1 ⊢;simp only[K9,if_true,List.length_cons,Int.natCast_succ,Int.add_mul,Int.one_mul];omega
def am1 (L:List Lk):Mm L≤0:=tM _ L
section
variable {ρ:Type} {L:List Lk} {N:Nat} {M:Int}
def aeN (hL:il L N M) (k0:Int→Option ρ):Ñ (fun(v75:Val Â) kk78=>gH L (Ý L) v75.1 v75.2 (fun u76 u77=>kk78 (u76,u77)) k0) ((0:Int),(0:Int))=k0 (Mm L):=by
 refine Ņ (fun x:Int×Int=>∃i:Nat,i≤L.length∧x=(Mm (L.take i),(i:Int))) (fun x=>L.length-x.2.toNat) ?_ ⟨0,by omega,rfl⟩;rintro x ⟨i,hi,rfl⟩;have hlen:=hL.len;rcases dv i L.length with h|h
 ·have hl:L[i]?=some L[i]:=cG h;refine .inr ⟨(Mm (L.take (i+1)),(i:Int)+1),⟨i+1,h,by simp⟩,by simp; omega,fun kn=>?_⟩
  try dsimp only
  unfold gH
  have hb:∀j,j≤L.length→-(400*4503599627370496)≤Mm (L.take j):=by
   intro j hj;have h1:=Vg (L:=L.take j) (fun l hl=>(hL.most l (List.mem_of_mem_take hl)).1) hL.m0;have h2:((L.take j).length:Int)*M≤400*4503599627370496:=ff (by rw[cY]; omega) hL.m1 hL.m0 (by omega);omega
  have h1:=hb i hi;have h2:=hb (i+1) h;have h3:=am1 (L.take i);rw[Za hl] at h2;rw[Ó h,Ë hl,imin0,Õ (by omega) (by omega),Î h (by omega),Za hl]
 ·refine .inl fun kn=>?_
  have:i=L.length:=by omega
  subst this
  try dsimp only
  unfold gH;rw[à,List.take_length]
def ahm {x:List Int} (hx:x.length=N) (hN:N≤1000) {r:Option ρ} (k0:(Val (.pair (.slice .bool) (.slice tI)))→Option ρ)
 (hK:∀(w:List Bool) (q:List Int),w.length=N→q.Nodup→(∀v∈q,0≤v∧v<N)→(∀v:Int,0≤v→v<N→(wv w v=true↔v∈q))→(∀v:Int,0≤v→v<N→(v∈q↔gv x v≠ķ))→k0 (w,q)=r) :
 Ñ (fun(v70:(Val (.pair tI (.pair (.slice .bool) (.slice tI))))) kk74=>ŕ (N:Int) x v70.1 v70.2.1 v70.2.2 (fun u71 u72 u73=>kk74 (u71,u72,u73)) k0) ((0:Int),(List.replicate N false),([]:List Int))=r:=by
 refine Ņ (fun s:Int×List Bool×List Int=>∃i:Nat,i≤N∧s.1=i∧s.2.1.length=N∧s.2.2.Nodup∧s.2.2.length≤i∧(∀v∈s.2.2,0≤v∧v<i)∧(∀v:Int,0≤v→v<N→(wv s.2.1 v=true↔v∈s.2.2))∧(∀v:Int,0≤v→v<i→(v∈s.2.2↔gv x v≠ķ))) (fun s=>N-s.1.toNat) ?_
  ⟨0,by omega,rfl,by simp,by simp,by simp,by simp,fun v h0 h1=>?_,fun v h0 h1=>by omega⟩
 ·rintro⟨s,w,q⟩ ⟨i,hi,h1,h2,h3,h4,h5,h6,h7⟩;simp only at h1 h2 h3 h4 h5 h6 h7;subst h1;rcases dv i N with h|h
  ·refine .inr ?_
   have hix:i<x.length:=by omega
   have hiw:i<w.length:=by omega
   have hnq:((i:Int))∉q:=fun hc=>by have:=(h5 _ hc).2; omega
   by_cases hf:gv x i=ķ
   ·refine⟨((i:Int)+1,w,q),⟨i+1,h,by simp,h2,h3,by simp only; omega,fun v hv=>⟨(h5 v hv).1,by have:=(h5 v hv).2; push_cast; omega⟩,h6,fun v h0 h1=>?_⟩,by simp; omega,fun kn=>?_⟩
    ·by_cases hv:v=i
     ·subst hv; simp[hf,hnq]
     ·exact h7 v h0 (by push_cast at h1; omega)
    ·try dsimp only
     unfold ŕ
     have e:ilt (i:Int) (N:Int)=true:=by simp[ilt,h]
     rw[Ö e,gK hix,jL (by simpa using hix)]
     have e2:ine (gv x i) 1152921504606846976=false:=by simp[ine,hf]
     rw[Ò e2,Î h (by omega)]
   ·refine⟨((i:Int)+1,w.set i true,q++[(i:Int)]),⟨i+1,h,by simp,by simpa using h2,?_,by simp; omega,fun v hv=>?_,fun v h0 h1=>?_,fun v h0 h1=>?_⟩,by simp; omega,fun kn=>?_⟩
    ·rw[List.nodup_append];exact⟨h3,by simp,fun a ha b hb=>by simp at hb; subst hb; exact fun e=>hnq (e▸ha)⟩
    ·rcases cN.1 hv with hv|hv
     ·exact⟨(h5 v hv).1,by have:=(h5 v hv).2; push_cast; omega⟩
     ·simp at hv; subst hv; push_cast; omega
    ·have:=adW (w:=w) (u:=(i:Int)) (by omega) h0 (by simpa using hiw) true;rw[di] at this;show wv (w.set i true) v=true↔v∈q++[(i:Int)];rw[this]
     by_cases hv:v=i
     ·simp[hv]
     ·simp only[hv,if_false,cN,cR,or_false];exact h6 v h0 h1
    ·show v∈q++[(i:Int)]↔_
     by_cases hv:v=i
     ·subst hv; simp[hf]
     ·simp only[cN,cR,hv,or_false];exact h7 v h0 (by push_cast at h1; omega)
    ·try dsimp only
     unfold ŕ
     have e:ilt (i:Int) (N:Int)=true:=by simp[ilt,h]
     rw[Ö e,gK hix,jL (by simpa using hix)]
     have e2:ine (gv x i) 1152921504606846976=true:=by simp[ine,hf]
     rw[Ö e2,Ô (by simp only[dl]; omega),Am.iff_true,gK hiw,Vf (by simpa using hiw),Î h (by omega),di]
  ·refine .inl fun kn=>?_
   have:i=N:=by omega
   subst this
   try dsimp only
   unfold ŕ
   have e:ilt (i:Int) (i:Int)=false:=by simp[ilt]
   rw[Ò e];exact hK w q h2 h3 h5 h6 h7
 ·have:wv (List.replicate N false) v=false:=by
   unfold wv;rw[List.getElem?_replicate]
   split<;>rfl
  simp[this]
def S9 (hL:il L N M) (hN:1≤N) {S:Int→Bool} (hS:∀v,S v=true→0≤v∧v<N) {w:List Bool} {q:List Int} (hw:w.length=N) (hq:q.Nodup) (hr:∀v∈q,0≤v∧v<N) (hwq:∀v:Int,0≤v→v<N→(wv w v=true↔v∈q)) (hqs:∀v:Int,0≤v→v<N→(v∈q↔gv (tB S N) v≠ķ)) :
 ag7 L (fun v=>S v=true) N M 0 q [] (tB S N) w (List.replicate N 0) q:=by
 have ht:∀v:Int,0≤v→v<N→gv (List.replicate N (0:Int)) v=0:=by
  intro v h0 h1;unfold gv;rw[List.getElem?_replicate]
  split<;>rfl
 have hg:∀v:Int,0≤v→v<N→(v∈q↔S v=true):=by
  intro v h0 h1;rw[hqs v h0 h1,iB S h0 h1]
  cases S v<;>simp[ķ]
 have hM:=hL.m0;refine⟨by simp,ö S N,hw,by simp,hq,hr,hwq,fun v h0 h1=>?_,fun v hv=>?_,fun vs v d hw hl=>?_,fun vs u d hw hl hu v m hlk=>?_,fun u h0 h1 hu hf v m hlk=>?_,fun v h0 h1 hf=>?_,fun v h0 h1=>?_,fun v hv=>?_,fun v hv=>?_,by omega,fun _=>rfl⟩
 ·rw[ht v h0 h1]; omega
 ·have:=hr v hv;rw[ht v this.1 this.2]; omega
 ·cases hw with
  |nil hs =>
   have:=hS v hs;rw[iB S this.1 this.2,if_pos hs]; omega
  |step=>simp at hl
 ·cases hw with
  |nil hs =>
   have:=hS u hs;exact(hu ((hg u this.1 this.2).2 hs)).elim
  |step=>simp at hl
 ·rw[iB S h0 h1] at hf;have:=mt (hg u h0 h1).2 hu;rw[if_neg this] at hf;exact(hf rfl).elim
 ·rw[iB S h0 h1] at hf ⊢
  split at hf
  ·rename_i hs;rw[if_pos hs]; exact⟨[],.nil hs⟩
  ·exact(hf rfl).elim
 ·rw[iB S h0 h1]
  split
  ·exact .inr (by simp[hM])
  ·exact .inl rfl
 ·have h1:=hr v hv;rw[iB S h1.1 h1.2,if_pos ((hg v h1.1 h1.2).1 hv)]; simp
 ·have h1:=hr v hv;rw[iB S h1.1 h1.2,if_pos ((hg v h1.1 h1.2).1 hv)]; simp[ķ]
structure Bad (L:List Lk) (N:Nat) (x:List Int) (w:List Bool) (t q:List Int):Prop where
 lx:x.length=N
 lw:w.length=N
 lt:t.length=N
 nodup:q.Nodup
 rng:∀v∈q,0≤v∧v<N
 waits:∀v:Int,0≤v→v<N→(wv w v=true↔v∈q)
 t0:∀v:Int,0≤v→v<N→0≤gv t v∧gv t v≤(N:Int)+1
 bd:∀v:Int,0≤v→v<N→-2305843009213693952≤gv x v∧gv x v≤0
 rel:∀u:Int,0≤u→u<N→u∉q→∀v m,(u,v,m)∈L→gv x v≤gv x u+m
def aky {r:Option ρ} {x:List Int} {w:List Bool} {t q:List Int} (hL:il L N M) (hp:¬∃p,Pot L p) (k0:(Val (.pair .bool (.pair (.slice tI) (.pair (.slice .bool) (.pair (.slice tI) (.slice tI))))))→Option ρ)
 (hK:∀x w t q,k0 (false,x,w,t,q)=r) (h:Bad L N x w t q) :
 Ñ (fun(v64:(Val (.pair (.slice tI) (.pair (.slice .bool) (.pair (.slice tI) (.slice tI)))))) kk69=>Ħ [] (Mm L) (N:Int) L v64.1 v64.2.1 v64.2.2.1 v64.2.2.2 (fun u65 u66 u67 u68=>kk69 (u65,u66,u67,u68)) k0) (x,w,t,q)=r:=by
 refine Ņ (fun s:List Int×List Bool×List Int×List Int=>Bad L N s.1 s.2.1 s.2.2.1 s.2.2.2) (fun s=>Xe N s.2.2.1) ?_ h;rintro⟨x,w,t,q⟩ h;dsimp only at h ⊢;have hN:=hL.nodes
 cases q with
 |nil =>
  exfalso;exact hp ⟨gv x,fun u v m hl=>h.rel u (hL.inr _ hl).1.1 (hL.inr _ hl).1.2 (by simp) v m hl⟩
 |cons n rest =>
  have hnr:=h.rng n (by simp);have hb:=h.bd n hnr.1 hnr.2;have ht:=h.t0 n hnr.1 hnr.2
  have hrl:rest.length≤1000000:=by
   have:=aen N (n::rest) h.nodup h.rng;simp only[cW] at this;omega
  have hout:=fun(kn:List Int→List Bool→List Int→List Int→Option ρ)=>aeB (ρ:=ρ) hL (least:=Mm L) hnr h.lx h.lw h.lt hrl ⟨hb.1,by omega⟩ ⟨ht.1,by omega⟩ kn k0
  by_cases hlt:(N:Int)+1<gv t n+1
  ·exact .inl fun kn=>by rw[hout,if_pos hlt]; exact hK _ _ _ _
  ·have hw':(w.set n.toNat false).length=N:=by rw[eT]; exact h.lw
   cases hr:pj n (Mm L) L x (w.set n.toNat false) rest with
   |mk b r' =>
   obtain⟨x',w',q'⟩:=r'
   cases b with
   |false=>exact .inl fun kn=>by rw[hout,if_neg hlt,hr]; exact hK _ _ _ _
   |true =>
    have hnd:=h.nodup;rw[fC] at hnd
    have htl:n.toNat<t.length:=by have:=h.lt; omega
    have ha:=j7 hnr hL.inr hL.noloop h.lx hw' hnd.2 (fun v h0 h1=>by
     rw[adW hnr.1 h0 (by have:=h.lw; omega)]
     by_cases hv:v=n
     ·subst hv; simp[hnd.1]
     ·rw[if_neg hv,h.waits v h0 h1]
      simp[hv]) hr
    obtain⟨l,hl,hlv⟩:=ha.new;refine .inr ⟨(x',w',t.set n.toNat (gv t n+1),q'),⟨ha.lx,ha.lw,by rw[eT]; exact h.lt,ha.nodup,fun v hv=>?_,ha.waits,fun v h0 h1=>?_,fun v h0 h1=>?_,fun u h0 h1 hu v m hlk=>?_⟩,aaF htl (by omega),fun kn=>by rw[hout,if_neg hlt,hr]⟩
    ·dsimp only at hv;rw[hl] at hv;rcases List.mem_append.1 hv with hv|hv
     ·exact h.rng v (by simp[hv])
     ·exact(hlv v hv).1
    ·try dsimp only
     rw[yL hnr.1 h0 htl];have:=h.t0 v h0 h1
     split<;>omega
    ·try dsimp only
     have h2:=h.bd v h0 h1;rcases ha.chg v h0 h1 with g|⟨_,g2,m,g3,g4,g5⟩
     ·rw[g]; exact h2
     ·have h3:=Vg (L:=L) (fun l hl=>(hL.most l hl).1) hL.m0;have h4:(L.length:Int)*M≤400*4503599627370496:=ff (by have:=hL.len; omega) hL.m1 hL.m0 (by omega);omega
    ·dsimp only at hu ⊢;have hvr:=(hL.inr _ hlk).2
     have heq:gv x' u=gv x u:=by
      rcases ha.chg u h0 h1 with g|⟨g,_⟩
      ·exact g
      ·exact(hu g).elim
     by_cases hun:u=n
     ·subst hun;have h1:=ha.link v m hlk;omega
     ·have hur:u∉n::rest:=by
       intro hc;rcases cQ.1 hc with e|hc
       ·exact hun e
       ·exact hu (by rw[hl]; exact dV _ hc)
      have h2:=h.rel u h0 h1 hur v m hlk;have:=ha.le v hvr.1 hvr.2;omega
end
def ag6 (N:Nat) (v:Int):Bool:=decide (0≤v)&&decide (v<(N:Int))
def ahP (s:Int) (v:Int):Bool:=v==s
def Yh (N:Nat):tB (ag6 N) N=List.replicate N 0:=by
 refine aeS (by simp[ö]) fun v h0 h1=>?_;rw[ö] at h1;rw[iB _ h0 h1]
 have:ag6 N v=true:=by simp[ag6,h0,h1]
 rw[if_pos this];unfold gv;rw[List.getElem?_replicate]
 split<;>rfl
def ģ (L:List Lk) (N:Nat):List Int:=kh L N (tB (ag6 N) N)
def ġ (L:List Lk) (N:Nat):Bool:=decide (K5 L (ģ L N)=ģ L N)
def nv (L:List Lk) (N:Nat) (s:Int):List Int:=kh L N (tB (ahP s) N)
section
variable {L:List Lk} {N:Nat} {M:Int}
def akT (hL:il L N M) (hN:N≤200):N*M<ķ:=by
 have:(N:Int)*M≤200*4503599627370496:=Int.mul_le_mul (by omega) hL.m1 hL.m0 (by omega);unfold ķ;omega
def zl {p:Int→Int} (hL:il L N M) (hN:N≤200) (hp:Pot L p):ag8 L (fun v=>ag6 N v=true) N (gv (ģ L N)) :=
 M7 hp hL.inr (fun v h=>by simpa[ag6] using h) (fun l hl=>(hL.most l hl).2) hL.m0 (akT hL hN) N (by omega)
def δ {p:Int→Int} (hL:il L N M) (hN:N≤200) (hp:Pot L p) {s:Int} (hs:0≤s∧s<N):ag8 L (fun v=>ahP s v=true) N (gv (nv L N s)) :=
 M7 hp hL.inr (fun v h=>by simp[ahP] at h; subst h; exact hs) (fun l hl=>(hL.most l hl).2) hL.m0 (akT hL hN) N (by omega)
def YE:∀{L:List Lk} {x:List Int},(∀u v m,(u,v,m)∈L→gv x u<ķ→gv x v≤gv x u+m)→K5 L x=x
 |[],x,_=>rfl
 |l::t,x,h=>by
  have h1:lp x l=x:=by
   unfold lp
   split
   ·rename_i hc;have:=h l.1 l.2.1 l.2.2 (by simp) hc.1;omega
   ·rfl
  show K5 t (lp x l)=x;rw[h1];exact YE fun u v m hm=>h u v m (by simp[hm])
def ĭ (hL:il L N M) (hN:N≤200):ġ L N=true↔∃p,Pot L p:=by
 unfold ġ;rw[decide_eq_true_eq]
 have hle:∀v:Int,0≤v→v<N→gv (ģ L N) v≤0:=by
  intro v h0 h1;have:=DJ hL.inr N (ö (ag6 N) N) v h0;rw[iB _ h0 h1,if_pos (by simp[ag6,h0,h1])] at this;exact this
 constructor
 ·intro h;refine⟨gv (ģ L N),fun u v m hl=>?_⟩;have hr:=(hL.inr _ hl).1;have:=HB hL.inr (x:=ģ L N) (by unfold ģ; rw[ğ,ö]) u v m hl (by have:=hle u hr.1 hr.2; unfold ķ; omega)
  rwa [h] at this
 ·rintro⟨p,hp⟩;have hd:=zl hL hN hp;exact YE fun u v m hl hf=>hd.pot hL.inr hl (by omega)
end
section
variable {ρ:Type} {L:List Lk} {N:Nat} {M:Int}
def Gy (hN:N≤1000) (x:Option ρ):è ((ile (0:Int) (N:Int))&&(ç (Int.toNat (N:Int)))) x=x:=by
 rw[di,Ô (by omega)]
 have:((ile (0:Int) (N:Int))&&true)=true:=by simp[ile]
 rw[this,Am.iff_true]
def ab8 (hL:il L N M) (h1:1≤N) (hN:N≤200) (k0:(Val (.pair .bool (.pair (.slice tI) (.pair (.slice .bool) (.pair (.slice tI) (.slice tI))))))→Option ρ) {rT rF:Option ρ}
 (hT:ġ L N=true→∀w t q,k0 (true,ģ L N,w,t,q)=rT) (hF:∀x w t q,k0 (false,x,w,t,q)=rF) :
 (Ñ (fun(v70:(Val (.pair tI (.pair (.slice .bool) (.slice tI))))) kk74=>ŕ (N:Int) (List.replicate N (0:Int)) v70.1 v70.2.1 v70.2.2 (fun u71 u72 u73=>kk74 (u71,u72,u73)) (fun z9=>Ñ (fun(v64:(Val (.pair (.slice tI) (.pair (.slice .bool) (.pair (.slice tI) (.slice tI)))))) kk69=>Ħ [] (Mm L) (N:Int) L v64.1 v64.2.1 v64.2.2.1 v64.2.2.2 (fun u65 u66 u67 u68=>kk69 (u65,u66,u67,u68)) k0) ((List.replicate N (0:Int)),z9.1,(List.replicate N (0:Int)),z9.2))) ((0:Int),(List.replicate N false),([]:List Int)))=if ġ L N then rT else rF:=by
 refine ahm (by simp) (by omega) _ fun w q hw hq hr hwq hqs=>?_
 try dsimp only
 have hS:∀v,ag6 N v=true→0≤v∧v<N:=fun v h=>by simpa[ag6] using h
 by_cases ho:ġ L N=true
 ·rw[if_pos ho];obtain⟨p,hp⟩:=(ĭ hL hN).1 ho;have hs:=S9 hL h1 hS hw hq hr hwq (fun v a b=>by rw[Yh]; exact hqs v a b);rw[Yh] at hs;refine Yi hL (akT hL hN) hp hS k0 (fun x w t q hx hd=>?_) hs
  have:x=ģ L N:=by
   refine aeS (by rw[hx]; unfold ģ; rw[ğ,ö]) fun v a b=>?_;exact hd.uniq (zl hL hN hp) a (by omega)
  rw[this]; exact hT ho w t q
 ·rw[if_neg ho];refine aky hL (fun hp=>ho ((ĭ hL hN).2 hp)) k0 hF ?_
  have hg:∀v,gv (List.replicate N (0:Int)) v=0:=by
   intro v;unfold gv;rw[List.getElem?_replicate]
   split<;>rfl
  refine⟨by simp,hw,by simp,hq,hr,hwq,fun v a b=>?_,fun v a b=>?_,fun u a b hu v m hl=>?_⟩
  ·rw[hg]; omega
  ·rw[hg]; omega
  ·exact(hu ((hqs u a b).2 (by rw[hg]; unfold ķ; omega))).elim
end
def shift_ok {ρ:Type} {x:List Int} (f:Int) (hx:x.length≤1000) (hf : -2305843009213693952≤f∧f≤2305843009213693952) (hb:∀a∈x,-2305843009213693952≤a∧a≤2305843009213693952) (k0:List Int→Option ρ) :
 Ñ (fun(v60:(Val (.pair tI (.slice tI)))) kk63=>iO f (Ý x) v60.1 v60.2 (fun u61 u62=>kk63 (u61,u62)) k0) ((0:Int),x)=k0 (x.map fun a=>a-f):=by
 refine ð x (fun i=>(x.take i).map (fun a=>a-f)++x.drop i) _ (by simp) (fun i a hi ha kn=>?_) (fun kn=>?_)
 ·try dsimp only
  unfold iO
  have hlen:((x.take i).map (fun a=>a-f)++x.drop i).length=x.length:=by simp; omega
  have hget:((x.take i).map (fun a=>a-f)++x.drop i)[i]?=some a:=by
   rw[f5 (by simp; omega)];simp only[dT,cY,eN];rw[←ha]; congr 1; omega
  have hi':i<((x.take i).map (fun a=>a-f)++x.drop i).length:=by omega
  have ha':=hb a (cO ha);rw[Ó hi,gK hi',ĥ hget,Õ (by omega) (by omega),gK hi',ĥ hget,Î hi (by omega),di,take_succ ha];congr 2;rw[fi hi,gF,dh,List.set_append_right _ _ (by simp; omega)]
  have:i-(List.map (fun a=>a-f) (List.take i x)).length=0:=by simp; omega
  rw[this]
  have h1:x[i]=a:=by rw[cG hi] at ha; simpa using ha
  simp[h1]
 ·try dsimp only
  unfold iO;rw[à];simp
section
variable {L:List Lk} {N:Nat} {M:Int}
def UN (hL:il L N M) (hN:N≤200) (ho:ġ L N=true):∀a∈ģ L N,-2305843009213693952≤a∧a≤0:=by
 obtain⟨p,hp⟩:=(ĭ hL hN).1 ho;have hd:=zl hL hN hp;intro a ha;obtain⟨i,hi,rfl⟩:=cZ.1 ha
 have hlen:(ģ L N).length=N:=by unfold ģ; rw[ğ,ö]
 have h0:gv (ģ L N) i=(ģ L N)[i]:=by unfold gv; simp[hi]
 have hle:=DJ hL.inr N (ö (ag6 N) N) (i:Int) (by omega);rw[iB _ (by omega) (by omega),if_pos (by simp[ag6]; omega)] at hle;have hle':gv (ģ L N) i≤0:=hle;obtain⟨vs,hw⟩:=hd.att i (by omega) (by omega) (by unfold ķ; omega);have h1:=hw.low' hp;have h3:=Vg (L:=L) (fun l hl=>(hL.most l hl).1) hL.m0;have h4:(L.length:Int)*M≤400*4503599627370496:=Int.mul_le_mul (by have:=hL.len; omega) hL.m1 hL.m0 (by omega);omega
def X1 (L:List Lk) (N:Nat):List Int:=(ģ L N).map fun a=>a-gv (ģ L N) 0
def tC (hL:il L N M) (h1:1≤N) (hN:N≤200):iV ((N:Int),L) []=some (if ġ L N then(X1 L N,true) else([],false)):=by
 unfold iV ye
 try dsimp only
 rw[Gy (by omega),Gy (by omega),Gy (by omega),di];refine eI (aeN hL _) ?_;refine eI (ab8 hL h1 hN _ (rT:=some (X1 L N,true)) (rF:=some ([],false)) (fun ho w t q=>?_) (fun x w t q=>?_)) ?_
 ·try dsimp only
  have hlen:(ģ L N).length=N:=by unfold ģ; rw[ğ,ö]
  have hb:=UN hL hN ho;have h0:ilt (0:Int) (č (ģ L N))=true:=decide_eq_true (show(0:Int)<((ģ L N).length:Int) by omega);have hg:(ģ L N)[0]?=some (gv (ģ L N) 0):=Ug (v:=0) (show 0<_ by omega);have hm:=hb _ (cO hg);rw[show(!true)=false from rfl,î,Ė h0,nM hg];exact shift_ok _ (by omega) ⟨hm.1,by omega⟩ (fun a ha=>⟨(hb a ha).1,by have:=(hb a ha).2; omega⟩) _
 ·rfl
 ·cases ġ L N<;>rfl
structure ĩ (L:List Lk) (N:Nat):Prop where
 n1:1≤N
 n60:N≤60
 len:L.length≤300
 inr:InR L N
 noloop:∀l∈L,l.1≠l.2.1
 most:∀l∈L,-4503599627370496≤l.2.2∧l.2.2≤4503599627370496
def ĩ.links (h:ĩ L N):il L N 4503599627370496 :=
 ⟨h.inr,h.noloop,h.most,by have:=h.len; omega,by have:=h.n60; omega,by omega,by omega⟩
def ĩ.sub {L':List Lk} (h:ĩ L N) (hs:∀l∈L',l∈L) (hl:L'.length≤L.length):ĩ L' N :=
 ⟨h.n1,h.n60,by have:=h.len; omega,fun l hm=>h.inr l (hs l hm),fun l hm=>h.noloop l (hs l hm),fun l hm=>h.most l (hs l hm)⟩
def Ns (n:Int) (L:List Lk) (v:Int):qO (n,L) v=some (decide (0≤v)&&decide (v<n)):=by
 unfold qO Wr ige
 by_cases h:0≤v
 ·have:decide (v≥0)=true:=by simpa using h
  rw[Ö this]; simp[h]
 ·have:decide (v≥0)=false:=by simpa using h
  rw[Ò this]; simp[h]
def kZ (h:ĩ L N):mZ ((N:Int),L)=some (0,-1):=by
 have h1:=h.n1;have h2:=h.n60;have h3:=h.len;unfold mZ Pb
 try dsimp only
 rw[Ò (by simp[ilt]; omega),Ò (by simp[igt]; omega),Ò (by rw[æ]; simp[igt]; omega)];refine eI (gI L (fun _=>false) (fun i=>some (1,i)) (some (0,-1)) (fun i l hi hl kn=>?_) (fun kn=>?_)) ?_
 ·try dsimp only
  unfold qx;have hm:=List.mem_of_getElem? hl;have a:=h.inr l hm;have b:=h.noloop l hm;have c:=h.most l hm
  have e1:(decide (0≤l.1)&&decide (l.1<(N:Int)))=true:=by simp[a.1.1,a.1.2]
  have e2:(decide (0≤l.2.1)&&decide (l.2.1<(N:Int)))=true:=by simp[a.2.1,a.2.2]
  rw[Ó hi,Ë hl,Ns,À,e1,Ns,À,e2];simp only[dY,î,dg,if_false];rw[Ò (by simp[ieq,b]),Ò (by simp[ilt]; omega),Ò (by simp[igt]; omega),Î hi (by omega)]
 ·try dsimp only
  unfold qx;rw[à]
 ·rw[eh.2 (by simp)]
def nt {ρ:Type} {x:List Int} {v:Int} (h0:0≤v) (h:v.toNat<x.length) (f:Int→Option ρ):ü x v f=f (gv x v):=by
 obtain⟨i,rfl⟩:=fL h0;exact Ë (Ug h) f
def ang (L:List Lk) (x:List Int):Bool:=L.all fun l=>decide (gv x l.2.1≤gv x l.1+l.2.2)
end
section
variable {b:Ü}
def vA (b:Ü) (g:é):(Þ b g).Pairwise (·<·):=Cc _
def Qp (h:đ b) {g:é} (hg:g∈b.2.1):∃t,Þ b g=g.2.1::t:=by
 have h1:=vA b g;have h2:=jI (b:=b) g;have h3:∀d∈Þ b g,g.2.1≤d:=fun d hd=>(h.day hg hd).1
 cases hd:Þ b g with
 |nil=>rw[hd] at h2; cases h2
 |cons a t =>
  rw[hd] at h1 h2 h3;rw[dA] at h1;rcases cQ.1 h2 with e|e
  ·exact⟨t,by rw[e]⟩
  ·have:=h1.1 _ e;have:=h3 a (by simp);omega
def off (b:Ü) (i:Nat):Nat:=((b.2.1.take i).flatMap fun g=>(Þ b g).map fun d=>((g.1,d):Int×Int)).length
def Co {i:Nat} {g:é} (hg:b.2.1[i]?=some g):Ê b=((b.2.1.take i).flatMap fun g=>(Þ b g).map fun d=>((g.1,d):Int×Int))++(((Þ b g).map fun d=>((g.1,d):Int×Int))++((b.2.1.drop (i+1)).flatMap fun g=>(Þ b g).map fun d=>((g.1,d):Int×Int))):=by
 obtain⟨hi,rfl⟩:=cM.1 hg
 have h1:b.2.1=b.2.1.take i++(b.2.1[i]::b.2.1.drop (i+1)):=by
  rw[←fi hi,List.take_append_drop]
 unfold Ê
 conv=>lhs; rw[h1]
 rw[eG,dN]
def Ve (h:đ b) {i:Nat} {g:é} (hg:b.2.1[i]?=some g) {k:Nat} {d:Int} (hk:(Þ b g)[k]?=some d):gV (Ê b) g.1 d=some (off b i+k):=by
 obtain⟨hi,hgi⟩:=List.getElem?_eq_some_iff.1 hg;obtain⟨hkl,hkd⟩:=List.getElem?_eq_some_iff.1 hk;unfold gV;rw[Co hg,List.findIdx?_append,List.findIdx?_append]
 have h1:List.findIdx? (fun n:Int×Int=>decide (g.1=n.1)&&decide (d=n.2)) ((b.2.1.take i).flatMap fun g=>(Þ b g).map fun d=>((g.1,d):Int×Int))=none:=by
  rw[eh];intro x hx;obtain⟨g',hg',hx⟩:=dm.1 hx;obtain⟨d',_,rfl⟩:=dQ.1 hx;obtain⟨j,hj,rfl⟩:=cZ.1 hg';rw[cY] at hj;rw[List.getElem_take];have:=(dC.1 h.ids) j i (by omega) hi (by omega);rw[hgi] at this;simp only[Bool.and_eq_false_iff,decide_eq_false_iff_not];exact .inl (by omega)
 have h2:List.findIdx? (fun n:Int×Int=>decide (g.1=n.1)&&decide (d=n.2)) ((Þ b g).map fun d=>((g.1,d):Int×Int))=some k:=by
  rw[dG];refine⟨by simpa using hkl,by simp[hkd],fun j hj=>?_⟩;have:=(dC.1 (vA b g)) j k (by omega) hkl hj;rw[hkd] at this;simp only[List.getElem_map,cI,decide_eq_true_eq,not_and];intro _;omega
 rw[h1,h2];simp only[Option.map_some,Option.some_or,Option.none_or];unfold off;congr 1;omega
def Ml {i:Nat} {g:é} (hg:b.2.1[i]?=some g) {k:Nat} {d:Int} (hk:(Þ b g)[k]?=some d):(Ê b)[off b i+k]?=some (g.1,d):=by
 obtain⟨hkl,hkd⟩:=List.getElem?_eq_some_iff.1 hk;rw[Co hg,List.getElem?_append_right (by unfold off; omega),List.getElem?_append_left (by unfold off; simp; omega)];unfold off;simp[hk]
def afl (h:đ b) {i:Nat} {g:é} (hg:b.2.1[i]?=some g):atP (Ê b) [g.1] g.2.1=(off b i:Int)+1:=by
 obtain⟨t,ht⟩:=Qp h (List.mem_of_getElem? hg);have:=Ve h hg (k:=0) (d:=g.2.1) (by rw[ht]; rfl);unfold atP;simp only[this];rfl
def ahR (h:đ b) {i:Nat} {g:é} (hg:b.2.1[i]?=some g):off b i+(Þ b g).length≤(Ê b).length:=by
 rw[Co hg];unfold off;simp only[List.length_append,List.length_map];omega
def akQ {i:Nat} {g:é} (hg:b.2.1[i]?=some g):off b (i+1)=off b i+(Þ b g).length:=by
 unfold off;rw[take_succ hg,List.flatMap_append];simp
def Y9 (h:đ b) {c:Cmp} (hc:c∈b.2.2.2.2.1) {x:Int} (hx:(x∈c.2.2.1∧x∉c.2.2.2.1)∨(x∈c.2.2.2.1∧x∉c.2.2.1)):∃j,gV (Ê b) x c.2.1=some j:=by
 have hm:x∈c.2.2.1++c.2.2.2.1:=by rw[cN]; exact hx.imp (·.1) (·.1)
 obtain⟨⟨g,hg,_⟩,_⟩:=h.pile hc hm;obtain⟨hgm,hgx⟩:=mV hg;obtain⟨i,hi,hgi⟩:=cZ.1 hgm
 have hd:c.2.1∈Þ b g:=jC.2 (.inr (.inl ⟨c,hc,by
  rw[hgx];rcases hx with⟨h1,h2⟩|⟨h1,h2⟩
  ·have e1:c.2.2.1.contains x=true:=by simpa using h1
   have e2:c.2.2.2.1.contains x=false:=by simpa using h2
   rw[e1,e2]; simp
  ·have e1:c.2.2.2.1.contains x=true:=by simpa using h1
   have e2:c.2.2.1.contains x=false:=by simpa using h2
   rw[e1,e2]; simp,rfl⟩))
 obtain⟨k,hk,hkd⟩:=cZ.1 hd;have:=Ve h (g:=g) (i:=i) (by rw[cG hi,hgi]) (k:=k) (d:=c.2.1) (by rw[cG hk,hkd]);rw[hgx] at this;exact⟨_,this⟩
inductive agZ (b:Ü) (p:List Int) (d:Int) (n:Int):Prop
 |none:p=[]→n=0→agZ b p d n
 |one (x:Int) (j:Nat):p=[x]→gV (Ê b) x d=some j→n=(j:Int)+1→agZ b p d n
def Xw (h:đ b) {c:Cmp} (hc:c∈b.2.2.2.2.1):agZ b (å c.2.2.1 c.2.2.2.1) c.2.1 (cx b c):=by
 have hl:=(h.lefts hc).1
 cases hp:å c.2.2.1 c.2.2.2.1 with
 |nil=>exact .none rfl (by unfold cx atP; rw[hp])
 |cons x t =>
  rw[hp] at hl
  have:t=[]:=by cases t with|nil=>rfl|cons=>simp at hl
  subst this;obtain⟨j,hj⟩:=Y9 h hc (x:=x) (.inl (jw.1 (by rw[hp]; simp)));exact .one x j rfl hj (by unfold cx atP; rw[hp]; simp only[hj])
def Qq (h:đ b) {c:Cmp} (hc:c∈b.2.2.2.2.1):agZ b (å c.2.2.2.1 c.2.2.1) c.2.1 (cy b c):=by
 have hl:=(h.lefts hc).2.1
 cases hp:å c.2.2.2.1 c.2.2.1 with
 |nil=>exact .none rfl (by unfold cy atP; rw[hp])
 |cons x t =>
  rw[hp] at hl
  have:t=[]:=by cases t with|nil=>rfl|cons=>simp at hl
  subst this;obtain⟨j,hj⟩:=Y9 h hc (x:=x) (.inr (jw.1 (by rw[hp]; simp)));exact .one x j rfl hj (by unfold cy atP; rw[hp]; simp only[hj])
def agZ.rng {p:List Int} {d n:Int} (h:agZ b p d n):0≤n∧n<((Ê b).length+1:Nat):=by
 rcases h with⟨_,h⟩|⟨x,j,_,h1,h2⟩
 ·omega
 ·have:=(jY h1).1;omega
def alv (h:đ b) {c:Cmp} (hc:c∈b.2.2.2.2.1):cx b c≠cy b c:=by
 have hl:=(h.lefts hc).2.2;rcases Xw h hc with⟨h1,h2⟩|⟨x,j,h1,h2,h3⟩
 ·rcases Qq h hc with⟨g1,g2⟩|⟨y,k,g1,g2,g3⟩
  ·rw[h1,g1] at hl; simp at hl
  ·omega
 ·rcases Qq h hc with⟨g1,g2⟩|⟨y,k,g1,g2,g3⟩
  ·omega
  ·intro e
   have:j=k:=by omega
   subst this;have e1:=(jY h2).2;have e2:=(jY g2).2;rw[e1] at e2;simp only[Option.some.injEq,Prod.mk.injEq] at e2
   have m1:x∈å c.2.2.1 c.2.2.2.1:=by rw[h1]; simp
   have m2:y∈å c.2.2.2.1 c.2.2.1:=by rw[g1]; simp
   rw[e2.1] at m1;exact(jw.1 m1).2 (jw.1 m2).1
def Gs (h:đ b):(ß b).length=2*(Ê b).length+2*b.2.2.2.2.1.length:=by
 have h1:∀l:List é,(∀g∈l,g∈b.2.1)→(l.flatMap (ô b)).length=2*(l.flatMap fun g=>(Þ b g).map fun d=>((g.1,d):Int×Int)).length:=by
  intro l
  induction l with
  |nil=>intro _; rfl
  |cons g t ih =>
   intro hm;have:=ih fun g hg=>hm g (by simp[hg]);have hp:=List.length_pos_of_mem (jI (b:=b) g);simp only[List.flatMap_cons,List.length_append,List.length_map,this];unfold ô;rw[List.length_append,Ů _ _ (fun _=>rfl)];simp only[List.length_cons,List.length_nil];omega
 have h2:∀l:List Cmp,(l.flatMap (Ā b)).length=2*l.length:=by
  intro l
  induction l with
  |nil=>rfl
  |cons c t ih =>
   simp only[dN,cJ,ih,Ā,cW,dj];omega
 unfold ß;rw[List.length_append,h1 _ fun _ h=>h,h2];rfl
def ĸ (h:đ b) {i:Nat} {g:é} (hg:b.2.1[i]?=some g) {l:Lk}:l∈ô b g ↔
 l=(0,(off b i:Int)+1,g.2.2.1+g.2.2.2.1.2)∨l=((off b i:Int)+1,0,-(g.2.2.1+g.2.2.2.1.1)) ∨
 ∃(k:Nat) (d e:Int),(Þ b g)[k]?=some d∧(Þ b g)[k+1]?=some e∧(l=((off b i:Int)+k+1,(off b i:Int)+k+2,0)∨l=((off b i:Int)+k+2,(off b i:Int)+k+1,iw b g d e)):=by
 unfold ô;rw[afl h hg];simp only[List.mem_append,List.mem_cons,List.not_mem_nil,or_false,List.mem_flatMap,List.mem_range];constructor
 ·rintro((h1|h1)|⟨k,hk,h1⟩)
  ·exact .inl h1
  ·exact .inr (.inl h1)
  ·refine .inr (.inr ⟨k,(Þ b g)[k],(Þ b g)[k+1],cG (by omega),cG (by omega),?_⟩);rw[cG (show k<(Þ b g).length by omega),cG (show k+1<(Þ b g).length by omega)] at h1;simp only[fe] at h1
   have e1:(off b i:Int)+1+k=(off b i:Int)+k+1:=by omega
   have e2:(off b i:Int)+k+1+1=(off b i:Int)+k+2:=by omega
   rw[e1,e2] at h1;exact h1
 ·rintro(h1|h1|⟨k,d,e,hd,he,h1⟩)
  ·exact .inl (.inl h1)
  ·exact .inl (.inr h1)
  ·obtain⟨h2,rfl⟩:=cM.1 hd;obtain⟨h3,rfl⟩:=cM.1 he;refine .inr ⟨k,by omega,?_⟩;rw[hd,he];simp only[fe]
   have e1:(off b i:Int)+1+k=(off b i:Int)+k+1:=by omega
   have e2:(off b i:Int)+k+1+1=(off b i:Int)+k+2:=by omega
   rw[e1,e2];exact h1
def oz {l:Lk}:l∈ß b↔(∃(i:Nat) (g:é),b.2.1[i]?=some g∧l∈ô b g)∨∃c∈b.2.2.2.2.1,l=(cy b c,cx b c,(Ι b c).2)∨l=(cx b c,cy b c,-(Ι b c).1):=by
 unfold ß;simp only[List.mem_append,List.mem_flatMap,Ā,List.mem_cons,List.not_mem_nil,or_false];constructor
 ·rintro(⟨g,hg,h⟩|h)
  ·obtain⟨i,hi,rfl⟩:=cZ.1 hg;exact .inl ⟨i,_,cG hi,h⟩
  ·exact .inr h
 ·rintro(⟨i,g,hg,h⟩|h)
  ·exact .inl ⟨g,cO hg,h⟩
  ·exact .inr h
def đ.sys (h:đ b):ĩ (ß b) ((Ê b).length+1):=by
 have hN:=h.nodes;have hL:=h.links
 have key:∀l∈ß b,((0≤l.1∧l.1<((Ê b).length+1:Nat))∧(0≤l.2.1∧l.2.1<((Ê b).length+1:Nat)))∧l.1≠l.2.1∧(-4503599627370496≤l.2.2∧l.2.2≤4503599627370496):=by
  intro l hl;rcases oz.1 hl with⟨i,g,hg,hl⟩|⟨c,hc,hl⟩
  ·have hgm:=cO hg;have hr:=h.gaugeR hgm;have ho:=ahR h hg;have hp:=fR (jI (b:=b) g);have r1:=hr.2.2.2.2.2.1;have r2:=hr.2.2.2.2.2.2.1;rcases(ĸ h hg).1 hl with rfl|rfl|⟨k,d,e,hd,he,h1⟩
   ·dsimp only; omega
   ·dsimp only; omega
   ·obtain⟨h2,_⟩:=cM.1 he;have d1:=h.day hgm (cO hd);have lb:=jU h hgm (t:=e) d1.2.1;rcases h1 with rfl|rfl
    ·dsimp only; omega
    ·dsimp only; omega
  ·have a:=(Xw h hc).rng;have b':=(Qq h hc).rng;have ne:=alv h hc;have sb:=Cd h hc;rcases hl with rfl|rfl
   ·dsimp only; omega
   ·dsimp only; omega
 exact⟨by omega,by omega,by rw[Gs h]; omega,fun l hl=>(key l hl).1,fun l hl=>(key l hl).2.1,fun l hl=>(key l hl).2.2⟩
end
def Mw (b:Ü) (x:List Int):Bool:=decide (x.length=(Ê b).length)&&x.all fun n=>inP n (-4503599627370496) 4503599627370496
def anf (b:Ü) (x:List Int):Bool:=ang (ß b) (0::x)
def akb (b:Ü) (x:List Int):Bool×Int:=if ä b≠0 then(false,ä b) else if Mw b x then(anf b x,0) else(false,1)
def ajG {ρ:Type}:@uE ρ=@gH ρ:=rfl
def ajF {ρ:Type}:@uD ρ=@ŕ ρ:=rfl
def ajE {ρ:Type}:@uC ρ=@Ħ ρ:=rfl
def aaN {ρ:Type} {N:Nat} (hN:N≤1000) (x:Option ρ):è ((ile (0:Int) (N:Int))&&(ç N)) x=x:=by
 have:=Gy hN x
 rwa [di] at this
section
variable {L:List Lk} {N:Nat} {M:Int}
def ahl {s:Int} (hs:0≤s∧s<N):(List.replicate N ķ).set s.toNat 0=tB (ahP s) N:=by
 refine aeS (by simp[ö]) fun v h0 h1=>?_
 have hv:v<N:=by simpa using h1
 rw[iB _ h0 hv,yL hs.1 h0 (by simp; omega)];unfold ahP
 by_cases h:v=s
 ·simp[h]
 ·simp only[h,if_false,beq_iff_eq];unfold gv;rw[List.getElem?_replicate]
  have:v.toNat<N:=by omega
  simp[this]
def ajD (hL:il L N M) (h1:1≤N) (hN:N≤200) (ho:ġ L N=true) {s:Int} (hs:0≤s∧s<N):zS ((N:Int),L) [] s=some (nv L N s):=by
 obtain⟨p,hp⟩:=(ĭ hL hN).1 ho;unfold zS IE;rw[ajG,ajF,ajE];dsimp only;rw[Gy (by omega),Int.toNat_natCast];refine ð (List.replicate N (0:Int)) (fun i=>List.replicate i ķ++List.replicate (N-i) 0) _ (by simp) (fun i a hi ha kn=>?_) (fun kn=>?_)
 ·dsimp only;unfold nY
  have hiN:i<N:=by simpa using hi
  have hl:i<(List.replicate i ķ++List.replicate (N-i) (0:Int)).length:=by simp; omega
  rw[Ó hi,gK hl,ĥ (cG hl),Î hiN (by omega),di];congr 2;rw[List.set_append_right _ _ (by simp)]
  have:N-i=(N-(i+1))+1:=by omega
  rw[this,fD,Nat.sub_self,List.replicate_succ,List.set_cons_zero,List.replicate_succ'];simp
 ·try dsimp only
  unfold nY;rw[à];dsimp only
  have e0:List.replicate (List.replicate N (0:Int)).length ķ++List.replicate (N-(List.replicate N (0:Int)).length) 0=List.replicate N ķ:=by simp
  rw[e0]
  have hlen:s.toNat<(List.replicate N ķ).length:=by simp; omega
  rw[show č (List.replicate N ķ)=((N:Nat):Int) by simp[č],ħ hs.1 hs.2,jL hlen,aaN (by omega),aaN (by omega),ahl hs];refine eI (aeN hL _) ?_
  have hS:∀v,ahP s v=true→0≤v∧v<N:=fun v h=>by simp[ahP] at h; subst h; exact hs
  refine ahm (ö _ _) (by omega) _ fun w q hw hq hr hwq hqs=>?_;have hs0:=S9 hL h1 hS hw hq hr hwq hqs;refine Yi hL (akT hL hN) hp hS _ (fun x w t q hx hd=>?_) hs0
  have:x=nv L N s:=by
   refine aeS (by rw[hx]; unfold nv; rw[ğ,ö]) fun v a b=>?_;exact hd.uniq (δ hL hN hp hs) a (by omega)
  dsimp only;rw[this]
def gM (L:List Lk) (N:Nat) (s t:Int):Int×Int :=
 if !ġ L N then(0,9) else if gv (nv L N s) t=ķ then(0,5) else(gv (nv L N s) t,0)
def alW (h:ĩ L N) {ns:List Int} (hn:∀n∈ns,0≤n∧n<N) (hl:ns.length≤1000):GV ((N:Int),L) ns=some (if ġ L N then 0 else 9):=by
 have h2:=h.n60;unfold GV O1;rw[kZ h,À];dsimp only;rw[Ò (by rfl)];refine Eq.trans (gI ns (fun _=>false) (fun _=>some 1) (some (if ġ L N then 0 else 9)) (fun i n hi hm kn=>?_) (fun kn=>?_)) ?_
 ·try dsimp only
  unfold qv;have a:=hn n (List.mem_of_getElem? hm)
  have e:(decide (0≤n)&&decide (n<(N:Int)))=true:=by simp[a.1,a.2]
  rw[Ó hi,Ë hm,Ns,À,e,Î hi (by omega)];simp
 ·try dsimp only
  unfold qv;rw[à,tC h.links h.n1 (by omega),À]
  cases ġ L N<;>rfl
 ·rw[eh.2 (by simp)]
def Hq (h:ĩ L N) {s t:Int} (hs:0≤s∧s<N) (ht:0≤t∧t<N):m5 ((N:Int),L) s t=some (gM L N s t):=by
 have h2:=h.n60;unfold m5 Ph gM
 rw[alW h (fun n hn=>by simp at hn; rcases hn with rfl|rfl<;>assumption) (by simp),À]
 by_cases ho:ġ L N=true
 ·rw[if_pos ho,Ò (by rfl),ajD h.links h.n1 (by omega) ho hs,À,nt ht.1 (by unfold nv; rw[ğ,ö]; omega),Ğ,if_neg (show ¬(!ġ L N)=true by simp[ho])]
  by_cases hf:gv (nv L N s) t=ķ
  ·rw[if_pos (by simpa[ieq] using hf),if_pos hf]
  ·rw[if_neg (by simpa[ieq] using hf),if_neg hf]
 ·rw[if_neg ho,Ö (by rfl),if_pos (show(!ġ L N)=true by simpa using ho)]
end
def ë (b:Ü) (c:Cmp):Ü:=(b.1,b.2.1,b.2.2.1,b.2.2.2.1,b.2.2.2.2.1++[c],b.2.2.2.2.2)
def ln:Ü:=((0,0),[],[],[],[],[])
def zf (b:Ü) (c:Cmp):Ü×Int:=if ä b≠0 then(ln,ä b) else if ä (ë b c)≠0 then(ln,ä (ë b c)) else(ë b c,0)
def ah3 {b:Ü} (h:đ b) {c:Cmp} (hA:c.2.2.1.length≤1000) (hB:c.2.2.2.1.length≤1000):ŷ (ë b c):=by
 have hs:=h.size;have:=h.nC;refine⟨hs.gauges,hs.uses,hs.loans,by simp[ë]; omega,hs.looks,fun d hd=>?_⟩;rcases cN.1 (show d∈b.2.2.2.2.1++[c] from hd) with hd|hd
 ·exact hs.piles d hd
 ·simp at hd; subst hd; exact⟨hA,hB⟩
def ajQ {b:Ü} (hs:ŷ b) (hr:∀g∈b.2.1,I64 g.2.2.2.2.1.1) {c:Cmp} (hA:c.2.2.1.length≤1000) (hB:c.2.2.2.1.length≤1000):oh b c=some (zf b c):=by
 unfold oh W5 zf;have h1:=hs.gauges; have h2:=hs.uses; have h3:=hs.loans; have h4:=hs.compares; have h5:=hs.looks;rw[Ô (by omega),Am.iff_true,Ô (by omega),Am.iff_true,iH hs hr,À]
 by_cases hc:ä b=0
 ·have h:=(ê b).1 hc;rw[Ò (by simp[ine,hc]),Ô (by omega),Am.iff_true,Ô (by omega),Am.iff_true,Ô (by omega),Am.iff_true,Ô (by omega),Am.iff_true,Ô (by omega),Am.iff_true,if_neg (show ¬(ä b≠0) from fun h=>h hc)];refine ð b.2.2.2.2.1 (fun _=>b.2.2.2.2.1) _ rfl (fun i d hi hd kn=>?_) (fun kn=>?_)
  ·dsimp only;unfold uU;obtain⟨p1,p2⟩:=hs.piles d (List.mem_of_getElem? hd)
   have e1:b.2.2.2.2.1.set i d=b.2.2.2.2.1:=by
    obtain⟨h,rfl⟩:=cM.1 hd;exact List.set_getElem_self h
   rw[Ó hi,gK hi,ĥ hd,Ô (by omega),Am.iff_true,Ô (by omega),Am.iff_true,gK hi,ĥ hd,di];rw[show(d.1,d.2.1,d.2.2.1,d.2.2.2)=d from rfl,e1,gK hi,nM hd,Î hi (by omega)];rw[show(d.1,d.2.1,d.2.2.1,d.2.2.2.1,d.2.2.2.2)=d from rfl,e1]
  ·try dsimp only
   unfold uU;rw[à];dsimp only;rw[Ô (by simp only[List.length_singleton]; omega),Am.iff_true];rw[show û (b.1,b.2.1,b.2.2.1,b.2.2.2.1,b.2.2.2.2.1++[c],b.2.2.2.2.2)=û (ë b c) from rfl,iH (ah3 h hA hB) hr,À]
   by_cases hc2:ä (ë b c)=0
   ·rw[Ò (by simp[ine,hc2]),if_neg (show ¬(ä (ë b c)≠0) from fun h=>h hc2)];rfl
   ·rw[Ö (by simp[ine,hc2]),if_pos hc2];rfl
 ·rw[Ö (by simp[ine,hc]),if_pos hc];rfl
def É (c:Cmp):Cmp:=(c.1,c.2.1,c.2.2.1,c.2.2.2.1,0,c.2.2.2.2.2)
def ac7 (b:Ü) (c:Cmp):Int:=Jn (Ļ b c).1+(jj b c).1-c.2.2.2.2.2.1
def Dj (b:Ü) (c:Cmp):Int:=(Ļ b c).2.1 / (Ļ b c).2.2+(jj b c).2+c.2.2.2.2.2.1
def MW (b:Ü) (c:Cmp) (s:Int×Int):(Int×Int)×Int:=if Dj b c<ac7 b c then((0,0),5) else((s.1+ac7 b c,s.2+Dj b c),0)
structure adU (b:Ü) (c:Cmp):Prop where
 nums:K8 c=true
 r1:pJ (DF (gU b) (å c.2.2.1 c.2.2.2.1)) 1000 100
 r2:pJ (DF (gU b) (å c.2.2.2.1 c.2.2.1)) 1000 100
def đ.cmp {b:Ü} (h:đ b) {c:Cmp} (hc:c∈b.2.2.2.2.1):adU b c:=⟨h.nums hc,(h.rates hc).1,(h.rates hc).2⟩
def wJ {b:Ü} (hf:0≤b.1.1∧b.1.1≤b.1.2∧b.1.2≤1000000) {c:Cmp} (h:adU b c):pJ (Ļ b c).1 2000000000 10000∧pJ (Ļ b c).2 2000000000 10000∧(-3000000000≤Jn (Ļ b c).1+(jj b c).1∧Jn (Ļ b c).1+(jj b c).1≤3000000000) ∧
 (-3000000000≤(Ļ b c).2.1 / (Ļ b c).2.2+(jj b c).2∧(Ļ b c).2.1 / (Ļ b c).2.2+(jj b c).2≤3000000000)∧(0≤c.2.2.2.2.2.1∧c.2.2.2.2.2.1≤1073741824):=by
 have hn:=(Κ c).1 h.nums;have ha:=Ĭ hn.2.2.2.2.2.1;have hb:=Ĭ hn.2.2.2.2.2.2;obtain⟨g1,g2⟩:=U8 (MO h.r1 h.r2) hn.2.2.2.2.1;have fb:=vk (b:=b) (c:=c) (by omega) (by omega) (by omega) (by omega) (by omega) (by omega);have q1:pJ (Ļ b c).1 2000000000 10000:=g1;have q2:pJ (Ļ b c).2 2000000000 10000:=g2;have c1:=zZ q1;have c2:=vf q2;exact⟨q1,q2,by omega,by omega,hn.2.2.2.1⟩
def akB {b:Ü} (hs:ŷ b) (hf:0≤b.1.1∧b.1.1≤b.1.2∧b.1.2≤1000000) {c:Cmp} (h:adU b c) {s:Int×Int} (h1 : -2305843009213693952≤s.1∧s.1≤2305843009213693952) (h2 : -2305843009213693952≤s.2∧s.2≤2305843009213693952):tm b c s=some (MW b c s):=by
 have hn:=(Κ c).1 h.nums;have ha:=Ĭ hn.2.2.2.2.2.1;have hb:=Ĭ hn.2.2.2.2.2.2;obtain⟨q1,q2,b1,b2,b3⟩:=wJ hf h;unfold tm PB MW ac7 Dj;rw[aaR hs (by omega) (by omega) h.r1 h.r2 hn.2.2.2.2.1,À,aeX (by omega) (by omega) (by omega) (by omega) (by omega) (by omega),À,akd q1.rat,À,afx q2.rat,À];dsimp only;rw[Õ (by omega) (by omega),Õ (by omega) (by omega),Õ (by omega) (by omega),Õ (by omega) (by omega),Ğ]
 by_cases hlt:(Ļ b c).2.1 / (Ļ b c).2.2+(jj b c).2+c.2.2.2.2.2.1<Jn (Ļ b c).1+(jj b c).1-c.2.2.2.2.2.1
 ·rw[if_pos (by simpa[igt] using hlt),if_pos hlt]
 ·rw[if_neg (by simpa[igt] using hlt),if_neg hlt,Õ (by omega) (by omega),Õ (by omega) (by omega)]
def ø (b:Ü):List Lk:=(ß b).take ((ß b).length-2)
def ĵ (b:Ü) (c:Cmp):(Int×Int)×Int :=
 if (zf b (É c)).2≠0 then((0,0),(zf b (É c)).2) else
 if (gM (ø (ë b (É c))) ((Ê (ë b (É c))).length+1) (cy (ë b (É c)) (É c)) (cx (ë b (É c)) (É c))).2≠0 then
  ((0,0),(gM (ø (ë b (É c))) ((Ê (ë b (É c))).length+1) (cy (ë b (É c)) (É c)) (cx (ë b (É c)) (É c))).2) else
 if (gM (ø (ë b (É c))) ((Ê (ë b (É c))).length+1) (cx (ë b (É c)) (É c)) (cy (ë b (É c)) (É c))).2≠0 then
  ((0,0),(gM (ø (ë b (É c))) ((Ê (ë b (É c))).length+1) (cx (ë b (É c)) (É c)) (cy (ë b (É c)) (É c))).2) else
 MW b (É c) (-(gM (ø (ë b (É c))) ((Ê (ë b (É c))).length+1) (cx (ë b (É c)) (É c)) (cy (ë b (É c)) (É c))).1,
  (gM (ø (ë b (É c))) ((Ê (ë b (É c))).length+1) (cy (ë b (É c)) (É c)) (cx (ë b (É c)) (É c))).1)
def abL {L:List Lk} {N:Nat} (h:ĩ L N) {s t:Int} (hs:0≤s∧s<N) (ht:0≤t∧t<N) : -2305843009213693952≤(gM L N s t).1∧(gM L N s t).1≤2305843009213693952:=by
 unfold gM;have h2:=h.n60
 split
 ·simp
 ·rename_i ho
  have ho':ġ L N=true:=by simpa using ho
  obtain⟨p,hp⟩:=(ĭ h.links (by omega)).1 ho';have hd:=δ h.links (by omega) hp hs
  split
  ·simp
  ·rename_i hne;dsimp only;have hb:=hd.bd t ht.1 ht.2;obtain⟨vs,hw⟩:=hd.att t ht.1 ht.2 hne;have h3:=hw.low' hp;have h4:=Vg (L:=L) (fun l hl=>(h.most l hl).1) (M:=4503599627370496) (by omega);have h5:=h.len;unfold ķ at hb
   constructor<;>omega
def agX {b:Ü} (hs:ŷ b) (hr:∀g∈b.2.1,I64 g.2.2.2.2.1.1) {c:Cmp} (hA:c.2.2.1.length≤1000) (hB:c.2.2.2.1.length≤1000):vy b c=some (ĵ b c):=by
 unfold vy De ĵ;rw[show oh b (c.1,c.2.1,c.2.2.1,c.2.2.2.1,0,c.2.2.2.2.2)=oh b (É c) from rfl,ajQ hs hr (c:=É c) hA hB,À]
 by_cases hw:(zf b (É c)).2=0
 ·rw[Ò (by simp[ine,hw]),if_neg (show ¬((zf b (É c)).2≠0) from fun h=>h hw)]
  -- the book is valid, and so is the greater one
  have hb:ä b=0:=by
   unfold zf at hw
   split at hw
   ·rename_i h; exact(h hw).elim
   ·rename_i h; simpa using h
  have hm:ä (ë b (É c))=0:=by
   unfold zf at hw;rw[if_neg (by simp[hb])] at hw
   split at hw
   ·rename_i h; exact(h hw).elim
   ·rename_i h; simpa using h
  have he:zf b (É c)=(ë b (É c),0):=by
   unfold zf;rw[if_neg (by simp[hb]),if_neg (by simp[hm])]
  have g:=(ê b).1 hb;have gm:=(ê _).1 hm
  have hmem:É c∈(ë b (É c)).2.2.2.2.1:=by simp[ë]
  have hN:=gm.nodes;have hll:=Gs gm
  have hcl:(ë b (É c)).2.2.2.2.1.length=b.2.2.2.2.1.length+1:=by simp[ë]
  have hlk:=gm.links;have hsys:ĩ (ø (ë b (É c))) ((Ê (ë b (É c))).length+1):=gm.sys.sub (fun l hl=>List.mem_of_mem_take hl) (by unfold ø; rw[List.length_take]; omega);have hx:=(Xw gm hmem).rng;have hy:=(Qq gm hmem).rng;have lA:c.2.2.1.length≤1000:=hA;rw[he];dsimp only;rw[aeI gm,À];dsimp only;rw[æ,Õ (by omega) (by omega)]
  have e1:((ile (0:Int) (((ß (ë b (É c))).length:Int)-2))&&(ile (((ß (ë b (É c))).length:Int)-2) (č (ß (ë b (É c))))))=true:=by
   simp[ile,č]; omega
  have e2:(((ß (ë b (É c))).length:Int)-2).toNat=(ß (ë b (É c))).length-2:=by omega
  rw[Ė e1,rA (by omega) (by omega),À,ajJ _ _ _ (by dsimp only; omega),À,rA (by omega) (by omega),À,ajJ _ _ _ (by dsimp only; omega),À,e2]
  have e3:(((Ê (ë b (É c))).length:Int)+1)=(((Ê (ë b (É c))).length+1:Nat):Int):=by push_cast; rfl
  rw[e3];rw[show List.take ((ß (ë b (É c))).length-2) (ß (ë b (É c)))=ø (ë b (É c)) from rfl];dsimp only;rw[show atP (Ê (ë b (É c))) (å c.2.2.1 c.2.2.2.1) c.2.1=cx (ë b (É c)) (É c) from rfl,show atP (Ê (ë b (É c))) (å c.2.2.2.1 c.2.2.1) c.2.1=cy (ë b (É c)) (É c) from rfl];rw[Hq hsys hy hx,À,Hq hsys hx hy];have b1:=abL hsys hy hx;have b2:=abL hsys hx hy;generalize hB1:gM (ø (ë b (É c))) ((Ê (ë b (É c))).length+1) (cy (ë b (É c)) (É c)) (cx (ë b (É c)) (É c))=B1 at b1 ⊢;generalize hB2:gM (ø (ë b (É c))) ((Ê (ë b (É c))).length+1) (cx (ë b (É c)) (É c)) (cy (ë b (É c)) (É c))=B2 at b2 ⊢
  by_cases h1:B1.2=0
  ·rw[Ò (by simp[ine,h1]),if_neg (show ¬(B1.2≠0) from fun h=>h h1),À]
   by_cases h2:B2.2=0
   ·rw[Ò (by simp[ine,h2]),if_neg (show ¬(B2.2≠0) from fun h=>h h2),Õ (by omega) (by omega)];have hck:adU b (É c):=⟨(gm.cmp hmem).nums,(gm.cmp hmem).r1,(gm.cmp hmem).r2⟩;rw[show tm b (c.1,c.2.1,c.2.2.1,c.2.2.2.1,0,c.2.2.2.2.2) (0-B2.1,B1.1)=tm b (É c) (0-B2.1,B1.1) from rfl,akB g.size g.film hck (by dsimp only; omega) (by dsimp only; omega),À,Int.zero_sub]
   ·rw[Ö (by simp[ine,h2]),if_pos h2]
  ·rw[Ö (by simp[ine,h1]),if_pos h1]
 ·rw[Ö (by simp[ine,hw]),if_pos hw]
structure In (b:Ü):Prop where
 size:ŷ b
 num:∀g∈b.2.1,I64 g.2.2.2.2.1.1
def XU (b:Ü):Sys×List (Int×Int)×Int:=if ä b≠0 then((0,[]),[],ä b) else((((Ê b).length:Int)+1,ß b),Ť b,0)
def pF {b:Ü} (h:In b):Ġ b=some (XU b):=by
 unfold Ġ IX XU;rw[iH h.size h.num,À]
 by_cases hc:ä b=0
 ·rw[Ò (by simp[ine,hc]),aeI ((ê b).1 hc),À,if_neg (show ¬(ä b≠0) from fun h=>h hc)]
 ·rw[Ö (by simp[ine,hc]),if_pos hc]
def cmp0:Cmp:=(0,0,[],[],0,0,0,0)
def rK (b:Ü) (i:Int):Cmp×Int:=if ä b≠0 then(cmp0,ä b) else if i<0∨(b.2.2.2.2.1.length:Int)≤i then(cmp0,1) else(b.2.2.2.2.1[i.toNat]?.getD cmp0,0)
def akl {b:Ü} (h:In b) (i:Int):GX b i=some (rK b i):=by
 unfold GX Pz rK;rw[iH h.size h.num,À]
 by_cases hc:ä b=0
 ·rw[Ò (by simp[ine,hc]),if_neg (show ¬(ä b≠0) from fun h=>h hc),æ]
  by_cases h1:i<0
  ·rw[Ö (by simp[ilt,h1]),if_pos (.inl h1)]; rfl
  ·rw[Ò (by simp[ilt]; omega)]
   by_cases h2:(b.2.2.2.2.1.length:Int)≤i
   ·rw[Ö (by simp[ige,h2]),if_pos (.inr h2)]; rfl
   ·rw[Ò (by simp[ige]; omega),if_neg (by omega)];obtain⟨j,rfl⟩:=fL (show 0≤i by omega)
    have hj:j<b.2.2.2.2.1.length:=by omega
    rw[Ë (cG hj),di,cG hj];rfl
 ·rw[Ö (by simp[ine,hc]),if_pos hc]; rfl
def abQ {b:Ü} {i:Int} (h:(rK b i).2=0):đ b∧(rK b i).1∈b.2.2.2.2.1∧b.2.2.2.2.1[i.toNat]?=some (rK b i).1∧0≤i:=by
 unfold rK at h ⊢
 split at h
 ·rename_i hc; exact(hc h).elim
 ·rename_i hc
  have hc0:ä b=0:=by simpa using hc
  split at h
  ·simp at h
  ·rename_i hi
   have hj:i.toNat<b.2.2.2.2.1.length:=by omega
   rw[if_neg hc,if_neg hi,cG hj];exact⟨(ê b).1 hc0,fc hj,rfl,by omega⟩
def al1 (b:Ü) (i:Int):(Int×Int)×Int:=if (rK b i).2≠0 then((0,0),(rK b i).2) else(Ι b (rK b i).1,0)
def anD {b:Ü} (h:In b) (i:Int):MG b i=some (al1 b i):=by
 unfold MG W7 al1;rw[akl h,À]
 by_cases hw:(rK b i).2=0
 ·obtain⟨g,hm,_,_⟩:=abQ hw;rw[Ò (by simp[ine,hw]),g.says hm,À,if_neg (show ¬((rK b i).2≠0) from fun h=>h hw)]
 ·rw[Ö (by simp[ine,hw]),if_pos hw]
def exB:Ü:=((0,2),[(1,0,1000,(-5,5),(1,10),1),(2,0,1000,(-50,50),(1,4),0)],[(1,10)],[(1,(20,29),3)],[(7,10,[1],[2],-20,1,100,200)],[])
def yV:In exB:=⟨⟨by decide,by decide,by decide,by decide,by decide,by decide⟩,by
 intro g hg;simp[exB] at hg
 rcases hg with rfl|rfl<;>exact⟨by decide,by decide⟩⟩
def exC:Cmp:=(8,10,[1],[2],0,0,0,0)
def pI (b:Ü) (x d:Int):Int:=match gV (Ê b) x d with|some j=>(j:Int)+1|none=>0
def afw (b:Ü) (n:Int×Int):Int×Int:=if ä b≠0 then(0,ä b) else if pI b n.1 n.2=0 then(0,5) else(pI b n.1 n.2,0)
def QU {b:Ü} (h:In b) (n:Int×Int):ŗ b n=some (afw b n):=by
 have hl:=HI h.size;unfold ŗ PQ afw;rw[iH h.size h.num,À]
 by_cases hc:ä b=0
 ·rw[Ò (by simp[ine,hc]),if_neg (show ¬(ä b≠0) from fun h=>h hc),Vd h.size,À,show ú (Ê b) n=ú (Ê b) (n.1,n.2) from rfl,abF (by omega),À];unfold pI
  cases hx:gV (Ê b) n.1 n.2 with
  |none=>rfl
  |some j =>
   have:=(jY hx).1;simp only;rw[Ò (by simp[ilt]),Õ (by omega) (by omega),if_neg (by omega)]
 ·rw[Ö (by simp[ine,hc]),if_pos hc]
def iR (b:Ü) (n:Int×Int):Ü:=(b.1,b.2.1,b.2.2.1,b.2.2.2.1,b.2.2.2.2.1,b.2.2.2.2.2++[n])
def aaD {b:Ü} (h:đ b) (n:Int×Int):ŷ (iR b n):=by
 have hs:=h.size;have:=h.nK;exact⟨hs.gauges,hs.uses,hs.loans,hs.compares,by simp[iR]; omega,hs.piles⟩
def agY (b:Ü) (n:Int×Int):Ü×Int:=if ä b≠0 then(ln,ä b) else if ä (iR b n)≠0 then(ln,ä (iR b n)) else(iR b n,0)
def anI {b:Ü} (h:In b) (n:Int×Int):ji b n=some (agY b n):=by
 have hs:=h.size;have h1:=hs.gauges; have h2:=hs.uses; have h3:=hs.loans; have h4:=hs.compares; have h5:=hs.looks;unfold ji W8 agY;rw[iH hs h.num,À]
 by_cases hc:ä b=0
 ·have hg:=(ê b).1 hc;rw[Ò (by simp[ine,hc]),Ô (by omega),Am.iff_true,Ô (by omega),Am.iff_true,Ô (by omega),Am.iff_true,Ô (by omega),Am.iff_true,Ô (by omega),Am.iff_true,if_neg (show ¬(ä b≠0) from fun h=>h hc)];refine ð b.2.2.2.2.1 (fun _=>b.2.2.2.2.1) _ rfl (fun i d hi hd kn=>?_) (fun kn=>?_)
  ·dsimp only;unfold uV;obtain⟨p1,p2⟩:=hs.piles d (List.mem_of_getElem? hd)
   have e1:b.2.2.2.2.1.set i d=b.2.2.2.2.1:=by
    obtain⟨h,rfl⟩:=cM.1 hd;exact List.set_getElem_self h
   rw[Ó hi,gK hi,ĥ hd,Ô (by omega),Am.iff_true,Ô (by omega),Am.iff_true,gK hi,ĥ hd,di];rw[show(d.1,d.2.1,d.2.2.1,d.2.2.2)=d from rfl,e1,gK hi,nM hd,Î hi (by omega)];rw[show(d.1,d.2.1,d.2.2.1,d.2.2.2.1,d.2.2.2.2)=d from rfl,e1]
  ·try dsimp only
   unfold uV;rw[à];dsimp only;rw[Ô (by simp only[List.length_singleton]; omega),Am.iff_true];rw[show û (b.1,b.2.1,b.2.2.1,b.2.2.2.1,b.2.2.2.2.1,b.2.2.2.2.2++[n])=û (iR b n) from rfl,iH (aaD hg n) h.num,À]
   by_cases hc2:ä (iR b n)=0
   ·rw[Ò (by simp[ine,hc2]),if_neg (show ¬(ä (iR b n)≠0) from fun h=>h hc2)];rfl
   ·rw[Ö (by simp[ine,hc2]),if_pos hc2];rfl
 ·rw[Ö (by simp[ine,hc]),if_pos hc];rfl
def abG {b:Ü} {x:List Int}:akb b x=(true,0)↔đ b∧Mw b x=true∧anf b x=true:=by
 unfold akb;constructor
 ·intro h
  split at h
  ·cases h
  ·rename_i hc
   have hc0:ä b=0:=by simpa using hc
   split at h
   ·rename_i hl;simp only[Prod.mk.injEq,and_true] at h;exact⟨(ê b).1 hc0,hl,h⟩
   ·cases h
 ·rintro⟨h1,h2,h3⟩;rw[if_neg (by simp[(ê b).2 h1]),if_pos h2,h3]
def yH {b:Ü} {x:List Int}:Mw b x=true↔x.length=(Ê b).length∧∀n∈x,-4503599627370496≤n∧n≤4503599627370496:=by
 simp[Mw,inP]
def aa0 {L:List Lk} {x:List Int}:ang L x=true↔Pot L (gv x):=by
 simp only[ang,dw,decide_eq_true_eq,Pot];exact⟨fun h u v m hl=>h (u,v,m) hl,fun h l hl=>h l.1 l.2.1 l.2.2 hl⟩
def am8 (a:Int) (x:List Int) {v:Int} (hv:0≤v):gv (a::x) v=if v=0 then a else gv x (v-1):=by
 unfold gv
 by_cases h:v=0
 ·subst h; rfl
 ·obtain⟨n,rfl⟩:=fL hv
  cases n with
  |zero=>simp at h
  |succ n =>
   have e:(((n+1:Nat):Int)-1).toNat=n:=by omega
   rw[if_neg h,e];simp
section
variable {b:Ü}
def ahS:off b b.2.1.length=(Ê b).length:=by unfold off Ê; rw[List.take_length]
def aeC:∀n,n≤b.2.1.length→∀j,j<off b n→∃(i:Nat) (g:é) (k:Nat),b.2.1[i]?=some g∧k<(Þ b g).length∧j=off b i+k:=by
 intro n
 induction n with
 |zero=>intro _ j hj; simp[off] at hj
 |succ n ih =>
  intro hn j hj;have hg:b.2.1[n]?=some b.2.1[n]:=cG (by omega);rw[akQ hg] at hj
  by_cases h:j<off b n
  ·exact ih (by omega) j h
  ·exact⟨n,_,j-off b n,hg,by omega,by omega⟩
def TB {v:Int} (h0:1≤v) (h1:v<((Ê b).length+1:Nat)):∃(i:Nat) (g:é) (k:Nat),b.2.1[i]?=some g∧k<(Þ b g).length∧v=(off b i:Int)+k+1:=by
 obtain⟨i,g,k,h2,h3,h4⟩:=aeC (b:=b) b.2.1.length (cH _) (v-1).toNat (by rw[ahS]; omega);exact⟨i,g,k,h2,h3,by omega⟩
def GL (b:Ü) (L:List Lk):Prop:=∀(i:Nat) (g:é),b.2.1[i]?=some g→∀l∈ô b g,l∈L
def Mz:GL b (ß b):=fun i g hg l hl=>oz.2 (.inl ⟨i,g,hg,hl⟩)
def abS {L:List Lk} (h:đ b) (hL:GL b L) {v:Int} (h0:0≤v) (h1:v<((Ê b).length+1:Nat)):∃vs d,Wl L (fun u=>u=0) vs v d∧d≤4503599627370496:=by
 by_cases hv:v=0
 ·exact⟨[],0,.nil hv,by omega⟩
 obtain⟨i,g,k,hg,hk,rfl⟩:=TB (by omega) h1;have hr:=h.gaugeR (cO hg);have r1:=hr.2.2.2.2.2.1;have r2:=hr.2.2.2.2.2.2.1
 have key:∀k:Nat,k<(Þ b g).length→∃vs,Wl L (fun u=>u=0) vs ((off b i:Int)+k+1) (g.2.2.1+g.2.2.2.1.2):=by
  intro k
  induction k with
  |zero =>
   intro _;have hw:Wl L (fun u=>u=0) [0] ((off b i:Int)+1) (0+(g.2.2.1+g.2.2.2.1.2)):=Wl.step (.nil rfl) (hL i g hg _ ((ĸ h hg).2 (.inl rfl)));rw[Int.zero_add] at hw;exact⟨[0],by simpa using hw⟩
  |succ k ih =>
   intro hk;obtain⟨vs,hw⟩:=ih (by omega);have hw':=Wl.step hw (hL i g hg _ ((ĸ h hg).2 (.inr (.inr ⟨k,_,_,cG (show k<_ by omega),cG hk,.inl rfl⟩))));rw[fX] at hw'
   have e:(off b i:Int)+((k+1:Nat):Int)+1=(off b i:Int)+k+2:=by push_cast; omega
   exact⟨_,by rw[e]; exact hw'⟩
 obtain⟨vs,hw⟩:=key k hk;exact⟨vs,_,hw,by omega⟩
def MN {L:List Lk} (h:đ b) (hL:GL b L) {v:Int} (h0:0≤v) (h1:v<((Ê b).length+1:Nat)):∃vs d,Wl L (fun u=>u=v) vs 0 d∧d≤4503599627370496:=by
 by_cases hv:v=0
 ·exact⟨[],0,.nil hv.symm,by omega⟩
 obtain⟨i,g,k,hg,hk,rfl⟩:=TB (by omega) h1;have hgm:=cO hg;have hr:=h.gaugeR hgm;have r1:=hr.2.2.2.2.2.1;have r2:=hr.2.2.2.2.2.2.1;have hd:=G3 h hgm
 have key:∀m:Nat,m≤k→∃vs d,Wl L (fun u=>u=(off b i:Int)+k+1) vs ((off b i:Int)+(k-m:Nat)+1) d∧d≤m*(12*(20001*1048576)+40*1048576):=by
  intro m
  induction m with
  |zero=>intro _; exact⟨[],0,.nil (by simp),by simp⟩
  |succ m ih =>
   intro hm;obtain⟨vs,d,hw,hd⟩:=ih (by omega)
   have e1:((k-m:Nat):Int)=((k-(m+1):Nat):Int)+1:=by omega
   have hl:(((off b i:Int)+(k-(m+1):Nat)+2,(off b i:Int)+(k-(m+1):Nat)+1,iw b g ((Þ b g)[k-(m+1)]'(by omega)) ((Þ b g)[k-(m+1)+1]'(by omega))):Lk)∈L :=
    hL i g hg _ ((ĸ h hg).2 (.inr (.inr ⟨k-(m+1),_,_,cG (by omega),cG (by omega),.inr rfl⟩)))
   have hb:=jU h hgm (f:=(Þ b g)[k-(m+1)]'(by omega)) (t:=(Þ b g)[k-(m+1)+1]'(by omega)) (h.day hgm (fc _)).2.1
   have e2:(off b i:Int)+(k-m:Nat)+1=(off b i:Int)+(k-(m+1):Nat)+2:=by omega
   rw[e2] at hw;exact⟨_,_,.step hw hl,by push_cast; omega⟩
 obtain⟨vs,d,hw,hdb⟩:=key k (cH _)
 have e:(off b i:Int)+(k-k:Nat)+1=(off b i:Int)+1:=by omega
 rw[e] at hw;have hw':=Wl.step hw (hL i g hg _ ((ĸ h hg).2 (.inr (.inl rfl))));exact⟨_,_,hw',by omega⟩
def akI (h:đ b) {p:Int→Int} (hp:Pot (ß b) p) {v:Int} (h0:0≤v) (h1:v<((Ê b).length+1:Nat)) : -4503599627370496≤p v-p 0∧p v-p 0≤4503599627370496:=by
 obtain⟨vs,d,hw,hd⟩:=abS h Mz h0 h1;obtain⟨ws,e,hx,he⟩:=MN h Mz h0 h1;obtain⟨s,rfl,hs⟩:=hw.pot hp;obtain⟨t,rfl,ht⟩:=hx.pot hp;omega
end
structure Ax (L:List Lk) (N:Nat):Prop where
 to:∀v:Int,0≤v→v<N→∃vs d,Wl L (fun u=>u=0) vs v d∧d≤4503599627370496
 from':∀v:Int,0≤v→v<N→∃vs d,Wl L (fun u=>u=v) vs 0 d∧d≤4503599627370496
def đ.tied {b:Ü} (h:đ b):Ax (ß b) ((Ê b).length+1):=⟨fun v h0 h1=>abS h Mz h0 h1,fun v h0 h1=>MN h Mz h0 h1⟩
def đ.tiedL {b:Ü} {L:List Lk} (h:đ b) (hL:GL b L):Ax L ((Ê b).length+1):=⟨fun v h0 h1=>abS h hL h0 h1,fun v h0 h1=>MN h hL h0 h1⟩
section
variable {L:List Lk} {N:Nat}
def Nr {L:List Lk} {s:Int} {vs:List Int} {v d:Int}:Wl L (fun v=>ahP s v=true) vs v d↔Wl L (fun u=>u=s) vs v d :=
 ⟨fun h=>h.mono fun u hu=>by simpa[ahP] using hu,fun h=>h.mono fun u hu=>by simpa[ahP] using hu⟩
def agP (h:ĩ L N) (ht:Ax L N) (ho:ġ L N=true) {v:Int} (h0:0≤v) (h1:v<N):gv (nv L N 0) v≤4503599627370496:=by
 have h2:=h.n60;have h3:=h.n1;obtain⟨p,hp⟩:=(ĭ h.links (by omega)).1 ho;obtain⟨vs,d,hw,hd⟩:=ht.to v h0 h1;have:=(δ h.links (by omega) hp (s:=0) ⟨by omega,by omega⟩).low v vs d (Nr.2 hw);omega
def agO (h:ĩ L N) (ht:Ax L N) (ho:ġ L N=true) {v:Int} (h0:0≤v) (h1:v<N):gv (nv L N v) 0≤4503599627370496:=by
 have h2:=h.n60;have h3:=h.n1;obtain⟨p,hp⟩:=(ĭ h.links (by omega)).1 ho;obtain⟨vs,d,hw,hd⟩:=ht.from' v h0 h1;have:=(δ h.links (by omega) hp (s:=v) ⟨h0,h1⟩).low 0 vs d (Nr.2 hw);omega
def adL (h:ĩ L N) (ho:ġ L N=true) {v:Int} (h0:0≤v) (h1:v<N):gv (nv L N v) v=0:=by
 have h2:=h.n60;obtain⟨p,hp⟩:=(ĭ h.links (by omega)).1 ho;have hd:=δ h.links (by omega) hp (s:=v) ⟨h0,h1⟩;have h3:=hd.low v [] 0 (.nil (by simp[ahP]));obtain⟨vs,hw⟩:=hd.att v h0 h1 (by unfold ķ; omega);obtain⟨s,hs,hx⟩:=(Nr.1 hw).pot hp;subst hs;omega
end
def UA {b:Ü}:∀i,i≤b.2.2.2.2.1.length→((b.2.2.2.2.1.take i).flatMap (Ā b)).length=2*i∧(((b.2.2.2.2.1.take i).mapIdx fun i _=>[((3:Int),(i:Int)),((3:Int),(i:Int))]).flatten).length=2*i:=by
 intro i
 induction i with
 |zero=>intro _; simp
 |succ i ih =>
  intro hi;have ih:=ih (by omega);have hg:b.2.2.2.2.1[i]?=some b.2.2.2.2.1[i]:=cG hi;rw[gY _ hg,take_succ hg,eG,fo,cJ,cJ];simp only[dN,gy,dF,fT,f0,Ā,cW,dj];omega
section
variable {L:List Lk} {N:Nat}
def Ho (h:ĩ L N):Đ ((N:Int),L)=some (ġ L N,0):=by
 have h2:=h.n60;unfold Đ ro;rw[kZ h,À];dsimp only;rw[Ò (by rfl),tC h.links h.n1 (by omega),À]
 cases ġ L N<;>rfl
end
def jo (b:Ü) (n:Int×Int):Ü×Int:=if pI b n.1 n.2≠0 then(b,0) else if ä (iR b n)≠0 then(ln,ä (iR b n)) else(iR b n,0)
def ň:Ü→List (Int×Int)→Ü×Int
 |b,[]=>(b,0)
 |b,n::t=>if (jo b n).2≠0 then(ln,(jo b n).2) else ň (jo b n).1 t
def ā (b:Ü) (ns:List (Int×Int)):Ü×Int :=
 if ä b≠0 then(ln,ä b) else if (ň b ns).2≠0 then(ln,(ň b ns).2) else
 if ġ (ß (ň b ns).1) ((Ê (ň b ns).1).length+1) then((ň b ns).1,0) else(ln,9)
def Yf {b:Ü} (h:đ b) {n:Int×Int} (e:(jo b n).2=0):đ (jo b n).1:=by
 unfold jo at e ⊢
 split
 ·exact h
 ·rename_i h1;rw[if_neg h1] at e
  split
  ·rename_i h2;rw[if_pos h2] at e;exact absurd e h2
  ·rename_i h2;exact(ê _).1 (by simpa using h2)
def abV {b:Ü} {n:Int×Int} (e:(jo b n).2=0):(jo b n).1.2.1=b.2.1:=by
 unfold jo at e ⊢
 split
 ·rfl
 ·rename_i h1;rw[if_neg h1] at e
  split
  ·rename_i h2;rw[if_pos h2] at e;exact absurd e h2
  ·rfl
def DE:∀{ns:List (Int×Int)} {b:Ü},đ b→(ň b ns).2=0→đ (ň b ns).1
 |[],b,h,_=>h
 |n::t,b,h,e=>by
  unfold ň at e ⊢
  split
  ·rename_i h1; rw[if_pos h1] at e; exact absurd e h1
  ·rename_i h1;rw[if_neg h1] at e;exact DE (Yf h (by simpa using h1)) e
def tF:∀{ns:List (Int×Int)} {b:Ü},(ň b ns).2=0→(ň b ns).1.2.1=b.2.1
 |[],b,_=>rfl
 |n::t,b,e=>by
  unfold ň at e ⊢
  split
  ·rename_i h1; rw[if_pos h1] at e; exact absurd e h1
  ·rename_i h1;rw[if_neg h1] at e;rw[tF e,abV (by simpa using h1)]
def đ.inn {b:Ü} (h:đ b) (hn:∀g∈b.2.1,I64 g.2.2.2.2.1.1):In b:=⟨h.size,hn⟩
def iY {b:Ü} (h:đ b):XU b=((((Ê b).length:Int)+1,ß b),Ť b,0):=by
 unfold XU;rw[if_neg (by simp[(ê b).2 h])]
def Du {b:Ü} (h:đ b) (n:Int×Int):afw b n=if pI b n.1 n.2=0 then(0,5) else(pI b n.1 n.2,0):=by
 unfold afw;rw[if_neg (by simp[(ê b).2 h])]
abbrev Flat:Type:=Int×Int×List é×List (Int×Int)×List KV×List Cmp×List (Int×Int)
def flat (b:Ü):Flat:=(b.1.1,b.1.2,b.2.1,b.2.2.1,b.2.2.2.1,b.2.2.2.2.1,b.2.2.2.2.2)
def vg (b:Ü):(((flat b).1,(flat b).2.1),(flat b).2.2)=b:=rfl
section
variable {ρ:Type}
def amM (ns:List (Int×Int)) (E1:Int×Flat→Option ρ) (K1:Flat→Option ρ) (b:Ü):Option ρ :=
 Ñ (fun(v:Int×Flat) kk=>Ă (Ý ns) ns v.1 v.2.1 v.2.2.1 v.2.2.2.1 v.2.2.2.2.1 v.2.2.2.2.2.1 v.2.2.2.2.2.2.1 v.2.2.2.2.2.2.2 (fun u1 u2 u3 u4 u5 u6 u7 u8=>kk (u1,u2,u3,u4,u5,u6,u7,u8)) (fun z=>E1 z) (fun z=>K1 z)) ((0:Int),b.1.1,b.1.2,b.2.1,b.2.2.1,b.2.2.2.1,b.2.2.2.2.1,b.2.2.2.2.2)
def ahA {ns:List (Int×Int)} (hl:ns.length≤1000) {E1:Int×Flat→Option ρ} {K1:Flat→Option ρ} (R:Int→Option ρ) (h1:∀z,z.1≠0→E1 z=R z.1) {b:Ü} (hg:đ b) (hn:∀g∈b.2.1,I64 g.2.2.2.2.1.1) :
 amM ns E1 K1 b=if (ň b ns).2≠0 then R (ň b ns).2 else K1 (flat (ň b ns).1):=by
 unfold amM
 refine Gr ns (fun(i:Nat) (s:Flat) (t:List (Int×Int))=>if (ň ((s.1,s.2.1),s.2.2) t).2≠0 then R (ň ((s.1,s.2.1),s.2.2) t).2 else K1 (flat (ň ((s.1,s.2.1),s.2.2) t).1))
  (fun i s=>đ ((s.1,s.2.1),s.2.2)∧∀g∈s.2.2.1,I64 g.2.2.2.2.1.1) (fun s hs kn=>?_) (fun i n t s hd hi ha hs kn hk=>?_) (s:=flat b) ⟨hg,hn⟩
 ·dsimp only;unfold Ă;rw[à];rfl
 ·dsimp only;unfold Ă;obtain⟨hs1,hs2⟩:=hs;have hin:In ((s.1,s.2.1),s.2.2):=hs1.inn hs2;rw[Ó hi,gK hi,ĥ ha];rw[show ŗ ((s.1,s.2.1),s.2.2.1,s.2.2.2.1,s.2.2.2.2.1,s.2.2.2.2.2.1,s.2.2.2.2.2.2) n=ŗ ((s.1,s.2.1),s.2.2) n from rfl,QU hin,À];rw[show ji ((s.1,s.2.1),s.2.2.1,s.2.2.2.1,s.2.2.2.2.1,s.2.2.2.2.2.1,s.2.2.2.2.2.2) n=ji ((s.1,s.2.1),s.2.2) n from rfl,anI hin,À];rw[Du hs1];generalize hB:(((s.1,s.2.1),s.2.2):Ü)=B at hs1 hin ⊢
  have hu:ň B (n::t)=if (jo B n).2≠0 then(ln,(jo B n).2) else ň (jo B n).1 t:=rfl
  rw[hu]
  by_cases h0:pI B n.1 n.2=0
  ·rw[if_pos h0,Ò (by rfl)]
   by_cases h2:ä (iR B n)=0
   ·have e:jo B n=(iR B n,0):=by unfold jo; rw[if_neg (by simp[h0]),if_neg (by simp[h2])]
    have e2:agY B n=(iR B n,0):=by unfold agY; rw[if_neg (by simp[(ê B).2 hs1]),if_neg (by simp[h2])]
    rw[e2,e,Ò (by rfl),Î hi (by omega),if_neg (show ¬((0:Int)≠0) by simp)];subst hB;exact hk (s.1,s.2.1,s.2.2.1,s.2.2.2.1,s.2.2.2.2.1,s.2.2.2.2.2.1,s.2.2.2.2.2.2++[n]) ⟨(ê _).1 h2,hs2⟩
   ·have e:jo B n=(ln,ä (iR B n)):=by unfold jo; rw[if_neg (by simp[h0]),if_pos h2]
    have e2:agY B n=(ln,ä (iR B n)):=by unfold agY; rw[if_neg (by simp[(ê B).2 hs1]),if_pos h2]
    rw[e2,e,Ö (by simp[ine,h2]),if_pos h2,if_pos h2];exact h1 _ h2
  ·have e:jo B n=(B,0):=by unfold jo; rw[if_pos h0]
   rw[if_neg h0,Ö (by rfl),Î hi (by omega),e,if_neg (show ¬((0:Int)≠0) by simp)];subst hB;exact hk s ⟨hs1,hs2⟩
def pP {b:Ü} (hI:In b) {ns:List (Int×Int)} (hl:ns.length≤1000) {E0:Int→Option ρ} {E1:Int×Flat→Option ρ} {E2:Flat→Sys×List (Int×Int)×Int→Option ρ} {E3:Flat→Sys×List (Int×Int)×Int→Bool×Int→Option ρ}
 {K:Flat→Sys×List (Int×Int)×Int→Bool×Int→Option ρ} (R:Int→Option ρ) (h0:∀e,e≠0→E0 e=R e) (h1:∀z,z.1≠0→E1 z=R z.1) (h3:∀z s r,E3 z s r=R 9) :
 Ã (û b) (fun r1=>ifb (ine r1 (0:Int)) (E0 r1) (amM ns E1 (fun z8=>Ã (Ġ ((z8.1,z8.2.1),z8.2.2)) fun r9=>ifb (ine r9.2.2 (0:Int)) (E2 z8 r9) (Ã (Đ r9.1) fun r10=>ifb (!r10.1) (E3 z8 r9 r10) (K z8 r9 r10))) b)) =
 if (ā b ns).2≠0 then R (ā b ns).2 else K (flat (ā b ns).1) ((((Ê (ā b ns).1).length:Int)+1,ß (ā b ns).1),Ť (ā b ns).1,0) (true,0):=by
 rw[iH hI.size hI.num,À];unfold ā
 by_cases hc:ä b=0
 ·have hg:=(ê b).1 hc;rw[Ò (by simp[ine,hc]),if_neg (show ¬(ä b≠0) from fun h=>h hc),ahA hl R h1 hg hI.num]
  by_cases hr:(ň b ns).2=0
  ·rw[if_neg (show ¬((ň b ns).2≠0) from fun h=>h hr),if_neg (show ¬((ň b ns).2≠0) from fun h=>h hr)];have hB:=DE hg hr
   have hBn:∀g∈(ň b ns).1.2.1,I64 g.2.2.2.2.1.1:=by rw[tF hr]; exact hI.num
   generalize (ň b ns).1=B at hB hBn ⊢;rw[vg,pF (hB.inn hBn),À,iY hB,Ò (by rfl)];dsimp only;rw[show(((Ê B).length:Int)+1)=(((Ê B).length+1:Nat):Int) by push_cast; rfl,Ho hB.sys,À]
   cases ho:ġ (ß B) ((Ê B).length+1) with
   |true =>
    rw[if_neg (by simp)];simp only[dY,î];push_cast;rfl
   |false =>
    rw[if_pos (by simp)];simp only[gq,ĺ];rw[h3];rfl
  ·rw[if_pos hr,if_pos hr,if_pos hr]
 ·rw[Ö (by simp[ine,hc]),h0 _ hc,if_pos hc,if_pos hc]
end
def KY (b:Ü) (id day:Int):Bool:=b.2.2.1.any fun u=>u.1==id&&u.2==day
def adq (b:Ü) (g:é) (d:Int):Int:=match kX b g.1 d with|some l=>l.2.2|none=>if KY b g.1 d then g.2.2.2.2.2 else 0
def aij (l:KV) (id:Int) {f t:Int} (hft:f≤t):(if l.1=id∧0<ĕ l f (t+1) then ĕ l f (t+1)*l.2.2 else 0)=(if l.1=id∧0<ĕ l f t then ĕ l f t*l.2.2 else 0)+(if l.1=id∧l.2.1.1≤t∧t≤l.2.1.2 then l.2.2 else 0):=by
 by_cases hid:l.1=id
 ·by_cases h1:l.2.1.1≤t∧t≤l.2.1.2
  ·have e:ĕ l f (t+1)=ĕ l f t+1:=by unfold ĕ; omega
   have p:0≤ĕ l f t:=by unfold ĕ; omega
   rw[e,if_pos ⟨hid,by omega⟩,if_pos (show l.1=id∧l.2.1.1≤t∧t≤l.2.1.2 from⟨hid,h1⟩),fS,f7]
   by_cases hp:0<ĕ l f t
   ·rw[if_pos ⟨hid,hp⟩]
   ·rw[if_neg (fun h=>hp h.2)]
    have:ĕ l f t=0:=by omega
    rw[this];omega
  ·rw[if_neg (show ¬(l.1=id∧l.2.1.1≤t∧t≤l.2.1.2) from fun h=>h1 h.2),fX]
   by_cases hlo:l.2.1.1≤t
   ·have e:ĕ l f (t+1)=ĕ l f t:=by unfold ĕ; omega
    rw[e]
   ·have p1:¬0<ĕ l f (t+1):=by unfold ĕ; omega
    have p2:¬0<ĕ l f t:=by unfold ĕ; omega
    rw[if_neg (fun h=>p1 h.2),if_neg (fun h=>p2 h.2)]
 ·rw[if_neg (fun h=>hid h.1),if_neg (fun h=>hid h.1),if_neg (fun h=>hid h.1)];rfl
def T4 (id:Int) {f t:Int} (hft:f≤t):∀{x:List KV},x.Pairwise (fun a c=>¬(a.1=c.1∧a.2.1.1≤c.2.1.2∧c.2.1.1≤a.2.1.2)) →
 Ĵ id f (t+1) x=Ĵ id f t x+(match x.find? (fun l=>l.1==id&&inP t l.2.1.1 l.2.1.2) with|some l=>l.2.2|none=>0)
 |[],_=>rfl
 |l::r,hp=>by
  rw[dA] at hp;have ih:=T4 id hft hp.2;simp only[Ĵ];rw[ih,aij l id hft,gh]
  by_cases hm:l.1=id∧l.2.1.1≤t∧t≤l.2.1.2
  ·have e:(l.1==id&&inP t l.2.1.1 l.2.1.2)=true:=by simp[inP,hm.1,hm.2.1,hm.2.2]
   have hn:r.find? (fun l=>l.1==id&&inP t l.2.1.1 l.2.1.2)=none:=by
    rw[ee];intro c hc hcm;simp only[inP,cI,beq_iff_eq,decide_eq_true_eq] at hcm;exact hp.1 c hc ⟨by rw[hm.1,hcm.1],by omega,by omega⟩
   rw[if_pos hm,e,hn];simp only;omega
  ·have e:(l.1==id&&inP t l.2.1.1 l.2.1.2)=false:=by
    rw[eE];intro h;simp only[inP,cI,beq_iff_eq,decide_eq_true_eq] at h;exact hm h
   rw[if_neg hm,e];simp only;omega
section
variable {b:Ü}
def đ.apart (h:đ b):b.2.2.2.1.Pairwise (fun a c=>¬(a.1=c.1∧a.2.1.1≤c.2.1.2∧c.2.1.1≤a.2.1.2)):=by
 rw[List.pairwise_iff_getElem];intro i j hi hj hij ⟨h1,h2,h3⟩;have hz:=h.loans j _ (List.getElem?_eq_getElem hj);unfold SQ at hz
 have hany:(b.2.2.2.1.take j).any (fun x=>x.1==b.2.2.2.1[j].1&&(decide (x.2.1.1≤b.2.2.2.1[j].2.1.2)&&decide (b.2.2.2.1[j].2.1.1≤x.2.1.2)))=true:=by
  rw[eO];exact⟨b.2.2.2.1[i],cZ.2 ⟨i,by rw[cY]; omega,by rw[List.getElem_take]⟩,by simp[h1,h2,h3]⟩
 rw[hany] at hz
 (repeat' split at hz)<;>first|omega|simp_all
def đ.notUsed (h:đ b) {id d:Int} {l:KV} (hl:kX b id d=some l):KY b id d=false:=by
 have hm:=gg hl;have hp:=fO hl;simp only[inP,cI,beq_iff_eq,decide_eq_true_eq] at hp;obtain⟨j,hj,rfl⟩:=cZ.1 hm;have hz:=h.loans j _ (cG hj);rw[eE];intro hu;obtain⟨u,hu,hue⟩:=eO.1 hu;simp only[cI,beq_iff_eq] at hue
 have hany:b.2.2.1.any (fun u=>u.1==b.2.2.2.1[j].1&&inP u.2 b.2.2.2.1[j].2.1.1 b.2.2.2.1[j].2.1.2)=true:=by
  rw[eO];exact⟨u,hu,by simp only[inP,cI,beq_iff_eq,decide_eq_true_eq]; exact⟨by rw[hue.1,hp.1],by omega,by omega⟩⟩
 unfold SQ at hz;rw[hany] at hz
 (repeat' split at hz)<;>first|omega|simp_all
def X7 {id f t:Int} (hft:f≤t):Yn (iA b id f (t+1))=Yn (iA b id f t)++if KY b id t then[t] else[]:=by
 have hm:∀t x,x∈iA b id f t↔KY b id x=true∧f≤x∧x<t:=by
  intro t x;unfold iA KY;simp only[List.mem_map,List.mem_filter,List.any_eq_true,inP,Bool.and_eq_true,beq_iff_eq,decide_eq_true_eq];constructor
  ·rintro⟨u,⟨h1,h2,h3,h4⟩,rfl⟩;exact⟨⟨u,h1,h2,rfl⟩,h3,by omega⟩
  ·rintro⟨⟨u,h1,h2,rfl⟩,h3,h4⟩;exact⟨u,⟨h1,h2,h3,by omega⟩,rfl⟩
 refine adO (Cc _) ?_ fun x=>?_
 ·rw[List.pairwise_append]
  refine⟨Cc _,by split<;>simp,fun a ha c hc=>?_⟩
  rw[pN,hm] at ha
  split at hc
  ·rw[cR] at hc; omega
  ·cases hc
 ·rw[pN,hm,cN,pN,hm]
  by_cases hu:KY b id t=true
  ·rw[if_pos hu,cR];constructor
   ·rintro⟨h1,h2,h3⟩
    by_cases he:x=t
    ·exact .inr he
    ·exact .inl ⟨h1,h2,by omega⟩
   ·rintro(⟨h1,h2,h3⟩|rfl)
    ·exact⟨h1,h2,by omega⟩
    ·exact⟨hu,hft,by omega⟩
  ·rw[if_neg hu];constructor
   ·rintro⟨h1,h2,h3⟩;refine .inl ⟨h1,h2,?_⟩
    by_cases he:x=t
    ·rw[he] at h1; exact absurd h1 hu
    ·omega
   ·rintro(⟨h1,h2,h3⟩|h)
    ·exact⟨h1,h2,by omega⟩
    ·cases h
def PS (h:đ b) (g:é) {f t:Int} (hft:f≤t):iw b g f (t+1)=iw b g f t+adq b g t:=by
 unfold iw adq;rw[T4 g.1 hft h.apart,X7 hft];show Ĵ g.1 f t b.2.2.2.1+(match kX b g.1 t with|some l=>l.2.2|none=>0)+_=_
 cases ha:kX b g.1 t with
 |some l =>
  rw[h.notUsed ha];simp only[dg,if_false,dF];omega
 |none =>
  simp only
  cases KY b g.1 t with
  |true=>simp only[if_true,cJ,dl,Int.natCast_add,fS]; omega
  |false=>simp only[dg,if_false,dF]; omega
def yD (g:é) {f t:Int} (hft:t≤f):iw b g f t=0:=by
 unfold iw
 have h1:∀x:List KV,Ĵ g.1 f t x=0:=by
  intro x
  induction x with
  |nil=>rfl
  |cons l r ih =>
   simp only[Ĵ];rw[ih,if_neg (by unfold ĕ; omega)];rfl
 have h2:iA b g.1 f t=[]:=by
  unfold iA
  rw[List.filter_eq_nil_iff.2 fun u hu hc=>by
   simp only[inP,cI,beq_iff_eq,decide_eq_true_eq] at hc
   omega]
  rfl
 rw[h1,h2];have h3:Yn ([]:List Int)=[]:=rfl;rw[h3];simp
end
section
variable {b:Ü}
def Mu (h:đ b) (g:é) {f t u:Int} (h1:f≤t) (h2:t≤u):iw b g f u=iw b g f t+iw b g t u:=by
 obtain⟨n,rfl⟩:∃n:Nat,u=t+n:=⟨(u-t).toNat,by omega⟩;clear h2
 induction n with
 |zero=>simp[yD]
 |succ n ih =>
  have e:t+((n+1:Nat):Int)=(t+n)+1:=by omega
  rw[e,PS h g (show f≤t+(n:Int) by omega),PS h g (show t≤t+(n:Int) by omega),ih];omega
def Df (h:đ b) {g:é} (hg:g∈b.2.1) {f t:Int} (hf:0≤f):0≤iw b g f t:=(jU h hg hf).1
def ž (b:Ü) (id d:Int):Int:=match gV (Ê b) id d with|some j=>(j:Int)+1|none=>0
def pR (h:đ b) {i:Nat} {g:é} (hg:b.2.1[i]?=some g) {k:Nat} {d:Int} (hk:(Þ b g)[k]?=some d):ž b g.1 d=(off b i:Int)+k+1:=by
 unfold ž;rw[Ve h hg hk];simp only;omega
structure pG (b:Ü) (p:Int→Int) (g:é):Prop where
 hi:p (ž b g.1 g.2.1)≤p 0+(g.2.2.1+g.2.2.2.1.2)
 lo:p 0+(g.2.2.1+g.2.2.2.1.1)≤p (ž b g.1 g.2.1)
 down:∀d e,d∈Þ b g→e∈Þ b g→d≤e→p (ž b g.1 e)≤p (ž b g.1 d)
 loss:∀d e,d∈Þ b g→e∈Þ b g→d≤e→p (ž b g.1 d)≤p (ž b g.1 e)+iw b g d e
def ob (h:đ b) {i:Nat} {g:é} (hg:b.2.1[i]?=some g) {p:Int→Int}:(∀l∈ô b g,p l.2.1≤p l.1+l.2.2)↔pG b p g:=by
 have hgm:=cO hg;obtain⟨tl,htl⟩:=Qp h hgm
 have h0:ž b g.1 g.2.1=(off b i:Int)+1:=by
  have:=pR h hg (k:=0) (d:=g.2.1) (by rw[htl]; rfl);rw[this];omega
 constructor
 ·intro hl;have e1:=hl _ ((ĸ h hg).2 (.inl rfl));have e2:=hl _ ((ĸ h hg).2 (.inr (.inl rfl)));simp only at e1 e2
  have step:∀(k:Nat) (d e:Int),(Þ b g)[k]?=some d→(Þ b g)[k+1]?=some e→p (ž b g.1 e)≤p (ž b g.1 d)∧p (ž b g.1 d)≤p (ž b g.1 e)+iw b g d e:=by
   intro k d e hd he;have a1:=hl _ ((ĸ h hg).2 (.inr (.inr ⟨k,d,e,hd,he,.inl rfl⟩)));have a2:=hl _ ((ĸ h hg).2 (.inr (.inr ⟨k,d,e,hd,he,.inr rfl⟩)));simp only at a1 a2;rw[pR h hg hd,pR h hg he]
   have e3:(off b i:Int)+((k+1:Nat):Int)+1=(off b i:Int)+k+2:=by omega
   rw[e3];exact⟨by omega,a2⟩
  have pair:∀(n k:Nat) (d e:Int),(Þ b g)[k]?=some d→(Þ b g)[k+n]?=some e→p (ž b g.1 e)≤p (ž b g.1 d)∧p (ž b g.1 d)≤p (ž b g.1 e)+iw b g d e:=by
   intro n
   induction n with
   |zero =>
    intro k d e hd he;rw[fk,hd] at he;cases he;rw[yD g (dE _)];omega
   |succ n ih =>
    intro k d e hd he;have hlt:=(cM.1 he).1;have hm:(Þ b g)[k+n]?=some ((Þ b g)[k+n]'(by omega)):=cG (by omega);obtain⟨a1,a2⟩:=ih k d _ hd hm;obtain⟨a3,a4⟩:=step (k+n) _ e hm he
    have o1:d≤(Þ b g)[k+n]'(by omega):=by
     obtain⟨hkl,hkd⟩:=cM.1 hd;rcases fh n with rfl|hn
     ·rw[←hkd]; exact Int.le_of_eq (by congr 1)
     ·have:=(dC.1 (vA b g)) k (k+n) hkl (by omega) (by omega);rw[hkd] at this; omega
    have o2:(Þ b g)[k+n]'(by omega)≤e:=by
     obtain⟨hel,hee⟩:=cM.1 he;have:=(dC.1 (vA b g)) (k+n) (k+(n+1)) (by omega) hel (by omega);rw[hee] at this; omega
    have:=Mu h g o1 o2;omega
  have any:∀d e,d∈Þ b g→e∈Þ b g→d≤e→p (ž b g.1 e)≤p (ž b g.1 d)∧p (ž b g.1 d)≤p (ž b g.1 e)+iw b g d e:=by
   intro d e hd he hde;obtain⟨k,hk,rfl⟩:=cZ.1 hd;obtain⟨m,hm,rfl⟩:=cZ.1 he
   have hkm:k≤m:=by
    rcases dv m k with hlt|hge
    ·have:=(dC.1 (vA b g)) m k hm hk hlt; omega
    ·exact hge
   exact pair (m-k) k _ _ (cG hk) (by rw[show k+(m-k)=m by omega]; exact cG hm)
  exact⟨by rw[h0]; omega,by rw[h0]; omega,fun d e hd he hde=>(any d e hd he hde).1,fun d e hd he hde=>(any d e hd he hde).2⟩
 ·intro hf l hl;rcases(ĸ h hg).1 hl with rfl|rfl|⟨k,d,e,hd,he,rfl|rfl⟩
  ·have:=hf.hi; rw[h0] at this; simp only; omega
  ·have:=hf.lo; rw[h0] at this; simp only; omega
  ·have hde:d≤e:=by
    obtain⟨a1,a2⟩:=cM.1 hd;obtain⟨a3,a4⟩:=cM.1 he;have:=(dC.1 (vA b g)) k (k+1) a1 a3 (by omega);rw[a2,a4] at this; omega
   have:=hf.down d e (cO hd) (cO he) hde;rw[pR h hg hd,pR h hg he] at this
   have e3:(off b i:Int)+((k+1:Nat):Int)+1=(off b i:Int)+k+2:=by omega
   rw[e3] at this;simp only;omega
  ·have hde:d≤e:=by
    obtain⟨a1,a2⟩:=cM.1 hd;obtain⟨a3,a4⟩:=cM.1 he;have:=(dC.1 (vA b g)) k (k+1) a1 a3 (by omega);rw[a2,a4] at this; omega
   have:=hf.loss d e (cO hd) (cO he) hde;rw[pR h hg hd,pR h hg he] at this
   have e3:(off b i:Int)+((k+1:Nat):Int)+1=(off b i:Int)+k+2:=by omega
   rw[e3] at this;simp only;exact this
def UW (h:đ b) {p:Int→Int}:Pot (ß b) p↔(∀g∈b.2.1,pG b p g)∧∀c∈b.2.2.2.2.1,p (cx b c)≤p (cy b c)+(Ι b c).2∧p (cy b c)+(Ι b c).1≤p (cx b c):=by
 constructor
 ·intro hp;refine⟨fun g hg=>?_,fun c hc=>?_⟩
  ·obtain⟨i,hi,rfl⟩:=cZ.1 hg;exact(ob h (cG hi)).1 fun l hl=>hp l.1 l.2.1 l.2.2 (oz.2 (.inl ⟨i,_,cG hi,hl⟩))
  ·have a1:=hp _ _ _ (oz.2 (.inr ⟨c,hc,.inl rfl⟩));have a2:=hp _ _ _ (oz.2 (.inr ⟨c,hc,.inr rfl⟩));omega
 ·rintro⟨hg,hc⟩ u v m hl;rcases oz.1 hl with⟨i,g,hig,hl⟩|⟨c,hcm,hl⟩
  ·exact(ob h hig).2 (hg g (cO hig)) (u,v,m) hl
  ·obtain⟨a1,a2⟩:=hc c hcm;rcases hl with hl|hl
   ·obtain⟨rfl,rfl,rfl⟩:u=cy b c∧v=cx b c∧m=(Ι b c).2:=by simpa using hl
    exact a1
   ·obtain⟨rfl,rfl,rfl⟩:u=cx b c∧v=cy b c∧m = -(Ι b c).1:=by simpa using hl
    omega
end
def amk:List Int→Int
 |[]=>0
 |[a]=>a
 |a::b::t=>max a (amk (b::t))
def Zf:∀{l:List Int},l≠[]→(∀a∈l,a≤amk l)∧amk l∈l
 |[],h=>absurd rfl h
 |[a],_=>⟨fun x hx=>by rw[cR] at hx; rw[hx]; exact dE _,by simp[amk]⟩
 |a::b::t,_=>by
  obtain⟨h1,h2⟩:=Zf (l:=b::t) (by simp);have e:amk (a::b::t)=max a (amk (b::t)):=rfl;rw[e];constructor
  ·intro x hx;rcases cQ.1 hx with rfl|hx
   ·omega
   ·have:=h1 x hx; omega
  ·rcases Int.le_total a (amk (b::t)) with h|h
   ·rw[Int.max_eq_right h]; exact fY _ h2
   ·rw[Int.max_eq_left h]; exact List.mem_cons_self
section
variable {b:Ü}
def Ti (b:Ü) (f:Int→Int→Int) (z:Int) (v:Int):Int:=if v=0 then z else match (Ê b)[(v-1).toNat]? with|some n=>f n.1 n.2|none=>0
def oK (f:Int→Int→Int) (z:Int):Ti b f z 0=z:=by unfold Ti; rw[if_pos rfl]
def DG (h:đ b) (f:Int→Int→Int) (z:Int) {g:é} (hg:g∈b.2.1) {d:Int} (hd:d∈Þ b g):Ti b f z (ž b g.1 d)=f g.1 d:=by
 obtain⟨i,hi,rfl⟩:=List.mem_iff_getElem.1 hg;obtain⟨k,hk,rfl⟩:=List.mem_iff_getElem.1 hd;have hgi:=List.getElem?_eq_getElem hi;have hdk:=List.getElem?_eq_getElem hk;rw[pR h hgi hdk];unfold Ti
 have e:((off b i:Int)+k+1-1).toNat=off b i+k:=by omega
 rw[if_neg (by omega),e,Ml hgi hdk]
def L7 (b:Ü) (l:List Int) (d:Int):Int:=match l with|[]=>0|x::_=>ž b x d
def afm (l:List Int) (d:Int):atP (Ê b) l d=L7 b l d:=by
 unfold atP L7 ž
 cases l<;>rfl
def Jj (c:Cmp):cx b c=L7 b (å c.2.2.1 c.2.2.2.1) c.2.1:=afm _ _
def Ji (c:Cmp):cy b c=L7 b (å c.2.2.2.1 c.2.2.1) c.2.1:=afm _ _
def oa (h:đ b) {c:Cmp} (hc:c∈b.2.2.2.2.1) {x:Int} (hx:x∈å c.2.2.1 c.2.2.2.1∨x∈å c.2.2.2.1 c.2.2.1):∃g∈b.2.1,g.1=x∧c.2.1∈Þ b g:=by
 have hx':(x∈c.2.2.1∧x∉c.2.2.2.1)∨(x∈c.2.2.2.1∧x∉c.2.2.1):=by
  rcases hx with hx|hx
  ·exact .inl (jw.1 hx)
  ·exact .inr (jw.1 hx)
 have hm:x∈c.2.2.1++c.2.2.2.1:=by rw[cN]; exact hx'.imp (·.1) (·.1)
 obtain⟨⟨g,hg,_⟩,_⟩:=h.pile hc hm;obtain⟨hgm,hid⟩:=mV hg;refine⟨g,hgm,hid,jC.2 (.inr (.inl ⟨c,hc,?_,rfl⟩))⟩;rw[hid];intro he;rw[dH,d8,d8] at he;rcases hx' with⟨a,e⟩|⟨a,e⟩
 ·exact e (he.1 a)
 ·exact e (he.2 a)
def fill (b:Ü) (p:Int→Int) (g:é) (d:Int):Int:=amk ((Þ b g).map fun e=>if d≤e then p (ž b g.1 e) else p (ž b g.1 e)-iw b g e d)
def Qc {p:Int→Int} {g:é} (d:Int):(∀e∈Þ b g,(if d≤e then p (ž b g.1 e) else p (ž b g.1 e)-iw b g e d)≤fill b p g d)∧∃e∈Þ b g,fill b p g d=if d≤e then p (ž b g.1 e) else p (ž b g.1 e)-iw b g e d:=by
 have hne:((Þ b g).map fun e=>if d≤e then p (ž b g.1 e) else p (ž b g.1 e)-iw b g e d)≠[]:=by
  intro h;have:=List.map_eq_nil_iff.1 h;have h2:=jI (b:=b) g;rw[this] at h2;cases h2
 obtain⟨h1,h2⟩:=Zf hne;refine⟨fun e he=>h1 _ (dQ.2 ⟨e,he,rfl⟩),?_⟩;obtain⟨e,he,hx⟩:=dQ.1 h2;exact⟨e,he,hx.symm⟩
def MA (h:đ b) {p:Int→Int} {g:é} (hg:g∈b.2.1) (hf:pG b p g) {d:Int} (hd:d∈Þ b g):fill b p g d=p (ž b g.1 d):=by
 obtain⟨h1,e,he,h2⟩:=Qc (b:=b) (p:=p) (g:=g) d;have h3:=h1 d hd;rw[if_pos (dE _)] at h3
 have h4:fill b p g d≤p (ž b g.1 d):=by
  rw[h2]
  split
  ·rename_i hde;exact hf.down d e hd he hde
  ·rename_i hde;have:=hf.loss e d he hd (by omega);omega
 omega
def GC (h:đ b) {p:Int→Int} {g:é} (hg:g∈b.2.1) (hf:pG b p g) {d e:Int} (h0:g.2.1≤d) (hde:d≤e):fill b p g e≤fill b p g d∧fill b p g d≤fill b p g e+iw b g d e:=by
 obtain⟨a1,x,hx,a2⟩:=Qc (b:=b) (p:=p) (g:=g) d;obtain⟨b1,y,hy,b2⟩:=Qc (b:=b) (p:=p) (g:=g) e;have hm:=(h.gaugeR hg).2.2.2.2.1;have hl:=Df h hg (f:=d) (t:=e) (by omega);have dx:=h.day hg hx;have dy:=h.day hg hy;constructor
 ·have q:=a1 y hy;rw[b2]
  by_cases c1:e≤y
  ·rw[if_pos c1];rw[if_pos (by omega)] at q;exact q
  ·rw[if_neg c1]
   by_cases c2:d≤y
   ·rw[if_pos c2] at q;have:=Df h hg (f:=y) (t:=e) dy.2.1;omega
   ·rw[if_neg c2] at q;have:=Mu h g (f:=y) (t:=d) (u:=e) (by omega) hde;omega
 ·have q:=b1 x hx;rw[a2]
  by_cases c1:d≤x
  ·rw[if_pos c1]
   by_cases c2:e≤x
   ·rw[if_pos c2] at q;omega
   ·rw[if_neg c2] at q;have:=Mu h g (f:=d) (t:=x) (u:=e) c1 (by omega);have:=Df h hg (f:=d) (t:=x) (by omega);omega
  ·rw[if_neg c1];rw[if_neg (by omega)] at q;have:=Mu h g (f:=x) (t:=d) (u:=e) (by omega) hde;omega
end
section
variable {b:Ü} {c:Cmp}
def adf:ø (ë b c)=(ë b c).2.1.flatMap (ô (ë b c))++b.2.2.2.2.1.flatMap (Ā (ë b c)):=by
 unfold ø
 have e:ß (ë b c)=((ë b c).2.1.flatMap (ô (ë b c))++b.2.2.2.2.1.flatMap (Ā (ë b c)))++Ā (ë b c) c:=by
  unfold ß;rw[show(ë b c).2.2.2.2.1=b.2.2.2.2.1++[c] from rfl,List.flatMap_append,List.append_assoc];simp
 rw[e,cJ,show(Ā (ë b c) c).length=2 from rfl,Nat.add_sub_cancel,List.take_left]
def My (h':đ (ë b c)) {p:Int→Int}:Pot (ø (ë b c)) p↔(∀g∈b.2.1,pG (ë b c) p g)∧∀d∈b.2.2.2.2.1,p (cx (ë b c) d)≤p (cy (ë b c) d)+(Ι b d).2∧p (cy (ë b c) d)+(Ι b d).1≤p (cx (ë b c) d):=by
 rw[adf];constructor
 ·intro hp;refine⟨fun g hg=>?_,fun d hd=>?_⟩
  ·obtain⟨i,hi,rfl⟩:=cZ.1 hg;exact(ob h' (i:=i) (cG hi)).1 fun l hl=>hp l.1 l.2.1 l.2.2 (cN.2 (.inl (dm.2 ⟨_,fc hi,hl⟩)))
  ·have a1:=hp (cy (ë b c) d) (cx (ë b c) d) (Ι (ë b c) d).2 (cN.2 (.inr (dm.2 ⟨d,hd,by simp[Ā]⟩)));have a2:=hp (cx (ë b c) d) (cy (ë b c) d) (-(Ι (ë b c) d).1) (cN.2 (.inr (dm.2 ⟨d,hd,by simp[Ā]⟩)));have e:Ι (ë b c) d=Ι b d:=rfl;rw[e] at a1 a2;omega
 ·rintro⟨hg,hc⟩ u v m hl;rcases cN.1 hl with hl|hl
  ·obtain⟨g,hgm,hl⟩:=dm.1 hl;obtain⟨i,hi,rfl⟩:=cZ.1 hgm;exact(ob h' (i:=i) (cG hi)).2 (hg _ hgm) (u,v,m) hl
  ·obtain⟨d,hd,hl⟩:=dm.1 hl;obtain⟨a1,a2⟩:=hc d hd;have e:Ι (ë b c) d=Ι b d:=rfl;simp only[Ā,cQ,fI,or_false,e] at hl;rcases hl with hl|hl
   ·obtain⟨rfl,rfl,rfl⟩:u=cy (ë b c) d∧v=cx (ë b c) d∧m=(Ι b d).2:=by simpa using hl
    exact a1
   ·obtain⟨rfl,rfl,rfl⟩:u=cx (ë b c) d∧v=cy (ë b c) d∧m = -(Ι b d).1:=by simpa using hl
    omega
def tr {g:é} {d:Int} (hd:d∈Þ b g):d∈Þ (ë b c) g:=by
 rcases jC.1 hd with e|⟨x,hx,h1,h2⟩|hn
 ·exact jC.2 (.inl e)
 ·exact jC.2 (.inr (.inl ⟨x,cN.2 (.inl hx),h1,h2⟩))
 ·exact jC.2 (.inr (.inr hn))
def aic (g:é) (f t:Int):iw (ë b c) g f t=iw b g f t:=rfl
def Jr {b':Ü} (h':đ b') {l:List Int} {day:Int} (f:Int→Int→Int) (z:Int) (hl:∀x∈l,∃g∈b'.2.1,g.1=x∧day∈Þ b' g):Ti b' f z (L7 b' l day)=match l with|[]=>z|x::_=>f x day:=by
 unfold L7
 cases l with
 |nil=>exact oK f z
 |cons x t =>
  obtain⟨g,hg,rfl,hd⟩:=hl x (by simp);exact DG h' f z hg hd
def ahN (h:đ b) (h':đ (ë b c)):(∃p,Pot (ß b) p)↔∃p,Pot (ø (ë b c)) p:=by
 constructor
 ·rintro⟨p,hp⟩;obtain⟨hg,hc⟩:=(UW h).1 hp
  let f:Int→Int→Int:=fun id d=>match Ŧ b id with|some g=>fill b p g d|none=>0
  have hfv:∀g∈b.2.1,∀d,f g.1 d=fill b p g d:=fun g hgm d=>by
   show(match Ŧ b g.1 with|some g=>fill b p g d|none=>0)=_;rw[vd h.ids hgm]
  have hq:∀g∈b.2.1,∀d∈Þ (ë b c) g,Ti (ë b c) f (p 0) (ž (ë b c) g.1 d)=fill b p g d:=fun g hgm d hd=>by
   rw[DG h' f (p 0) hgm hd,hfv g hgm d]
  refine⟨Ti (ë b c) f (p 0),(My h').2 ⟨fun g hgm=>?_,fun d hd=>?_⟩⟩
  ·have gf:=hg g hgm;have hmade:g.2.1∈Þ b g:=jI g;have e0:=hq g hgm g.2.1 (jI g);rw[MA h hgm gf hmade] at e0;refine⟨?_,?_,fun x y hx hy hxy=>?_,fun x y hx hy hxy=>?_⟩
   ·rw[e0,oK]; exact gf.hi
   ·rw[e0,oK]; exact gf.lo
   ·rw[hq g hgm x hx,hq g hgm y hy];exact(GC h hgm gf (h'.day hgm hx).1 hxy).1
   ·rw[hq g hgm x hx,hq g hgm y hy,aic];exact(GC h hgm gf (h'.day hgm hx).1 hxy).2
  ·have key:∀l:List Int,(∀x∈l,∃g∈b.2.1,g.1=x∧d.2.1∈Þ b g)→Ti (ë b c) f (p 0) (L7 (ë b c) l d.2.1)=p (L7 b l d.2.1):=by
    intro l hl;rw[Jr h' f (p 0) (fun x hx=>by obtain⟨g,q1,q2,q3⟩:=hl x hx; exact⟨g,q1,q2,tr q3⟩)]
    cases l with
    |nil=>rfl
    |cons x t =>
     obtain⟨g,q1,rfl,q3⟩:=hl x (by simp);show f g.1 d.2.1=p (ž b g.1 d.2.1);rw[hfv g q1,MA h q1 (hg g q1) q3]
   rw[Jj,Ji,key _ (fun x hx=>oa h hd (.inl hx)),key _ (fun x hx=>oa h hd (.inr hx)),←Jj,←Ji];exact hc d hd
 ·rintro⟨p,hp⟩;obtain⟨hg,hc⟩:=(My h').1 hp
  let f:Int→Int→Int:=fun id d=>p (ž (ë b c) id d)
  have hq:∀g∈b.2.1,∀d∈Þ b g,Ti b f (p 0) (ž b g.1 d)=p (ž (ë b c) g.1 d):=fun g hgm d hd=>DG h f (p 0) hgm hd;refine⟨Ti b f (p 0),(UW h).2 ⟨fun g hgm=>?_,fun d hd=>?_⟩⟩
  ·have gf:=hg g hgm;have e0:=hq g hgm g.2.1 (jI g);refine⟨?_,?_,fun x y hx hy hxy=>?_,fun x y hx hy hxy=>?_⟩
   ·rw[e0,oK]; exact gf.hi
   ·rw[e0,oK]; exact gf.lo
   ·rw[hq g hgm x hx,hq g hgm y hy];exact gf.down x y (tr hx) (tr hy) hxy
   ·rw[hq g hgm x hx,hq g hgm y hy];exact gf.loss x y (tr hx) (tr hy) hxy
  ·have key:∀l:List Int,(∀x∈l,∃g∈b.2.1,g.1=x∧d.2.1∈Þ b g)→Ti b f (p 0) (L7 b l d.2.1)=p (L7 (ë b c) l d.2.1):=by
    intro l hl;rw[Jr h f (p 0) hl]
    cases l<;>rfl
   rw[Jj,Ji,key _ (fun x hx=>oa h hd (.inl hx)),key _ (fun x hx=>oa h hd (.inr hx)),←Jj,←Ji];exact hc d hd
end
end Go.Proofs.ZzM
end
