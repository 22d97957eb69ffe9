/- lemmas -/
import Derived.Test.YtmadligicacpkaaGreatAmG
import Derived.Test.YtmadligicacpkaaGreatMdTA
set_option linter.all false
set_option linter.unusedSectionVars false
set_option linter.unusedVariables false
set_option linter.unusedSimpArgs false
noncomputable section
namespace Go.Am
section
variable {ρ:Type}
def Ĵ {α β:Type} (e:Nat→α→Option β):Nat→List α→Option β
 |_,[]=>none
 |i,a::t=>match e i a with
  |some b=>some b
  |none=>Ĵ e (i+1) t
def kB {α β:Type} (l:List α) (e:Nat→α→Option β) (k0:β→Option ρ) (k1:Option ρ) {f:Int→(Int→Option ρ)→Option ρ}
 (h:∀(i:Nat) (a:α),i<l.length→l[i]?=some a→∀kn,f i kn=match e i a with|some b=>k0 b|none=>kn ((i:Int)+1))
 (hn:∀kn,f l.length kn=k1):Ò f 0=match Ĵ e 0 l with|some b=>k0 b|none=>k1:=by
 refine aiX l (fun i t=>match Ĵ e i t with|some b=>k0 b|none=>k1) hn fun i a t hd hi ha kn hk=>?_;rw[h i a hi ha kn,hk,Ĵ]
 cases e i a<;>rfl
def ð {α σ:Type} (l:List α) (g:Nat→σ) (r:Option ρ) {f:Int×σ→(Int×σ→Option ρ)→Option ρ} {s0:σ} (h0:g 0=s0)
 (h:∀(i:Nat) (a:α),i<l.length→l[i]?=some a→∀kn,f (i,g i) kn=kn ((i:Int)+1,g (i+1)))
 (hn:∀kn,f (l.length,g l.length) kn=r):Ò f (0,s0)=r:=by
 subst h0
 have hs:∀s,(s=g 0)→Ò f (0,s)=r:=fun s e=>GS l (fun _ _ _=>r) (fun i s=>s=g i) (fun s hs kn=>by rw[hs]; exact hn kn) (fun i a t s hd hi ha hI kn hk=>by
  rw[hI,h i a hi ha kn]; exact hk _ rfl) e
 exact hs _ rfl
def aiW {α σ:Type} (l:List α) (g:Nat→σ) (r:Option ρ) {f:Int×σ→(Int×σ→Option ρ)→Option ρ} {s0:σ} (P:Nat→Prop) (h0:g 0=s0) (hP:P 0)
 (h:∀(i:Nat) (a:α),i<l.length→l[i]?=some a→P i→∀kn,f (i,g i) kn=r∨(P (i+1)∧f (i,g i) kn=kn ((i:Int)+1,g (i+1))))
 (hn:P l.length→∀kn,f (l.length,g l.length) kn=r):Ò f (0,s0)=r:=by
 subst h0
 have hs:∀s,(s=g 0∧P 0)→Ò f (0,s)=r:=fun s e=>GS l (fun _ _ _=>r) (fun i s=>s=g i∧P i) (fun s hs kn=>by rw[hs.1]; exact hn hs.2 kn) (fun i a t s hd hi ha hI kn hk=>by
  rcases h i a hi ha hI.2 kn with h1|⟨h1,h2⟩
  ·rw[hI.1,h1]
  ·rw[hI.1,h2]; exact hk _ ⟨rfl,h1⟩) e
 exact hs _ ⟨rfl,hP⟩
def Î {i n:Nat} (h:i<n) (hn:n≤1000000000) (f:Int→Option ρ):ck ((i:Int)+1) f=f ((i:Int)+1):=Õ (by omega) (by omega) f
def ifb_lt {i n:Nat} (h:i<n) (x y:Option ρ):ifb (ilt (i:Int) (ahK n)) x y=x:=by simp[Ĥ,N4,h]
def à (n:Nat) (x y:Option ρ):ifb (ilt (n:Int) (ahK n)) x y=y:=by simp[Ĥ,N4]
def Ô {α:Type} {l:List α} {i:Nat} (h:i<l.length) (x y:Option ρ):ifb (ilt (i:Int) (Ú l)) x y=x:=ifb_lt h x y
def QK {α:Type} (p:α→Bool):∀(i:Nat) (l:List α),Ĵ (fun i a=>bif p a then some (i:Int) else none) i l=(l.findIdx? p).map fun j=>((i+j:Nat):Int)
 |_,[]=>rfl
 |i,a::t=>by
  simp only[Ĵ,List.findIdx?_cons]
  cases hp:p a with
  |true=>simp
  |false =>
   simp only[cond_false,dg,if_false];rw[QK p (i+1) t]
   cases t.findIdx? p with
   |none=>rfl
   |some j=>simp only[dL]; congr 1; omega
def iG {α β:Type} {e:Nat→α→Option β}:∀{i:Nat} {l:List α},Ĵ e i l=none↔∀j a,l[j]?=some a→e (i+j) a=none
 |_,[]=>by simp[Ĵ]
 |i,a::t=>by
  simp only[Ĵ];constructor
  ·intro h j b hb
   cases he:e i a with
   |some c=>rw[he] at h; cases h
   |none =>
    rw[he] at h
    cases j with
    |zero=>simp at hb; subst hb; simpa using he
    |succ j=>have:=(iG.1 h) j b (by simpa using hb); rw[←this]; congr 1; omega
  ·intro h;have h0:=h 0 a (by simp);simp only[fq] at h0;rw[h0]
   exact iG.2 fun j b hb=>by have:=h (j+1) b (by simpa using hb); rw[←this]; congr 1; omega
def take_succ {α:Type} {l:List α} {i:Nat} {a:α} (h:l[i]?=some a):l.take (i+1)=l.take i++[a]:=by rw[List.take_succ,h]; rfl
end
end Go.Am
end

noncomputable section
namespace Go.Proofs.ZzM
open Go Go.Am
section
variable {ρ:Type}
def ń {τ:Type} {f:τ→(τ→Option ρ)→Option ρ} {r:Option ρ} (I:τ→Prop) (μ:τ→Nat)
 (h:∀x,I x→(∀kn,f x kn=r)∨∃y,I y∧μ y<μ x∧∀kn,f x kn=kn y) {x:τ} (hx:I x):Ò f x=r :=
 tp (F:=fun _=>r) I μ (fun x hx kn hk=>by
  rcases h x hx with h1|⟨y,h1,h2,h3⟩
  ·exact h1 kn
  ·rw[h3,hk y h1 h2]) hx
def δ {α:Type} (l:List α) (p:α→Bool) (k0:Int→Option ρ) (k1:Option ρ) {f:Int→(Int→Option ρ)→Option ρ}
 (h:∀(i:Nat) (a:α),i<l.length→l[i]?=some a→∀kn,f i kn=if p a then k0 i else kn ((i:Int)+1))
 (hn:∀kn,f l.length kn=k1):Ò f 0=match l.findIdx? p with|some j=>k0 j|none=>k1:=by
 rw[kB l (fun i a=>bif p a then some (i:Int) else none) k0 k1 (fun i a hi ha kn=>by rw[h i a hi ha kn]; cases p a<;>rfl) hn,QK]
 cases l.findIdx? p with
 |none=>rfl
 |some j=>simp
def Ļ {α:Type} (l:List α) (p:α→Bool) (k0:Int→Option ρ) (K k1:Option ρ) {f:Int→(Int→Option ρ)→Option ρ} (hK:∀j:Nat,k0 j=K)
 (h:∀(i:Nat) (a:α),i<l.length→l[i]?=some a→∀kn,f i kn=if p a then k0 i else kn ((i:Int)+1))
 (hn:∀kn,f l.length kn=k1):Ò f 0=if l.any p then K else k1:=by
 rw[δ l p k0 k1 h hn]
 cases hf:l.findIdx? p with
 |none =>
  have:l.any p=false:=by
   rw[eI];intro x hx;have:=eo.1 hf x hx;simp[this]
  simp[this]
 |some j =>
  have:l.any p=true:=by
   have:=dI.1 hf;obtain⟨hj,hp,_⟩:=this;exact eR.2 ⟨_,fg hj,hp⟩
  simp[this,hK]
end
abbrev ê:Type:=Int×Int×Int×(Int×Int)×((Int×Int)×Int)
abbrev Lv:Type:=Int×((Int×Int)×Int)
abbrev Cmp:Type:=Int×Int×List Int×List Int×Int×(Int×(Int×Int))
abbrev Þ:Type:=(Int×Int)×List ê×List (Int×Int)×List Lv×List Cmp×List (Int×Int)
abbrev Sys:Type:=Int×List (Int×Int×Int)
abbrev Maker:Type:=Þ×List (Int×Int)×Sys×List (Int×Int)
section
variable {ρ:Type}
def Ó {b:Bool} (h:b=true) (x y:Option ρ):ifb b x y=x:=by rw[h]; rfl
def Ð {b:Bool} (h:b=false) (x y:Option ρ):ifb b x y=y:=by rw[h]; rfl
end
def I64 (n:Int):Prop:=-9223372036854775808≤n∧n≤9223372036854775807
def inP (n lo hi:Int):Bool:=decide (lo≤n)&&decide (n≤hi)
def HO (n:Int):Bool:=inP n 0 20000
def jK (s:Int×Int) (lo hi:Int):Bool:=decide (lo≤s.1)&&(decide (s.1≤s.2)&&decide (s.2≤hi))
def gX (n lo hi:Int):Ğ n lo hi=some (inP n lo hi):=by
 unfold Ğ Je inP ile
 cases decide (lo≤n)<;>rfl
def XT (n:Int):nt n=some (HO n):=by
 unfold nt Qk;rw[gX]; rfl
def GX (s:Int×Int) (lo hi:Int):Τ s lo hi=some (jK s lo hi):=by
 unfold Τ Jk jK ile
 cases decide (lo≤s.1)<;>cases decide (s.1≤s.2)<;>rfl
def Vq {n:Int} (h:I64 n):ro n=some (n.natAbs:Int):=by
 obtain⟨h1,h2⟩:=h;unfold ro Xh
 by_cases hn:n<0
 ·have:ilt n 0=true:=by simpa using hn
  rw[Ó this];congr 1;simp only[IntKind.wrap,IntKind.bits,IntKind.signed];simp;omega
 ·have:ilt n 0=false:=by simpa using hn
  rw[Ð this];congr 1;simp only[IntKind.wrap,IntKind.bits,IntKind.signed];simp;omega
def amZ (a b:Nat):QP a b=some ((Nat.gcd a b:Nat):Int):=by
 unfold QP ads;refine ń (fun x:Int×Int=>∃c d:Nat,x=((c:Int),(d:Int))∧Nat.gcd c d=Nat.gcd a b) (fun x=>x.2.toNat) ?_ ⟨a,b,rfl,rfl⟩;rintro x ⟨c,d,rfl,hg⟩
 cases d with
 |zero =>
  refine .inl fun kn=>?_;rw[Nat.gcd_zero_right] at hg;unfold zS;simp[hg,ine]
 |succ d =>
  refine .inr ⟨(((d+1:Nat):Int),((c % (d+1):Nat):Int)),⟨d+1,c % (d+1),rfl,?_⟩,?_,fun kn=>?_⟩
  ·rw[←hg,gM c (d+1),Nat.gcd_rec (d+1) c,gM]
  ·have:=gB c (gy d);simp only[dl];omega
  ·unfold zS
   have h1:ine ((d+1:Nat):Int) 0=true:=by simp[ine]; omega
   have h2:Ŋ ((d+1:Nat):Int) 0=false:=by simp[Ŋ]; omega
   simp only[h1,Ó Ð h2];congr 1
def J8 (r:Int×Int):Bool :=
 decide (1≤r.2)&&(decide (r.2≤2147483647)&&(decide ((r.1.natAbs:Int)≤2147483647)&&decide (Nat.gcd r.1.natAbs r.2.natAbs=1)))
def Yz {r:Int×Int} (h:I64 r.1):tQ r=some (J8 r):=by
 unfold tQ P1 J8
 by_cases h1:1≤r.2
 ·by_cases h2:r.2≤2147483647
  ·have h3:I64 r.2:=⟨by omega,by omega⟩
   have e1:ige r.2 1=true:=by simp[ige,h1]
   have e2:ile r.2 2147483647=true:=by simp[ile,h2]
   rw[Ó e1,Ó e2,Vq h,À]
   by_cases h4:(r.1.natAbs:Int)≤2147483647
   ·have e4:ile (r.1.natAbs:Int) 2147483647=true:=by simp[ile,h4]
    rw[Ó e4,À,Vq h3,À,amZ,À];congr 1;rw[dJ];simp only[ieq,beq_iff_eq,h1,h2,h4,decide_true,dQ,decide_eq_true_eq];omega
   ·have e4:ile (r.1.natAbs:Int) 2147483647=false:=by simp[ile]; omega
    rw[Ð e4];simp[h4]
  ·have e1:ige r.2 1=true:=by simp[ige,h1]
   have e2:ile r.2 2147483647=false:=by simp[ile]; omega
   rw[Ó e1,Ð e2];simp[h2]
 ·have e1:ige r.2 1=false:=by simp[ige]; omega
  rw[Ð e1];simp[h1]
def pF (g:ê):Bool :=
 J8 g.2.2.2.2.1&&inP g.2.2.2.2.1.1 (-1000) 1000&&decide (g.2.2.2.2.1.2≤100)&&inP g.1 1 1099511627776&&HO g.2.1&&inP g.2.2.1 1 1125899906842624&&jK g.2.2.2.1 (-1073741824) 1073741824&&inP g.2.2.2.2.2 0 1048576
def agS {g:ê} (h:I64 g.2.2.2.2.1.1):vP g=some (pF g):=by
 unfold vP Dw pF;rw[Yz h,gX,gX,XT,gX,GX,gX];generalize J8 g.2.2.2.2.1=x1;generalize inP g.2.2.2.2.1.1 (-1000) 1000=x2;generalize inP g.1 1 1099511627776=x3;generalize HO g.2.1=x4;generalize inP g.2.2.1 1 1125899906842624=x5;generalize jK g.2.2.2.1 (-1073741824) 1073741824=x6;generalize inP g.2.2.2.2.2 0 1048576=x7;unfold ile;generalize decide (g.2.2.2.2.1.2≤100)=x8
 cases x1<;>cases x2<;>cases x3<;>cases x4<;>cases x5<;>cases x6<;>cases x8<;>rfl
section
variable {ρ:Type}
def GZ {α:Type} {l:List α} {i:Nat} {a:α} (h0:0<i) (h:l[i-1]?=some a) (f:α→Option ρ):ü l ((i:Int)-1) f=f a:=by
 have:((i:Int)-1)=((i-1:Nat):Int):=by omega
 rw[this,Ë h]
def Q1 {i:Nat} (h:0<i) (hn:i≤1000000000) (f:Int→Option ρ):ck ((i:Int)-1) f=f ((i:Int)-1):=Õ (by omega) (by omega) f
def ic {i n:Nat} (h:i<n) (x:Option ρ):ã ((ile 0 (i:Int))&&(ilt (i:Int) (n:Int))) x=x:=by
 have:((ile 0 (i:Int))&&(ilt (i:Int) (n:Int)))=true:=by simp[ile,ilt,h]
 rw[this,Am.iff_true]
def Ī {α:Type} {l:List α} {i:Nat} {a:α} (h:l[i]?=some a) (f:α→Option ρ):ĺ l (Int.toNat (i:Int)) f=f a:=by
 rw[dl]; exact jo h f
end
def DN {α:Type} (key:α→Int) (l:List α) (i:Nat) (a:α):Bool :=
 decide (0<i)&&(l[i-1]?).any fun q=>decide (key a≤key q)
def D6 {α:Type} {l:List α} {i:Nat} (hi:i<l.length) (h0:0<i):∃q,l[i-1]?=some q :=
 ⟨l[i-1],cI (by omega)⟩
def Ys {α:Type} (key:α→Int) (l:List α):(∀i a,l[i]?=some a→DN key l i a=false)↔l.Pairwise (fun a b=>key a<key b):=by
 rw[dG];constructor
 ·intro h
  have step:∀i (h1:i+1<l.length),key l[i]<key l[i+1]:=by
   intro i h1;have:=h (i+1) l[i+1] (cI h1);simp only[DN,Nat.add_sub_cancel,gy,decide_true,dQ,cI (show i<l.length by omega),Option.any_some,decide_eq_false_iff_not] at this;omega
  intro i j hi hj hij
  induction j with
  |zero=>omega
  |succ j ih =>
   have:=step j hj;rcases dv i j with hlt|hge
   ·have:=ih (by omega) hlt; omega
   ·have:i=j:=by omega
    subst this; assumption
 ·intro h i a ha;obtain⟨hi,rfl⟩:=List.getElem?_eq_some_iff.1 ha;unfold DN
  cases i with
  |zero=>rfl
  |succ i =>
   have:=h i (i+1) (by omega) hi (by omega);simp only[Nat.add_sub_cancel,gy,decide_true,dQ,cI (show i<l.length by omega),Option.any_some,decide_eq_false_iff_not];omega
def nW (l:List ê) (i:Nat) (g:ê):Option Int :=
 if !pF g then some 1 else if DN (fun g=>g.1) l i g then some 6 else none
def ji (b:Þ):Int:=(Ĵ (nW b.2.1) 0 b.2.1).getD 0
def TB {b:Þ} (hr:∀g∈b.2.1,I64 g.2.2.2.2.1.1) (hn:b.2.1.length≤1000):Α b=some (ji b):=by
 unfold Α pB;refine Eq.trans (kB b.2.1 (nW b.2.1) some (some 0) (fun i a hi ha kn=>?_) (fun kn=>?_)) ?_
 ·try dsimp only
  unfold i5;rw[Ô hi,Ë ha,agS (hr a (List.mem_of_getElem? ha)),À];unfold nW
  cases hg:pF a with
  |false=>simp
  |true =>
   simp only[dR,é,dg,if_false];rcases fi i with h0|h0
   ·subst h0
    have:igt ((0:Nat):Int) 0=false:=by simp[igt]
    rw[Ð this,Î hi (by omega)];simp[DN]
   ·obtain⟨q,hq⟩:=D6 hi h0
    have h1:igt (i:Int) 0=true:=by simp[igt]; omega
    rw[Ó h1,Q1 h0 (by omega),GZ h0 hq];simp only[DN,h0,decide_true,Bool.true_and,hq,Option.any_some];unfold ile
    cases h2:decide (a.1≤q.1) with
    |true=>simp
    |false =>
     rw[é,Î hi (by omega)];simp
 ·try dsimp only
  unfold i5;rw[à]
 ·unfold ji
  cases Ĵ (nW b.2.1) 0 b.2.1<;>rfl
def Y2 (l:List ê):List (Int×ê):=l.foldl (fun m g=>MW (k:=tI) (v:=Ñ) g.1 g m) []
def iw (b:Þ):List (Int×ê):=Y2 b.2.1
def TN {b:Þ} (hn:b.2.1.length≤1000):ς b=some (iw b):=by
 unfold ς Dt;refine ð b.2.1 (fun i=>Y2 (b.2.1.take i)) _ rfl (fun i a hi ha kn=>?_) (fun kn=>?_)
 ·try dsimp only
  unfold mJ;rw[Ô hi,Ë ha,Î hi (by omega),take_succ ha];simp only[Y2,List.foldl_append,List.foldl_cons,List.foldl_nil]
 ·try dsimp only
  unfold mJ;rw[à,List.take_length];rfl
def ZO (x y:Int) (g:ê):∀m:List (Int×ê),sv (k:=tI) (v:=Ñ) x (MW (k:=tI) (v:=Ñ) y g m)=if x=y then some g else sv (k:=tI) (v:=Ñ) x m
 |[]=>by
  unfold MW sv kq sv
  by_cases h:x=y<;>simp[h]
 |e::m=>by
  unfold MW
  by_cases h:y=e.1
  ·have:kq tI y e.1=true:=by simp[kq,h]
   rw[this]
   try dsimp only
   unfold sv kq
   by_cases h2:x=y
   ·simp[h2]
   ·have:¬x=e.1:=fun h3=>h2 (h3.trans h.symm);simp[h2,this]
  ·have:kq tI y e.1=false:=by simp[kq,h]
   rw[this]
   try dsimp only
   have ih:=ZO x y g m;unfold sv
   by_cases h2:x=e.1
   ·have:kq tI x e.1=true:=by simp[kq,h2]
    rw[this];have:¬x=y:=fun h3=>h (h3.symm.trans h2);simp[this]
   ·have:kq tI x e.1=false:=by simp[kq,h2]
    rw[this];exact ih
def Ů (b:Þ) (id:Int):Option ê:=b.2.1.find? fun g=>g.1==id
def acV (x:Int) (l:List ê):sv (k:=tI) (v:=Ñ) x (Y2 l)=l.reverse.find? fun g=>g.1==x:=by
 unfold Y2;rw[←List.foldr_reverse]
 induction l.reverse with
 |nil=>rfl
 |cons g t ih =>
  rw[List.foldr_cons,ZO,ih,gw]
  by_cases h:x=g.1
  ·simp[h]
  ·have:(g.1==x)=false:=by simp; exact fun h2=>h h2.symm
   simp[h,this]
def abC {l:List ê} (h:l.Pairwise fun a b=>a.1<b.1) (x:Int):l.reverse.find? (fun g=>g.1==x)=l.find? fun g=>g.1==x:=by
 induction l with
 |nil=>rfl
 |cons g t ih =>
  rw[dE] at h;rw[List.reverse_cons,List.find?_append,ih h.2,gw]
  by_cases hx:g.1=x
  ·have:t.find? (fun g=>g.1==x)=none:=eh.2 fun y hy=>by have:g.1<y.1:=h.1 y hy; simp; omega
   rw[this]; simp[hx]
  ·have:(g.1==x)=false:=by simp[hx]
   simp[this]
def zM {b:Þ} (h:b.2.1.Pairwise fun a b=>a.1<b.1) (x:Int):sv (k:=tI) (v:=Ñ) x (iw b)=Ů b x:=by
 unfold iw Ů;rw[acV,abC h]
def mP (s:List (Int×ê)) (id day:Int):Int :=
 match sv (k:=tI) (v:=Ñ) id s with
 |some g=>if day<g.2.1 then 4 else 0
 |none=>5
def acX (s:List (Int×ê)) (id day:Int):iT s id day=some (mP s id day):=by
 unfold iT rS mP
 cases h:sv (k:=tI) (v:=Ñ) id s with
 |none=>simp only[YH,h]
 |some g =>
  simp only[YH,h];rw[Ĥ]
  by_cases h2:day<g.2.1<;>simp[h2]
def agf (s:List (Int×ê)) (id day:Int):Int:=if !HO day then 1 else mP s id day
def Zk (s:List (Int×ê)) (id day:Int):ņ id day s=some (agf s id day):=by
 unfold ņ Dv agf;rw[XT,À,acX,À]
 cases HO day<;>rfl
def Tz (b:Þ) (s:List (Int×ê)) (i:Nat) (l:Lv):Int :=
 if !jK l.2.1 0 20000 then 1 else if !inP l.2.2 0 1048576 then 1 else if mP s l.1 l.2.1.1 != 0 then mP s l.1 l.2.1.1 else
 if (b.2.2.2.1.take i).any (fun x=>x.1==l.1&&(decide (x.2.1.1≤l.2.1.2)&&decide (l.2.1.1≤x.2.1.2))) then 9 else
 if b.2.2.1.any (fun u=>u.1==l.1&&inP u.2 l.2.1.1 l.2.1.2) then 9 else 0
def abO {b:Þ} (hn:b.2.2.2.1.length≤1000) (hu:b.2.2.1.length≤1000) (s:List (Int×ê)) {i:Nat} {l:Lv} (hl:b.2.2.2.1[i]?=some l):ε b s i=some (Tz b s i l):=by
 unfold ε vq Tz;have hi:i<b.2.2.2.1.length:=(List.getElem?_eq_some_iff.1 hl).1;rw[Ë hl,GX,À,gX,À,acX,À]
 cases jK l.2.1 0 20000 with
 |false=>rfl
 |true =>
 cases inP l.2.2 0 1048576 with
 |false=>rfl
 |true =>
 cases hm:(mP s l.1 l.2.1.1 != 0) with
 |true =>
  have:ine (mP s l.1 l.2.1.1) 0=true:=hm;simp[this]
 |false =>
 have hm':ine (mP s l.1 l.2.1.1) 0=false:=hm
 have hg:((ile (0:Int) (i:Int))&&(ile (i:Int) (þ b.2.2.2.1)))=true:=by simp[ile,þ]; omega
 simp only[dR,é,hm',dg,if_false];rw[ĝ hg,dl]
 have inner:∀(k:Int→Option Int),Ò (fun(v:Int) kk=>Ρ b.2.2.1 (Ú b.2.2.1) l.1 l.2.1.1 l.2.1.2 v (fun u=>kk u) (fun z=>ifb (ige z 0) (k 9) (k 0)) (fun _=>k 0)) (0:Int)=if b.2.2.1.any (fun u=>u.1==l.1&&inP u.2 l.2.1.1 l.2.1.2) then k 9 else k 0:=by
  intro k;refine Ļ b.2.2.1 _ (fun z=>ifb (ige z 0) (k 9) (k 0)) (k 9) (k 0) (fun j=>?_) (fun j a hj ha kn=>?_) (fun kn=>?_)
  ·have:ige (j:Int) 0=true:=by simp[ige]
   rw[Ó this]
  ·try dsimp only
   unfold Ρ;rw[Ô hj,Ë ha,gX,À,Î hj (by omega)]
   cases h1:(a.1==l.1) with
   |false =>
    have:ieq a.1 l.1=false:=h1;simp[this]
   |true =>
    have:ieq a.1 l.1=true:=h1;rw[this]
    cases inP a.2 l.2.1.1 l.2.1.2<;>simp
  ·try dsimp only
   unfold Ρ;rw[à]
 rw[inner];refine eM (Ļ (b.2.2.2.1.take i) (fun x=>x.1==l.1&&(decide (x.2.1.1≤l.2.1.2)&&decide (l.2.1.1≤x.2.1.2))) (fun z=>ifb (ige z 0) (some 9) (if b.2.2.1.any (fun u=>u.1==l.1&&inP u.2 l.2.1.1 l.2.1.2) then some 9 else some 0)) (some 9) (if b.2.2.1.any (fun u=>u.1==l.1&&inP u.2 l.2.1.1 l.2.1.2) then some 9 else some 0) (fun j=>?_) (fun j a hj ha kn=>?_) (fun kn=>?_)) ?_
 ·have:ige (j:Int) 0=true:=by simp[ige]
  rw[Ó this]
 ·try dsimp only
  unfold j6
  have hj':j≤1000:=by rw[cZ] at hj; omega
  rw[Ô hj,Ë ha,Î hj (by rw[cZ]; omega)]
  cases h1:(a.1==l.1) with
  |false =>
   have:ieq a.1 l.1=false:=h1;simp[this]
  |true =>
   have:ieq a.1 l.1=true:=h1;rw[this]
   cases h2:decide (a.2.1.1≤l.2.1.2)<;>cases h3:decide (l.2.1.1≤a.2.1.2)<;>simp[ile,h2,h3,Ĥ]<;>simp_all
 ·try dsimp only
  unfold j6;rw[à]
 ·cases List.any (b.2.2.2.1.take i) _<;>cases b.2.2.1.any _<;>rfl
def akN {l:List Int} (hn:l.length≤1000000) (x:Int):jy l x=some (match l.findIdx? (·==x) with|some j=>(j:Int)|none=>-1):=by
 unfold jy l8;refine Eq.trans (δ l (·==x) some (some (-1)) (fun i a hi ha kn=>?_) (fun kn=>?_)) ?_
 ·try dsimp only
  unfold gV;rw[Ô hi,Ë ha,Î hi (by omega),Ĥ]
  by_cases h:x=a
  ·subst h; simp[ieq]
  ·have h2:¬a=x:=fun e=>h e.symm;simp[ieq,h,h2]
 ·try dsimp only
  unfold gV;rw[à]
 ·cases l.findIdx? (·==x)<;>rfl
def kH {l:List Int} (hn:l.length≤1000000) (x:Int):Ĕ l x=some (l.contains x):=by
 unfold Ĕ jG;rw[akN hn,À];congr 1
 cases h:l.findIdx? (·==x) with
 |none =>
  have:l.contains x=false:=by
   rw[er];intro hc;have:=eo.1 h x (by simpa using hc);simp at this
  rw[this]; rfl
 |some j =>
  obtain⟨hj,hp,_⟩:=dI.1 h
  have:l.contains x=true:=by
   have h2:l[j]=x:=by simpa using hp
   rw[←h2]; simp
  rw[this];simp[ige]
def è (a b:List Int):List Int:=a.filter fun x=>!b.contains x
def rV {a b:List Int} (ha:a.length≤1000000) (hb:b.length≤1000000):Ű a b=some (è a b):=by
 unfold Ű Xx;rw[Ö (by omega),Am.iff_true]
 have second:∀z:Nat,z<a.length→è (a.take z) b=a.take z→b.contains (a[z]?.getD 0)=true →
  Ò (fun(v13:(Val (.pair tI (.pair tI (.slice tI))))) kk17=>km b v13.1 v13.2.1 v13.2.2 (fun u14 u15 u16=>kk17 (u14,u15,u16)) (fun z12=>ã ((ile (0:Int) z12.1)&&(ile z12.1 (þ z12.2))) (ã ((ile (0:Int) z12.1)&&(ile z12.1 (þ (List.take (Int.toNat z12.1) z12.2++List.replicate (List.length z12.2-(Int.toNat z12.1)) (0:Int)++List.drop ((Int.toNat z12.1)+(List.length z12.2-(Int.toNat z12.1))) z12.2)))) (some (List.take (Int.toNat z12.1) (List.drop 0 (List.take (Int.toNat z12.1) z12.2++List.replicate (List.length z12.2-(Int.toNat z12.1)) (0:Int)++List.drop ((Int.toNat z12.1)+(List.length z12.2-(Int.toNat z12.1))) z12.2))))))) ((z:Int),((z:Int)+1),a)=some (è a b):=by
  intro z hz hp hc
  refine ń (fun x:Int×Int×List Int=>∃i j:Nat,x.1=i∧x.2.1=j∧i<j∧j≤a.length∧x.2.2.length=a.length∧x.2.2.take i=è (a.take j) b∧x.2.2.drop j=a.drop j) (fun x=>a.length-x.2.1.toNat) ?_
   ⟨z,z+1,rfl,by simp,by omega,by omega,rfl,?_,rfl⟩
  ·rintro⟨x1,x2,s⟩ ⟨i,j,h1,h2,hij,hja,hl,ht,hd⟩;simp only at h1 h2 hl ht hd;subst h1 h2;rcases dv j a.length with hj|hj
   ·refine .inr ?_
    have hsj:s[j]?=some a[j]:=by
     have h3:(s.drop j)[0]?=(a.drop j)[0]?:=by rw[hd]
     rw[eQ,eQ] at h3;simpa[cI hj] using h3
    have hjs:j<s.length:=by omega
    have hta:è (a.take (j+1)) b=è (a.take j) b++if b.contains a[j] then[] else[a[j]]:=by
     rw[take_succ (cI hj),è,è,fj];congr 1
     cases h:b.contains a[j] with
     |true=>simp only[dN,h,dR,dg,if_false,dU,if_true]
     |false=>simp only[dN,h,fL,dg,if_false,dU,if_true]
    cases h:b.contains a[j] with
    |true =>
     refine⟨(i,(j:Int)+1,s),⟨i,j+1,rfl,by simp,by omega,by omega,hl,?_,?_⟩,by simp; omega,fun kn=>?_⟩
     ·rw[hta,h]; simpa using ht
     ·have:=congrArg (List.drop 1) hd;simpa[fZ,Nat.add_comm] using this
     ·try dsimp only
      unfold km;rw[Ô hjs,ic hjs,Ī hsj,kH hb,À,h];simp only[Bool.not_true,é];rw[Î hjs (by omega)]
    |false =>
     have his:i<s.length:=by omega
     refine⟨((i:Int)+1,(j:Int)+1,s.set i a[j]),⟨i+1,j+1,by simp,by simp,by omega,by omega,by simpa using hl,?_,?_⟩,by simp; omega,fun kn=>?_⟩
     ·show List.take (i+1) (s.set i a[j])=_;rw[hta,h,List.take_succ,fJ,List.take_set_of_le (cJ i),ht];simp[his]
     ·show List.drop (j+1) (s.set i a[j])=_;rw[List.drop_set_of_lt (by omega)];have:=congrArg (List.drop 1) hd;simpa[fZ,Nat.add_comm] using this
     ·try dsimp only
      unfold km;rw[Ô hjs,ic hjs,Ī hsj,kH hb,À,h];simp only[Bool.not_false,ğ];rw[ic his,Ī (List.getElem?_eq_getElem his),Î his (by omega),Î hjs (by omega),Int.toNat_natCast]
   ·refine .inl fun kn=>?_
    have hje:j=s.length:=by omega
    try dsimp only
    unfold km;rw[hje,à];dsimp only
    have g1:((ile (0:Int) (i:Int))&&(ile (i:Int) (þ s)))=true:=by simp[ile,þ]; omega
    rw[ĝ g1]
    have g2:((ile (0:Int) (i:Int))&&(ile (i:Int) (þ (List.take (Int.toNat (i:Int)) s++List.replicate (List.length s-(Int.toNat (i:Int))) (0:Int)++List.drop ((Int.toNat (i:Int))+(List.length s-(Int.toNat (i:Int)))) s))))=true:=by
     simp[ile,þ]; omega
    rw[ĝ g2,dl,List.drop_zero,di,fX (by simp; omega),List.take_take,Nat.min_self,ht];rw[dS (by omega)]
  ·show List.take z a=è (a.take (z+1)) b;have hz':a[z]?=some a[z]:=cI hz;rw[take_succ hz',è,fj];rw[hz'] at hc;simp only[fh] at hc
   have:List.filter (fun x=>!b.contains x) [a[z]]=[]:=by simp only[dN,hc,dR,dg,if_false,dU]
   rw[this,dH];exact hp.symm
 refine eM (δ a (fun x=>b.contains x) (fun z4=>ifb (ieq z4 (-1:Int)) (some a) (ck (z4+(1:Int)) fun n5=>Ò (fun(v13:(Val (.pair tI (.pair tI (.slice tI))))) kk17=>km b v13.1 v13.2.1 v13.2.2 (fun u14 u15 u16=>kk17 (u14,u15,u16)) (fun z12=>ã ((ile (0:Int) z12.1)&&(ile z12.1 (þ z12.2))) (ã ((ile (0:Int) z12.1)&&(ile z12.1 (þ (List.take (Int.toNat z12.1) z12.2++List.replicate (List.length z12.2-(Int.toNat z12.1)) (0:Int)++List.drop ((Int.toNat z12.1)+(List.length z12.2-(Int.toNat z12.1))) z12.2)))) (some (List.take (Int.toNat z12.1) (List.drop 0 (List.take (Int.toNat z12.1) z12.2++List.replicate (List.length z12.2-(Int.toNat z12.1)) (0:Int)++List.drop ((Int.toNat z12.1)+(List.length z12.2-(Int.toNat z12.1))) z12.2))))))) (z4,n5,a))) (some a) (fun i x hi hx kn=>?_) (fun kn=>?_)) ?_
 ·try dsimp only
  unfold vm;rw[Ô hi,ic hi,Ī hx,kH hb,À,Î hi (by omega),Ĥ]
 ·try dsimp only
  unfold vm;rw[à]
 ·cases h:a.findIdx? (fun x=>b.contains x) with
  |none =>
   have:è a b=a:=by
    rw[è,gp];intro x hx;have:=eo.1 h x hx;simpa using this
   rw[this]
  |some z =>
   obtain⟨hz,hc,hlt⟩:=dI.1 h
   have h1:ieq (z:Int) (-1)=false:=by simp[ieq]
   try dsimp only
   rw[Ð h1,Î hz (by omega)];refine second z hz ?_ ?_
   ·rw[è,gp];intro x hx;obtain⟨j,hj,rfl⟩:=df.1 hx;rw[cZ] at hj;rw[gE];have:=hlt j (by omega);simpa using this
   ·rw[cI hz]; exact hc
def wR (l:List Int) (i:Nat) (a:Int):Option Bool:=if !inP a 1 1099511627776 then some false else if DN (fun x=>x) l i a then some false else none
def lM (l:List Int):Bool:=match Ĵ (wR l) 0 l with|some _=>false|none=>decide (l.length≤6)
def GW {l:List Int} (hn:l.length≤1000000):mu l=some (lM l):=by
 unfold mu Jj;refine Eq.trans (kB l (wR l) some (some (decide (l.length≤6))) (fun i a hi ha kn=>?_) (fun kn=>?_)) ?_
 ·try dsimp only
  unfold ot;rw[Ô hi,Ë ha,gX,À];unfold wR
  cases inP a 1 1099511627776 with
  |false=>rfl
  |true =>
   simp only[dR,é,dg,if_false];rcases fi i with h0|h0
   ·subst h0
    have:igt ((0:Nat):Int) 0=false:=by simp[igt]
    rw[Ð this,Î hi (by omega)];simp[DN]
   ·obtain⟨q,hq⟩:=D6 hi h0
    have h1:igt (i:Int) 0=true:=by simp[igt]; omega
    rw[Ó h1,Q1 h0 (by omega),GZ h0 hq];simp only[DN,h0,decide_true,Bool.true_and,hq,Option.any_some];unfold ile
    cases h2:decide (a≤q) with
    |true=>rfl
    |false =>
     rw[é,Î hi (by omega)];rfl
 ·try dsimp only
  unfold ot;rw[à,á];simp[ile];omega
 ·have hb:∀x,Ĵ (wR l) 0 l=some x→x=false:=by
   have:∀(m:List Int) (j:Nat) (x:Bool),Ĵ (wR l) j m=some x→x=false:=by
    intro m
    induction m with
    |nil=>intro j x h; cases h
    |cons a m ih =>
     intro j x h;unfold Ĵ at h
     cases hp:wR l j a with
     |none=>rw[hp] at h; exact ih _ _ h
     |some y =>
      rw[hp] at h;cases h;unfold wR at hp
      split at hp
      ·cases hp; rfl
      ·split at hp
       ·cases hp; rfl
       ·cases hp
   exact this l 0
  unfold lM
  cases h:Ĵ (wR l) 0 l with
  |none=>rfl
  |some x=>rw[hb x h]
def D7 (l:List Int):lM l=true↔(∀x∈l,1≤x∧x≤1099511627776)∧l.Pairwise (·<·)∧l.length≤6:=by
 have h0:Ĵ (wR l) 0 l=none↔(∀x∈l,1≤x∧x≤1099511627776)∧l.Pairwise (·<·):=by
  rw[iG,←Ys (fun x=>x) l];constructor
  ·intro h
   have h1:∀(j:Nat) (a:Int),l[j]?=some a→inP a 1 1099511627776=true∧DN (fun x=>x) l j a=false:=by
    intro j a ha;have:=h j a ha;rw[Nat.zero_add] at this;unfold wR at this
    split at this
    ·cases this
    ·split at this
     ·cases this
     ·rename_i h1 h2;exact⟨by simpa using h1,by simpa using h2⟩
   refine⟨fun x hx=>?_,fun i a ha=>(h1 i a ha).2⟩;obtain⟨j,hj,rfl⟩:=df.1 hx;have:=(h1 j l[j] (cI hj)).1;simpa[inP] using this
  ·rintro⟨h1,h2⟩ j a ha;rw[dj];have h3:=h1 a (cR ha)
   have:inP a 1 1099511627776=true:=by simpa[inP] using h3
   simp[wR,this,h2 j a ha]
 unfold lM
 cases h:Ĵ (wR l) 0 l with
 |none =>
  obtain⟨h1,h2⟩:=h0.1 h;simp only[decide_eq_true_eq];exact⟨fun h3=>⟨h1,h2,h3⟩,fun h3=>h3.2.2⟩
 |some x =>
  constructor
  ·intro h2; cases h2
  ·rintro⟨h1,h2,h3⟩;rw[h0.2 ⟨h1,h2⟩] at h; cases h
def akO {a b:List Int} (ha:a.length≤1000000) (hb:b.length≤1000000):í [a,b]=some (a++b):=by
 have hk:∀n:Nat,n≤4000000→∀(f:Int→Option (List Int)),ck (n:Int) f=f n:=fun n h f=>Õ (by omega) (by omega) f
 have second:Ò (fun(v9:(Val (.pair tI (.slice tI)))) kk12=>ï [a,b] (Ú [a,b]) v9.1 v9.2 (fun u10 u11=>kk12 (u10,u11)) (fun z8=>some z8)) ((0:Int),([]:List Int))=some (a++b):=by
  refine ð [a,b] (fun i=>([a,b].take i).flatten) (some (a++b)) (f:=fun(v9:(Val (.pair tI (.slice tI)))) kk12=>ï [a,b] (Ú [a,b]) v9.1 v9.2 (fun u10 u11=>kk12 (u10,u11)) (fun z8=>some z8)) rfl (fun i x hi hx kn=>?_) (fun kn=>?_)
  ·try dsimp only
   unfold ï;rw[Ô hi,Ë hx,Î hi (by simp),take_succ hx,List.flatten_append]
   have:å ((List.take i [a,b]).flatten.length+x.length)=true:=by
    refine Ö ?_
    have h1:x.length≤1000000:=by
     have:=cR hx;simp at this
     rcases this with rfl|rfl<;>assumption
    have h2:(List.take i [a,b]).flatten.length≤2000000:=by
     have:i=0∨i=1:=by simp at hi; omega
     rcases this with rfl|rfl<;>simp<;>omega
    omega
   rw[ĝ this];simp
  ·try dsimp only
   unfold ï;rw[à];simp
 unfold í iY;refine ń (fun x:Int×Int=>∃i:Nat,i≤2∧x=((([a,b].take i).flatten.length:Int),(i:Int))) (fun x=>2-x.2.toNat) ?_ ⟨0,by omega,rfl⟩;rintro x ⟨i,hi,rfl⟩;rcases Nat.lt_or_ge i 2 with h2|h2
 ·refine .inr ⟨((([a,b].take (i+1)).flatten.length:Int),(i:Int)+1),⟨i+1,h2,by simp⟩,by simp; omega,fun kn=>?_⟩;have hi':i<[a,b].length:=h2;obtain⟨x,hx⟩:∃x,[a,b][i]?=some x:=⟨_,cI hi'⟩
  have hxl:x.length≤1000000:=by
   have:=cR hx;simp at this
   rcases this with rfl|rfl<;>assumption
  have h3:(List.take i [a,b]).flatten.length≤2000000:=by
   have:i=0∨i=1:=by omega
   rcases this with rfl|rfl<;>simp<;>omega
  try dsimp only
  unfold ĸ;rw[Ô hi',Ë hx,á]
  have e1:(((List.take i [a,b]).flatten.length:Int)+(x.length:Int))=((List.take i [a,b]).flatten.length+x.length:Nat):=by omega
  rw[e1,hk _ (by omega)]
  have:ilt ((((List.take i [a,b]).flatten.length+x.length:Nat)):Int) 0=false:=by simp[ilt]; omega
  rw[Ð this,Î hi' (by simp),take_succ hx];simp
 ·refine .inl fun kn=>?_
  obtain rfl:i=2:=by omega
  try dsimp only
  unfold ĸ;rw[show((2:Nat):Int)=(([a,b].length:Nat):Int) from rfl,à]
  have e1:((List.take 2 [a,b]).flatten.length:Int)=((a.length+b.length:Nat):Int):=by simp
  have e2:ilt (((a.length+b.length:Nat)):Int) 0=false:=by simp[ilt]; omega
  rw[e1];dsimp only;rw[Ð e2,Int.sub_zero,hk _ (by omega)];rcases Nat.eq_zero_or_pos (a.length+b.length) with h0|h0
  ·have:igt (((a.length+b.length:Nat)):Int) 0=false:=by simp[igt]; omega
   rw[Ð this];exact second
  ·have:igt (((a.length+b.length:Nat)):Int) 0=true:=by simp[igt]; omega
   rw[Ó this]
   have:((ilt (0:Int) (((a.length+b.length:Nat)):Int))&&(å (Int.toNat (((a.length+b.length:Nat)):Int))))=true:=by
    rw[dl,Ö (by omega)];simp[ilt]; omega
   rw[ĝ this]
   have:ile 0 (þ (List.replicate (Int.toNat (((a.length+b.length:Nat)):Int)) (0:Int)))=true:=by simp[ile]
   rw[ĝ this];exact second
def lJ (b:Þ) (id day:Int):Option Lv:=b.2.2.2.1.find? fun l=>l.1==id&&inP day l.2.1.1 l.2.1.2
def X2 {α:Type} (p:α→Bool):∀l:List α,l.find? p=(match l.findIdx? p with|some j=>l[j]?|none=>none)
 |[]=>rfl
 |a::l=>by
  rw[gw,List.findIdx?_cons]
  cases h:p a with
  |true=>simp
  |false =>
   simp only[dg,if_false];rw[X2 p l]
   cases l.findIdx? p<;>simp
def aog {b:Þ} (hn:b.2.2.2.1.length≤1000) (id day:Int):Ao b id day=some (match lJ b id day with|some l=>(l,true)|none=>((0,(0,0),0),false)):=by
 unfold Ao XG;refine Eq.trans (δ b.2.2.2.1 (fun l=>l.1==id&&inP day l.2.1.1 l.2.1.2) (fun z5=>ifb (ilt z5 (0:Int)) (some (((0:Int),((0:Int),(0:Int)),(0:Int)),false)) (ü b.2.2.2.1 z5 fun e6=>some (e6,true))) (some ((0,(0,0),0),false)) (fun i a hi ha kn=>?_) (fun kn=>?_)) ?_
 ·try dsimp only
  unfold vr;rw[Ô hi,Ë ha,gX,À,Î hi (by omega)]
  cases h1:(a.1==id) with
  |false =>
   have:ieq a.1 id=false:=h1;simp[this]
  |true =>
   have:ieq a.1 id=true:=h1;rw[this]
   cases inP day a.2.1.1 a.2.1.2<;>simp
 ·try dsimp only
  unfold vr;rw[à]
 ·unfold lJ;rw[X2]
  cases h:b.2.2.2.1.findIdx? (fun l=>l.1==id&&inP day l.2.1.1 l.2.1.2) with
  |none=>rfl
  |some j =>
   obtain⟨hj,_,_⟩:=dI.1 h
   have:ilt (j:Int) 0=false:=by simp[ilt]
   try dsimp only
   rw[Ð this,Ë (cI hj),cI hj]
def anL (a:Int):List Int→List Int
 |[]=>[a]
 |b::t=>if a≤b then a::b::t else b::anL a t
def UM:List Int→List Int
 |[]=>[]
 |a::t=>anL a (UM t)
def w8 (p:Option Int):List Int→List Int
 |[]=>[]
 |a::t=>if p=some a then w8 (some a) t else a::w8 (some a) t
def Y3 (l:List Int):List Int:=w8 none (UM l)
def Qz (a:Int):∀l,(anL a l).Perm (a::l)
 |[]=>List.Perm.refl _
 |b::t=>by
  unfold anL
  split
  ·exact List.Perm.refl _
  ·exact((Qz a t).cons b).trans (List.Perm.swap a b t)
def vw:∀l,(UM l).Perm l
 |[]=>List.Perm.refl _
 |a::t=>(Qz a _).trans ((vw t).cons a)
def Qy (a:Int):∀{l:List Int},l.Pairwise (·≤·)→(anL a l).Pairwise (·≤·)
 |[],_=>by simp[anL]
 |b::t,h=>by
  rw[List.pairwise_cons] at h;unfold anL
  split
  ·rename_i hab;refine dE.2 ⟨fun x hx=>?_,dE.2 h⟩;rcases cW.1 hx with rfl|hx
   ·exact hab
   ·have:=h.1 x hx; omega
  ·rename_i hab;refine dE.2 ⟨fun x hx=>?_,Qy a h.2⟩;rcases cW.1 ((Qz a t).mem_iff.1 hx) with rfl|hx
   ·omega
   ·exact h.1 x hx
def vv:∀l:List Int,(UM l).Pairwise (·≤·)
 |[]=>List.Pairwise.nil
 |a::t=>Qy a (vv t)
def ald (l:List Int):DY l=UM l:=by
 have h1:(DY l).Pairwise (·≤·):=by
  have:=List.pairwise_mergeSort (le:=fun a b:Int=>decide (a≤b)) (fun a b c h1 h2=>by simp at *; omega) (fun a b=>by simp; omega) l
  exact this.imp fun h=>by simpa using h
 exact List.Perm.eq_of_pairwise (le:=(·≤·)) (fun a b _ _ h1 h2=>by omega) h1 (vv l) ((List.mergeSort_perm l _).trans (vw l).symm)
def TI (a:Int):∀(l:List Int) (p:Option Int),w8 p (l++[a])=w8 p l++(if (match l.getLast? with|some b=>some b|none=>p)=some a then[] else[a])
 |[],p=>by simp only[fT,w8,List.getLast?_nil]; rfl
 |b::t,p=>by
  have ih:=TI a t (some b)
  have e:(match (b::t).getLast? with|some c=>some c|none=>p)=(match t.getLast? with|some c=>some c|none=>some b):=by
   cases t with
   |nil=>rfl
   |cons c t =>
    rw[List.getLast?_cons_cons]
    cases h:(c::t).getLast? with
    |none=>simp at h
    |some x=>rfl
  rw[e];simp only[eS,w8,ih]
  split<;>simp
def Cj (l:List Int):∀m,m≤l.length→Lib.compactUpTo l.toArray m=w8 none (l.take m)
 |0,_=>by simp[Lib.compactUpTo,w8]
 |m+1,h=>by
  have hm:m<l.length:=h;rw[Lib.compactUpTo_succ,Cj l m (by omega),take_succ (cI hm),TI];congr 1
  have e1:l.toArray[m]! = l[m]:=by simp[getElem!_pos,hm]
  rw[e1];unfold Lib.keeps;rw[e1]
  cases m with
  |zero=>simp
  |succ m =>
   have hm':m<l.length:=by omega
   have e2:l.toArray[m+1-1]! = l[m]:=by simp[getElem!_pos,hm']
   rw[e2]
   have e3:(l.take (m+1)).getLast?=some l[m]:=by rw[take_succ (cI hm'),List.getLast?_append]; rfl
   rw[e3]
   by_cases hne:l[m+1]=l[m]
   ·simp[hne]
   ·have:¬l[m]=l[m+1]:=fun h=>hne h.symm;simp[hne,this]
def ad4 (l:List Int):Ar l=w8 none l:=by
 unfold Ar Lib.compact;rw[Cj l l.length (Nat.le_refl _),List.take_length]
def aia (l:List Int):Ar (DY l)=Y3 l:=by rw[ald,ad4]; rfl
def YR:∀{l:List Int} {p:Option Int} {x:Int},p≠some x→(x∈w8 p l↔x∈l)
 |[],_,_,_=>Iff.rfl
 |a::t,p,x,hp=>by
  unfold w8
  by_cases hx:x=a
  ·subst hx;rw[if_neg hp]; simp
  ·have ih:=YR (l:=t) (p:=some a) (x:=x) (fun e=>hx (by cases e; rfl))
   split<;>simp[ih,hx]
def aeI:∀{l:List Int} {p:Option Int},l.Pairwise (·≤·)→(∀q,p=some q→∀x∈l,q≤x)→(w8 p l).Pairwise (·<·)∧∀q,p=some q→∀x∈w8 p l,q<x
 |[],p,_,_=>⟨List.Pairwise.nil,fun _ _ _ h=>by cases h⟩
 |a::t,p,h,hp=>by
  rw[List.pairwise_cons] at h;obtain⟨i1,i2⟩:=aeI (l:=t) (p:=some a) h.2 (fun q hq x hx=>by cases hq; exact h.1 x hx);unfold w8
  split
  ·rename_i e;exact⟨i1,fun q hq x hx=>by rw[e] at hq; cases hq; exact i2 _ rfl x hx⟩
  ·rename_i e;refine⟨dE.2 ⟨fun x hx=>i2 _ rfl x hx,i1⟩,fun q hq x hx=>?_⟩;have:=hp q hq a (by simp);have hne:q≠a:=fun h=>e (by rw[hq,h]);rcases cW.1 hx with rfl|hx
   ·omega
   ·have:=i2 _ rfl x hx; omega
def qf {l:List Int} {x:Int}:x∈Y3 l↔x∈l:=by
 unfold Y3;rw[YR (by simp),(vw l).mem_iff]
def Cv (l:List Int):(Y3 l).Pairwise (·<·):=(aeI (vv l) (fun q hq=>by cases hq)).1
def YS:∀(l:List Int) (p:Option Int),(w8 p l).length≤l.length
 |[],_=>cJ _
 |a::t,p=>by
  have:=YS t (some a);unfold w8
  split<;>simp<;>omega
def D0 (l:List Int):(Y3 l).length≤l.length:=by
 unfold Y3;have:=YS (UM l) none
 rwa [(vw l).length_eq] at this
def aeo {l m:List Int} (hl:l.Pairwise (·<·)) (hm:m.Pairwise (·<·)) (h:∀x,x∈l↔x∈m):l=m:=by
 induction l generalizing m with
 |nil =>
  cases m with
  |nil=>rfl
  |cons a t=>have:=(h a).2 (by simp); cases this
 |cons a t ih =>
  rw[dE] at hl
  cases m with
  |nil=>have:=(h a).1 (by simp); cases this
  |cons b u =>
   rw[dE] at hm
   have hab:a=b:=by
    rcases cW.1 ((h a).1 (by simp)) with h1|h1
    ·exact h1
    ·rcases cW.1 ((h b).2 (by simp)) with h2|h2
     ·exact h2.symm
     ·have:=hm.1 a h1; have:=hl.1 b h2; omega
   subst hab;rw[ih hl.2 hm.2 fun x=>?_];constructor
   ·intro hx;rcases cW.1 ((h x).1 (by simp[hx])) with h1|h1
    ·have:=hl.1 x hx; omega
    ·exact h1
   ·intro hx;rcases cW.1 ((h x).2 (by simp[hx])) with h1|h1
    ·have:=hm.1 x hx; omega
    ·exact h1
def A0 (b:Þ) (s:List (Int×ê)) (c:Cmp):Int :=
 if (c.2.2.1++c.2.2.2.1).any (fun id=>mP s id c.2.1==5) then 5 else
 if (c.2.2.1++c.2.2.2.1).any (fun id=>mP s id c.2.1==4) then 4 else
 if (c.2.2.1++c.2.2.2.1).any (fun id=>(lJ b id c.2.1).isSome) then 9 else
 if 1<(è c.2.2.1 c.2.2.2.1).length then 1 else if 1<(è c.2.2.2.1 c.2.2.1).length then 1 else
 if (è c.2.2.1 c.2.2.2.1).length+(è c.2.2.2.1 c.2.2.1).length=0 then 1 else 0
def LG (c:Cmp):Bool :=
 inP c.1 1 1099511627776&&(HO c.2.1&&(inP c.2.2.2.2.1 (-1125899906842624) 1125899906842624&&(inP c.2.2.2.2.2.1 0 1073741824&&(jK c.2.2.2.2.2.2 (-10000) 10000&&(lM c.2.2.1&&lM c.2.2.2.1)))))
def oD (b:Þ) (s:List (Int×ê)) (i:Nat) (c:Cmp):Int :=
 if !LG c then 1 else if (b.2.2.2.2.1.take i).any (fun x=>x.1==c.1) then 6 else A0 b s c
def y0 (a b:List Int):(è a b).length≤a.length:=dA _ _
set_option maxHeartbeats 1000000 in
def Q3 {b:Þ} (hn:b.2.2.2.2.1.length≤1000) (hl:b.2.2.2.1.length≤1000) (s:List (Int×ê)) {i:Nat} {c:Cmp} (hA:c.2.2.1.length≤1000) (hB:c.2.2.2.1.length≤1000)
 (hc:b.2.2.2.2.1[i]?=some c):ň b s i=some (oD b s i c):=by
 have hi:i<b.2.2.2.2.1.length:=(List.getElem?_eq_some_iff.1 hc).1;unfold ň nI oD LG;rw[Ë hc,gX,À]
 cases inP c.1 1 1099511627776 with
 |false=>rfl
 |true =>
 rw[XT,À]
 cases HO c.2.1 with
 |false=>rfl
 |true =>
 rw[gX,À]
 cases inP c.2.2.2.2.1 (-1125899906842624) 1125899906842624 with
 |false=>rfl
 |true =>
 rw[gX,À]
 cases inP c.2.2.2.2.2.1 0 1073741824 with
 |false=>rfl
 |true =>
 rw[GX,À]
 cases jK c.2.2.2.2.2.2 (-10000) 10000 with
 |false=>rfl
 |true =>
 rw[GW (by omega),À]
 cases lM c.2.2.1 with
 |false=>rfl
 |true =>
 rw[GW (by omega),À]
 cases lM c.2.2.2.1 with
 |false=>rfl
 |true =>
 have hg:((ile (0:Int) (i:Int))&&(ile (i:Int) (þ b.2.2.2.2.1)))=true:=by simp[ile,þ]; omega
 simp only[dR,é,Bool.and_self,dg,if_false];rw[ĝ hg,dl]
 -- what comes behind the IDs
 have rest:(Ã (í ([c.2.2.1,c.2.2.2.1])) fun r12=>Ò (fun(v36:Int) kk38=>Œ s r12 (Ú ([(5:Int),(4:Int)])) c.2.1 ([(5:Int),(4:Int)]) v36 (fun u37=>kk38 u37) (fun z23=>some z23) (fun _=>Ò (fun(v33:Int) kk35=>ő r12 (Ú r12) b.1.1 b.1.2 b.2.1 b.2.2.1 b.2.2.2.1 b.2.2.2.2.1 b.2.2.2.2.2 c.2.1 v33 (fun u34=>kk35 u34) (fun z28=>some z28) (fun _=>Ã (Ű c.2.2.1 c.2.2.2.1) fun r30=>Ã (Ű c.2.2.2.1 c.2.2.1) fun r31=>ifb (igt (Ú r30) (1:Int)) (some (1:Int)) (ifb (igt (Ú r31) (1:Int)) (some (1:Int)) (ck ((Ú r30)+(Ú r31)) fun n32=>ifb (ieq n32 (0:Int)) (some (1:Int)) (some (0:Int)))))) (0:Int))) (0:Int))=some (A0 b s c):=by
  rw[akO (by omega) (by omega),À]
  have hall:(c.2.2.1++c.2.2.2.1).length≤2000:=by simp; omega
  have last:(Ã (Ű c.2.2.1 c.2.2.2.1) fun r30=>Ã (Ű c.2.2.2.1 c.2.2.1) fun r31=>ifb (igt (Ú r30) (1:Int)) (some (1:Int)) (ifb (igt (Ú r31) (1:Int)) (some (1:Int)) (ck ((Ú r30)+(Ú r31)) fun n32=>ifb (ieq n32 (0:Int)) (some (1:Int)) (some (0:Int))))) =
   some (if 1<(è c.2.2.1 c.2.2.2.1).length then 1 else if 1<(è c.2.2.2.1 c.2.2.1).length then 1 else if (è c.2.2.1 c.2.2.2.1).length+(è c.2.2.2.1 c.2.2.1).length=0 then 1 else 0):=by
   rw[rV (by omega) (by omega),À,rV (by omega) (by omega),À];have l1:=y0 c.2.2.1 c.2.2.2.1;have l2:=y0 c.2.2.2.1 c.2.2.1;rw[á,á,Õ (by omega) (by omega)]
   by_cases c1:1<(è c.2.2.1 c.2.2.2.1).length
   ·rw[Ó (by simp[igt]; omega),if_pos c1]
   rw[Ð (by simp[igt]; omega),if_neg c1]
   by_cases c2:1<(è c.2.2.2.1 c.2.2.1).length
   ·rw[Ó (by simp[igt]; omega),if_pos c2]
   rw[Ð (by simp[igt]; omega),if_neg c2]
   by_cases c3:(è c.2.2.1 c.2.2.2.1).length+(è c.2.2.2.1 c.2.2.1).length=0
   ·rw[Ó (by simp[ieq]; omega),if_pos c3]
   rw[Ð (by simp[ieq]; omega),if_neg c3]
  refine eM (kB [(5:Int),4] (fun _ want=>if (c.2.2.1++c.2.2.2.1).any (fun id=>mP s id c.2.1==want) then some want else none) some (some (if (c.2.2.1++c.2.2.2.1).any (fun id=>(lJ b id c.2.1).isSome) then 9 else if 1<(è c.2.2.1 c.2.2.2.1).length then 1 else if 1<(è c.2.2.2.1 c.2.2.1).length then 1 else if (è c.2.2.1 c.2.2.2.1).length+(è c.2.2.2.1 c.2.2.1).length=0 then 1 else 0)) (fun j want hj hw kn=>?_) (fun kn=>?_)) ?_
  ·try dsimp only
   unfold Œ;rw[Ô hj,ic hj,Ī hw];refine Eq.trans (Ļ (c.2.2.1++c.2.2.2.1) (fun id=>mP s id c.2.1==want) (fun _=>some want) (some want) (kn ((j:Int)+1)) (fun _=>rfl) (fun k a hk ha kn'=>?_) (fun kn'=>?_)) ?_
   ·try dsimp only
    unfold iC;rw[Ô hk,Ë ha,acX,À,Î hk (by omega),Ĥ]
   ·try dsimp only
    unfold iC;rw[à,Î hj (by simp)]
   ·cases List.any (c.2.2.1++c.2.2.2.1) (fun id=>mP s id c.2.1==want)<;>rfl
  ·try dsimp only
   unfold Œ;rw[à];refine Eq.trans (Ļ (c.2.2.1++c.2.2.2.1) (fun id=>(lJ b id c.2.1).isSome) (fun _=>some 9) (some 9) (some (if 1<(è c.2.2.1 c.2.2.2.1).length then 1 else if 1<(è c.2.2.2.1 c.2.2.1).length then 1 else if (è c.2.2.1 c.2.2.2.1).length+(è c.2.2.2.1 c.2.2.1).length=0 then 1 else 0)) (fun _=>rfl) (fun k a hk ha kn'=>?_) (fun kn'=>?_)) ?_
   ·try dsimp only
    unfold ő;have haw:=aog hl a c.2.1;rw[Ô hk,Ë ha,Î hk (by omega)];rw[show Ao ((b.1.1,b.1.2),b.2.1,b.2.2.1,b.2.2.2.1,b.2.2.2.2.1,b.2.2.2.2.2) a c.2.1=Ao b a c.2.1 from rfl,haw,À]
    cases lJ b a c.2.1<;>rfl
   ·try dsimp only
    unfold ő;rw[à,last]
   ·cases List.any (c.2.2.1++c.2.2.2.1) (fun id=>(lJ b id c.2.1).isSome)<;>rfl
  ·unfold A0 Ĵ Ĵ Ĵ
   try dsimp only
   cases List.any (c.2.2.1++c.2.2.2.1) (fun id=>mP s id c.2.1==5) with
   |true=>rfl
   |false =>
   cases List.any (c.2.2.1++c.2.2.2.1) (fun id=>mP s id c.2.1==4)<;>rfl
 refine eM (Ļ (b.2.2.2.2.1.take i) (fun x=>x.1==c.1) (fun z11=>ifb (ige z11 (0:Int)) (some 6) (some (A0 b s c))) (some 6) (some (A0 b s c)) (fun j=>?_) (fun j a hj ha kn=>?_) (fun kn=>?_)) ?_
 ·have:ige (j:Int) 0=true:=by simp[ige]
  rw[Ó this]
 ·try dsimp only
  unfold iD;rw[rest,Ô hj,Ë ha,Î hj (by rw[List.length_take]; omega),Ĥ]
 ·try dsimp only
  unfold iD;rw[à,rest]
 ·cases List.any (b.2.2.2.2.1.take i) (fun x=>x.1==c.1)<;>rfl
def X9 (b:Þ) (g:ê):List Int :=
 [g.2.1]++(b.2.2.2.2.1.filter fun c=>!(c.2.2.1.contains g.1==c.2.2.2.1.contains g.1)).map (fun c=>c.2.1)++(b.2.2.2.2.2.filter fun n=>n.1==g.1).map (fun n=>n.2)
def ß (b:Þ) (g:ê):List Int:=Y3 (X9 b g)
structure Γ (b:Þ):Prop where
 gauges:b.2.1.length≤1000
 uses:b.2.2.1.length≤1000
 loans:b.2.2.2.1.length≤1000
 compares:b.2.2.2.2.1.length≤1000
 looks:b.2.2.2.2.2.length≤1000
 piles:∀c∈b.2.2.2.2.1,c.2.2.1.length≤1000∧c.2.2.2.1.length≤1000
def YZ (l:List Int):(DY l).length=l.length:=List.length_mergeSort l
def abI {b:Þ} (hs:Γ b) (g:ê):(X9 b g).length≤2001:=by
 have h1:=hs.compares;have h2:=hs.looks;have h3:=dA (fun c:Cmp=>!(c.2.2.1.contains g.1==c.2.2.2.1.contains g.1)) b.2.2.2.2.1;have h4:=dA (fun n:Int×Int=>n.1==g.1) b.2.2.2.2.2;simp only[X9,cN,dW,dC];omega
def ajI {b:Þ} (hs:Γ b) (g:ê):oB b g=some (ß b g):=by
 unfold oB XF;have hr:=abI hs g
 have hd:(ß b g).length≤2001:=by
  unfold ß;have:=D0 (X9 b g);omega
 have hcl:=hs.compares;have hll:=hs.looks;refine ð b.2.2.2.2.1 (fun i=>[g.2.1]++((b.2.2.2.2.1.take i).filter fun c=>!(c.2.2.1.contains g.1==c.2.2.2.1.contains g.1)).map (fun c=>c.2.1)) _ rfl (fun i c hi hc kn=>?_) (fun kn=>?_)
 ·try dsimp only
  unfold vp;obtain⟨p1,p2⟩:=hs.piles c (List.mem_of_getElem? hc);rw[Ô hi,Ë hc,kH (by omega),À,kH (by omega),À,Î hi (by omega),Î hi (by omega),take_succ hc,List.filter_append,List.map_append]
  have hlen:([g.2.1]++((b.2.2.2.2.1.take i).filter fun c=>!(c.2.2.1.contains g.1==c.2.2.2.1.contains g.1)).map (fun c=>c.2.1)).length≤1001:=by
   have h3:=dA (fun c:Cmp=>!(c.2.2.1.contains g.1==c.2.2.2.1.contains g.1)) (b.2.2.2.2.1.take i);rw[cZ] at h3;simp only[cN,dW,dC];omega
  rw[Ö (by simp only[dC]; omega),Am.iff_true]
  cases h:(c.2.2.1.contains g.1==c.2.2.2.1.contains g.1) with
  |true=>simp only[dR,é,dN,h,dg,if_false,dU,ff,dH]
  |false=>simp only[fL,ğ,dN,h,if_true,dU,ew,ff,di]
 ·try dsimp only
  unfold vp;rw[à,List.take_length];refine ð b.2.2.2.2.2 (fun i=>[g.2.1]++(b.2.2.2.2.1.filter fun c=>!(c.2.2.1.contains g.1==c.2.2.2.1.contains g.1)).map (fun c=>c.2.1)++((b.2.2.2.2.2.take i).filter fun n=>n.1==g.1).map (fun n=>n.2)) _ (by simp) (fun i n hi hn kn=>?_) (fun kn=>?_)
  ·try dsimp only
   unfold vn;rw[Ô hi,Ë hn,Î hi (by omega),Î hi (by omega),take_succ hn,List.filter_append,List.map_append]
   have hlen:([g.2.1]++(b.2.2.2.2.1.filter fun c=>!(c.2.2.1.contains g.1==c.2.2.2.1.contains g.1)).map (fun c=>c.2.1)++((b.2.2.2.2.2.take i).filter fun n=>n.1==g.1).map (fun n=>n.2)).length≤2001:=by
    have h3:=dA (fun c:Cmp=>!(c.2.2.1.contains g.1==c.2.2.2.1.contains g.1)) b.2.2.2.2.1;have h4:=dA (fun n:Int×Int=>n.1==g.1) (b.2.2.2.2.2.take i);rw[cZ] at h4;simp only[cN,dW,dC];omega
   rw[Ö (by simp only[dC]; omega),Am.iff_true]
   cases h:(n.1==g.1) with
   |true =>
    have:ieq n.1 g.1=true:=h;simp[h,this]
   |false =>
    have:ieq n.1 g.1=false:=h;simp[h,this]
  ·try dsimp only
   unfold vn;rw[à,List.take_length];rw[show([g.2.1]++(b.2.2.2.2.1.filter fun c=>!(c.2.2.1.contains g.1==c.2.2.2.1.contains g.1)).map (fun c=>c.2.1)++(b.2.2.2.2.2.filter fun n=>n.1==g.1).map (fun n=>n.2))=X9 b g from rfl];dsimp only;rw[Ö (by omega),Am.iff_true,Ö (by rw[YZ]; omega),Am.iff_true,aia];rfl
def Ê (b:Þ):List (Int×Int):=b.2.1.flatMap fun g=>(ß b g).map fun d=>((g.1,d):Int×Int)
def Hu {b:Þ} (hs:Γ b) (g:ê):(ß b g).length≤2001:=by
 unfold ß;have:=D0 (X9 b g);have:=abI hs g;omega
def vD {α β:Type} (f:α→List β) (n:Nat) (h:∀a,(f a).length≤n):∀l:List α,(l.flatMap f).length≤l.length*n
 |[]=>by simp
 |a::l=>by
  have:=vD f n h l;have:=h a;simp only[dP,cN,cX,dt,fe];omega
def VP {b:Þ} (hs:Γ b):pR b=some (Ê b):=by
 unfold pR Qf;have hg:=hs.gauges
 have hlen:∀l:List ê,(l.flatMap fun g=>(ß b g).map fun d=>((g.1,d):Int×Int)).length≤l.length*2001:=fun l =>
  vD _ 2001 (fun g=>by rw[dW]; exact Hu hs g) l
 refine ð b.2.1 (fun i=>(b.2.1.take i).flatMap fun g=>(ß b g).map fun d=>((g.1,d):Int×Int)) _ rfl (fun i g hi hg' kn=>?_) (fun kn=>?_)
 ·try dsimp only
  unfold re;rw[Ô hi,Ë hg'];rw[show oB ((b.1.1,b.1.2),b.2.1,b.2.2.1,b.2.2.2.1,b.2.2.2.2.1,b.2.2.2.2.2) g=oB b g from rfl,ajI hs,À];have hd:=Hu hs g;have hi2:=hlen (b.2.1.take i)
  have htl:(b.2.1.take i).length≤1000:=by rw[cZ]; omega
  refine ð (ß b g) (fun j=>((b.2.1.take i).flatMap fun g=>(ß b g).map fun d=>((g.1,d):Int×Int))++((ß b g).take j).map fun d=>((g.1,d):Int×Int)) _ (by simp) (fun j d hj hd' kn'=>?_) (fun kn'=>?_)
  ·try dsimp only
   unfold rc;rw[Ô hj,Ë hd',Î hj (by omega),take_succ hd',List.map_append];rw[Ö (by simp only[List.length_append,List.length_map,List.length_take,List.length_singleton]; omega),Am.iff_true];simp
  ·try dsimp only
   unfold rc;rw[à,List.take_length];dsimp only;rw[Î hi (by omega),take_succ hg',List.flatMap_append];simp
 ·try dsimp only
  unfold re;rw[à,List.take_length];rfl
def xe (b:Þ) (s:List (Int×ê)):List Int :=
 b.2.2.1.map (fun u=>agf s u.1 u.2)++(b.2.2.2.1.mapIdx (fun i l=>Tz b s i l)++(b.2.2.2.2.1.mapIdx (fun i c=>oD b s i c)++b.2.2.2.2.2.map (fun u=>agf s u.1 u.2)))
def ZU {α:Type} {f:Int→Option Int} {g:Nat→α→Int} (l:List α) (h:∀(i:Nat) (a:α),l[i]?=some a→f i=some (g i a)):N8 f (w7 l.length)=some (l.mapIdx g):=by
 have h1:∀i,i<l.length→f (i:Int)=some ((l.mapIdx g)[i]?.getD 0):=by
  intro i hi;rw[h i l[i] (cI hi)];simp[hi]
 have h2:∀x∈w7 l.length,f x=some ((l.mapIdx g)[x.toNat]?.getD 0):=by
  intro x hx;unfold w7 at hx;obtain⟨i,hi,rfl⟩:=List.mem_map.1 hx;rw[h1 i (by simpa using hi)];rfl
 rw[Ez h2];congr 1;refine List.ext_getElem (by simp[w7]) fun i h3 h4=>?_
 have h5:i<l.length:=by simpa using h4
 simp[w7,h5]
def alr {b:Þ} (hs:Γ b) (s:List (Int×ê)):nj b s=some (xe b s):=by
 unfold nj xe
 rw[Ez (fun u _=>Zk s u.1 u.2),À,ZU b.2.2.2.1 (fun i l hl=>abO hs.loans hs.uses s hl),À,
  ZU b.2.2.2.2.1 (fun i c hc=>Q3 hs.compares hs.loans s (hs.piles c (cR hc)).1 (hs.piles c (cR hc)).2 hc),À,Ez (fun u _=>Zk s u.1 u.2),À]
def ç (b:Þ):Int :=
 if !jK b.1 0 1000000 then 1 else
 if 12<b.2.1.length then 2 else if 40<b.2.2.1.length then 2 else if 12<b.2.2.2.1.length then 2 else if 40<b.2.2.2.2.1.length then 2 else if 10<b.2.2.2.2.2.length then 2 else
 if ji b != 0 then ji b else
 match (xe b (iw b)).find? (fun e=>e != 0) with
 |some e=>e
 |none=>if 59<(Ê b).length then 2 else if 300<2*b.2.1.length+2*((Ê b).length-b.2.1.length:Int)+2*b.2.2.2.2.1.length then 2 else 0
def Ib {b:Þ} (hs:Γ b):(Ê b).length≤2001000:=by
 have:=vD (fun g:ê=>(ß b g).map fun d=>((g.1,d):Int×Int)) 2001 (fun g=>by rw[List.length_map]; exact Hu hs g) b.2.1;have h2:=hs.gauges;unfold Ê;omega
def i6 {b:Þ} (hs:Γ b) (hr:∀g∈b.2.1,I64 g.2.2.2.2.1.1):û b=some (ç b):=by
 unfold û Qq ç;rw[GX,À]
 cases jK b.1 0 1000000 with
 |false=>rfl
 |true =>
 have h1:=hs.gauges;have h2:=hs.compares;have h3:=Ib hs;rw[Ð (show(!true)=false from rfl),if_neg (by simp)];simp only[á]
 by_cases c0:12<b.2.1.length
 ·rw[Ó (by simp[igt]; omega),if_pos c0]
 rw[Ð (by simp[igt]; omega),if_neg c0]
 by_cases c1:40<b.2.2.1.length
 ·rw[Ó (by simp[igt]; omega),if_pos c1]
 rw[Ð (by simp[igt]; omega),if_neg c1]
 by_cases c2:12<b.2.2.2.1.length
 ·rw[Ó (by simp[igt]; omega),if_pos c2]
 rw[Ð (by simp[igt]; omega),if_neg c2]
 by_cases c3:40<b.2.2.2.2.1.length
 ·rw[Ó (by simp[igt]; omega),if_pos c3]
 rw[Ð (by simp[igt]; omega),if_neg c3]
 by_cases c4:10<b.2.2.2.2.2.length
 ·rw[Ó (by simp[igt]; omega),if_pos c4]
 rw[Ð (by simp[igt]; omega),if_neg c4];rw[TB hr h1,À]
 cases hm:(ji b != 0) with
 |true =>
  have:ine (ji b) 0=true:=hm;rw[Ó this,if_pos rfl]
 |false =>
 have:ine (ji b) 0=false:=hm;rw[Ð this,if_neg (by simp)];rw[TN h1,À];unfold Zc;rw[alr hs,À]
 cases(xe b (iw b)).find? (fun e=>e != 0) with
 |some e=>rfl
 |none =>
 dsimp only;rw[VP hs,À]
 by_cases c5:59<(Ê b).length
 ·rw[Ó (by simp[igt]; omega),if_pos c5]
 rw[Ð (by simp[igt]; omega),if_neg c5];rw[Õ (by omega) (by omega),Õ (by omega) (by omega),Õ (by omega) (by omega),Õ (by omega) (by omega),Õ (by omega) (by omega),Õ (by omega) (by omega)]
 by_cases c6:300<2*b.2.1.length+2*((Ê b).length-b.2.1.length:Int)+2*b.2.2.2.2.1.length
 ·rw[Ó (by simp[igt]; omega),if_pos c6]
 rw[Ð (by simp[igt]; omega),if_neg c6]
def wrapU {n:Nat} (h:n<18446744073709551616):IntKind.wrap .u64 (n:Int)=n:=by
 simp only[IntKind.wrap,IntKind.bits,IntKind.signed];simp;omega
def wrapI {n:Nat} (h:n<9223372036854775808):IntKind.wrap .i64 (n:Int)=n:=by
 simp only[IntKind.wrap,IntKind.bits,IntKind.signed];simp;omega
def ix (l:List (Int×Int)) (x d:Int):Option Nat:=l.findIdx? fun n=>decide (x=n.1)&&decide (d=n.2)
def aci {l:List (Int×Int)} (hn:l.length≤100000000) (x d:Int):ú l (x,d)=some (match ix l x d with|some j=>(j:Int)|none=>-1):=by
 unfold ú ź;refine Eq.trans (δ l (fun n=>decide (x=n.1)&&decide (d=n.2)) some (some (-1)) (fun i a hi ha kn=>?_) (fun kn=>?_)) ?_
 ·try dsimp only
  unfold ĩ;rw[Ô hi,Ë ha,Î hi (by omega),Ĥ,Bool.and_true]
 ·try dsimp only
  unfold ĩ;rw[à]
 ·unfold ix
  cases List.findIdx? (fun n=>decide (x=n.1)&&decide (d=n.2)) l<;>rfl
def atP (l:List (Int×Int)) (p:List Int) (d:Int):Int :=
 match p with
 |[]=>0
 |x::_=>match ix l x d with|some j=>(j:Int)+1|none=>0
def ku {l:List (Int×Int)} {x d:Int} {j:Nat} (h:ix l x d=some j):j<l.length∧l[j]?=some (x,d):=by
 unfold ix at h;obtain⟨hj,hp,_⟩:=List.findIdx?_eq_some_iff_getElem.1 h;refine⟨hj,?_⟩;rw[List.getElem?_eq_getElem hj];simp only[Bool.and_eq_true,decide_eq_true_eq] at hp;congr 1;exact Prod.ext hp.1.symm hp.2.symm
def akn (m:Maker) (p:List Int) (d:Int) (hn:m.2.1.length≤100000000):iu m p d=some (atP m.2.1 p d):=by
 unfold iu yP atP
 cases p with
 |nil=>simp[á,ieq]
 |cons x p =>
  have h:ieq (Ú (x::p)) 0=false:=by
   rw[á];simp only[ieq,cX,beq_eq_false_iff_ne,ne_eq];omega
  rw[h,é,show(0:Int)=((0:Nat):Int) from rfl,Ë (a:=x) rfl,aci hn,À]
  cases hx:ix m.2.1 x d with
  |none=>dsimp only; rw[Õ (by omega) (by omega)]; simp only[hx]; rfl
  |some j =>
   have:=(ku hx).1;dsimp only;rw[Õ (by omega) (by omega)];simp only[hx]
def D4 (s:List (Int×ê)) (p:List Int):Int×Int :=
 match p with
 |[]=>(0,1)
 |x::_=>match sv (k:=tI) (v:=Ñ) x s with
  |some g=>g.2.2.2.2.1
  |none=>(0,0)
def Zb (s:List (Int×ê)) (p:List Int):iR s p=some (D4 s p):=by
 unfold iR nH D4
 cases p with
 |nil=>simp[á,ieq]
 |cons x p =>
  have h:ieq (Ú (x::p)) 0=false:=by
   rw[á];simp only[ieq,cX,beq_eq_false_iff_ne,ne_eq];omega
  rw[h,é,show(0:Int)=((0:Nat):Int) from rfl,Ë (a:=x) rfl]
  cases hx:sv (k:=tI) (v:=Ñ) x s with
  |none=>simp only[YH,hx]
  |some g=>simp only[YH,hx]
def aeE {l:List (Int×Int)} (hr:∀r∈l,I64 r.1) (hn:l.length≤1000):jV l=some (if l.any (fun r=>!J8 r) then 1 else 0):=by
 unfold jV PU;refine Eq.trans (Ļ l (fun r=>!J8 r) (fun _=>some 1) (some 1) (some 0) (fun _=>rfl) (fun i a hi ha kn=>?_) (fun kn=>?_)) ?_
 ·try dsimp only
  unfold qW;rw[Ô hi,Ë ha,Yz (hr a (List.mem_of_getElem? ha)),À,Î hi (by omega),Ĥ]
 ·try dsimp only
  unfold qW;rw[à]
 ·cases l.any (fun r=>!J8 r)<;>rfl
def nz (n d:Int):Int×Int:=(n / (Nat.gcd n.natAbs d.natAbs:Nat),d / (Nat.gcd n.natAbs d.natAbs:Nat))
def jY (r:Int×Int):J8 r=true↔1≤r.2∧r.2≤2147483647∧(r.1.natAbs:Int)≤2147483647∧Nat.gcd r.1.natAbs r.2.natAbs=1:=by
 simp[J8]
def zI {n d:Int} (hd:0<d):∃g:Nat,0<g∧g=Nat.gcd n.natAbs d.natAbs∧n=(nz n d).1*g∧d=(nz n d).2*g:=by
 have hg:0<Nat.gcd n.natAbs d.natAbs:=Nat.gcd_pos_of_pos_right _ (by omega);refine⟨_,hg,rfl,?_,?_⟩
 ·exact(Int.ediv_mul_cancel (Int.ofNat_dvd_left.2 (Nat.gcd_dvd_left _ _))).symm
 ·exact(Int.ediv_mul_cancel (Int.ofNat_dvd_left.2 (Nat.gcd_dvd_right _ _))).symm
def Vv {n d:Int} (hd:0<d) (hn:n.natAbs≤2147483647) (hd2:d≤2147483647):J8 (nz n d)=true:=by
 obtain⟨g,h0,hg,h1,h2⟩:=zI (n:=n) hd;rw[jY]
 have a1:n.natAbs=(nz n d).1.natAbs*g:=by conv=>lhs; rw[h1]; rw[fu,fC]
 have a2:d.natAbs=(nz n d).2.natAbs*g:=by conv=>lhs; rw[h2]; rw[fu,fC]
 have p2:0<(nz n d).2:=by
  rcases Int.lt_trichotomy (nz n d).2 0 with h|h|h
  ·have:=Int.mul_neg_of_neg_of_pos h (show(0:Int)<g by omega); omega
  ·rw[h] at h2; simp at h2; omega
  ·exact h
 have b1:(nz n d).1.natAbs≤n.natAbs:=by rw[a1]; exact fQ _ h0
 have b2:(nz n d).2.natAbs≤d.natAbs:=by rw[a2]; exact fQ _ h0
 refine⟨by omega,by omega,by omega,?_⟩;have:=Nat.gcd_mul_right (nz n d).1.natAbs g (nz n d).2.natAbs;rw[←a1,←a2,←hg] at this
 have h3:(Nat.gcd (nz n d).1.natAbs (nz n d).2.natAbs)*g=1*g:=by omega
 exact Nat.eq_of_mul_eq_mul_right h0 h3
def TQ {n d:Int} (hd:0<d) (hn:n.natAbs≤2147483647) (hd2:d≤2147483647):pQ n d=some (nz n d,0):=by
 obtain⟨g,h0,hg,h1,h2⟩:=zI (n:=n) hd;have hr:=(jY _).1 (Vv hd hn hd2);unfold pQ Dr;rw[Vq ⟨by omega,by omega⟩,À,Vq ⟨by omega,by omega⟩,À,amZ,À,←hg]
 have a1:n.natAbs=(nz n d).1.natAbs*g:=by conv=>lhs; rw[h1]; rw[fu,fC]
 have a2:d.natAbs=(nz n d).2.natAbs*g:=by conv=>lhs; rw[h2]; rw[fu,fC]
 have q1:Int.tdiv (n.natAbs:Int) (g:Int)=((nz n d).1.natAbs:Int):=by
  rw[a1,gP]; exact gn _ (by omega)
 have q2:Int.tdiv (d.natAbs:Int) (g:Int)=((nz n d).2.natAbs:Int):=by
  rw[a2,gP]; exact gn _ (by omega)
 have z:Ŋ (g:Int) 0=false:=by simp[Ŋ]; omega
 have g1:igt ((nz n d).1.natAbs:Int) 2147483647=false:=by simp[igt]; omega
 have g2:igt ((nz n d).2.natAbs:Int) 2147483647=false:=by simp[igt]; omega
 rw[Ð z,Ð z,q1,q2,wrapU (by omega),wrapU (by omega),wrapI (by omega),wrapI (by omega),Ð g1,Ð g2]
 have hd0:ilt d 0=false:=by simp[ilt]; omega
 rw[hd0]
 have e2:((nz n d).2.natAbs:Int)=(nz n d).2:=by omega
 rw[e2]
 by_cases hneg:n<0
 ·have hn0:ilt n 0=true:=by simp[ilt,hneg]
  have:(nz n d).1≤0:=by
   rcases gx 0 (nz n d).1 with h|h
   ·have:=Int.mul_pos h (show(0:Int)<g by omega); omega
   ·exact h
  rw[hn0];rw[show(!true==false)=true from rfl,ğ,Õ (by omega) (by omega)]
  have:0-((nz n d).1.natAbs:Int)=(nz n d).1:=by omega
  rw[this]
 ·have hn0:ilt n 0=false:=by simp[ilt]; omega
  have:0≤(nz n d).1:=by
   rcases gx (nz n d).1 0 with h|h
   ·have:=Int.mul_neg_of_neg_of_pos h (show(0:Int)<g by omega); omega
   ·exact h
  rw[hn0];rw[show(!false==false)=false from rfl,é]
  have:((nz n d).1.natAbs:Int)=(nz n d).1:=by omega
  rw[this]
structure pZ (r:Int×Int) (n d:Int):Prop where
 rat:J8 r=true
 num : -n≤r.1∧r.1≤n
 den:r.2≤d
def pZ.pos {r:Int×Int} {n d:Int} (h:pZ r n d):1≤r.2:=((jY r).1 h.rat).1
def pZ.i64 {r:Int×Int} {n d:Int} (h:pZ r n d):I64 r.1:=by
 have:=((jY r).1 h.rat).2.2.1;exact⟨by omega,by omega⟩
def ahW {x y:Int×Int} (hx:J8 x=true) (hy:J8 y=true):jV [x,y]=some 0:=by
 rw[aeE]
 ·simp[hx,hy]
 ·intro r hr
  have:J8 r=true:=by simp at hr; rcases hr with rfl|rfl<;>assumption
  have:=((jY r).1 this).2.2.1;exact⟨by omega,by omega⟩
 ·simp
def mD {a b m n:Int} (h1 : -m≤a∧a≤m) (h2 : -n≤b∧b≤n) : -(m*n)≤a*b∧a*b≤m*n:=by
 have hm:0≤m:=by omega
 have hn:0≤n:=by omega
 have h3:(a*b).natAbs≤(m*n).natAbs:=by
  rw[fu,fu];exact f7 (by omega) (by omega)
 have h4:0≤m*n:=fM hm hn;omega
def subP (x y:Int×Int):Int×Int:=nz (x.1*y.2-y.1*x.2) (x.2*y.2)
def HS {x y:Int×Int} (hx:pZ x 1000 100) (hy:pZ y 1000 100):(x.1*y.2-y.1*x.2).natAbs≤200000∧0<x.2*y.2∧x.2*y.2≤10000:=by
 have h1:=mD hx.num (show -100≤y.2∧y.2≤100 from⟨by have:=hy.pos; omega,hy.den⟩);have h2:=mD hy.num (show -100≤x.2∧x.2≤100 from⟨by have:=hx.pos; omega,hx.den⟩);have h3:=mD (show -100≤x.2∧x.2≤100 from⟨by have:=hx.pos; omega,hx.den⟩) (show -100≤y.2∧y.2≤100 from⟨by have:=hy.pos; omega,hy.den⟩);have h4:=Int.mul_pos (show 0<x.2 by have:=hx.pos; omega) (show 0<y.2 by have:=hy.pos; omega);refine⟨by omega,h4,by omega⟩
def Sub_ok {x y:Int×Int} (hx:pZ x 1000 100) (hy:pZ y 1000 100):X6 x y=some (subP x y,0):=by
 obtain⟨b1,b2,b3⟩:=HS hx hy;have h1:=mD hx.num (show -100≤y.2∧y.2≤100 from⟨by have:=hy.pos; omega,hy.den⟩);have h2:=mD hy.num (show -100≤x.2∧x.2≤100 from⟨by have:=hx.pos; omega,hx.den⟩);unfold X6 adw;rw[ahW hx.rat hy.rat,À];rw[show ine (0:Int) 0=false from rfl,é,Õ (by omega) (by omega),Õ (by omega) (by omega),Õ (by omega) (by omega),Õ (by omega) (by omega),TQ b2 (by omega) (by omega),À];rfl
def ail {n d:Int} (hd:0<d):(nz n d).1.natAbs≤n.natAbs∧(nz n d).2≤d:=by
 obtain⟨g,h0,hg,h1,h2⟩:=zI (n:=n) hd
 have a1:n.natAbs=(nz n d).1.natAbs*g:=by conv=>lhs; rw[h1]; rw[fu,fC]
 have a2:d.natAbs=(nz n d).2.natAbs*g:=by conv=>lhs; rw[h2]; rw[fu,fC]
 have b1:(nz n d).1.natAbs≤n.natAbs:=by rw[a1]; exact fQ _ h0
 have b2:(nz n d).2.natAbs≤d.natAbs:=by rw[a2]; exact fQ _ h0
 exact⟨b1,by omega⟩
def Ns {x y:Int×Int} (hx:pZ x 1000 100) (hy:pZ y 1000 100):pZ (subP x y) 200000 10000:=by
 obtain⟨b1,b2,b3⟩:=HS hx hy;obtain⟨c1,c2⟩:=ail (n:=x.1*y.2-y.1*x.2) b2;exact⟨Vv b2 (by omega) (by omega),by unfold subP; omega,by unfold subP; omega⟩
def Et (k:Int×Int) (n:Int):Int×Int:=nz (k.1*n) k.2
def Ic {k:Int×Int} (hk:pZ k 200000 10000) {n:Int} (hn : -10000≤n∧n≤10000):(k.1*n).natAbs≤2000000000:=by
 have:=mD hk.num hn;omega
def adL {n:Int} (hn : -10000≤n∧n≤10000):J8 (n,1)=true:=by
 rw[jY];exact⟨by simp,by simp,by simp; omega,by simp⟩
def anf {k:Int×Int} (hk:pZ k 200000 10000) {n:Int} (hn : -10000≤n∧n≤10000):QS k (n,1)=some (Et k n,0):=by
 have b:=Ic hk hn;have p:=hk.pos;have q:=hk.den;unfold QS ady;rw[ahW hk.rat (adL hn),À];rw[show ine (0:Int) 0=false from rfl,é,Õ (by simp only; omega) (by simp only; omega),Int.mul_one,Õ (by omega) (by omega),TQ (by omega) (by simp only; omega) (by omega),À];rfl
def VU {k:Int×Int} (hk:pZ k 200000 10000) {n:Int} (hn : -10000≤n∧n≤10000):pZ (Et k n) 2000000000 10000:=by
 have b:=Ic hk hn;have p:=hk.pos;have q:=hk.den;obtain⟨c1,c2⟩:=ail (n:=k.1*n) (show 0<k.2 by omega);exact⟨Vv (by omega) (by omega) (by omega),by unfold Et; omega,by unfold Et; omega⟩
def am6 (x y:Int×Int):Int:=if x=y then 0 else if x.1*y.2<y.1*x.2 then -1 else if y.1*x.2<x.1*y.2 then 1 else 0
def am5 {x y:Int×Int} {m d:Int} (hx:pZ x m d) (hy:pZ y m d) (hm:m≤2000000000) (hd:d≤10000):QQ x y=some (am6 x y):=by
 have h1:=mD hx.num (show -d≤y.2∧y.2≤d from⟨by have:=hy.pos; have:=hy.den; omega,hy.den⟩);have h2:=mD hy.num (show -d≤x.2∧x.2≤d from⟨by have:=hx.pos; have:=hx.den; omega,hx.den⟩);have h0:0≤m∧0≤d:=⟨by have:=hx.num; omega,by have:=hx.pos; have:=hx.den; omega⟩;have h3:m*d≤2000000000*10000:=Int.mul_le_mul hm hd h0.2 (by omega);unfold QQ adu am6;rw[Õ (by omega) (by omega),Õ (by omega) (by omega)];simp only[Ĥ,Bool.and_true,Bool.and_eq_true,decide_eq_true_eq,Ŋ,ilt,igt,gt_iff_lt];have:(x.1=y.1∧x.2=y.2)↔x=y:=⟨fun h=>Prod.ext h.1 h.2,fun h=>by rw[h]; exact⟨rfl,rfl⟩⟩;simp only[this]
 (repeat' split)<;>rfl
def VL (k:Int×Int) (heat:Int×Int):(Int×Int)×(Int×Int) :=
 if 0<am6 (Et k heat.1) (Et k heat.2) then(Et k heat.2,Et k heat.1) else(Et k heat.1,Et k heat.2)
def anC {k heat:Int×Int} (hk:pZ k 200000 10000) (hh:jK heat (-10000) 10000=true):oA k heat=some (VL k heat):=by
 simp only[jK,Bool.and_eq_true,decide_eq_true_eq] at hh;obtain⟨h1,h2,h3⟩:=hh;have n1 : -10000≤heat.1∧heat.1≤10000:=⟨by omega,by omega⟩;have n2 : -10000≤heat.2∧heat.2≤10000:=⟨by omega,by omega⟩;have r1:pZ (heat.1,1) 10000 10000:=⟨adL n1,n1,by simp⟩;have r2:pZ (heat.2,1) 10000 10000:=⟨adL n2,n2,by simp⟩;unfold oA vc QR P3 rZ rR;rw[ahW r1.rat r2.rat,À];have:ieq 0 0=true:=rfl;rw[Ó this,am5 r1 r2 (by omega) (by omega),À]
 have hc:ile (am6 (heat.1,1) (heat.2,1)) 0=true:=by
  unfold am6;simp only[ile,decide_eq_true_eq,Int.mul_one]
  split
  ·omega
  ·split
   ·omega
   ·rw[if_neg (by omega)]; omega
 rw[hc,À];simp only[Bool.not_true,é];rw[Yz hk.i64,hk.rat,À];simp only[Bool.not_true,é];rw[anf hk n1,À,anf hk n2,À];simp only[show ine (0:Int) 0=false from rfl,é];rw[am5 (VU hk n1) (VU hk n2) (by omega) (by omega),À];unfold VL;rw[Ĥ]
 by_cases h:0<am6 (Et k heat.1) (Et k heat.2)
 ·rw[if_pos h,if_pos (by simpa[igt] using h)]; rfl
 ·rw[if_neg h,if_neg (by simpa[igt] using h)]; rfl
def rateK (s:List (Int×ê)) (c:Cmp):Int×Int:=subP (D4 s (è c.2.2.1 c.2.2.2.1)) (D4 s (è c.2.2.2.1 c.2.2.1))
def Ņ (b:Þ) (c:Cmp):(Int×Int)×(Int×Int):=VL (rateK (iw b) c) c.2.2.2.2.2.2
def abq {b:Þ} (hs:Γ b) {c:Cmp} (hA:c.2.2.1.length≤1000) (hB:c.2.2.2.1.length≤1000)
 (h1:pZ (D4 (iw b) (è c.2.2.1 c.2.2.2.1)) 1000 100) (h2:pZ (D4 (iw b) (è c.2.2.2.1 c.2.2.1)) 1000 100) (hh:jK c.2.2.2.2.2.2 (-10000) 10000=true):oS b c=some (Ņ b c):=by
 unfold oS Jl;rw[TN hs.gauges,À,rV (by omega) (by omega),À,Zb,À,rV (by omega) (by omega),À,Zb,À];unfold vO vd;rw[Sub_ok h1 h2,À,À]
 try dsimp only
 rw[anC (Ns h1 h2) hh,À];rfl
def jD (b:Þ) (c:Cmp):Int×Int :=
 (((c.2.2.1.length-1:Nat):Int)*b.1.1-((c.2.2.2.1.length-1:Nat):Int)*b.1.2,((c.2.2.1.length-1:Nat):Int)*b.1.2-((c.2.2.2.1.length-1:Nat):Int)*b.1.1)
def afA {b:Þ} {c:Cmp} (hA:c.2.2.1.length≤1000) (hB:c.2.2.2.1.length≤1000) (h1:0≤b.1.1) (h2:b.1.1≤1000000) (h3:0≤b.1.2) (h4:b.1.2≤1000000):tS b c=some (jD b c):=by
 unfold tS Qm jD
 have e:∀n:Nat,Lj 0 ((n:Int)-1)=((n-1:Nat):Int):=by
  intro n;unfold Lj
  split<;>omega
 have bd:∀(n:Nat) (x:Int),n≤1000→0≤x→x≤1000000→0≤((n-1:Nat):Int)*x∧((n-1:Nat):Int)*x≤1000000000:=by
  intro n x hn h0 hx;refine⟨fM (by omega) h0,?_⟩;have:=fm (show((n-1:Nat):Int)≤1000 by omega) hx h0 (by omega);omega
 have b1:=bd _ _ hA h1 h2;have b2:=bd _ _ hA h3 h4;have b3:=bd _ _ hB h1 h2;have b4:=bd _ _ hB h3 h4;simp only[á];rw[Õ (by omega) (by omega),Õ (by omega) (by omega)];simp only[e];rw[Õ (by omega) (by omega),Õ (by omega) (by omega),Õ (by omega) (by omega),Õ (by omega) (by omega),Õ (by omega) (by omega),Õ (by omega) (by omega)]
def X1 {n d:Int} (hd:1≤d) (hn : -4000000000≤n∧n≤4000000000):tP n d=some (n / d):=by
 unfold tP Gf
 have z:Ŋ d 0=false:=by simp[Ŋ]; omega
 rw[Ð z];have t:=Int.mul_tdiv_add_tmod n d
 have b1 : -4000000000≤Int.tdiv n d∧Int.tdiv n d≤4000000000:=by
  have:=Int.natAbs_tdiv_le_natAbs n d;omega
 rw[Õ (by omega) (by omega),Ð z,Ĥ]
 by_cases h:Int.tmod n d<0
 ·rw[if_pos (by simpa[ilt] using h),Õ (by omega) (by omega)];congr 1
  have h5 : -d<Int.tmod n d:=by
   have h6:=gN n d;have h7:=gB n.natAbs (show 0<d.natAbs by omega);omega
  refine(fW (by omega)).2 ⟨?_,?_⟩ |>.symm
  ·rw[Int.sub_mul,fD]; omega
  ·rw[Int.sub_mul,fD (Int.tdiv n d)]; omega
 ·rw[if_neg (by simpa[ilt] using h)];congr 1
  have h5:Int.tmod n d<d:=by
   have h6:=gN n d;have h7:=gB n.natAbs (show 0<d.natAbs by omega);omega
  refine(fW (by omega)).2 ⟨?_,?_⟩ |>.symm
  ·rw[fD]; omega
  ·rw[fD (Int.tdiv n d)]; omega
def amR {x:Int×Int} (hx:J8 x=true):jV [x]=some 0:=by
 rw[aeE]
 ·simp[hx]
 ·intro r hr
  have:J8 r=true:=by simp at hr; subst hr; assumption
  have:=((jY r).1 this).2.2.1;exact⟨by omega,by omega⟩
 ·simp
def JQ (r:Int×Int):Int:=-(-r.1 / r.2)
def aga {r:Int×Int} (h:J8 r=true):zm r=some (r.1 / r.2,0):=by
 unfold zm P6;have:=(jY r).1 h;rw[amR h,À];rw[show ine (0:Int) 0=false from rfl,é,X1 (by omega) (by omega),À]
def JK {n d:Int} (hd:1≤d):(n / d).natAbs≤n.natAbs:=by
 exact Int.natAbs_ediv_le_natAbs n d
def akP {r:Int×Int} (h:J8 r=true):Hm r=some (JQ r,0):=by
 unfold Hm Xn JQ;have:=(jY r).1 h;rw[amR h,À];rw[show ine (0:Int) 0=false from rfl,é,Õ (by omega) (by omega),X1 (by omega) (by omega),À];have hb:=JK (n:=0-r.1) (show 1≤r.2 by omega);rw[Õ (by omega) (by omega),Int.zero_sub,Int.zero_sub]
def Φ (b:Þ) (c:Cmp):Int×Int :=
 (c.2.2.2.2.1-c.2.2.2.2.2.1-(jD b c).2-(Ņ b c).2.1 / (Ņ b c).2.2,c.2.2.2.2.1+c.2.2.2.2.2.1-(jD b c).1-JQ (Ņ b c).1)
structure ē (b:Þ):Prop where
 film:0≤b.1.1∧b.1.1≤b.1.2∧b.1.2≤1000000
 nG:b.2.1.length≤12
 nU:b.2.2.1.length≤40
 nL:b.2.2.2.1.length≤12
 nC:b.2.2.2.2.1.length≤40
 nK:b.2.2.2.2.2.length≤10
 gauge:∀g∈b.2.1,pF g=true
 ids:b.2.1.Pairwise fun a b=>a.1<b.1
 uses:∀u∈b.2.2.1,agf (iw b) u.1 u.2=0
 loans:∀i l,b.2.2.2.1[i]?=some l→Tz b (iw b) i l=0
 compares:∀i c,b.2.2.2.2.1[i]?=some c→oD b (iw b) i c=0
 looks:∀u∈b.2.2.2.2.2,agf (iw b) u.1 u.2=0
 nodes:(Ê b).length≤59
 links:2*(Ê b).length+2*b.2.2.2.2.1.length≤300
def vy (b:Þ):ji b=0↔(∀g∈b.2.1,pF g=true)∧b.2.1.Pairwise fun a b=>a.1<b.1:=by
 have h0:Ĵ (nW b.2.1) 0 b.2.1=none↔(∀g∈b.2.1,pF g=true)∧b.2.1.Pairwise fun a b=>a.1<b.1:=by
  rw[iG,←Ys (fun g:ê=>g.1) b.2.1];constructor
  ·intro h
   have h1:∀(j:Nat) (a:ê),b.2.1[j]?=some a→pF a=true∧DN (fun g:ê=>g.1) b.2.1 j a=false:=by
    intro j a ha;have:=h j a ha;rw[Nat.zero_add] at this;unfold nW at this
    split at this
    ·cases this
    ·split at this
     ·cases this
     ·rename_i h1 h2;exact⟨by simpa using h1,by simpa using h2⟩
   refine⟨fun x hx=>?_,fun i a ha=>(h1 i a ha).2⟩;obtain⟨j,hj,rfl⟩:=df.1 hx;exact(h1 j _ (cI hj)).1
  ·rintro⟨h1,h2⟩ j a ha;rw[dj];simp[nW,h1 a (cR ha),h2 j a ha]
 rw[←h0];unfold ji
 cases h:Ĵ (nW b.2.1) 0 b.2.1 with
 |none=>simp
 |some e =>
  have:∀(m:List ê) (j:Nat) (x:Int),Ĵ (nW b.2.1) j m=some x→x≠0:=by
   intro m
   induction m with
   |nil=>intro j x h; cases h
   |cons a m ih =>
    intro j x h;unfold Ĵ at h
    cases hp:nW b.2.1 j a with
    |none=>rw[hp] at h; exact ih _ _ h
    |some y =>
     rw[hp] at h;cases h;unfold nW at hp
     split at hp
     ·cases hp; omega
     ·split at hp
      ·cases hp; omega
      ·cases hp
  simp[this _ _ _ h]
def ë (b:Þ):ç b=0↔ē b:=by
 unfold ç;constructor
 ·intro h
  split at h
  ·omega
  rename_i h1
  (repeat' split at h)<;>try omega
  ·rename_i hg
   have hg':ji b≠0:=by simpa using hg
   exact(hg' h).elim
  ·rename_i hf;have:=fS hf;rename_i e;simp at this;exact(this h).elim
  ·rename_i hn1 hn2 hn3 hn4 hn5 hg e hf hn6 hn7
   have hg0:ji b=0:=by simpa using hg
   obtain⟨g1,g2⟩:=(vy b).1 hg0
   have hall:∀x∈xe b (iw b),x=0:=fun x hx=>by
    have:=eh.1 hf x hx;simpa using this
   simp only[xe,cQ] at hall
   have hs:jK b.1 0 1000000=true:=by simpa using h1
   simp only[jK,cM,decide_eq_true_eq] at hs;refine⟨⟨hs.1,hs.2.1,hs.2.2⟩,by omega,by omega,by omega,by omega,by omega,g1,g2,fun u hu=>hall _ (.inl (dT.2 ⟨u,hu,rfl⟩)),fun i l hl=>?_,fun i c hc=>?_,fun u hu=>hall _ (.inr (.inr (.inr (dT.2 ⟨u,hu,rfl⟩)))),by omega,by omega⟩
   ·obtain⟨hi,rfl⟩:=cO.1 hl;exact hall _ (.inr (.inl (gK.2 ⟨i,hi,rfl⟩)))
   ·obtain⟨hi,rfl⟩:=cO.1 hc;exact hall _ (.inr (.inr (.inl (gK.2 ⟨i,hi,rfl⟩))))
 ·intro h
  have hs:jK b.1 0 1000000=true:=by simp[jK,h.film.1,h.film.2.1,h.film.2.2]
  have hg:ji b=0:=(vy b).2 ⟨h.gauge,h.ids⟩
  have hall:(xe b (iw b)).find? (fun e=>e != 0)=none:=by
   rw[eh];intro x hx;simp only[xe,cQ,dT,gK] at hx
   have:x=0:=by
    rcases hx with⟨u,hu,rfl⟩|⟨i,hi,rfl⟩|⟨i,hi,rfl⟩|⟨u,hu,rfl⟩
    ·exact h.uses u hu
    ·exact h.loans i _ (cI hi)
    ·exact h.compares i _ (cI hi)
    ·exact h.looks u hu
   simp[this]
  have:=h.nG; have:=h.nU; have:=h.nL; have:=h.nC; have:=h.nK; have:=h.nodes; have:=h.links;rw[hs,hg,hall];simp only[dR,dg,if_false,bne_self_eq_false];rw[if_neg (by omega),if_neg (by omega),if_neg (by omega),if_neg (by omega),if_neg (by omega),if_neg (by omega),if_neg (by omega)]
section
variable {b:Þ}
def ķ {l:List Int} (h:lM l=true):l.length≤6:=((D7 l).1 h).2.2
def ē.nums (h:ē b) {c:Cmp} (hc:c∈b.2.2.2.2.1):LG c=true:=by
 obtain⟨i,hi,rfl⟩:=List.mem_iff_getElem.1 hc;have:=h.compares i _ (List.getElem?_eq_getElem hi);unfold oD at this
 split at this
 ·omega
 ·rename_i h; simpa using h
def ē.pilesOf (h:ē b) {c:Cmp} (hc:c∈b.2.2.2.2.1):A0 b (iw b) c=0:=by
 obtain⟨i,hi,rfl⟩:=List.mem_iff_getElem.1 hc;have:=h.compares i _ (List.getElem?_eq_getElem hi);unfold oD at this
 split at this
 ·omega
 ·split at this
  ·omega
  ·exact this
def Χ (c:Cmp):LG c=true↔(1≤c.1∧c.1≤1099511627776)∧(0≤c.2.1∧c.2.1≤20000)∧(-1125899906842624≤c.2.2.2.2.1∧c.2.2.2.2.1≤1125899906842624)∧(0≤c.2.2.2.2.2.1∧c.2.2.2.2.2.1≤1073741824)∧jK c.2.2.2.2.2.2 (-10000) 10000=true∧lM c.2.2.1=true∧lM c.2.2.2.1=true:=by
 simp[LG,inP,HO,and_assoc]
def ē.size (h:ē b):Γ b:=by
 have h1:=h.nG; have h2:=h.nU; have h3:=h.nL; have h4:=h.nC; have h5:=h.nK;refine⟨by omega,by omega,by omega,by omega,by omega,fun c hc=>?_⟩;have:=(Χ c).1 (h.nums hc);have a:=ķ this.2.2.2.2.2.1;have b:=ķ this.2.2.2.2.2.2;omega
def tC (g:ê):pF g=true↔J8 g.2.2.2.2.1=true∧(-1000≤g.2.2.2.2.1.1∧g.2.2.2.2.1.1≤1000)∧g.2.2.2.2.1.2≤100∧(1≤g.1∧g.1≤1099511627776)∧(0≤g.2.1∧g.2.1≤20000)∧(1≤g.2.2.1∧g.2.2.1≤1125899906842624)∧(-1073741824≤g.2.2.2.1.1∧g.2.2.2.1.1≤g.2.2.2.1.2∧g.2.2.2.1.2≤1073741824)∧(0≤g.2.2.2.2.2∧g.2.2.2.2.2≤1048576):=by
 simp[pF,inP,HO,jK,and_assoc]
def nk {id:Int} {g:ê} (h:Ů b id=some g):g∈b.2.1∧g.1=id:=by
 unfold Ů at h;exact⟨List.mem_of_find?_eq_some h,by simpa using List.find?_some h⟩
def vz (hi:b.2.1.Pairwise fun a b=>a.1<b.1) {g:ê} (hg:g∈b.2.1):Ů b g.1=some g:=by
 unfold Ů
 induction hl:b.2.1 generalizing b with
 |nil=>rw[hl] at hg; cases hg
 |cons a t ih =>
  rw[hl] at hg hi;rw[dE] at hi;rw[gw];rcases cW.1 hg with rfl|hg
  ·simp
  ·have h1:=hi.1 g hg
   have:(a.1==g.1)=false:=by simp; omega
   rw[this];have:=ih (b:=(b.1,t,b.2.2)) hi.2 hg rfl;exact this
def Ie (h:ē b) {id day:Int} (hm:mP (iw b) id day=0):∃g,Ů b id=some g∧g.2.1≤day:=by
 unfold mP at hm;rw[zM h.ids] at hm
 split at hm
 ·rename_i g hg
  split at hm
  ·omega
  ·exact⟨g,hg,by omega⟩
 ·omega
def N9 (s:List (Int×ê)) (id day:Int):mP s id day=0∨mP s id day=4∨mP s id day=5:=by
 unfold mP
 split
 ·split<;>simp
 ·simp
def ē.pile (h:ē b) {c:Cmp} (hc:c∈b.2.2.2.2.1) {x:Int} (hx:x∈c.2.2.1++c.2.2.2.1):(∃g,Ů b x=some g∧g.2.1≤c.2.1)∧lJ b x c.2.1=none:=by
 have hp:=h.pilesOf hc;unfold A0 at hp
 split at hp
 ·omega
 rename_i h5
 split at hp
 ·omega
 rename_i h4
 split at hp
 ·omega
 rename_i h9;have a5:=(eI.1 (er.2 h5)) x hx;have a4:=(eI.1 (er.2 h4)) x hx;have a9:=(eI.1 (er.2 h9)) x hx;simp at a5 a4 a9;refine⟨Ie h ?_,a9⟩;rcases N9 (iw b) x c.2.1 with h0|h0|h0
 ·exact h0
 ·exact(a4 h0).elim
 ·exact(a5 h0).elim
def ē.lefts (h:ē b) {c:Cmp} (hc:c∈b.2.2.2.2.1):(è c.2.2.1 c.2.2.2.1).length≤1∧(è c.2.2.2.1 c.2.2.1).length≤1∧(è c.2.2.1 c.2.2.2.1).length+(è c.2.2.2.1 c.2.2.1).length≠0:=by
 have hp:=h.pilesOf hc;unfold A0 at hp
 (repeat' split at hp)<;>first|omega|exact⟨by omega,by omega,by omega⟩
def jQ {a c:List Int} {x:Int}:x∈è a c↔x∈a∧x∉c:=by
 simp[è]
def ē.rate (h:ē b) {p:List Int} (hp:∀x∈p,∃g,Ů b x=some g):pZ (D4 (iw b) p) 1000 100:=by
 unfold D4
 cases p with
 |nil =>
  have:pZ (0,1) 1000 100:=⟨by decide,by decide,by decide⟩;exact this
 |cons x t =>
  obtain⟨g,hg⟩:=hp x (by simp)
  try dsimp only
  rw[zM h.ids,hg];have:=(tC g).1 (h.gauge g (nk hg).1);exact⟨this.1,this.2.1,this.2.2.1⟩
def ē.rates (h:ē b) {c:Cmp} (hc:c∈b.2.2.2.2.1):pZ (D4 (iw b) (è c.2.2.1 c.2.2.2.1)) 1000 100∧pZ (D4 (iw b) (è c.2.2.2.1 c.2.2.1)) 1000 100:=by
 constructor
 ·exact h.rate fun x hx=>by
   obtain⟨⟨g,hg,_⟩,_⟩:=h.pile hc (dY _ (jQ.1 hx).1);exact⟨g,hg⟩
 ·exact h.rate fun x hx=>by
   obtain⟨⟨g,hg,_⟩,_⟩:=h.pile hc (dM _ (jQ.1 hx).1);exact⟨g,hg⟩
def ē.growth (h:ē b) {c:Cmp} (hc:c∈b.2.2.2.2.1):oS b c=some (Ņ b c):=by
 obtain⟨r1,r2⟩:=h.rates hc;have hn:=(Χ c).1 (h.nums hc);have a:=ķ hn.2.2.2.2.2.1;have b:=ķ hn.2.2.2.2.2.2;exact abq h.size (by omega) (by omega) r1 r2 hn.2.2.2.2.1
def ē.films (h:ē b) {c:Cmp} (hA:c.2.2.1.length≤1000) (hB:c.2.2.2.1.length≤1000):tS b c=some (jD b c):=by
 have:=h.film;exact afA hA hB (by omega) (by omega) (by omega) (by omega)
def VK {k heat:Int×Int} (hk:pZ k 200000 10000) (hh:jK heat (-10000) 10000=true):pZ (VL k heat).1 2000000000 10000∧pZ (VL k heat).2 2000000000 10000:=by
 simp only[jK,Bool.and_eq_true,decide_eq_true_eq] at hh;have r1:=VU hk (n:=heat.1) ⟨by omega,by omega⟩;have r2:=VU hk (n:=heat.2) ⟨by omega,by omega⟩;unfold VL
 split
 ·exact⟨r2,r1⟩
 ·exact⟨r1,r2⟩
def vE {c:Cmp} (hA:c.2.2.1.length≤1000) (hB:c.2.2.2.1.length≤1000) (h1:0≤b.1.1) (h2:b.1.1≤1000000) (h3:0≤b.1.2) (h4:b.1.2≤1000000) :
 (-1000000000≤(jD b c).1∧(jD b c).1≤1000000000)∧(-1000000000≤(jD b c).2∧(jD b c).2≤1000000000):=by
 have bd:∀(n:Nat) (x:Int),n≤1000→0≤x→x≤1000000→0≤((n-1:Nat):Int)*x∧((n-1:Nat):Int)*x≤1000000000:=by
  intro n x hn h0 hx;refine⟨fM (by omega) h0,?_⟩;have:=fm (show((n-1:Nat):Int)≤1000 by omega) hx h0 (by omega);omega
 have b1:=bd _ _ hA h1 h2;have b2:=bd _ _ hA h3 h4;have b3:=bd _ _ hB h1 h2;have b4:=bd _ _ hB h3 h4;unfold jD
 try dsimp only
 omega
def vB {r:Int×Int} (h:pZ r 2000000000 10000) : -2000000000≤r.1 / r.2∧r.1 / r.2≤2000000000:=by
 have:=JK (n:=r.1) h.pos;have:=h.num;omega
def Au {r:Int×Int} (h:pZ r 2000000000 10000) : -2000000000≤JQ r∧JQ r≤2000000000:=by
 have:=JK (n:=-r.1) h.pos;have:=h.num;unfold JQ;omega
def ē.says (h:ē b) {c:Cmp} (hc:c∈b.2.2.2.2.1):vN b c=some (Φ b c):=by
 obtain⟨r1,r2⟩:=h.rates hc;have hn:=(Χ c).1 (h.nums hc);have ha:=ķ hn.2.2.2.2.2.1;have hb:=ķ hn.2.2.2.2.2.2;have hf:=h.film;obtain⟨g1,g2⟩:=VK (Ns r1 r2) hn.2.2.2.2.1;have fb:=vE (b:=b) (c:=c) (by omega) (by omega) (by omega) (by omega) (by omega) (by omega);have q1:pZ (Ņ b c).1 2000000000 10000:=g1;have q2:pZ (Ņ b c).2 2000000000 10000:=g2;have c1:=Au q1;have c2:=vB q2;unfold vN Xr Φ;rw[h.growth hc,À,h.films (by omega) (by omega),À,aga q2.rat,À,akP q1.rat,À]
 try dsimp only
 have n3:=hn.2.2.1;have n4:=hn.2.2.2.1;rw[Õ (by omega) (by omega),Õ (by omega) (by omega),Õ (by omega) (by omega),Õ (by omega) (by omega),Õ (by omega) (by omega),Õ (by omega) (by omega)]
end
def Ę (l:Lv) (f t:Int):Int:=min l.2.1.2 (t-1)-max l.2.1.1 f+1
def ļ (id f t:Int):List Lv→Int
 |[]=>0
 |l::r=>(if l.1=id∧0<Ę l f t then Ę l f t*l.2.2 else 0)+ļ id f t r
def yW (id f t:Int):∀(x y:List Lv),ļ id f t (x++y)=ļ id f t x+ļ id f t y
 |[],y=>by simp[ļ]
 |l::r,y=>by
  simp only[eS,ļ,yW id f t r y];omega
def iU (b:Þ) (id f t:Int):List Int:=(b.2.2.1.filter fun u=>u.1==id&&inP u.2 f (t-1)).map fun u=>u.2
def iQ (b:Þ) (g:ê) (f t:Int):Int:=ļ g.1 f t b.2.2.2.1+(Y3 (iU b g.1 f t)).length*g.2.2.2.2.2
def vx (a c:Int):UP a c=min a c:=by unfold UP; split<;>omega
def XV (a c:Int):Lj a c=max a c:=by unfold Lj; split<;>omega
def Js {b:Þ} (h:ē b) {l:Lv} (hl:l∈b.2.2.2.1):(0≤l.2.1.1∧l.2.1.1≤l.2.1.2∧l.2.1.2≤20000)∧(0≤l.2.2∧l.2.2≤1048576):=by
 obtain⟨i,hi,rfl⟩:=List.mem_iff_getElem.1 hl;have:=h.loans i _ (List.getElem?_eq_getElem hi);unfold Tz at this
 split at this
 ·omega
 rename_i h1
 split at this
 ·omega
 rename_i h2;simp only[eF,Bool.not_eq_false,jK,inP,cM,decide_eq_true_eq] at h1 h2;exact⟨h1,h2⟩
def UE {l:Lv} (h:(0≤l.2.1.1∧l.2.1.1≤l.2.1.2∧l.2.1.2≤20000)∧(0≤l.2.2∧l.2.2≤1048576)) {f t:Int} (hf:0≤f) (hd:0<Ę l f t):0≤Ę l f t*l.2.2∧Ę l f t*l.2.2≤20001*1048576:=by
 refine⟨Int.mul_nonneg (by omega) h.2.1,Int.mul_le_mul ?_ h.2.2 h.2.1 (by omega)⟩;unfold Ę;omega
def rU {id f t:Int} (hf:0≤f):∀{x:List Lv},(∀l∈x,(0≤l.2.1.1∧l.2.1.1≤l.2.1.2∧l.2.1.2≤20000)∧(0≤l.2.2∧l.2.2≤1048576))→0≤ļ id f t x∧ļ id f t x≤x.length*(20001*1048576)
 |[],_=>by simp[ļ]
 |l::r,h=>by
  have ih:=rU (id:=id) (t:=t) hf (x:=r) fun l hl=>h l (by simp[hl]);simp only[ļ,cX,f8,fV,gi]
  split
  ·rename_i hc;have:=UE (h l (by simp)) hf hc.2;omega
  ·omega
def anJ {b:Þ} (h:ē b) {g:ê} (hg:0≤g.2.2.2.2.2∧g.2.2.2.2.2≤1048576) {f t:Int} (hf:0≤f∧f≤100000) (ht:0≤t∧t≤100000):Al b g f t=some (iQ b g f t):=by
 have hL:=h.nL;have hU:=h.nU
 have hlb:∀i,0≤ļ g.1 f t (b.2.2.2.1.take i)∧ļ g.1 f t (b.2.2.2.1.take i)≤12*(20001*1048576):=by
  intro i;have h1:=rU (id:=g.1) (t:=t) hf.1 (x:=b.2.2.2.1.take i) fun l hl=>Js h (List.mem_of_mem_take hl);have h2:((b.2.2.2.1.take i).length:Int)*(20001*1048576)≤12*(20001*1048576):=fp (by rw[cZ]; omega) (by omega);omega
 unfold Al Xu;refine ń (fun x:Int×Int=>∃i:Nat,i≤b.2.2.2.1.length∧x=(ļ g.1 f t (b.2.2.2.1.take i),(i:Int))) (fun x=>b.2.2.2.1.length-x.2.toNat) ?_ ⟨0,by omega,rfl⟩;rintro x ⟨i,hi,rfl⟩;rcases Nat.lt_or_ge i b.2.2.2.1.length with hlt|hge
 ·have hl:b.2.2.2.1[i]?=some b.2.2.2.1[i]:=cI hlt;have hz:=Js h (cR hl);refine .inr ⟨(ļ g.1 f t (b.2.2.2.1.take (i+1)),(i:Int)+1),⟨i+1,hlt,by simp⟩,by simp; omega,fun kn=>?_⟩
  try dsimp only
  unfold vl;have b1:=hlb i;have b2:=hlb (i+1)
  have e1:ļ g.1 f t (b.2.2.2.1.take (i+1))=ļ g.1 f t (b.2.2.2.1.take i)+(if b.2.2.2.1[i].1=g.1∧0<Ę b.2.2.2.1[i] f t then Ę b.2.2.2.1[i] f t*b.2.2.2.1[i].2.2 else 0):=by
   rw[take_succ hl,yW]; simp[ļ]
  rw[Ô hlt,Ë hl,Õ (by omega) (by omega),vx,XV,Õ (by omega) (by omega),Õ (by omega) (by omega)];rw[show min b.2.2.2.1[i].2.1.2 (t-1)-max b.2.2.2.1[i].2.1.1 f+1=Ę b.2.2.2.1[i] f t from rfl,Ĥ]
  by_cases hid:b.2.2.2.1[i].1=g.1
  ·rw[if_pos (by simpa[ieq] using hid),Ĥ]
   by_cases hd:0<Ę b.2.2.2.1[i] f t
   ·have lb:=UE hz hf.1 hd;rw[if_pos ⟨hid,hd⟩] at e1;rw[if_pos (by simpa[igt] using hd),Õ (by omega) (by omega),Õ (by omega) (by omega),Î hlt (by omega),e1]
   ·rw[if_neg (fun hc=>hd hc.2)] at e1;rw[if_neg (by simpa[igt] using hd),Î hlt (by omega),e1,f6]
  ·rw[if_neg (fun hc=>hid hc.1)] at e1;rw[if_neg (by simpa[ieq] using hid),Î hlt (by omega),e1,f6]
 ·refine .inl fun kn=>?_
  have:i=b.2.2.2.1.length:=by omega
  subst this
  try dsimp only
  unfold vl;rw[à,List.take_length]
  have hud:∀x:List (Int×Int),x.length≤40→((x.filter fun u=>u.1==g.1&&inP u.2 f (t-1)).map fun u=>u.2).length≤40:=by
   intro x hx;rw[dW];exact du (dA _ _) hx
  refine ð b.2.2.1 (fun i=>((b.2.2.1.take i).filter fun u=>u.1==g.1&&inP u.2 f (t-1)).map fun u=>u.2) _ rfl (fun i u hi hu kn'=>?_) (fun kn'=>?_)
  ·try dsimp only
   unfold vk;have hx:=hud (b.2.2.1.take i) (by rw[List.length_take]; omega);rw[Ô hi,Ë hu,Õ (by omega) (by omega),gX,À,Ö (by simp only[List.length_singleton]; omega),Am.iff_true,Î hi (by omega),Î hi (by omega),take_succ hu,List.filter_append,List.map_append]
   cases h1:(u.1==g.1) with
   |false =>
    have:ieq u.1 g.1=false:=h1;simp only[this,é,dN,h1,Bool.false_and,dg,if_false,dU,ff,dH]
   |true =>
    have:ieq u.1 g.1=true:=h1;rw[this]
    cases h2:inP u.2 f (t-1) with
    |false=>simp only[ğ,é,dN,h1,h2,dQ,dg,if_false,dU,ff,dH]
    |true=>simp only[ğ,dN,h1,h2,dQ,if_true,dU,ff,ew]
  ·try dsimp only
   unfold vk;rw[à,List.take_length];rw[show((b.2.2.1.filter fun u=>u.1==g.1&&inP u.2 f (t-1)).map fun u=>u.2)=iU b g.1 f t from rfl];have h40:(iU b g.1 f t).length≤40:=hud _ hU
   have hc40:(Y3 (iU b g.1 f t)).length≤40:=by
    have:=D0 (iU b g.1 f t);omega
   have hm:0≤((Y3 (iU b g.1 f t)).length:Int)*g.2.2.2.2.2∧((Y3 (iU b g.1 f t)).length:Int)*g.2.2.2.2.2≤40*1048576 :=
    ⟨fM (by omega) hg.1,fm (by omega) hg.2 hg.1 (by omega)⟩
   have b1:=hlb b.2.2.2.1.length;rw[List.take_length] at b1;dsimp only;rw[Ö (by omega),Am.iff_true,Ö (by rw[YZ]; omega),Am.iff_true,aia,á,Õ (by omega) (by omega),Õ (by omega) (by omega)];rfl
abbrev Lk:Type:=Int×Int×Int
inductive Wl (L:List Lk) (S:Int→Prop):List Int→Int→Int→Prop
 |nil {v:Int}:S v→Wl L S [] v 0
 |step {vs:List Int} {u v m d:Int}:Wl L S vs u d→(u,v,m)∈L→Wl L S (u::vs) v (d+m)
def Pot (L:List Lk) (p:Int→Int):Prop:=∀u v m,(u,v,m)∈L→p v≤p u+m
def InR (L:List Lk) (N:Nat):Prop:=∀l∈L,(0≤l.1∧l.1<N)∧(0≤l.2.1∧l.2.1<N)
section
variable {L:List Lk} {S:Int→Prop} {N:Nat} {p:Int→Int}
def Wl.cut (hp:Pot L p) {vs:List Int} {v d:Int} (h:Wl L S vs v d):∀x∈vs,∃vs1 d1,Wl L S vs1 x d1∧(x::vs1) <:+ vs∧d1+(p v-p x)≤d:=by
 induction h with
 |nil h=>intro x hx; cases hx
 | @step vs u v m d hw hl ih =>
  intro x hx;have h1:=hp u v m hl;rcases cW.1 hx with rfl|hx
  ·exact⟨vs,d,hw,List.suffix_refl _,by omega⟩
  ·obtain⟨vs1,d1,g1,g2,g3⟩:=ih x hx;exact⟨vs1,d1,g1,g2.trans (List.suffix_cons _ _),by omega⟩
def Wl.simple (hp:Pot L p) {vs:List Int} {v d:Int} (h:Wl L S vs v d):∃vs' d',Wl L S vs' v d'∧d'≤d∧(v::vs').Nodup:=by
 induction h with
 |nil h=>exact⟨[],0,.nil h,dF _,by simp⟩
 | @step vs u v m d hw hl ih =>
  obtain⟨vs1,d1,g1,g2,g3⟩:=ih;have hw1:=Wl.step g1 hl
  by_cases hv:v∈u::vs1
  ·obtain⟨vs2,d2,k1,k2,k3⟩:=hw1.cut hp v hv;exact⟨vs2,d2,k1,by omega,g3.sublist k2.sublist⟩
  ·exact⟨u::vs1,d1+m,hw1,by omega,fF.2 ⟨hv,g3⟩⟩
def Wl.range (hL:InR L N) (hS:∀v,S v→0≤v∧v<N) {vs:List Int} {v d:Int} (h:Wl L S vs v d):(0≤v∧v<N)∧∀u∈vs,0≤u∧u<N:=by
 induction h with
 |nil h=>exact⟨hS _ h,fun u hu=>by cases hu⟩
 | @step vs u v m d hw hl ih =>
  refine⟨(hL _ hl).2,fun w hw'=>?_⟩;rcases cW.1 hw' with rfl|h
  ·exact ih.1
  ·exact ih.2 w h
def aeZ:∀(N:Nat) (l:List Int),l.Nodup→(∀x∈l,0≤x∧x<N)→l.length≤N
 |0,l,_,h=>by
  cases l with
  |nil=>simp
  |cons a l=>have:=h a (by simp); omega
 |N+1,l,hn,h=>by
  have h1:(l.erase (N:Int)).length≤N:=aeZ N _ (hn.erase _) fun x hx=>by
   have h2:=(hn.mem_erase_iff).1 hx;have:=h x h2.2;have:=h2.1;omega
  have:=List.length_erase (a:=(N:Int)) (l:=l)
  split at this<;>omega
def Wl.short (hL:InR L N) (hS:∀v,S v→0≤v∧v<N) {vs:List Int} {v d:Int} (h:Wl L S vs v d) (hn:(v::vs).Nodup):vs.length+1≤N:=by
 have:=h.range hL hS
 exact aeZ N (v::vs) hn fun x hx=>by
  rcases cW.1 hx with rfl|hx
  ·exact this.1
  ·exact this.2 x hx
def LH (f:Lk→Bool):List Lk→Int
 |[]=>0
 |l::t=>(if f l then min l.2.2 0 else 0)+LH f t
def aiI (f:Lk→Bool):∀L:List Lk,LH (fun _=>true) L≤LH f L
 |[]=>dF _
 |l::t=>by
  have:=aiI f t;simp only[LH,if_true]
  split<;>omega
def uf (f:Lk→Bool):∀L:List Lk,LH f L≤0
 |[]=>dF _
 |l::t=>by
  have:=uf f t;simp only[LH]
  split<;>omega
def aff {f:Lk→Bool} {l:Lk} (hf:f l=true):∀{L:List Lk},l∈L→LH f L≤l.2.2
 |a::t,h=>by
  simp only[LH];rcases cW.1 h with rfl|h
  ·have:=uf f t;rw[if_pos hf]; omega
  ·have:=aff hf h
   split<;>omega
def aiH {f g:Lk→Bool} (h:∀l,f l=true→g l=false):∀L:List Lk,LH (fun l=>f l||g l) L=LH f L+LH g L
 |[]=>rfl
 |l::t=>by
  have ih:=aiH h t;simp only[LH,ih]
  by_cases hf:f l=true
  ·simp[hf,h l hf]; omega
  ·have hf':f l=false:=by simpa using hf
   by_cases hg:g l=true
   ·simp[hf',hg]; omega
   ·simp[hf',hg]
def Wl.low {vs:List Int} {v d:Int} (h:Wl L S vs v d):vs.Nodup→LH (fun l=>vs.contains l.1) L≤d:=by
 induction h with
 |nil h=>intro _; exact uf _ _
 | @step vs u v m d hw hl ih =>
  intro hn;rw[fF] at hn;have h1:=ih hn.2;have h2:LH (fun l=>l.1==u) L≤m:=aff (f:=fun l=>l.1==u) (l:=(u,v,m)) (by simp) hl
  have h3:=aiH (f:=fun l:Lk=>l.1==u) (g:=fun l=>vs.contains l.1) (fun l hf=>by
   simp only[beq_iff_eq] at hf;rw[hf]
   simpa using hn.1) L
  have h4:(fun l:Lk=>(u::vs).contains l.1)=fun l=>(l.1==u)||vs.contains l.1:=by funext l; rw[List.contains_cons]
  rw[h4,h3];omega
def MU (L:List Lk):Int:=LH (fun _=>true) L
def Wl.low' (hp:Pot L p) {vs:List Int} {v d:Int} (h:Wl L S vs v d):MU L≤d:=by
 obtain⟨vs',d',h1,h2,h3⟩:=h.simple hp;have:=h1.low (List.nodup_cons.1 h3).2;have:=aiI (fun l=>vs'.contains l.1) L;unfold MU;omega
def Wl.high {M:Int} (hM:∀l∈L,l.2.2≤M) {vs:List Int} {v d:Int} (h:Wl L S vs v d):d≤vs.length*M:=by
 induction h with
 |nil h=>simp
 | @step vs u v m d hw hl ih =>
  have:=hM _ hl;simp only[cX,f8,fV,gi];simp only at this;omega
def Wl.lowM {M:Int} (hM:∀l∈L,-M≤l.2.2) {vs:List Int} {v d:Int} (h:Wl L S vs v d) : -(vs.length*M)≤d:=by
 induction h with
 |nil h=>simp
 | @step vs u v m d hw hl ih =>
  have:=hM _ hl;simp only[cX,f8,fV,gi];simp only at this;omega
def Wl.mono {S':Int→Prop} (hS:∀v,S v→S' v) {vs:List Int} {v d:Int} (h:Wl L S vs v d):Wl L S' vs v d:=by
 induction h with
 |nil h=>exact .nil (hS _ h)
 |step hw hl ih=>exact .step ih hl
def Wl.pot (hp:Pot L p) {vs:List Int} {v d:Int} (h:Wl L S vs v d):∃s,S s∧p v-p s≤d:=by
 induction h with
 | @nil v h=>exact⟨v,h,by omega⟩
 | @step vs u v m d hw hl ih =>
  obtain⟨s,h1,h2⟩:=ih;have:=hp u v m hl;exact⟨s,h1,by omega⟩
end
abbrev ľ:Int:=1152921504606846976
structure ahP (L:List Lk) (S:Int→Prop) (N:Nat) (x:Int→Int):Prop where
 att:∀v:Int,0≤v→v<N→x v≠ľ→∃vs,Wl L S vs v (x v)
 low:∀v vs d,Wl L S vs v d→x v≤d
 bd:∀v:Int,0≤v→v<N→x v≤ľ
def ahP.uniq {L:List Lk} {S:Int→Prop} {N:Nat} {x y:Int→Int} (hx:ahP L S N x) (hy:ahP L S N y) {v:Int} (h0:0≤v) (h1:v<N):x v=y v:=by
 have key:∀{x y:Int→Int},ahP L S N x→ahP L S N y→x v≤y v:=by
  intro x y hx hy
  by_cases h:y v=ľ
  ·rw[h]; exact hx.bd v h0 h1
  ·obtain⟨vs,hw⟩:=hy.att v h0 h1 h;exact hx.low v vs _ hw
 exact Int.le_antisymm (key hx hy) (key hy hx)
def gv (x:List Int) (v:Int):Int:=x[v.toNat]?.getD 0
def UQ {x:List Int} {v:Int} (h:v.toNat<x.length):x[v.toNat]?=some (gv x v):=by
 unfold gv; rw[List.getElem?_eq_getElem h]; rfl
def zb {x:List Int} {u v:Int} (hu:0≤u) (hv:0≤v) (h:u.toNat<x.length) (y:Int):gv (x.set u.toNat y) v=if v=u then y else gv x v:=by
 unfold gv;rw[List.getElem?_set]
 by_cases hvu:v=u
 ·subst hvu; simp[h]
 ·have:¬u.toNat=v.toNat:=by omega
  simp[hvu,this]
def afv {x y:List Int} (hl:x.length=y.length) (h:∀v:Int,0≤v→v<x.length→gv x v=gv y v):x=y:=by
 refine List.ext_getElem hl fun i h1 h2=>?_;have:=h i (by omega) (by omega);unfold gv at this;simpa[h1,h2] using this
def lT (x:List Int) (l:Lk):List Int:=if gv x l.1<ľ∧gv x l.1+l.2.2<gv x l.2.1 then x.set l.2.1.toNat (gv x l.1+l.2.2) else x
def LC (L:List Lk) (x:List Int):List Int:=L.foldl lT x
def kM (L:List Lk):Nat→List Int→List Int
 |0,x=>x
 |n+1,x=>kM L n (LC L x)
def nZ (x:List Int) (l:Lk):(lT x l).length=x.length:=by unfold lT; split<;>simp
def xd (L:List Lk):∀x:List Int,(LC L x).length=x.length:=by
 induction L with
 |nil=>intro x; rfl
 |cons l t ih=>intro x; show(LC t (lT x l)).length=_; rw[ih,nZ]
def ĥ (L:List Lk):∀(n:Nat) (x:List Int),(kM L n x).length=x.length
 |0,x=>rfl
 |n+1,x=>by rw[kM,ĥ L n,xd]
def CA (L:List Lk):∀(n:Nat) (x:List Int),kM L (n+1) x=LC L (kM L n x)
 |0,x=>rfl
 |n+1,x=>by rw[kM,CA L n]; rfl
section
variable {L0:List Lk} {S:Int→Prop} {N:Nat}
def Za {x:List Int} {l:Lk} (hl:(0≤l.1∧l.1<N)∧(0≤l.2.1∧l.2.1<N)) (hx:x.length=N) (v:Int) (hv:0≤v):gv (lT x l) v≤gv x v:=by
 unfold lT
 split
 ·rename_i h;rw[zb hl.2.1 hv (by omega)]
  split
  ·rename_i h2; subst h2; omega
  ·exact dF _
 ·exact dF _
def D9:∀{L:List Lk},InR L N→∀{x:List Int},x.length=N→∀v,0≤v→gv (LC L x) v≤gv x v
 |[],_,x,_,v,_=>dF _
 |l::t,hL,x,hx,v,hv=>by
  have h1:=Za (hL l (by simp)) hx v hv;have h2:=D9 (L:=t) (fun l hl=>hL l (by simp[hl])) (x:=lT x l) (by rw[nZ,hx]) v hv;show gv (LC t (lT x l)) v≤_;omega
def HZ:∀{L:List Lk},InR L N→∀{x:List Int},x.length=N→∀u v m,(u,v,m)∈L→gv x u<ľ→gv (LC L x) v≤gv x u+m
 |l::t,hL,x,hx,u,v,m,hm,hf=>by
  have ht:InR t N:=fun l hl=>hL l (by simp[hl])
  have hx':(lT x l).length=N:=by rw[nZ,hx]
  show gv (LC t (lT x l)) v≤_;rcases cW.1 hm with rfl|hm
  ·have hl:=hL (u,v,m) (by simp);have h2:=D9 ht hx' v hl.2.1
   have h3:gv (lT x (u,v,m)) v≤gv x u+m:=by
    unfold lT
    split
    ·rw[zb hl.2.1 hl.2.1 (by simp only at hl; simp only; omega),if_pos rfl]; exact dF _
    ·rename_i h; simp only[not_and,Int.not_lt] at h; exact h hf
   omega
  ·have hl:=hL (u,v,m) (by simp[hm]);have h1:=Za (hL l (by simp)) hx u hl.1.1;have:=HZ ht hx' u v m hm (by omega);omega
def Att (L0:List Lk) (S:Int→Prop) (N:Nat) (x:List Int):Prop:=∀v:Int,0≤v→v<N→gv x v<ľ→∃vs,Wl L0 S vs v (gv x v)
def agt {x:List Int} {l:Lk} (hl:(0≤l.1∧l.1<N)∧(0≤l.2.1∧l.2.1<N)) (hm:l∈L0) (hx:x.length=N) (h:Att L0 S N x):Att L0 S N (lT x l):=by
 unfold lT
 split
 ·rename_i hc;intro v h0 h1 hf;rw[zb hl.2.1 h0 (by omega)] at hf ⊢
  split
  ·rename_i h2;obtain⟨vs,hw⟩:=h l.1 hl.1.1 hl.1.2 hc.1;exact⟨_,h2▸Wl.step hw hm⟩
  ·rename_i h2;rw[if_neg h2] at hf;exact h v h0 h1 hf
 ·exact h
def Zj:∀{L:List Lk},InR L N→(∀l∈L,l∈L0)→∀{x:List Int},x.length=N→Att L0 S N x→Att L0 S N (LC L x)
 |[],_,_,_,_,h=>h
 |l::t,hL,hsub,x,hx,h=>Zj (L:=t) (fun l hl=>hL l (by simp[hl])) (fun l hl=>hsub l (by simp[hl])) (x:=lT x l) (by rw[nZ,hx]) (agt (hL l (by simp)) (hsub l (by simp)) hx h)
def TU (hL:InR L0 N):∀(n:Nat) {x:List Int},x.length=N→Att L0 S N x→Att L0 S N (kM L0 n x)
 |0,_,_,h=>h
 |n+1,x,hx,h=>TU hL n (by rw[xd,hx]) (Zj hL (fun _ h=>h) hx h)
def D8 (hL:InR L0 N):∀(n:Nat) {x:List Int},x.length=N→∀v,0≤v→gv (kM L0 n x) v≤gv x v
 |0,_,_,_,_=>dF _
 |n+1,x,hx,v,hv=>Int.le_trans (D8 hL n (by rw[xd,hx]) v hv) (D9 hL hx v hv)
def tX (S:Int→Bool) (N:Nat):List Int:=(List.range N).map fun(i:Nat)=>if S i then 0 else ľ
def iV (S:Int→Bool) {N:Nat} {v:Int} (h0:0≤v) (h1:v<N):gv (tX S N) v=if S v then 0 else ľ:=by
 unfold gv tX
 have:v.toNat<N:=by omega
 rw[fK,fc this];simp only[dL,fh];rw[Int.toNat_of_nonneg h0]
def ö (S:Int→Bool) (N:Nat):(tX S N).length=N:=by simp[tX]
end
def HY {L:List Lk} {S:Int→Bool} {N:Nat} {M:Int} (hL:InR L N) (hS:∀v,S v=true→0≤v∧v<N) (hM:∀l∈L,l.2.2≤M):∀(n:Nat),n*M<ľ→0≤M→∀vs v d,Wl L (fun v=>S v=true) vs v d→vs.length≤n→gv (kM L n (tX S N)) v≤d
 |0,_,_,vs,v,d,hw,hl=>by
  cases hw with
  |nil h =>
   have:=hS v h;rw[kM,iV S this.1 this.2,if_pos h]; exact dF _
  |step=>simp at hl
 |n+1,hn,hM0,vs,v,d,hw,hl=>by
  have hn':n*M<ľ:=by rw[f8,fV,gi] at hn; omega
  have hlen:(kM L n (tX S N)).length=N:=by rw[ĥ,ö]
  rw[CA]
  cases hw with
  |nil h =>
   have h1:=D9 hL hlen v (hS v h).1;have h2:=HY hL hS hM n hn' hM0 [] v 0 (.nil h) (by simp);omega
  | @step vs u _ m d hw hlk =>
   have h2:=HY hL hS hM n hn' hM0 vs u d hw (by simpa using hl);have h3:=hw.high hM;have h4:(vs.length:Int)*M≤n*M:=fp (by simp at hl; omega) hM0;have:=HZ hL hlen u v m hlk (by omega);omega
def NH {L:List Lk} {S:Int→Bool} {N:Nat} {M:Int} {p:Int→Int} (hp:Pot L p) (hL:InR L N) (hS:∀v,S v=true→0≤v∧v<N) (hM:∀l∈L,l.2.2≤M) (hM0:0≤M) (hN:N*M<ľ) (n:Nat) (hn:N≤n+1):ahP L (fun v=>S v=true) N (gv (kM L n (tX S N))):=by
 have hatt:Att L (fun v=>S v=true) N (tX S N):=fun v h0 h1 hf=>by
  rw[iV S h0 h1] at hf ⊢
  split
  ·rename_i h; exact⟨[],.nil h⟩
  ·rename_i h; rw[if_neg h] at hf; omega
 have hbd:∀v:Int,0≤v→v<N→gv (kM L n (tX S N)) v≤ľ:=fun v h0 h1=>by
  have:=D8 hL n (ö S N) v h0;rw[iV S h0 h1] at this
  have hF:(0:Int)≤ľ:=by decide
  split at this<;>omega
 have hlow:∀(n:Nat),N≤n+1→∀v vs d,Wl L (fun v=>S v=true) vs v d→gv (kM L n (tX S N)) v≤d:=by
  intro n hn v vs d hw;obtain⟨vs',d',h1,h2,h3⟩:=hw.simple hp;have h4:=h1.short hL hS h3
  have hpos:0<N:=by omega
  obtain⟨k,rfl⟩:∃k,N=k+1:=⟨N-1,by omega⟩
  have hk:(k:Int)*M<ľ:=by rw[f8,fV,gi] at hN; omega
  have h5:=HY hL hS hM k hk hM0 vs' v d' h1 (by omega);obtain⟨j,rfl⟩:∃j,n=k+j:=⟨n-k,by omega⟩
  have h6:∀(j:Nat),gv (kM L (k+j) (tX S (k+1))) v≤gv (kM L k (tX S (k+1))) v:=by
   intro j
   induction j with
   |zero=>exact dF _
   |succ j ih =>
    rw[←eT,CA];have:=D9 hL (x:=kM L (k+j) (tX S (k+1))) (by rw[ĥ,ö]) v (h1.range hL hS).1.1;omega
  have:=h6 j;omega
 exact⟨fun v h0 h1 hne=>TU hL n (ö S N) hatt v h0 h1 (by have:=hbd v h0 h1; omega),hlow n hn,hbd⟩
def ahP.pot {L:List Lk} {S:Int→Prop} {N:Nat} {x:Int→Int} (h:ahP L S N x) (hL:InR L N) {u v m:Int} (hl:(u,v,m)∈L) (hf:x u≠ľ):x v≤x u+m:=by
 obtain⟨vs,hw⟩:=h.att u (hL _ hl).1.1 (hL _ hl).1.2 hf;exact h.low v _ _ (.step hw hl)
def ô (b:Þ) (g:ê):List Lk :=
 [(0,atP (Ê b) [g.1] g.2.1,g.2.2.1+g.2.2.2.1.2),(atP (Ê b) [g.1] g.2.1,0,-(g.2.2.1+g.2.2.2.1.1))] ++
 (List.range ((ß b g).length-1)).flatMap fun(k:Nat)=>[(atP (Ê b) [g.1] g.2.1+k,atP (Ê b) [g.1] g.2.1+k+1,0),(atP (Ê b) [g.1] g.2.1+k+1,atP (Ê b) [g.1] g.2.1+k,iQ b g ((ß b g)[k]?.getD 0) ((ß b g)[k+1]?.getD 0))]
def cx (b:Þ) (c:Cmp):Int:=atP (Ê b) (è c.2.2.1 c.2.2.2.1) c.2.1
def cy (b:Þ) (c:Cmp):Int:=atP (Ê b) (è c.2.2.2.1 c.2.2.1) c.2.1
def Ą (b:Þ) (c:Cmp):List Lk:=[(cy b c,cx b c,(Φ b c).2),(cx b c,cy b c,-(Φ b c).1)]
def Ý (b:Þ):List Lk:=b.2.1.flatMap (ô b)++b.2.2.2.2.1.flatMap (Ą b)
def ò (b:Þ) (i:Nat) (g:ê):List (Int×Int):=[(1,(i:Int)),(1,(i:Int))]++(List.range ((ß b g).length-1)).flatMap fun _=>[(2,(i:Int)),(2,(i:Int))]
def Ŭ (b:Þ):List (Int×Int):=(b.2.1.mapIdx (ò b)).flatten++(b.2.2.2.2.1.mapIdx fun i _=>[(3,(i:Int)),(3,(i:Int))]).flatten
section
variable {b:Þ}
def YM (h:ē b) {id day:Int} (hu:agf (iw b) id day=0):(0≤day∧day≤20000)∧∃g,Ů b id=some g∧g.2.1≤day:=by
 unfold agf at hu
 split at hu
 ·omega
 ·rename_i hd;simp only[eF,Bool.not_eq_false,HO,inP,cM,decide_eq_true_eq] at hd;exact⟨hd,Ie h hu⟩
def jW {g:ê} {d:Int}:d∈ß b g↔d=g.2.1∨(∃c∈b.2.2.2.2.1,(c.2.2.1.contains g.1)≠(c.2.2.2.1.contains g.1)∧c.2.1=d)∨(∃n∈b.2.2.2.2.2,n.1=g.1∧n.2=d):=by
 unfold ß;rw[qf,X9];simp only[List.mem_append,List.mem_singleton,List.mem_map,List.mem_filter];constructor
 ·rintro((h|⟨c,⟨h1,h2⟩,h3⟩)|⟨n,⟨h1,h2⟩,h3⟩)
  ·exact .inl h
  ·exact .inr (.inl ⟨c,h1,by simpa using h2,h3⟩)
  ·exact .inr (.inr ⟨n,h1,by simpa using h2,h3⟩)
 ·rintro(h|⟨c,h1,h2,h3⟩|⟨n,h1,h2,h3⟩)
  ·exact .inl (.inl h)
  ·exact .inl (.inr ⟨c,⟨h1,by simpa using h2⟩,h3⟩)
  ·exact .inr ⟨n,⟨h1,by simpa using h2⟩,h3⟩
def ē.gaugeR (h:ē b) {g:ê} (hg:g∈b.2.1):J8 g.2.2.2.2.1=true∧(-1000≤g.2.2.2.2.1.1∧g.2.2.2.2.1.1≤1000)∧g.2.2.2.2.1.2≤100∧(1≤g.1∧g.1≤1099511627776)∧(0≤g.2.1∧g.2.1≤20000)∧(1≤g.2.2.1∧g.2.2.1≤1125899906842624)∧(-1073741824≤g.2.2.2.1.1∧g.2.2.2.1.1≤g.2.2.2.1.2∧g.2.2.2.1.2≤1073741824)∧(0≤g.2.2.2.2.2∧g.2.2.2.2.2≤1048576):=(tC g).1 (h.gauge g hg)
def ē.day (h:ē b) {g:ê} (hg:g∈b.2.1) {d:Int} (hd:d∈ß b g):g.2.1≤d∧0≤d∧d≤20000:=by
 have hr:=h.gaugeR hg;have hgo:=vz h.ids hg;rcases jW.1 hd with rfl|⟨c,hc,h1,rfl⟩|⟨n,hn,h1,rfl⟩
 ·have:=hr.2.2.2.2.1; omega
 ·have hn:=(Χ c).1 (h.nums hc)
  have hx:g.1∈c.2.2.1++c.2.2.2.1:=by
   rw[cQ]
   by_cases h2:g.1∈c.2.2.1
   ·exact .inl h2
   ·refine .inr ?_
    have e1:c.2.2.1.contains g.1=false:=by simpa using h2
    rw[e1] at h1
    have:c.2.2.2.1.contains g.1=true:=by cases hh:c.2.2.2.1.contains g.1<;>simp_all
    simpa using this
  obtain⟨⟨g',h3,h4⟩,_⟩:=h.pile hc hx;rw[hgo] at h3; cases h3;have:=hn.2.1;omega
 ·obtain⟨h2,g',h3,h4⟩:=YM h (h.looks n hn);rw[h1,hgo] at h3; cases h3;omega
def j7 (g:ê):g.2.1∈ß b g:=jW.2 (.inl rfl)
def Ht (h:ē b) {g:ê} (hg:g∈b.2.1):(ß b g).length≤59:=by
 have h1:∀l:List ê,g∈l→(ß b g).length≤(l.flatMap fun g=>(ß b g).map fun d=>((g.1,d):Int×Int)).length:=by
  intro l
  induction l with
  |nil=>intro hg; cases hg
  |cons a t ih =>
   intro hg;rw[dP,cN,dW];rcases cW.1 hg with rfl|hg
   ·omega
   ·have:=ih hg; omega
 have:=h1 b.2.1 hg;have:=h.nodes;unfold Ê at this;omega
def ako {p:List Int} {d:Int}:0≤atP (Ê b) p d∧atP (Ê b) p d≤(Ê b).length:=by
 unfold atP
 cases p with
 |nil=>simp
 |cons x t =>
  try dsimp only
  cases h:ix (Ê b) x d with
  |none=>simp
  |some j=>have:=(ku h).1; dsimp only; omega
def Cw (h:ē b) {c:Cmp} (hc:c∈b.2.2.2.2.1):(-1125904000000000≤(Φ b c).1∧(Φ b c).1≤1125904000000000)∧(-1125904000000000≤(Φ b c).2∧(Φ b c).2≤1125904000000000):=by
 obtain⟨r1,r2⟩:=h.rates hc;have hn:=(Χ c).1 (h.nums hc);have ha:=ķ hn.2.2.2.2.2.1;have hb:=ķ hn.2.2.2.2.2.2;have hf:=h.film;obtain⟨g1,g2⟩:=VK (Ns r1 r2) hn.2.2.2.2.1;have fb:=vE (b:=b) (c:=c) (by omega) (by omega) (by omega) (by omega) (by omega) (by omega);have q1:pZ (Ņ b c).1 2000000000 10000:=g1;have q2:pZ (Ņ b c).2 2000000000 10000:=g2;have c1:=Au q1;have c2:=vB q2;have n3:=hn.2.2.1;have n4:=hn.2.2.2.1;unfold Φ
 try dsimp only
 omega
def kp (h:ē b) {g:ê} (hg:g∈b.2.1) {f t:Int} (hf:0≤f):0≤iQ b g f t∧iQ b g f t≤12*(20001*1048576)+40*1048576:=by
 have hr:=(h.gaugeR hg).2.2.2.2.2.2.2;have h1:=rU (id:=g.1) (t:=t) hf (x:=b.2.2.2.1) fun l hl=>Js h hl;have h2:(b.2.2.2.1.length:Int)*(20001*1048576)≤12*(20001*1048576):=fp (by have:=h.nL; omega) (by omega)
 have h3:(iU b g.1 f t).length≤40:=by
  unfold iU;rw[List.length_map];exact Nat.le_trans (List.length_filter_le _ _) h.nU
 have h4:=D0 (iU b g.1 f t)
 have hm:0≤((Y3 (iU b g.1 f t)).length:Int)*g.2.2.2.2.2∧((Y3 (iU b g.1 f t)).length:Int)*g.2.2.2.2.2≤40*1048576 :=
  ⟨fM (by omega) hr.1,fm (by omega) hr.2 hr.1 (by omega)⟩
 unfold iQ;omega
end
def iA {α β:Type} (f:Nat→α→β) {l:List α} {i:Nat} {a:α} (h:l[i]?=some a):(l.take (i+1)).mapIdx f=(l.take i).mapIdx f++[f i a]:=by
 have hi:i<l.length:=(cO.1 h).1
 have:(l.take i).length=i:=by rw[cZ]; omega
 rw[take_succ h,List.mapIdx_append];simp[this]
def sj {α:Type} (f:Nat→List α) (j:Nat):(List.range (j+1)).flatMap f=(List.range j).flatMap f++f j:=by
 rw[List.range_succ,eJ]; simp
def ŷ {α:Type} (f:Nat→List α) (n:Nat) (h:∀k,(f k).length=2):((List.range n).flatMap f).length=2*n:=by
 induction n with
 |zero=>rfl
 |succ n ih=>rw[sj,cN,ih,h]; omega
set_option maxHeartbeats 2000000 in
def afk {b:Þ} (h:ē b):Ho b=some (b,Ê b,(((Ê b).length:Int)+1,Ý b),Ŭ b):=by
 unfold Ho Xt;have hN:=h.nodes;have hG:=h.nG;have hC:=h.nC;rw[VP h.size,À,á,Õ (by omega) (by omega)]
 -- lengths of what comes
 have gl:∀g∈b.2.1,(ô b g).length≤120∧∀i,(ò b i g).length≤120:=by
  intro g hg;have:=Ht h hg;constructor
  ·unfold ô;rw[List.length_append,ŷ _ _ (fun _=>rfl)];simp only[List.length_cons,List.length_nil]; omega
  ·intro i;unfold ò;rw[List.length_append,ŷ _ _ (fun _=>rfl)];simp only[List.length_cons,List.length_nil]; omega
 have gls:∀i,((b.2.1.take i).flatMap (ô b)).length≤1440∧(((b.2.1.take i).mapIdx (ò b)).flatten).length≤1440:=by
  intro i
  induction i with
  |zero=>simp
  |succ i ih =>
   have key:∀i,i≤b.2.1.length→((b.2.1.take i).flatMap (ô b)).length≤i*120∧(((b.2.1.take i).mapIdx (ò b)).flatten).length≤i*120:=by
    intro i
    induction i with
    |zero=>intro _; simp
    |succ i ih =>
     intro hi;have ih:=ih (by omega);have hg:b.2.1[i]?=some b.2.1[i]:=cI hi;have h2:=gl _ (cR hg);have h3:=h2.2 i;rw[iA _ hg,take_succ hg,eJ,ft,cN,cN];simp only[dP,gH,dH,fY,gd];omega
   rcases dv b.2.1.length (i+1) with h1|h1
   ·rw[dS (by omega)];have:=key b.2.1.length (cJ _);rw[List.take_length] at this;omega
   ·have:=key (i+1) h1;omega
 refine ð b.2.1 (fun i=>((b.2.1.take i).flatMap (ô b),((b.2.1.take i).mapIdx (ò b)).flatten)) _ rfl (fun i g hi hg kn=>?_) (fun kn=>?_)
 ·try dsimp only
  unfold vh;have hgm:=List.mem_of_getElem? hg;have hr:=h.gaugeR hgm;have hd:=Ht h hgm;have hls:=gls i;have hat:=ako (b:=b) (p:=[g.1]) (d:=g.2.1);rw[Ô hi,Ë hg];rw[show oB ((b.1.1,b.1.2),b.2.1,b.2.2.1,b.2.2.2.1,b.2.2.2.2.1,b.2.2.2.2.2) g=oB b g from rfl,ajI h.size,À];rw[akn _ _ _ (by dsimp only; omega),À]
  try dsimp only
  have r1:=hr.2.2.2.2.2.1;have r2:=hr.2.2.2.2.2.2.1;rw[Õ (by omega) (by omega),Õ (by omega) (by omega),Õ (by omega) (by omega),Ö (by simp only[cX,dk]; omega),Am.iff_true,Ö (by simp only[cX,dk]; omega),Am.iff_true]
  refine ń (fun x:Int×List Lk×List (Int×Int)=>∃j:Nat,j+1≤(ß b g).length∧x.1=(j:Int)+1 ∧
   x.2.1=(b.2.1.take i).flatMap (ô b)++([(0,atP (Ê b) [g.1] g.2.1,g.2.2.1+g.2.2.2.1.2),(atP (Ê b) [g.1] g.2.1,0,-(g.2.2.1+g.2.2.2.1.1))] ++
    (List.range j).flatMap fun(k:Nat)=>[(atP (Ê b) [g.1] g.2.1+k,atP (Ê b) [g.1] g.2.1+k+1,0),(atP (Ê b) [g.1] g.2.1+k+1,atP (Ê b) [g.1] g.2.1+k,iQ b g ((ß b g)[k]?.getD 0) ((ß b g)[k+1]?.getD 0))]) ∧
   x.2.2=((b.2.1.take i).mapIdx (ò b)).flatten++([(1,(i:Int)),(1,(i:Int))]++(List.range j).flatMap fun _=>[(2,(i:Int)),(2,(i:Int))])) (fun x=>(ß b g).length-x.1.toNat) ?_
   ⟨0,fU (j7 g),rfl,by simp,by simp⟩
  rintro⟨x1,ls,ss⟩ ⟨j,hj,e1,e2,e3⟩;dsimp only at e1 e2 e3 ⊢;subst e1
  have hlls:ls.length≤1562:=by
   rw[e2,cN,cN,ŷ _ _ (fun _=>rfl)];simp only[cX,dk]; omega
  have hlss:ss.length≤1562:=by
   rw[e3,cN,cN,ŷ _ _ (fun _=>rfl)];simp only[cX,dk]; omega
  rcases dv (j+1) (ß b g).length with hlt|hge
  ·refine .inr ⟨((j:Int)+1+1,_,_),⟨j+1,hlt,by push_cast; rfl,rfl,rfl⟩,by dsimp only; omega,fun kn'=>?_⟩
   try dsimp only
   unfold vg
   have g1:(ß b g)[j]?=some ((ß b g)[j]?.getD 0):=by rw[cI (by omega)]; rfl
   have g2:(ß b g)[j+1]?=some ((ß b g)[j+1]?.getD 0):=by rw[cI hlt]; rfl
   have d1:=h.day hgm (cR g1);have d2:=h.day hgm (cR g2);have lb:=kp h hgm (t:=(ß b g)[j+1]?.getD 0) d1.2.1
   have ec:((j:Int)+1)=((j+1:Nat):Int):=by push_cast; rfl
   rw[ec,Ô hlt,Õ (by omega) (by omega),Õ (by omega) (by omega),Õ (by omega) (by omega),Õ (by omega) (by omega)];rw[show(((j+1:Nat):Int)-1)=((j:Nat):Int) by omega,Ë g1,Ë g2];rw[show Al ((b.1.1,b.1.2),b.2.1,b.2.2.1,b.2.2.2.1,b.2.2.2.2.1,b.2.2.2.2.2) (g.1,g.2.1,g.2.2.1,(g.2.2.2.1.1,g.2.2.2.1.2),(g.2.2.2.2.1.1,g.2.2.2.2.1.2),g.2.2.2.2.2) ((ß b g)[j]?.getD 0) ((ß b g)[j+1]?.getD 0)=Al b g ((ß b g)[j]?.getD 0) ((ß b g)[j+1]?.getD 0) from rfl];rw[anJ h hr.2.2.2.2.2.2.2 ⟨by omega,by omega⟩ ⟨by omega,by omega⟩,À,Õ (by omega) (by omega),Õ (by omega) (by omega),Ö (by simp only[cX,dk]; omega),Am.iff_true,Ö (by simp only[cX,dk]; omega),Am.iff_true,Î hlt (by omega)];rw[sj,sj,e2,e3]
   have a1:atP (Ê b) [g.1] g.2.1+((j+1:Nat):Int)-1=atP (Ê b) [g.1] g.2.1+(j:Int):=by push_cast; omega
   have a2:atP (Ê b) [g.1] g.2.1+((j+1:Nat):Int)=atP (Ê b) [g.1] g.2.1+(j:Int)+1:=by push_cast; omega
   have a3:0-(0-iQ b g ((ß b g)[j]?.getD 0) ((ß b g)[j+1]?.getD 0))=iQ b g ((ß b g)[j]?.getD 0) ((ß b g)[j+1]?.getD 0):=by omega
   rw[a1,a2,a3];simp only[di]
  ·refine .inl fun kn'=>?_
   have hje:j+1=(ß b g).length:=by omega
   unfold vg;rw[show((j:Int)+1)=(((ß b g).length:Nat):Int) by rw[←hje]; push_cast; rfl,à];dsimp only;rw[Î hi (by omega)];rw[iA _ hg,take_succ hg,List.flatMap_append,List.flatten_append,e2,e3,show j=(ß b g).length-1 by omega];simp only[List.flatMap_cons,List.flatMap_nil,List.append_nil,List.flatten_cons,List.flatten_nil];rfl
 ·try dsimp only
  unfold vh;rw[à,List.take_length];have hls:=gls b.2.1.length;rw[List.take_length] at hls
  have cl:∀i,i≤b.2.2.2.2.1.length→((b.2.2.2.2.1.take i).flatMap (Ą b)).length=2*i∧(((b.2.2.2.2.1.take i).mapIdx fun i _=>[((3:Int),(i:Int)),((3:Int),(i:Int))]).flatten).length=2*i:=by
   intro i
   induction i with
   |zero=>intro _; simp
   |succ i ih =>
    intro hi;have ih:=ih (by omega);have hg:b.2.2.2.2.1[i]?=some b.2.2.2.2.1[i]:=cI hi;rw[iA _ hg,take_succ hg,eJ,ft,cN,cN];simp only[dP,gH,dH,fY,gd,Ą,cX,dk];omega
  refine ð b.2.2.2.2.1 (fun i=>(b.2.1.flatMap (ô b)++(b.2.2.2.2.1.take i).flatMap (Ą b),(b.2.1.mapIdx (ò b)).flatten++((b.2.2.2.2.1.take i).mapIdx fun i _=>[((3:Int),(i:Int)),((3:Int),(i:Int))]).flatten)) _ (by simp) (fun i c hi hc kn'=>?_) (fun kn'=>?_)
  ·try dsimp only
   unfold vf;have hcm:=List.mem_of_getElem? hc;have hn:=(Χ c).1 (h.nums hcm);have ha:=ķ hn.2.2.2.2.2.1;have hb:=ķ hn.2.2.2.2.2.2;have sb:=Cw h hcm;have c1:=cl i (by omega);rw[Ô hi,Ë hc,rV (by omega) (by omega),À,akn _ _ _ (by dsimp only; omega),À,rV (by omega) (by omega),À,akn _ _ _ (by dsimp only; omega),À];rw[show vN ((b.1.1,b.1.2),b.2.1,b.2.2.1,b.2.2.2.1,b.2.2.2.2.1,b.2.2.2.2.2) c=vN b c from rfl,h.says hcm,À];rw[Õ (by omega) (by omega),Ö (by simp only[List.length_append,List.length_cons,List.length_nil]; omega),Am.iff_true,Ö (by simp only[List.length_append,List.length_cons,List.length_nil]; omega),Am.iff_true,Î hi (by omega),iA _ hc,take_succ hc,List.flatMap_append,List.flatten_append];simp only[List.flatMap_cons,List.flatMap_nil,List.append_nil,List.flatten_cons,List.flatten_nil,List.append_assoc,Int.zero_sub];rfl
  ·try dsimp only
   unfold vf;rw[à,List.take_length];rfl
section
variable {ρ:Type}
def wv (w:List Bool) (v:Int):Bool:=w[v.toNat]?.getD false
def aex {w:List Bool} {u v:Int} (hu:0≤u) (hv:0≤v) (h:u.toNat<w.length) (y:Bool):wv (w.set u.toNat y) v=if v=u then y else wv w v:=by
 unfold wv;rw[List.getElem?_set]
 by_cases hvu:v=u
 ·subst hvu; simp[h]
 ·have:¬u.toNat=v.toNat:=by omega
  simp[hvu,this]
def ka {x:List Int} {v:Int} (h:v.toNat<x.length) (f:Int→Option ρ):ĺ x v.toNat f=f (gv x v):=jo (UQ h) f
def VS {w:List Bool} {v:Int} (h:v.toNat<w.length) (f:Bool→Option ρ):ĺ w v.toNat f=f (wv w v):=by
 refine jo ?_ f;unfold wv; rw[List.getElem?_eq_getElem h]; rfl
def Ě {v:Int} {n:Nat} (h0:0≤v) (h1:v<n) (x:Option ρ):ã ((ile 0 v)&&(ilt v (n:Int))) x=x:=by
 have:((ile 0 v)&&(ilt v (n:Int)))=true:=by simp[ile,ilt,h0,h1]
 rw[this,Am.iff_true]
end
def pC (n least:Int):List Lk→List Int→List Bool→List Int→Bool×List Int×List Bool×List Int
 |[],x,w,q=>(true,x,w,q)
 |l::t,x,w,q =>
  if l.1≠n then pC n least t x w q else
  if gv x l.2.1≤gv x n+l.2.2 then pC n least t x w q else
  if gv x n+l.2.2<least then(false,x.set l.2.1.toNat (gv x n+l.2.2),w,q) else
  if wv w l.2.1 then pC n least t (x.set l.2.1.toNat (gv x n+l.2.2)) w q else pC n least t (x.set l.2.1.toNat (gv x n+l.2.2)) (w.set l.2.1.toNat true) (q++[l.2.1])
structure iK (L:List Lk) (N:Nat) (M:Int):Prop where
 inr:InR L N
 noloop:∀l∈L,l.1≠l.2.1
 most:∀l∈L,-M≤l.2.2∧l.2.2≤M
 len:L.length≤400
 nodes:N≤1000
 m0:0≤M
 m1:M≤4503599627370496
set_option maxHeartbeats 1000000 in
def alP {ρ:Type} {L:List Lk} {N:Nat} {M:Int} (hL:iK L N M) {n least:Int} (hn:0≤n∧n<N) {x:List Int} {w:List Bool} {q:List Int} (hx:x.length=N) (hw:w.length=N) (hq:q.length≤1000000)
 (hb : -2305843009213693952≤gv x n∧gv x n≤2305843009213693952) (K0:(Val (.pair .bool (.pair (.slice tI) (.pair (.slice .bool) (.slice tI)))))→Option ρ) (K1:(Val (.pair (.slice tI) (.pair (.slice .bool) (.slice tI))))→Option ρ) :
 Ò (fun(v47:(Val (.pair tI (.pair (.slice tI) (.pair (.slice .bool) (.slice tI)))))) kk52=>je [] least n L (Ú L) v47.1 v47.2.1 v47.2.2.1 v47.2.2.2 (fun u48 u49 u50 u51=>kk52 (u48,u49,u50,u51)) K0 K1) ((0:Int),x,w,q) =
  match pC n least L x w q with
  |(true,r)=>K1 r
  |(false,r)=>K0 (false,r):=by
 have hlen:=hL.len
 refine GS L (fun i (s:List Int×List Bool×List Int) t=>match pC n least t s.1 s.2.1 s.2.2 with|(true,r)=>K1 r|(false,r)=>K0 (false,r))
  (fun i s=>s.1.length=N∧s.2.1.length=N∧gv s.1 n=gv x n∧s.2.2.length≤1000000+i) (fun s hs kn=>?_) (fun i l t s hd hi hl hI kn hk=>?_) (s:=(x,w,q)) ⟨hx,hw,rfl,by simpa using hq⟩
 ·try dsimp only
  unfold je;rw[à];rfl
 ·obtain⟨y,u,p⟩:=s;obtain⟨h1,h2,h3,h4⟩:=hI;dsimp only at h1 h2 h3 h4 hk ⊢;have hmem:l∈L:=List.mem_of_getElem? hl;have hr:=hL.inr l hmem;have hm:=hL.most l hmem;have hm1:=hL.m1;have hnl:=hL.noloop l hmem;unfold je;rw[Ô hi,Ë hl];unfold pC
  by_cases hln:l.1=n
  ·have e0:ine l.1 n=false:=by simp[ine,hln]
   rw[Ð e0];have e1:∀(f:Bool→Option ρ) (g:Option ρ),YH (k:=tI) (v:=.bool) (i:Int) [] f g=g:=fun f g=>rfl;rw[e1,if_neg (by simp[hln])]
   have tn:n.toNat<y.length:=by omega
   have tt:l.2.1.toNat<y.length:=by omega
   have tu:l.2.1.toNat<u.length:=by omega
   rw[Ě hn.1 (by omega),ka tn,Õ (by omega) (by omega),Ě hr.2.1 (by omega),ka tt,Ĥ]
   by_cases hge:gv y l.2.1≤gv y n+l.2.2
   ·rw[if_pos (by simpa[ige] using hge),if_pos hge,Î hi (by omega)];exact hk (y,u,p) ⟨h1,h2,h3,by dsimp only; omega⟩
   ·rw[if_neg (by simpa[ige] using hge),if_neg hge]
    have hset:gv (y.set l.2.1.toNat (gv y n+l.2.2)) n=gv x n:=by
     rw[zb hr.2.1 hn.1 tt,if_neg (fun h=>hnl (hln.trans h)),h3]
    have hself:gv (y.set l.2.1.toNat (gv y n+l.2.2)) l.2.1=gv y n+l.2.2:=by
     rw[zb hr.2.1 hr.2.1 tt,if_pos rfl]
    rw[Ě hn.1 (by omega),ka tn,Õ (by omega) (by omega),Ě hr.2.1 (by omega),ka tt];rw[show(þ (List.set y l.2.1.toNat (gv y n+l.2.2)))=((y.length:Nat):Int) by simp[þ]];rw[Ě hr.2.1 (by omega),ka (by simpa using tt),hself,Ĥ]
    by_cases hlt:gv y n+l.2.2<least
    ·rw[if_pos (by simpa[ilt] using hlt),if_pos hlt]
    ·rw[if_neg (by simpa[ilt] using hlt),if_neg hlt,Ě hr.2.1 (by omega),VS tu,Ĥ]
     cases hwv:wv u l.2.1 with
     |true =>
      rw[if_neg (by simp),if_pos rfl,Î hi (by omega)];exact hk (y.set l.2.1.toNat (gv y n+l.2.2),u,p) ⟨by simpa using h1,h2,hset,by dsimp only; omega⟩
     |false =>
      rw[if_pos (by simp),if_neg (by simp),Ö (by simp only[dC]; omega),Am.iff_true,Ě hr.2.1 (by omega),VS tu,Î hi (by omega)];exact hk (y.set l.2.1.toNat (gv y n+l.2.2),u.set l.2.1.toNat true,p++[l.2.1]) ⟨by simpa using h1,by simpa using h2,hset,by simp only[cN,dC]; omega⟩
  ·have e0:ine l.1 n=true:=by simp[ine,hln]
   rw[Ó e0,if_pos hln,Î hi (by omega)];exact hk (y,u,p) ⟨h1,h2,h3,by dsimp only; omega⟩
structure amQ (N:Nat) (n least:Int) (L:List Lk) (x:List Int) (q:List Int) (x':List Int) (w':List Bool) (q':List Int):Prop where
 lx:x'.length=N
 lw:w'.length=N
 same:gv x' n=gv x n
 le:∀v:Int,0≤v→v<N→gv x' v≤gv x v
 link:∀v m,(n,v,m)∈L→gv x' v≤gv x n+m
 chg:∀v:Int,0≤v→v<N→gv x' v=gv x v∨(v∈q'∧gv x' v<gv x v∧∃m,(n,v,m)∈L∧gv x' v=gv x n+m∧least≤gv x' v)
 new:∃l,q'=q++l∧∀v∈l,(0≤v∧v<N)∧gv x' v<gv x v
 nodup:q'.Nodup
 waits:∀v:Int,0≤v→v<N→(wv w' v=true↔v∈q')
def kD {N:Nat} {n least:Int} (hn:0≤n∧n<N):∀{L:List Lk},InR L N→(∀l∈L,l.1≠l.2.1)→∀{x:List Int} {w:List Bool} {q:List Int},x.length=N→w.length=N→q.Nodup→(∀v:Int,0≤v→v<N→(wv w v=true↔v∈q)) →
 ∀{x':List Int} {w':List Bool} {q':List Int},pC n least L x w q=(true,x',w',q')→amQ N n least L x q x' w' q'
 |[],_,_,x,w,q,hx,hw,hq,hwq,x',w',q',h=>by
  cases h;exact⟨hx,hw,rfl,fun _ _ _=>dF _,fun _ _ h=>(by cases h),fun _ _ _=>.inl rfl,⟨[],by simp,fun _ h=>by cases h⟩,hq,hwq⟩
 |l::t,hL,hnl,x,w,q,hx,hw,hq,hwq,x',w',q',h=>by
  have hLt:InR t N:=fun l hl=>hL l (by simp[hl]);have hnt:∀l∈t,l.1≠l.2.1:=fun l hl=>hnl l (by simp[hl]);have hr:=hL l (by simp);have hl0:=hnl l (by simp);unfold pC at h
  split at h
  ·rename_i hne;have a:=kD hn hLt hnt hx hw hq hwq h
   exact⟨a.lx,a.lw,a.same,a.le,fun v m hm=>by
    rcases cW.1 hm with rfl|hm
    ·exact(hne rfl).elim
    ·exact a.link v m hm,fun v h0 h1=>(a.chg v h0 h1).imp id fun⟨g1,g2,m,g3,g4⟩=>⟨g1,g2,m,by simp[g3],g4⟩,a.new,a.nodup,a.waits⟩
  ·rename_i hne
   have hln:l.1=n:=by simpa using hne
   split at h
   ·rename_i hle;have a:=kD hn hLt hnt hx hw hq hwq h
    exact⟨a.lx,a.lw,a.same,a.le,fun v m hm=>by
     rcases cW.1 hm with rfl|hm
     ·have:=a.le v hr.2.1 hr.2.2; simp only at hle; omega
     ·exact a.link v m hm,fun v h0 h1=>(a.chg v h0 h1).imp id fun⟨g1,g2,m,g3,g4⟩=>⟨g1,g2,m,by simp[g3],g4⟩,a.new,a.nodup,a.waits⟩
   ·rename_i hgt
    split at h
    ·cases h
    ·rename_i hls
     have tt:l.2.1.toNat<x.length:=by omega
     have tw:l.2.1.toNat<w.length:=by omega
     have hy:(x.set l.2.1.toNat (gv x n+l.2.2)).length=N:=by simpa using hx
     have hyn:gv (x.set l.2.1.toNat (gv x n+l.2.2)) n=gv x n:=by
      rw[zb hr.2.1 hn.1 tt,if_neg (fun h=>hl0 (hln.trans h))]
     have hyv:∀v,0≤v→gv (x.set l.2.1.toNat (gv x n+l.2.2)) v=if v=l.2.1 then gv x n+l.2.2 else gv x v:=fun v h0=>zb hr.2.1 h0 tt _
     have hlm:(n,l.2.1,l.2.2)∈l::t:=by rw[←hln]; simp
     -- what both ways have in common
     have fin:∀{w1:List Bool} {q1:List Int},amQ N n least t (x.set l.2.1.toNat (gv x n+l.2.2)) q1 x' w' q'→l.2.1∈q1→(∃l',q1=q++l'∧∀v∈l',v=l.2.1)→amQ N n least (l::t) x q x' w' q':=by
      intro w1 q1 a hmem hq1;obtain⟨new,hnew,hnv⟩:=a.new;obtain⟨l',hl',hlv⟩:=hq1
      have hto:gv x' l.2.1≤gv x n+l.2.2:=by
       have:=a.le l.2.1 hr.2.1 hr.2.2;rw[hyv _ hr.2.1,if_pos rfl] at this;exact this
      refine⟨a.lx,a.lw,a.same.trans hyn,fun v h0 h1=>?_,fun v m hm=>?_,fun v h0 h1=>?_,⟨l'++new,by rw[hnew,hl',di],fun v hv=>?_⟩,a.nodup,a.waits⟩
      ·have:=a.le v h0 h1;rw[hyv v h0] at this
       split at this
       ·rename_i e; subst e; omega
       ·exact this
      ·rcases cW.1 hm with rfl|hm
       ·exact hto
       ·have:=a.link v m hm
        rwa [hyn] at this
      ·rcases a.chg v h0 h1 with g|⟨g1,g2,m,g3,g4,g5⟩
       ·rw[hyv v h0] at g
        split at g
        ·rename_i e;subst e;exact .inr ⟨by rw[hnew]; exact dY _ hmem,by omega,l.2.2,hlm,g,by omega⟩
        ·exact .inl g
       ·rw[hyv v h0] at g2;rw[hyn] at g4;refine .inr ⟨g1,?_,m,by simp[g3],g4,g5⟩
        split at g2
        ·rename_i e; subst e; omega
        ·exact g2
      ·rcases cQ.1 hv with hv|hv
       ·rw[hlv v hv]; exact⟨hr.2,by omega⟩
       ·obtain⟨g1,g2⟩:=hnv v hv;rw[hyv v g1.1] at g2;refine⟨g1,?_⟩
        split at g2
        ·rename_i e; subst e; omega
        ·exact g2
     split at h
     ·rename_i hwt;exact fin (w1:=w) (kD hn hLt hnt hy hw hq hwq h) ((hwq _ hr.2.1 hr.2.2).1 hwt) ⟨[],by simp,fun _ h=>by cases h⟩
     ·rename_i hwt;have hnq:l.2.1∉q:=fun hc=>hwt ((hwq _ hr.2.1 hr.2.2).2 hc);refine fin (w1:=w.set l.2.1.toNat true) (kD hn hLt hnt hy (by simpa using hw) ?_ ?_ h) (by simp) ⟨[l.2.1],rfl,fun v hv=>by simpa using hv⟩
      ·rw[List.nodup_append];exact⟨hq,by simp,fun a ha b hb=>by simp at hb; subst hb; exact fun e=>hnq (e▸ha)⟩
      ·intro v h0 h1;rw[aex hr.2.1 h0 tw]
       by_cases hv:v=l.2.1
       ·simp[hv]
       ·simp only[hv,if_false,cQ,cY,or_false];exact hwq v h0 h1
def ni {n least:Int}:∀{L:List Lk},(∀l∈L,l.1≠l.2.1)→(∀l∈L,0≤l.2.1)→0≤n→∀{x:List Int} {w:List Bool} {q:List Int} {r},pC n least L x w q=(false,r)→∃v m,(n,v,m)∈L∧gv x n+m<least
 |[],_,_,_,x,w,q,r,h=>by cases h
 |l::t,hnl,h0,hn,x,w,q,r,h=>by
  have hnt:∀l∈t,l.1≠l.2.1:=fun l hl=>hnl l (by simp[hl]);have h0t:∀l∈t,0≤l.2.1:=fun l hl=>h0 l (by simp[hl]);have up:(∃v m,(n,v,m)∈t∧gv x n+m<least)→∃v m,(n,v,m)∈l::t∧gv x n+m<least:=fun⟨v,m,g1,g2⟩=>⟨v,m,by simp[g1],g2⟩;unfold pC at h
  split at h
  ·exact up (ni hnt h0t hn h)
  ·rename_i hne
   have hln:l.1=n:=by simpa using hne
   split at h
   ·exact up (ni hnt h0t hn h)
   ·split at h
    ·rename_i hlt;exact⟨l.2.1,l.2.2,by rw[←hln]; simp,hlt⟩
    ·have hyn:gv (x.set l.2.1.toNat (gv x n+l.2.2)) n=gv x n:=by
      unfold gv;rw[List.getElem?_set];have h1:=hnl l (by simp);have h2:=h0 l (by simp)
      have:¬l.2.1.toNat=n.toNat:=by omega
      simp[this]
     split at h
     ·have:=ni hnt h0t hn h;rw[hyn] at this;exact up this
     ·have:=ni hnt h0t hn h;rw[hyn] at this;exact up this
def afd {ρ:Type} {L:List Lk} {N:Nat} {M:Int} (hL:iK L N M) {n least:Int} (hn:0≤n∧n<N) {x:List Int} {w:List Bool} {t rest:List Int} (hx:x.length=N) (hw:w.length=N) (ht:t.length=N) (hq:rest.length≤1000000)
 (hb : -2305843009213693952≤gv x n∧gv x n≤2305843009213693952) (htn:0≤gv t n∧gv t n≤1000000) (kn:List Int→List Bool→List Int→List Int→Option ρ) (k0:(Val (.pair .bool (.pair (.slice tI) (.pair (.slice .bool) (.pair (.slice tI) (.slice tI))))))→Option ρ) :
 ĭ [] least (N:Int) L x w t (n::rest) kn k0 =
  if (N:Int)+1<gv t n+1 then k0 (false,x,w.set n.toNat false,t.set n.toNat (gv t n+1),rest) else
  match pC n least L x (w.set n.toNat false) rest with
  |(true,x',w',q')=>kn x' w' (t.set n.toNat (gv t n+1)) q'
  |(false,x',w',q')=>k0 (false,x',w',t.set n.toNat (gv t n+1),q'):=by
 have hN:=hL.nodes
 have tn:n.toNat<x.length:=by omega
 have tw:n.toNat<w.length:=by omega
 have tt:n.toNat<t.length:=by omega
 unfold ĭ
 have e0:ieq (Ú (n::rest)) 0=false:=by
  rw[á];simp only[ieq,cX,beq_eq_false_iff_ne,ne_eq];omega
 have e1:ilt (0:Int) (þ (n::rest))=true:=by simp[ilt,þ]
 have e2:ile (1:Int) (þ (n::rest))=true:=by simp[ile,þ]; omega
 have e3:decide (1+(List.length (n::rest)-1)=List.length (n::rest))=true:=by simp; omega
 rw[Ð e0,ĝ e1];rw[show ĺ (n::rest) 0=fun(f:Int→Option ρ)=>f n from rfl]
 try dsimp only
 rw[ĝ e2,ĝ e3,Ě hn.1 (by omega),VS tw,Ě hn.1 (by omega),ka tt,Õ (by omega) (by omega),Ě hn.1 (by omega),ka tt];rw[show(þ (List.set t n.toNat (gv t n+1)))=((t.length:Nat):Int) by simp[þ]];rw[Ě hn.1 (by omega),ka (by simpa using tt),zb hn.1 hn.1 tt,if_pos rfl,Õ (by omega) (by omega),Ĥ];rw[show List.drop 1 (n::rest)=rest from rfl]
 by_cases hlt:(N:Int)+1<gv t n+1
 ·rw[if_pos (by simpa[igt] using hlt),if_pos hlt]
 ·rw[if_neg (by simpa[igt] using hlt),if_neg hlt];rw[alP hL hn hx (w:=w.set n.toNat false) (by simpa using hw) hq hb];generalize pC n least L x (w.set n.toNat false) rest=r;obtain⟨b,x',w',q'⟩:=r
  cases b<;>rfl
def aip {ρ:Type} {L:List Lk} {N:Int} {least:Int} {x:List Int} {w:List Bool} {t:List Int} (kn:List Int→List Bool→List Int→List Int→Option ρ) (k0:(Val (.pair .bool (.pair (.slice tI) (.pair (.slice .bool) (.pair (.slice tI) (.slice tI))))))→Option ρ) :
 ĭ [] least N L x w t [] kn k0=k0 (true,x,w,t,[]):=by
 unfold ĭ
 have e0:ieq (Ú ([]:List Int)) 0=true:=by rw[á]; rfl
 rw[Ó e0]
def XQ (N:Nat) (t:List Int):Nat:=(t.map fun a=>((N:Int)+2-a).toNat).sum
def afo (N:Nat):∀(t:List Int) (i:Nat) (a b:Int),t[i]?=some a→a<b→a<(N:Int)+2→XQ N (t.set i b)<XQ N t
 |a0::t,0,a,b,h,h1,h2=>by
  simp at h; subst h;simp only[XQ,List.set_cons_zero,ew,List.sum_cons];omega
 |a0::t,i+1,a,b,h,h1,h2=>by
  have:=afo N t i a b (by simpa using h) h1 h2;simp only[XQ] at this;simp only[XQ,List.set_cons_succ,ew,List.sum_cons];omega
def abf {N:Nat} {t:List Int} {n:Int} (hn:n.toNat<t.length) (h:gv t n≤(N:Int)+1):XQ N (t.set n.toNat (gv t n+1))<XQ N t :=
 afo N t n.toNat (gv t n) _ (UQ hn) (by omega) (by omega)
structure ahN (L:List Lk) (S:Int→Prop) (N:Nat) (M:Int) (k:Nat) (A B:List Int) (x:List Int) (w:List Bool) (t q:List Int):Prop where
 q_eq:q=A++B
 lx:x.length=N
 lw:w.length=N
 lt:t.length=N
 nodup:q.Nodup
 rng:∀v∈q,0≤v∧v<N
 waits:∀v:Int,0≤v→v<N→(wv w v=true↔v∈q)
 t0:∀v:Int,0≤v→v<N→0≤gv t v∧gv t v≤(k:Int)+1
 tA:∀v∈A,gv t v≤k
 low:∀vs v d,Wl L S vs v d→vs.length≤k→gv x v≤d
 nxt:∀vs u d,Wl L S vs u d→vs.length≤k→u∉A→∀v m,(u,v,m)∈L→gv x v≤d+m
 rel:∀u:Int,0≤u→u<N→u∉q→gv x u≠ľ→∀v m,(u,v,m)∈L→gv x v≤gv x u+m
 att:∀v:Int,0≤v→v<N→gv x v≠ľ→∃vs,Wl L S vs v (gv x v)
 bd:∀v:Int,0≤v→v<N→gv x v=ľ∨gv x v≤((k:Int)+1)*M
 bA:∀v∈A,gv x v≤(k:Int)*M
 fin:∀v∈q,gv x v<ľ
 kN:k+1≤N
 last:k+1=N→B=[]
section
variable {L:List Lk} {S:Int→Prop} {N:Nat} {M:Int} {p:Int→Int} {k:Nat} {A B x:List Int} {w:List Bool} {t q:List Int}
def MV {a b:Nat} {M:Int} (h:a≤b) (hM:0≤M):(a:Int)*M≤(b:Int)*M:=fp (by omega) hM
def Wl.lt_free (hL:iK L N M) (hNM:N*M<ľ) {vs:List Int} {v d:Int} (hw:Wl L S vs v d) (h:vs.length≤N):d<ľ:=by
 have h1:=hw.high fun l hl=>(hL.most l hl).2;have h2:=MV h hL.m0;omega
def ahN.next (hL:iK L N M) (hNM:N*M<ľ) (hS:∀v,S v→0≤v∧v<N) (h:ahN L S N M k [] B x w t q) (hB:B≠[]):ahN L S N M (k+1) B [] x w t q:=by
 have hM:=hL.m0
 have hq:q=B:=by simpa using h.q_eq
 have hk:k+1≠N:=fun e=>hB (h.last e);have hkN:=h.kN
 have low':∀vs v d,Wl L S vs v d→vs.length≤k+1→gv x v≤d:=by
  intro vs v d hw hl
  cases hw with
  |nil hs=>exact h.low [] v 0 (.nil hs) (by simp)
  | @step vs u _ m d hw hlk=>exact h.nxt vs u d hw (by simpa using hl) (by simp) v m hlk
 refine⟨by simp[hq],h.lx,h.lw,h.lt,h.nodup,h.rng,h.waits,fun v h0 h1=>⟨(h.t0 v h0 h1).1,by have:=(h.t0 v h0 h1).2; push_cast; omega⟩,fun v hv=>?_,low',fun vs u d hw hl hu v m hlk=>?_,h.rel,h.att,fun v h0 h1=>?_,fun v hv=>?_,h.fin,by omega,fun _=>rfl⟩
 ·have:=h.rng v (by rw[hq]; exact hv);have:=(h.t0 v this.1 this.2).2;push_cast; omega
 ·have h1:=low' vs u d hw hl;have h2:=hw.lt_free hL hNM (by omega);have h3:=(hw.range hL.inr hS).1;have:=h.rel u h3.1 h3.2 (by rw[hq]; exact hu) (by omega) v m hlk;omega
 ·rcases h.bd v h0 h1 with h2|h2
  ·exact .inl h2
  ·refine .inr ?_;have:=MV (show k+1≤k+1+1 by omega) hM;push_cast at this ⊢;omega
 ·have h1:=h.rng v (by rw[hq]; exact hv);have h2:=h.fin v (by rw[hq]; exact hv);rcases h.bd v h1.1 h1.2 with h3|h3
  ·omega
  ·push_cast; exact h3
def ahN.step {n:Int} {A':List Int} {least:Int} {x':List Int} {w':List Bool} {q':List Int} (hL:iK L N M) (hNM:N*M<ľ) (hp:Pot L p) (hS:∀v,S v→0≤v∧v<N) (h:ahN L S N M k (n::A') B x w t q)
 (ha:amQ N n least L x (A'++B) x' w' q'):∃B',ahN L S N M k A' B' x' w' (t.set n.toNat (gv t n+1)) q':=by
 have hM:=hL.m0
 have hq:q=n::(A'++B):=by simpa using h.q_eq
 have hkN:=h.kN;have hnr:=h.rng n (by rw[hq]; simp);have hnf:=h.fin n (by rw[hq]; simp)
 have hnd:n∉A'++B:=by have:=h.nodup; rw[hq,fF] at this; exact this.1
 have htn:n.toNat<t.length:=by have:=h.lt; omega
 have tset:∀v,0≤v→gv (t.set n.toNat (gv t n+1)) v=if v=n then gv t n+1 else gv t v:=fun v h0=>zb hnr.1 h0 htn _
 have hkM:((k:Int)+1)*M<ľ:=by
  have:=MV hkN hM;push_cast at this;omega
 have xle:∀v:Int,0≤v→v<N→gv x v≤ľ:=fun v h0 h1=>by rcases h.bd v h0 h1 with h2|h2<;>omega
 obtain⟨l,hl,hlv⟩:=ha.new
 have att':∀v:Int,0≤v→v<N→gv x' v≠ľ→∃vs,Wl L S vs v (gv x' v):=by
  intro v h0 h1 hne;rcases ha.chg v h0 h1 with g|⟨_,_,m,g3,g4,_⟩
  ·rw[g] at hne ⊢; exact h.att v h0 h1 hne
  ·obtain⟨vs,hw⟩:=h.att n hnr.1 hnr.2 (by omega);rw[g4]; exact⟨_,hw.step g3⟩
 refine⟨B++l,by rw[hl,di],ha.lx,ha.lw,by rw[eO]; exact h.lt,ha.nodup,fun v hv=>?_,ha.waits,fun v h0 h1=>?_,fun v hv=>?_,fun vs v d hw hlen=>?_,fun vs u d hw hlen hu v m hlk=>?_,
  fun u h0 h1 hu hf v m hlk=>?_,att',fun v h0 h1=>?_,fun v hv=>?_,fun v hv=>?_,hkN,fun hk=>?_⟩
 ·rw[hl] at hv;rcases cQ.1 hv with hv|hv
  ·exact h.rng v (by rw[hq]; simp only[cW]; exact .inr hv)
  ·exact(hlv v hv).1
 ·rw[tset v h0];have h2:=h.t0 v h0 h1
  split
  ·have h3:=h.tA n (by simp);have h4:=h.t0 n hnr.1 hnr.2;omega
  ·exact h2
 ·have h1:=h.rng v (by rw[hq]; simp[hv]);rw[tset v h1.1,if_neg (fun e=>hnd (by rw[←e]; simp[hv]))];exact h.tA v (by simp[hv])
 ·have h1:=h.low vs v d hw hlen;have h2:=(hw.range hL.inr hS).1;have:=ha.le v h2.1 h2.2;omega
 ·have hvr:=(hL.inr _ hlk).2
  by_cases hun:u=n
  ·subst hun;have h1:=ha.link v m hlk;have h2:=h.low vs u d hw hlen;omega
  ·have h1:=h.nxt vs u d hw hlen (by simp[hun,hu]) v m hlk;have:=ha.le v hvr.1 hvr.2;omega
 ·have hvr:=(hL.inr _ hlk).2
  have heq:gv x' u=gv x u:=by
   rcases ha.chg u h0 h1 with g|⟨g,_⟩
   ·exact g
   ·exact(hu g).elim
  by_cases hun:u=n
  ·subst hun;have h1:=ha.link v m hlk;omega
  ·have hur:u∉q:=by
    rw[hq];intro hc;rcases cW.1 hc with e|hc
    ·exact hun e
    ·exact hu (by rw[hl]; exact dY _ hc)
   have h2:=h.rel u h0 h1 hur (by rw[←heq]; exact hf) v m hlk;have:=ha.le v hvr.1 hvr.2;omega
 ·rcases ha.chg v h0 h1 with g|⟨_,_,m,g3,g4,_⟩
  ·rw[g]; exact h.bd v h0 h1
  ·have h2:=h.bA n (by simp);have h3:=(hL.most _ g3).2;simp only at h3;refine .inr ?_;rw[g4,fV,gi];omega
 ·have h1:=h.rng v (by rw[hq]; simp[hv]);have h2:=h.bA v (by simp[hv]);have:=ha.le v h1.1 h1.2;omega
 ·rw[hl] at hv;rcases cQ.1 hv with hv|hv
  ·have h1:=h.rng v (by rw[hq]; simp only[cW]; exact .inr hv);have h2:=h.fin v (by rw[hq]; simp only[cW]; exact .inr hv);have:=ha.le v h1.1 h1.2;omega
  ·obtain⟨g1,g2⟩:=hlv v hv;have:=xle v g1.1 g1.2;omega
 ·rw[h.last hk]
  cases l with
  |nil=>rfl
  |cons v l =>
   exfalso;obtain⟨g1,g2⟩:=hlv v (by simp);have:=xle v g1.1 g1.2;obtain⟨vs,hw⟩:=att' v g1.1 g1.2 (by omega);obtain⟨vs',d',k1,k2,k3⟩:=hw.simple hp;have k4:=k1.short hL.inr hS k3;have:=h.low vs' v d' k1 (by omega);omega
def ahN.done (hL:iK L N M) (hNM:N*M<ľ) (hp:Pot L p) (hS:∀v,S v→0≤v∧v<N) (h:ahN L S N M k A B x w t []):ahP L S N (gv x):=by
 have hkN:=h.kN;have hM:=hL.m0
 have hkM:((k:Int)+1)*M<ľ:=by
  have:=MV hkN hM;push_cast at this;omega
 have key:∀vs v d,Wl L S vs v d→vs.length+1≤N→gv x v≤d:=by
  intro vs v d hw
  induction hw with
  |nil hs=>intro _; exact h.low [] _ 0 (.nil hs) (by simp)
  | @step vs u v m d hw hlk ih =>
   intro hlen;simp only[cX] at hlen;have h1:=ih (by omega);have h2:=hw.lt_free hL hNM (by omega);have h3:=(hw.range hL.inr hS).1;have:=h.rel u h3.1 h3.2 (by simp) (by omega) v m hlk;omega
 refine⟨h.att,fun v vs d hw=>?_,fun v h0 h1=>?_⟩
 ·obtain⟨vs',d',k1,k2,k3⟩:=hw.simple hp;have:=key vs' v d' k1 (k1.short hL.inr hS k3);omega
 ·rcases h.bd v h0 h1 with h2|h2<;>omega
def YY {ρ:Type} {r:Option ρ} (hL:iK L N M) (hNM:N*M<ľ) (hp:Pot L p) (hS:∀v,S v→0≤v∧v<N) (k0:(Val (.pair .bool (.pair (.slice tI) (.pair (.slice .bool) (.pair (.slice tI) (.slice tI))))))→Option ρ)
 (hK:∀x w t q,x.length=N→ahP L S N (gv x)→k0 (true,x,w,t,q)=r) (h:ahN L S N M k A B x w t q) :
 Ò (fun(v64:(Val (.pair (.slice tI) (.pair (.slice .bool) (.pair (.slice tI) (.slice tI)))))) kk69=>ĭ [] (MU L) (N:Int) L v64.1 v64.2.1 v64.2.2.1 v64.2.2.2 (fun u65 u66 u67 u68=>kk69 (u65,u66,u67,u68)) k0) (x,w,t,q)=r:=by
 refine ń (fun s:List Int×List Bool×List Int×List Int=>∃k A B,ahN L S N M k A B s.1 s.2.1 s.2.2.1 s.2.2.2) (fun s=>XQ N s.2.2.1) ?_ ⟨k,A,B,h⟩;rintro⟨x,w,t,q⟩ ⟨k,A,B,h⟩;dsimp only at h ⊢;have hN:=hL.nodes
 cases q with
 |nil=>exact .inl fun kn=>by rw[aip]; exact hK x w t [] h.lx (h.done hL hNM hp hS)
 |cons n rest =>
  -- the phase in which the first one is
  have hph:∃k A' B,ahN L S N M k (n::A') B x w t (n::rest):=by
   cases A with
   |nil =>
    have hB:B=n::rest:=by simpa using h.q_eq.symm
    subst hB;exact⟨k+1,rest,[],h.next hL hNM hS (by simp)⟩
   |cons a A' =>
    have:=h.q_eq;simp only[eS,List.cons.injEq] at this;obtain⟨rfl,_⟩:=this;exact⟨k,A',B,h⟩
  clear h k A B;obtain⟨k,A',B,h⟩:=hph
  have hrest:rest=A'++B:=by have:=h.q_eq; simpa using this
  have hnr:=h.rng n (by simp);have hnf:=h.fin n (by simp);have hkN:=h.kN;have h1:=h.tA n (by simp);have h2:=h.t0 n hnr.1 hnr.2;obtain⟨vs,hw⟩:=h.att n hnr.1 hnr.2 (by omega);have hlow:=hw.low' hp
  have hneg : -(400*4503599627370496)≤MU L:=by
   have:∀L':List Lk,(∀l∈L',-M≤l.2.2)→-((L'.length:Int)*M)≤MU L':=by
    intro L'
    induction L' with
    |nil=>intro _; simp[MU,LH]
    |cons l t ih =>
     intro hh;have i1:=ih fun l hl=>hh l (by simp[hl]);have i2:=hh l (by simp);have i3:=hL.m0;unfold MU at i1 ⊢;simp only[LH,if_true,List.length_cons,Int.natCast_succ,Int.add_mul,Int.one_mul];omega
   have h3:=this L fun l hl=>(hL.most l hl).1;have h4:(L.length:Int)*M≤400*4503599627370496:=fm (by have:=hL.len; omega) hL.m1 hL.m0 (by omega);omega
  have hrl:rest.length≤1000000:=by
   have:=aeZ N (n::rest) h.nodup h.rng;simp only[cX] at this;omega
  refine .inr ?_
  have hw':(w.set n.toNat false).length=N:=by rw[eO]; exact h.lw
  cases hr:pC n (MU L) L x (w.set n.toNat false) rest with
  |mk b r' =>
  obtain⟨x',w',q'⟩:=r'
  cases b with
  |false =>
   exfalso;obtain⟨v,m,g1,g2⟩:=ni hL.noloop (fun l hl=>(hL.inr l hl).2.1) hnr.1 hr;have:=(hw.step g1).low' hp;omega
  |true =>
   have hnd:=h.nodup;rw[fF] at hnd
   have ha:=kD hnr hL.inr hL.noloop h.lx hw' hnd.2 (fun v h0 h1=>by
    rw[aex hnr.1 h0 (by have:=h.lw; omega)]
    by_cases hv:v=n
    ·subst hv; simp[hnd.1]
    ·rw[if_neg hv,h.waits v h0 h1]
     simp[hv]) hr
   rw[hrest] at ha;obtain⟨B',hB'⟩:=h.step hL hNM hp hS ha;refine⟨(x',w',t.set n.toNat (gv t n+1),q'),⟨k,A',B',hB'⟩,abf (by have:=h.lt; omega) (by omega),fun kn=>?_⟩;have hF:ľ=1152921504606846976:=rfl
   rw[afd hL hnr h.lx h.lw h.lt hrl (by constructor<;>omega) (by constructor<;>omega),if_neg (by omega),hr]
end
def N3 (f:Lk→Bool):∀(L L':List Lk),LH f (L++L')=LH f L+LH f L'
 |[],L'=>by simp[LH]
 |l::t,L'=>by
  simp only[eS,LH,N3 f t L'];omega
def ZL {L:List Lk} {i:Nat} {l:Lk} (h:L[i]?=some l):MU (L.take (i+1))=MU (L.take i)+min l.2.2 0:=by
 rw[take_succ h,MU,MU,N3];simp[LH]
def imin0 (e:Int):UP e 0=min e 0:=by
 unfold UP
 split<;>omega
def VT {L:List Lk} {M:Int} (h:∀l∈L,-M≤l.2.2) (hM:0≤M) : -((L.length:Int)*M)≤MU L:=by
 induction L with
 |nil=>simp[MU,LH]
 |cons l t ih =>
  have i1:=ih fun l hl=>h l (by simp[hl]);have i2:=h l (by simp);unfold MU at i1 ⊢;simp only[LH,if_true,List.length_cons,Int.natCast_succ,Int.add_mul,Int.one_mul];omega
def anG (L:List Lk):MU L≤0:=uf _ L
section
variable {ρ:Type} {L:List Lk} {N:Nat} {M:Int}
def afp (hL:iK L N M) (k0:Int→Option ρ):Ò (fun(v75:Val Â) kk78=>hO L (Ú L) v75.1 v75.2 (fun u76 u77=>kk78 (u76,u77)) k0) ((0:Int),(0:Int))=k0 (MU L):=by
 refine ń (fun x:Int×Int=>∃i:Nat,i≤L.length∧x=(MU (L.take i),(i:Int))) (fun x=>L.length-x.2.toNat) ?_ ⟨0,by omega,rfl⟩;rintro x ⟨i,hi,rfl⟩;have hlen:=hL.len;rcases dv i L.length with h|h
 ·have hl:L[i]?=some L[i]:=cI h;refine .inr ⟨(MU (L.take (i+1)),(i:Int)+1),⟨i+1,h,by simp⟩,by simp; omega,fun kn=>?_⟩
  try dsimp only
  unfold hO
  have hb:∀j,j≤L.length→-(400*4503599627370496)≤MU (L.take j):=by
   intro j hj;have h1:=VT (L:=L.take j) (fun l hl=>(hL.most l (List.mem_of_mem_take hl)).1) hL.m0;have h2:((L.take j).length:Int)*M≤400*4503599627370496:=fm (by rw[cZ]; omega) hL.m1 hL.m0 (by omega);omega
  have h1:=hb i hi;have h2:=hb (i+1) h;have h3:=anG (L.take i);rw[ZL hl] at h2;rw[Ô h,Ë hl,imin0,Õ (by omega) (by omega),Î h (by omega),ZL hl]
 ·refine .inl fun kn=>?_
  have:i=L.length:=by omega
  subst this
  try dsimp only
  unfold hO;rw[à,List.take_length]
def ah4 {x:List Int} (hx:x.length=N) (hN:N≤1000) {r:Option ρ} (k0:(Val (.pair (.slice .bool) (.slice tI)))→Option ρ)
 (hK:∀(w:List Bool) (q:List Int),w.length=N→q.Nodup→(∀v∈q,0≤v∧v<N)→(∀v:Int,0≤v→v<N→(wv w v=true↔v∈q))→(∀v:Int,0≤v→v<N→(v∈q↔gv x v≠ľ))→k0 (w,q)=r) :
 Ò (fun(v70:(Val (.pair tI (.pair (.slice .bool) (.slice tI))))) kk74=>Ŝ (N:Int) x v70.1 v70.2.1 v70.2.2 (fun u71 u72 u73=>kk74 (u71,u72,u73)) k0) ((0:Int),(List.replicate N false),([]:List Int))=r:=by
 refine ń (fun s:Int×List Bool×List Int=>∃i:Nat,i≤N∧s.1=i∧s.2.1.length=N∧s.2.2.Nodup∧s.2.2.length≤i∧(∀v∈s.2.2,0≤v∧v<i)∧(∀v:Int,0≤v→v<N→(wv s.2.1 v=true↔v∈s.2.2))∧(∀v:Int,0≤v→v<i→(v∈s.2.2↔gv x v≠ľ))) (fun s=>N-s.1.toNat) ?_
  ⟨0,by omega,rfl,by simp,by simp,by simp,by simp,fun v h0 h1=>?_,fun v h0 h1=>by omega⟩
 ·rintro⟨s,w,q⟩ ⟨i,hi,h1,h2,h3,h4,h5,h6,h7⟩;simp only at h1 h2 h3 h4 h5 h6 h7;subst h1;rcases dv i N with h|h
  ·refine .inr ?_
   have hix:i<x.length:=by omega
   have hiw:i<w.length:=by omega
   have hnq:((i:Int))∉q:=fun hc=>by have:=(h5 _ hc).2; omega
   by_cases hf:gv x i=ľ
   ·refine⟨((i:Int)+1,w,q),⟨i+1,h,by simp,h2,h3,by simp only; omega,fun v hv=>⟨(h5 v hv).1,by have:=(h5 v hv).2; push_cast; omega⟩,h6,fun v h0 h1=>?_⟩,by simp; omega,fun kn=>?_⟩
    ·by_cases hv:v=i
     ·subst hv; simp[hf,hnq]
     ·exact h7 v h0 (by push_cast at h1; omega)
    ·try dsimp only
     unfold Ŝ
     have e:ilt (i:Int) (N:Int)=true:=by simp[ilt,h]
     rw[Ó e,ic hix,ka (by simpa using hix)]
     have e2:ine (gv x i) 1152921504606846976=false:=by simp[ine,hf]
     rw[Ð e2,Î h (by omega)]
   ·refine⟨((i:Int)+1,w.set i true,q++[(i:Int)]),⟨i+1,h,by simp,by simpa using h2,?_,by simp; omega,fun v hv=>?_,fun v h0 h1=>?_,fun v h0 h1=>?_⟩,by simp; omega,fun kn=>?_⟩
    ·rw[List.nodup_append];exact⟨h3,by simp,fun a ha b hb=>by simp at hb; subst hb; exact fun e=>hnq (e▸ha)⟩
    ·rcases cQ.1 hv with hv|hv
     ·exact⟨(h5 v hv).1,by have:=(h5 v hv).2; push_cast; omega⟩
     ·simp at hv; subst hv; push_cast; omega
    ·have:=aex (w:=w) (u:=(i:Int)) (by omega) h0 (by simpa using hiw) true;rw[dl] at this;show wv (w.set i true) v=true↔v∈q++[(i:Int)];rw[this]
     by_cases hv:v=i
     ·simp[hv]
     ·simp only[hv,if_false,cQ,cY,or_false];exact h6 v h0 h1
    ·show v∈q++[(i:Int)]↔_
     by_cases hv:v=i
     ·subst hv; simp[hf]
     ·simp only[cQ,cY,hv,or_false];exact h7 v h0 (by push_cast at h1; omega)
    ·try dsimp only
     unfold Ŝ
     have e:ilt (i:Int) (N:Int)=true:=by simp[ilt,h]
     rw[Ó e,ic hix,ka (by simpa using hix)]
     have e2:ine (gv x i) 1152921504606846976=true:=by simp[ine,hf]
     rw[Ó e2,Ö (by simp only[dC]; omega),Am.iff_true,ic hiw,VS (by simpa using hiw),Î h (by omega),dl]
  ·refine .inl fun kn=>?_
   have:i=N:=by omega
   subst this
   try dsimp only
   unfold Ŝ
   have e:ilt (i:Int) (i:Int)=false:=by simp[ilt]
   rw[Ð e];exact hK w q h2 h3 h5 h6 h7
 ·have:wv (List.replicate N false) v=false:=by
   unfold wv;rw[List.getElem?_replicate]
   split<;>rfl
  simp[this]
def TL (hL:iK L N M) (hN:1≤N) {S:Int→Bool} (hS:∀v,S v=true→0≤v∧v<N) {w:List Bool} {q:List Int} (hw:w.length=N) (hq:q.Nodup) (hr:∀v∈q,0≤v∧v<N) (hwq:∀v:Int,0≤v→v<N→(wv w v=true↔v∈q)) (hqs:∀v:Int,0≤v→v<N→(v∈q↔gv (tX S N) v≠ľ)) :
 ahN L (fun v=>S v=true) N M 0 q [] (tX S N) w (List.replicate N 0) q:=by
 have ht:∀v:Int,0≤v→v<N→gv (List.replicate N (0:Int)) v=0:=by
  intro v h0 h1;unfold gv;rw[List.getElem?_replicate]
  split<;>rfl
 have hg:∀v:Int,0≤v→v<N→(v∈q↔S v=true):=by
  intro v h0 h1;rw[hqs v h0 h1,iV S h0 h1]
  cases S v<;>simp[ľ]
 have hM:=hL.m0;refine⟨by simp,ö S N,hw,by simp,hq,hr,hwq,fun v h0 h1=>?_,fun v hv=>?_,fun vs v d hw hl=>?_,fun vs u d hw hl hu v m hlk=>?_,fun u h0 h1 hu hf v m hlk=>?_,fun v h0 h1 hf=>?_,fun v h0 h1=>?_,fun v hv=>?_,fun v hv=>?_,by omega,fun _=>rfl⟩
 ·rw[ht v h0 h1]; omega
 ·have:=hr v hv;rw[ht v this.1 this.2]; omega
 ·cases hw with
  |nil hs =>
   have:=hS v hs;rw[iV S this.1 this.2,if_pos hs]; omega
  |step=>simp at hl
 ·cases hw with
  |nil hs =>
   have:=hS u hs;exact(hu ((hg u this.1 this.2).2 hs)).elim
  |step=>simp at hl
 ·rw[iV S h0 h1] at hf;have:=mt (hg u h0 h1).2 hu;rw[if_neg this] at hf;exact(hf rfl).elim
 ·rw[iV S h0 h1] at hf ⊢
  split at hf
  ·rename_i hs;rw[if_pos hs]; exact⟨[],.nil hs⟩
  ·exact(hf rfl).elim
 ·rw[iV S h0 h1]
  split
  ·exact .inr (by simp[hM])
  ·exact .inl rfl
 ·have h1:=hr v hv;rw[iV S h1.1 h1.2,if_pos ((hg v h1.1 h1.2).1 hv)]; simp
 ·have h1:=hr v hv;rw[iV S h1.1 h1.2,if_pos ((hg v h1.1 h1.2).1 hv)]; simp[ľ]
structure Bad (L:List Lk) (N:Nat) (x:List Int) (w:List Bool) (t q:List Int):Prop where
 lx:x.length=N
 lw:w.length=N
 lt:t.length=N
 nodup:q.Nodup
 rng:∀v∈q,0≤v∧v<N
 waits:∀v:Int,0≤v→v<N→(wv w v=true↔v∈q)
 t0:∀v:Int,0≤v→v<N→0≤gv t v∧gv t v≤(N:Int)+1
 bd:∀v:Int,0≤v→v<N→-2305843009213693952≤gv x v∧gv x v≤0
 rel:∀u:Int,0≤u→u<N→u∉q→∀v m,(u,v,m)∈L→gv x v≤gv x u+m
def alc {r:Option ρ} {x:List Int} {w:List Bool} {t q:List Int} (hL:iK L N M) (hp:¬∃p,Pot L p) (k0:(Val (.pair .bool (.pair (.slice tI) (.pair (.slice .bool) (.pair (.slice tI) (.slice tI))))))→Option ρ)
 (hK:∀x w t q,k0 (false,x,w,t,q)=r) (h:Bad L N x w t q) :
 Ò (fun(v64:(Val (.pair (.slice tI) (.pair (.slice .bool) (.pair (.slice tI) (.slice tI)))))) kk69=>ĭ [] (MU L) (N:Int) L v64.1 v64.2.1 v64.2.2.1 v64.2.2.2 (fun u65 u66 u67 u68=>kk69 (u65,u66,u67,u68)) k0) (x,w,t,q)=r:=by
 refine ń (fun s:List Int×List Bool×List Int×List Int=>Bad L N s.1 s.2.1 s.2.2.1 s.2.2.2) (fun s=>XQ N s.2.2.1) ?_ h;rintro⟨x,w,t,q⟩ h;dsimp only at h ⊢;have hN:=hL.nodes
 cases q with
 |nil =>
  exfalso;exact hp ⟨gv x,fun u v m hl=>h.rel u (hL.inr _ hl).1.1 (hL.inr _ hl).1.2 (by simp) v m hl⟩
 |cons n rest =>
  have hnr:=h.rng n (by simp);have hb:=h.bd n hnr.1 hnr.2;have ht:=h.t0 n hnr.1 hnr.2
  have hrl:rest.length≤1000000:=by
   have:=aeZ N (n::rest) h.nodup h.rng;simp only[cX] at this;omega
  have hout:=fun(kn:List Int→List Bool→List Int→List Int→Option ρ)=>afd (ρ:=ρ) hL (least:=MU L) hnr h.lx h.lw h.lt hrl ⟨hb.1,by omega⟩ ⟨ht.1,by omega⟩ kn k0
  by_cases hlt:(N:Int)+1<gv t n+1
  ·exact .inl fun kn=>by rw[hout,if_pos hlt]; exact hK _ _ _ _
  ·have hw':(w.set n.toNat false).length=N:=by rw[eO]; exact h.lw
   cases hr:pC n (MU L) L x (w.set n.toNat false) rest with
   |mk b r' =>
   obtain⟨x',w',q'⟩:=r'
   cases b with
   |false=>exact .inl fun kn=>by rw[hout,if_neg hlt,hr]; exact hK _ _ _ _
   |true =>
    have hnd:=h.nodup;rw[fF] at hnd
    have htl:n.toNat<t.length:=by have:=h.lt; omega
    have ha:=kD hnr hL.inr hL.noloop h.lx hw' hnd.2 (fun v h0 h1=>by
     rw[aex hnr.1 h0 (by have:=h.lw; omega)]
     by_cases hv:v=n
     ·subst hv; simp[hnd.1]
     ·rw[if_neg hv,h.waits v h0 h1]
      simp[hv]) hr
    obtain⟨l,hl,hlv⟩:=ha.new;refine .inr ⟨(x',w',t.set n.toNat (gv t n+1),q'),⟨ha.lx,ha.lw,by rw[eO]; exact h.lt,ha.nodup,fun v hv=>?_,ha.waits,fun v h0 h1=>?_,fun v h0 h1=>?_,fun u h0 h1 hu v m hlk=>?_⟩,abf htl (by omega),fun kn=>by rw[hout,if_neg hlt,hr]⟩
    ·dsimp only at hv;rw[hl] at hv;rcases List.mem_append.1 hv with hv|hv
     ·exact h.rng v (by simp[hv])
     ·exact(hlv v hv).1
    ·try dsimp only
     rw[zb hnr.1 h0 htl];have:=h.t0 v h0 h1
     split<;>omega
    ·try dsimp only
     have h2:=h.bd v h0 h1;rcases ha.chg v h0 h1 with g|⟨_,g2,m,g3,g4,g5⟩
     ·rw[g]; exact h2
     ·have h3:=VT (L:=L) (fun l hl=>(hL.most l hl).1) hL.m0;have h4:(L.length:Int)*M≤400*4503599627370496:=fm (by have:=hL.len; omega) hL.m1 hL.m0 (by omega);omega
    ·dsimp only at hu ⊢;have hvr:=(hL.inr _ hlk).2
     have heq:gv x' u=gv x u:=by
      rcases ha.chg u h0 h1 with g|⟨g,_⟩
      ·exact g
      ·exact(hu g).elim
     by_cases hun:u=n
     ·subst hun;have h1:=ha.link v m hlk;omega
     ·have hur:u∉n::rest:=by
       intro hc;rcases cW.1 hc with e|hc
       ·exact hun e
       ·exact hu (by rw[hl]; exact dY _ hc)
      have h2:=h.rel u h0 h1 hur v m hlk;have:=ha.le v hvr.1 hvr.2;omega
end
def ahM (N:Nat) (v:Int):Bool:=decide (0≤v)&&decide (v<(N:Int))
def aix (s:Int) (v:Int):Bool:=v==s
def YX (N:Nat):tX (ahM N) N=List.replicate N 0:=by
 refine afv (by simp[ö]) fun v h0 h1=>?_;rw[ö] at h1;rw[iV _ h0 h1]
 have:ahM N v=true:=by simp[ahM,h0,h1]
 rw[if_pos this];unfold gv;rw[List.getElem?_replicate]
 split<;>rfl
def ī (L:List Lk) (N:Nat):List Int:=kM L N (tX (ahM N) N)
def ģ (L:List Lk) (N:Nat):Bool:=decide (LC L (ī L N)=ī L N)
def ŕ (L:List Lk) (N:Nat) (s:Int):List Int:=kM L N (tX (aix s) N)
section
variable {L:List Lk} {N:Nat} {M:Int}
def alz (hL:iK L N M) (hN:N≤200):N*M<ľ:=by
 have:(N:Int)*M≤200*4503599627370496:=Int.mul_le_mul (by omega) hL.m1 hL.m0 (by omega);unfold ľ;omega
def zG {p:Int→Int} (hL:iK L N M) (hN:N≤200) (hp:Pot L p):ahP L (fun v=>ahM N v=true) N (gv (ī L N)) :=
 NH hp hL.inr (fun v h=>by simpa[ahM] using h) (fun l hl=>(hL.most l hl).2) hL.m0 (alz hL hN) N (by omega)
def Β {p:Int→Int} (hL:iK L N M) (hN:N≤200) (hp:Pot L p) {s:Int} (hs:0≤s∧s<N):ahP L (fun v=>aix s v=true) N (gv (ŕ L N s)) :=
 NH hp hL.inr (fun v h=>by simp[aix] at h; subst h; exact hs) (fun l hl=>(hL.most l hl).2) hL.m0 (alz hL hN) N (by omega)
def Zi:∀{L:List Lk} {x:List Int},(∀u v m,(u,v,m)∈L→gv x u<ľ→gv x v≤gv x u+m)→LC L x=x
 |[],x,_=>rfl
 |l::t,x,h=>by
  have h1:lT x l=x:=by
   unfold lT
   split
   ·rename_i hc;have:=h l.1 l.2.1 l.2.2 (by simp) hc.1;omega
   ·rfl
  show LC t (lT x l)=x;rw[h1];exact Zi fun u v m hm=>h u v m (by simp[hm])
def Ĭ (hL:iK L N M) (hN:N≤200):ģ L N=true↔∃p,Pot L p:=by
 unfold ģ;rw[decide_eq_true_eq]
 have hle:∀v:Int,0≤v→v<N→gv (ī L N) v≤0:=by
  intro v h0 h1;have:=D8 hL.inr N (ö (ahM N) N) v h0;rw[iV _ h0 h1,if_pos (by simp[ahM,h0,h1])] at this;exact this
 constructor
 ·intro h;refine⟨gv (ī L N),fun u v m hl=>?_⟩;have hr:=(hL.inr _ hl).1;have:=HZ hL.inr (x:=ī L N) (by unfold ī; rw[ĥ,ö]) u v m hl (by have:=hle u hr.1 hr.2; unfold ľ; omega)
  rwa [h] at this
 ·rintro⟨p,hp⟩;have hd:=zG hL hN hp;exact Zi fun u v m hl hf=>hd.pot hL.inr hl (by omega)
end
section
variable {ρ:Type} {L:List Lk} {N:Nat} {M:Int}
def G0 (hN:N≤1000) (x:Option ρ):ã ((ile (0:Int) (N:Int))&&(å (Int.toNat (N:Int)))) x=x:=by
 rw[dl,Ö (by omega)]
 have:((ile (0:Int) (N:Int))&&true)=true:=by simp[ile]
 rw[this,Am.iff_true]
def acL (hL:iK L N M) (h1:1≤N) (hN:N≤200) (k0:(Val (.pair .bool (.pair (.slice tI) (.pair (.slice .bool) (.pair (.slice tI) (.slice tI))))))→Option ρ) {rT rF:Option ρ}
 (hT:ģ L N=true→∀w t q,k0 (true,ī L N,w,t,q)=rT) (hF:∀x w t q,k0 (false,x,w,t,q)=rF) :
 (Ò (fun(v70:(Val (.pair tI (.pair (.slice .bool) (.slice tI))))) kk74=>Ŝ (N:Int) (List.replicate N (0:Int)) v70.1 v70.2.1 v70.2.2 (fun u71 u72 u73=>kk74 (u71,u72,u73)) (fun z9=>Ò (fun(v64:(Val (.pair (.slice tI) (.pair (.slice .bool) (.pair (.slice tI) (.slice tI)))))) kk69=>ĭ [] (MU L) (N:Int) L v64.1 v64.2.1 v64.2.2.1 v64.2.2.2 (fun u65 u66 u67 u68=>kk69 (u65,u66,u67,u68)) k0) ((List.replicate N (0:Int)),z9.1,(List.replicate N (0:Int)),z9.2))) ((0:Int),(List.replicate N false),([]:List Int)))=if ģ L N then rT else rF:=by
 refine ah4 (by simp) (by omega) _ fun w q hw hq hr hwq hqs=>?_
 try dsimp only
 have hS:∀v,ahM N v=true→0≤v∧v<N:=fun v h=>by simpa[ahM] using h
 by_cases ho:ģ L N=true
 ·rw[if_pos ho];obtain⟨p,hp⟩:=(Ĭ hL hN).1 ho;have hs:=TL hL h1 hS hw hq hr hwq (fun v a b=>by rw[YX]; exact hqs v a b);rw[YX] at hs;refine YY hL (alz hL hN) hp hS k0 (fun x w t q hx hd=>?_) hs
  have:x=ī L N:=by
   refine afv (by rw[hx]; unfold ī; rw[ĥ,ö]) fun v a b=>?_;exact hd.uniq (zG hL hN hp) a (by omega)
  rw[this]; exact hT ho w t q
 ·rw[if_neg ho];refine alc hL (fun hp=>ho ((Ĭ hL hN).2 hp)) k0 hF ?_
  have hg:∀v,gv (List.replicate N (0:Int)) v=0:=by
   intro v;unfold gv;rw[List.getElem?_replicate]
   split<;>rfl
  refine⟨by simp,hw,by simp,hq,hr,hwq,fun v a b=>?_,fun v a b=>?_,fun u a b hu v m hl=>?_⟩
  ·rw[hg]; omega
  ·rw[hg]; omega
  ·exact(hu ((hqs u a b).2 (by rw[hg]; unfold ľ; omega))).elim
end
def shift_ok {ρ:Type} {x:List Int} (f:Int) (hx:x.length≤1000) (hf : -2305843009213693952≤f∧f≤2305843009213693952) (hb:∀a∈x,-2305843009213693952≤a∧a≤2305843009213693952) (k0:List Int→Option ρ) :
 Ò (fun(v60:(Val (.pair tI (.slice tI)))) kk63=>jd f (Ú x) v60.1 v60.2 (fun u61 u62=>kk63 (u61,u62)) k0) ((0:Int),x)=k0 (x.map fun a=>a-f):=by
 refine ð x (fun i=>(x.take i).map (fun a=>a-f)++x.drop i) _ (by simp) (fun i a hi ha kn=>?_) (fun kn=>?_)
 ·try dsimp only
  unfold jd
  have hlen:((x.take i).map (fun a=>a-f)++x.drop i).length=x.length:=by simp; omega
  have hget:((x.take i).map (fun a=>a-f)++x.drop i)[i]?=some a:=by
   rw[gg (by simp; omega)];simp only[dW,cZ,eQ];rw[←ha]; congr 1; omega
  have hi':i<((x.take i).map (fun a=>a-f)++x.drop i).length:=by omega
  have ha':=hb a (cR ha);rw[Ô hi,ic hi',Ī hget,Õ (by omega) (by omega),ic hi',Ī hget,Î hi (by omega),dl,take_succ ha];congr 2;rw[fo hi,gL,di,gI _ _ (by simp; omega)]
  have:i-(List.map (fun a=>a-f) (List.take i x)).length=0:=by simp; omega
  rw[this]
  have h1:x[i]=a:=by rw[cI hi] at ha; simpa using ha
  simp[h1]
 ·try dsimp only
  unfold jd;rw[à];simp
section
variable {L:List Lk} {N:Nat} {M:Int}
def Vp (hL:iK L N M) (hN:N≤200) (ho:ģ L N=true):∀a∈ī L N,-2305843009213693952≤a∧a≤0:=by
 obtain⟨p,hp⟩:=(Ĭ hL hN).1 ho;have hd:=zG hL hN hp;intro a ha;obtain⟨i,hi,rfl⟩:=df.1 ha
 have hlen:(ī L N).length=N:=by unfold ī; rw[ĥ,ö]
 have h0:gv (ī L N) i=(ī L N)[i]:=by unfold gv; simp[hi]
 have hle:=D8 hL.inr N (ö (ahM N) N) (i:Int) (by omega);rw[iV _ (by omega) (by omega),if_pos (by simp[ahM]; omega)] at hle;have hle':gv (ī L N) i≤0:=hle;obtain⟨vs,hw⟩:=hd.att i (by omega) (by omega) (by unfold ľ; omega);have h1:=hw.low' hp;have h3:=VT (L:=L) (fun l hl=>(hL.most l hl).1) hL.m0;have h4:(L.length:Int)*M≤400*4503599627370496:=Int.mul_le_mul (by have:=hL.len; omega) hL.m1 hL.m0 (by omega);omega
def solP (L:List Lk) (N:Nat):List Int:=(ī L N).map fun a=>a-gv (ī L N) 0
def Cs (hL:iK L N M) (h1:1≤N) (hN:N≤200):kE ((N:Int),L) []=some (if ģ L N then(solP L N,true) else([],false)):=by
 unfold kE yy
 try dsimp only
 rw[G0 (by omega),G0 (by omega),G0 (by omega),dl];refine eM (afp hL _) ?_;refine eM (acL hL h1 hN _ (rT:=some (solP L N,true)) (rF:=some ([],false)) (fun ho w t q=>?_) (fun x w t q=>?_)) ?_
 ·try dsimp only
  have hlen:(ī L N).length=N:=by unfold ī; rw[ĥ,ö]
  have hb:=Vp hL hN ho;have h0:ilt (0:Int) (þ (ī L N))=true:=decide_eq_true (show(0:Int)<((ī L N).length:Int) by omega);have hg:(ī L N)[0]?=some (gv (ī L N) 0):=UQ (v:=0) (show 0<_ by omega);have hm:=hb _ (cR hg);rw[show(!true)=false from rfl,é,ĝ h0,jo hg];exact shift_ok _ (by omega) ⟨hm.1,by omega⟩ (fun a ha=>⟨(hb a ha).1,by have:=(hb a ha).2; omega⟩) _
 ·rfl
 ·cases ģ L N<;>rfl
structure į (L:List Lk) (N:Nat):Prop where
 n1:1≤N
 n60:N≤60
 len:L.length≤300
 inr:InR L N
 noloop:∀l∈L,l.1≠l.2.1
 most:∀l∈L,-4503599627370496≤l.2.2∧l.2.2≤4503599627370496
def į.links (h:į L N):iK L N 4503599627370496 :=
 ⟨h.inr,h.noloop,h.most,by have:=h.len; omega,by have:=h.n60; omega,by omega,by omega⟩
def į.sub {L':List Lk} (h:į L N) (hs:∀l∈L',l∈L) (hl:L'.length≤L.length):į L' N :=
 ⟨h.n1,h.n60,by have:=h.len; omega,fun l hm=>h.inr l (hs l hm),fun l hm=>h.noloop l (hs l hm),fun l hm=>h.most l (hs l hm)⟩
def N2 (n:Int) (L:List Lk) (v:Int):rl (n,L) v=some (decide (0≤v)&&decide (v<n)):=by
 unfold rl W8 ige
 by_cases h:0≤v
 ·have:decide (v≥0)=true:=by simpa using h
  rw[Ó this]; simp[h]
 ·have:decide (v≥0)=false:=by simpa using h
  rw[Ð this]; simp[h]
def lL (h:į L N):nr ((N:Int),L)=some (0,-1):=by
 have h1:=h.n1;have h2:=h.n60;have h3:=h.len;unfold nr PM
 try dsimp only
 rw[Ð (by simp[ilt]; omega),Ð (by simp[igt]; omega),Ð (by rw[á]; simp[igt]; omega)];refine eM (δ L (fun _=>false) (fun i=>some (1,i)) (some (0,-1)) (fun i l hi hl kn=>?_) (fun kn=>?_)) ?_
 ·try dsimp only
  unfold qR;have hm:=List.mem_of_getElem? hl;have a:=h.inr l hm;have b:=h.noloop l hm;have c:=h.most l hm
  have e1:(decide (0≤l.1)&&decide (l.1<(N:Int)))=true:=by simp[a.1.1,a.1.2]
  have e2:(decide (0≤l.2.1)&&decide (l.2.1<(N:Int)))=true:=by simp[a.2.1,a.2.2]
  rw[Ô hi,Ë hl,N2,À,e1,N2,À,e2];simp only[dR,é,dg,if_false];rw[Ð (by simp[ieq,b]),Ð (by simp[ilt]; omega),Ð (by simp[igt]; omega),Î hi (by omega)]
 ·try dsimp only
  unfold qR;rw[à]
 ·rw[eo.2 (by simp)]
def nN {ρ:Type} {x:List Int} {v:Int} (h0:0≤v) (h:v.toNat<x.length) (f:Int→Option ρ):ü x v f=f (gv x v):=by
 obtain⟨i,rfl⟩:=fP h0;exact Ë (UQ h) f
def anW (L:List Lk) (x:List Int):Bool:=L.all fun l=>decide (gv x l.2.1≤gv x l.1+l.2.2)
end
section
variable {b:Þ}
def vT (b:Þ) (g:ê):(ß b g).Pairwise (·<·):=Cv _
def QX (h:ē b) {g:ê} (hg:g∈b.2.1):∃t,ß b g=g.2.1::t:=by
 have h1:=vT b g;have h2:=j7 (b:=b) g;have h3:∀d∈ß b g,g.2.1≤d:=fun d hd=>(h.day hg hd).1
 cases hd:ß b g with
 |nil=>rw[hd] at h2; cases h2
 |cons a t =>
  rw[hd] at h1 h2 h3;rw[dE] at h1;rcases cW.1 h2 with e|e
  ·exact⟨t,by rw[e]⟩
  ·have:=h1.1 _ e;have:=h3 a (by simp);omega
def off (b:Þ) (i:Nat):Nat:=((b.2.1.take i).flatMap fun g=>(ß b g).map fun d=>((g.1,d):Int×Int)).length
def CH {i:Nat} {g:ê} (hg:b.2.1[i]?=some g):Ê b=((b.2.1.take i).flatMap fun g=>(ß b g).map fun d=>((g.1,d):Int×Int))++(((ß b g).map fun d=>((g.1,d):Int×Int))++((b.2.1.drop (i+1)).flatMap fun g=>(ß b g).map fun d=>((g.1,d):Int×Int))):=by
 obtain⟨hi,rfl⟩:=cO.1 hg
 have h1:b.2.1=b.2.1.take i++(b.2.1[i]::b.2.1.drop (i+1)):=by
  rw[←fo hi,List.take_append_drop]
 unfold Ê
 conv=>lhs; rw[h1]
 rw[eJ,dP]
def VQ (h:ē b) {i:Nat} {g:ê} (hg:b.2.1[i]?=some g) {k:Nat} {d:Int} (hk:(ß b g)[k]?=some d):ix (Ê b) g.1 d=some (off b i+k):=by
 obtain⟨hi,hgi⟩:=List.getElem?_eq_some_iff.1 hg;obtain⟨hkl,hkd⟩:=List.getElem?_eq_some_iff.1 hk;unfold ix;rw[CH hg,List.findIdx?_append,List.findIdx?_append]
 have h1:List.findIdx? (fun n:Int×Int=>decide (g.1=n.1)&&decide (d=n.2)) ((b.2.1.take i).flatMap fun g=>(ß b g).map fun d=>((g.1,d):Int×Int))=none:=by
  rw[eo];intro x hx;obtain⟨g',hg',hx⟩:=dn.1 hx;obtain⟨d',_,rfl⟩:=dT.1 hx;obtain⟨j,hj,rfl⟩:=df.1 hg';rw[cZ] at hj;rw[gE];have:=(dG.1 h.ids) j i (by omega) hi (by omega);rw[hgi] at this;simp only[Bool.and_eq_false_iff,decide_eq_false_iff_not];exact .inl (by omega)
 have h2:List.findIdx? (fun n:Int×Int=>decide (g.1=n.1)&&decide (d=n.2)) ((ß b g).map fun d=>((g.1,d):Int×Int))=some k:=by
  rw[dI];refine⟨by simpa using hkl,by simp[hkd],fun j hj=>?_⟩;have:=(dG.1 (vT b g)) j k (by omega) hkl hj;rw[hkd] at this;simp only[List.getElem_map,cM,decide_eq_true_eq,not_and];intro _;omega
 rw[h1,h2];simp only[Option.map_some,Option.some_or,Option.none_or];unfold off;congr 1;omega
def MT {i:Nat} {g:ê} (hg:b.2.1[i]?=some g) {k:Nat} {d:Int} (hk:(ß b g)[k]?=some d):(Ê b)[off b i+k]?=some (g.1,d):=by
 obtain⟨hkl,hkd⟩:=List.getElem?_eq_some_iff.1 hk;rw[CH hg,List.getElem?_append_right (by unfold off; omega),List.getElem?_append_left (by unfold off; simp; omega)];unfold off;simp[hk]
def afW (h:ē b) {i:Nat} {g:ê} (hg:b.2.1[i]?=some g):atP (Ê b) [g.1] g.2.1=(off b i:Int)+1:=by
 obtain⟨t,ht⟩:=QX h (List.mem_of_getElem? hg);have:=VQ h hg (k:=0) (d:=g.2.1) (by rw[ht]; rfl);unfold atP;simp only[this];rfl
def aiz (h:ē b) {i:Nat} {g:ê} (hg:b.2.1[i]?=some g):off b i+(ß b g).length≤(Ê b).length:=by
 rw[CH hg];unfold off;simp only[List.length_append,List.length_map];omega
def alw {i:Nat} {g:ê} (hg:b.2.1[i]?=some g):off b (i+1)=off b i+(ß b g).length:=by
 unfold off;rw[take_succ hg,List.flatMap_append];simp
def ZK (h:ē b) {c:Cmp} (hc:c∈b.2.2.2.2.1) {x:Int} (hx:(x∈c.2.2.1∧x∉c.2.2.2.1)∨(x∈c.2.2.2.1∧x∉c.2.2.1)):∃j,ix (Ê b) x c.2.1=some j:=by
 have hm:x∈c.2.2.1++c.2.2.2.1:=by rw[cQ]; exact hx.imp (·.1) (·.1)
 obtain⟨⟨g,hg,_⟩,_⟩:=h.pile hc hm;obtain⟨hgm,hgx⟩:=nk hg;obtain⟨i,hi,hgi⟩:=df.1 hgm
 have hd:c.2.1∈ß b g:=jW.2 (.inr (.inl ⟨c,hc,by
  rw[hgx];rcases hx with⟨h1,h2⟩|⟨h1,h2⟩
  ·have e1:c.2.2.1.contains x=true:=by simpa using h1
   have e2:c.2.2.2.1.contains x=false:=by simpa using h2
   rw[e1,e2]; simp
  ·have e1:c.2.2.2.1.contains x=true:=by simpa using h1
   have e2:c.2.2.1.contains x=false:=by simpa using h2
   rw[e1,e2]; simp,rfl⟩))
 obtain⟨k,hk,hkd⟩:=df.1 hd;have:=VQ h (g:=g) (i:=i) (by rw[cI hi,hgi]) (k:=k) (d:=c.2.1) (by rw[cI hk,hkd]);rw[hgx] at this;exact⟨_,this⟩
inductive ahF (b:Þ) (p:List Int) (d:Int) (n:Int):Prop
 |none:p=[]→n=0→ahF b p d n
 |one (x:Int) (j:Nat):p=[x]→ix (Ê b) x d=some j→n=(j:Int)+1→ahF b p d n
def Yb (h:ē b) {c:Cmp} (hc:c∈b.2.2.2.2.1):ahF b (è c.2.2.1 c.2.2.2.1) c.2.1 (cx b c):=by
 have hl:=(h.lefts hc).1
 cases hp:è c.2.2.1 c.2.2.2.1 with
 |nil=>exact .none rfl (by unfold cx atP; rw[hp])
 |cons x t =>
  rw[hp] at hl
  have:t=[]:=by cases t with|nil=>rfl|cons=>simp at hl
  subst this;obtain⟨j,hj⟩:=ZK h hc (x:=x) (.inl (jQ.1 (by rw[hp]; simp)));exact .one x j rfl hj (by unfold cx atP; rw[hp]; simp only[hj])
def QY (h:ē b) {c:Cmp} (hc:c∈b.2.2.2.2.1):ahF b (è c.2.2.2.1 c.2.2.1) c.2.1 (cy b c):=by
 have hl:=(h.lefts hc).2.1
 cases hp:è c.2.2.2.1 c.2.2.1 with
 |nil=>exact .none rfl (by unfold cy atP; rw[hp])
 |cons x t =>
  rw[hp] at hl
  have:t=[]:=by cases t with|nil=>rfl|cons=>simp at hl
  subst this;obtain⟨j,hj⟩:=ZK h hc (x:=x) (.inr (jQ.1 (by rw[hp]; simp)));exact .one x j rfl hj (by unfold cy atP; rw[hp]; simp only[hj])
def ahF.rng {p:List Int} {d n:Int} (h:ahF b p d n):0≤n∧n<((Ê b).length+1:Nat):=by
 rcases h with⟨_,h⟩|⟨x,j,_,h1,h2⟩
 ·omega
 ·have:=(ku h1).1;omega
def amb (h:ē b) {c:Cmp} (hc:c∈b.2.2.2.2.1):cx b c≠cy b c:=by
 have hl:=(h.lefts hc).2.2;rcases Yb h hc with⟨h1,h2⟩|⟨x,j,h1,h2,h3⟩
 ·rcases QY h hc with⟨g1,g2⟩|⟨y,k,g1,g2,g3⟩
  ·rw[h1,g1] at hl; simp at hl
  ·omega
 ·rcases QY h hc with⟨g1,g2⟩|⟨y,k,g1,g2,g3⟩
  ·omega
  ·intro e
   have:j=k:=by omega
   subst this;have e1:=(ku h2).2;have e2:=(ku g2).2;rw[e1] at e2;simp only[Option.some.injEq,Prod.mk.injEq] at e2
   have m1:x∈è c.2.2.1 c.2.2.2.1:=by rw[h1]; simp
   have m2:y∈è c.2.2.2.1 c.2.2.1:=by rw[g1]; simp
   rw[e2.1] at m1;exact(jQ.1 m1).2 (jQ.1 m2).1
def GU (h:ē b):(Ý b).length=2*(Ê b).length+2*b.2.2.2.2.1.length:=by
 have h1:∀l:List ê,(∀g∈l,g∈b.2.1)→(l.flatMap (ô b)).length=2*(l.flatMap fun g=>(ß b g).map fun d=>((g.1,d):Int×Int)).length:=by
  intro l
  induction l with
  |nil=>intro _; rfl
  |cons g t ih =>
   intro hm;have:=ih fun g hg=>hm g (by simp[hg]);have hp:=List.length_pos_of_mem (j7 (b:=b) g);simp only[List.flatMap_cons,List.length_append,List.length_map,this];unfold ô;rw[List.length_append,ŷ _ _ (fun _=>rfl)];simp only[List.length_cons,List.length_nil];omega
 have h2:∀l:List Cmp,(l.flatMap (Ą b)).length=2*l.length:=by
  intro l
  induction l with
  |nil=>rfl
  |cons c t ih =>
   simp only[dP,cN,ih,Ą,cX,dk];omega
 unfold Ý;rw[List.length_append,h1 _ fun _ h=>h,h2];rfl
def ł (h:ē b) {i:Nat} {g:ê} (hg:b.2.1[i]?=some g) {l:Lk}:l∈ô b g ↔
 l=(0,(off b i:Int)+1,g.2.2.1+g.2.2.2.1.2)∨l=((off b i:Int)+1,0,-(g.2.2.1+g.2.2.2.1.1)) ∨
 ∃(k:Nat) (d e:Int),(ß b g)[k]?=some d∧(ß b g)[k+1]?=some e∧(l=((off b i:Int)+k+1,(off b i:Int)+k+2,0)∨l=((off b i:Int)+k+2,(off b i:Int)+k+1,iQ b g d e)):=by
 unfold ô;rw[afW h hg];simp only[List.mem_append,List.mem_cons,List.not_mem_nil,or_false,List.mem_flatMap,List.mem_range];constructor
 ·rintro((h1|h1)|⟨k,hk,h1⟩)
  ·exact .inl h1
  ·exact .inr (.inl h1)
  ·refine .inr (.inr ⟨k,(ß b g)[k],(ß b g)[k+1],cI (by omega),cI (by omega),?_⟩);rw[cI (show k<(ß b g).length by omega),cI (show k+1<(ß b g).length by omega)] at h1;simp only[fh] at h1
   have e1:(off b i:Int)+1+k=(off b i:Int)+k+1:=by omega
   have e2:(off b i:Int)+k+1+1=(off b i:Int)+k+2:=by omega
   rw[e1,e2] at h1;exact h1
 ·rintro(h1|h1|⟨k,d,e,hd,he,h1⟩)
  ·exact .inl (.inl h1)
  ·exact .inl (.inr h1)
  ·obtain⟨h2,rfl⟩:=cO.1 hd;obtain⟨h3,rfl⟩:=cO.1 he;refine .inr ⟨k,by omega,?_⟩;rw[hd,he];simp only[fh]
   have e1:(off b i:Int)+1+k=(off b i:Int)+k+1:=by omega
   have e2:(off b i:Int)+k+1+1=(off b i:Int)+k+2:=by omega
   rw[e1,e2];exact h1
def oP {l:Lk}:l∈Ý b↔(∃(i:Nat) (g:ê),b.2.1[i]?=some g∧l∈ô b g)∨∃c∈b.2.2.2.2.1,l=(cy b c,cx b c,(Φ b c).2)∨l=(cx b c,cy b c,-(Φ b c).1):=by
 unfold Ý;simp only[List.mem_append,List.mem_flatMap,Ą,List.mem_cons,List.not_mem_nil,or_false];constructor
 ·rintro(⟨g,hg,h⟩|h)
  ·obtain⟨i,hi,rfl⟩:=df.1 hg;exact .inl ⟨i,_,cI hi,h⟩
  ·exact .inr h
 ·rintro(⟨i,g,hg,h⟩|h)
  ·exact .inl ⟨g,cR hg,h⟩
  ·exact .inr h
def ē.sys (h:ē b):į (Ý b) ((Ê b).length+1):=by
 have hN:=h.nodes;have hL:=h.links
 have key:∀l∈Ý b,((0≤l.1∧l.1<((Ê b).length+1:Nat))∧(0≤l.2.1∧l.2.1<((Ê b).length+1:Nat)))∧l.1≠l.2.1∧(-4503599627370496≤l.2.2∧l.2.2≤4503599627370496):=by
  intro l hl;rcases oP.1 hl with⟨i,g,hg,hl⟩|⟨c,hc,hl⟩
  ·have hgm:=cR hg;have hr:=h.gaugeR hgm;have ho:=aiz h hg;have hp:=fU (j7 (b:=b) g);have r1:=hr.2.2.2.2.2.1;have r2:=hr.2.2.2.2.2.2.1;rcases(ł h hg).1 hl with rfl|rfl|⟨k,d,e,hd,he,h1⟩
   ·dsimp only; omega
   ·dsimp only; omega
   ·obtain⟨h2,_⟩:=cO.1 he;have d1:=h.day hgm (cR hd);have lb:=kp h hgm (t:=e) d1.2.1;rcases h1 with rfl|rfl
    ·dsimp only; omega
    ·dsimp only; omega
  ·have a:=(Yb h hc).rng;have b':=(QY h hc).rng;have ne:=amb h hc;have sb:=Cw h hc;rcases hl with rfl|rfl
   ·dsimp only; omega
   ·dsimp only; omega
 exact⟨by omega,by omega,by rw[GU h]; omega,fun l hl=>(key l hl).1,fun l hl=>(key l hl).2.1,fun l hl=>(key l hl).2.2⟩
end
def M6 (b:Þ) (x:List Int):Bool:=decide (x.length=(Ê b).length)&&x.all fun n=>inP n (-4503599627370496) 4503599627370496
def anV (b:Þ) (x:List Int):Bool:=anW (Ý b) (0::x)
def ahH (b:Þ) (x:List Int):Bool×Int:=if ç b≠0 then(false,ç b) else if M6 b x then(anV b x,0) else(false,1)
def akk {ρ:Type}:@uX ρ=@hO ρ:=rfl
def akj {ρ:Type}:@uW ρ=@Ŝ ρ:=rfl
def aki {ρ:Type}:@uV ρ=@ĭ ρ:=rfl
def abn {ρ:Type} {N:Nat} (hN:N≤1000) (x:Option ρ):ã ((ile (0:Int) (N:Int))&&(å N)) x=x:=by
 have:=G0 hN x
 rwa [dl] at this
section
variable {L:List Lk} {N:Nat} {M:Int}
def ah3 {s:Int} (hs:0≤s∧s<N):(List.replicate N ľ).set s.toNat 0=tX (aix s) N:=by
 refine afv (by simp[ö]) fun v h0 h1=>?_
 have hv:v<N:=by simpa using h1
 rw[iV _ h0 hv,zb hs.1 h0 (by simp; omega)];unfold aix
 by_cases h:v=s
 ·simp[h]
 ·simp only[h,if_false,beq_iff_eq];unfold gv;rw[List.getElem?_replicate]
  have:v.toNat<N:=by omega
  simp[this]
def ab4 (hL:iK L N M) (h1:1≤N) (hN:N≤200) (ho:ģ L N=true) {s:Int} (hs:0≤s∧s<N):tO ((N:Int),L) [] s=some (ŕ L N s):=by
 obtain⟨p,hp⟩:=(Ĭ hL hN).1 ho;unfold tO I9;rw[akk,akj,aki];dsimp only;rw[G0 (by omega),Int.toNat_natCast];refine ð (List.replicate N (0:Int)) (fun i=>List.replicate i ľ++List.replicate (N-i) 0) _ (by simp) (fun i a hi ha kn=>?_) (fun kn=>?_)
 ·dsimp only;unfold oq
  have hiN:i<N:=by simpa using hi
  have hl:i<(List.replicate i ľ++List.replicate (N-i) (0:Int)).length:=by simp; omega
  rw[Ô hi,ic hl,Ī (cI hl),Î hiN (by omega),dl];congr 2;rw[gI _ _ (by simp)]
  have:N-i=(N-(i+1))+1:=by omega
  rw[this,fE,gJ,List.replicate_succ,List.set_cons_zero,List.replicate_succ'];simp
 ·try dsimp only
  unfold oq;rw[à];dsimp only
  have e0:List.replicate (List.replicate N (0:Int)).length ľ++List.replicate (N-(List.replicate N (0:Int)).length) 0=List.replicate N ľ:=by simp
  rw[e0]
  have hlen:s.toNat<(List.replicate N ľ).length:=by simp; omega
  rw[show þ (List.replicate N ľ)=((N:Nat):Int) by simp[þ],Ě hs.1 hs.2,ka hlen,abn (by omega),abn (by omega),ah3 hs];refine eM (afp hL _) ?_
  have hS:∀v,aix s v=true→0≤v∧v<N:=fun v h=>by simp[aix] at h; subst h; exact hs
  refine ah4 (ö _ _) (by omega) _ fun w q hw hq hr hwq hqs=>?_;have hs0:=TL hL h1 hS hw hq hr hwq hqs;refine YY hL (alz hL hN) hp hS _ (fun x w t q hx hd=>?_) hs0
  have:x=ŕ L N s:=by
   refine afv (by rw[hx]; unfold ŕ; rw[ĥ,ö]) fun v a b=>?_;exact hd.uniq (Β hL hN hp hs) a (by omega)
  dsimp only;rw[this]
def ii (L:List Lk) (N:Nat) (s t:Int):Int×Int :=
 if !ģ L N then(0,9) else if gv (ŕ L N s) t=ľ then(0,5) else(gv (ŕ L N s) t,0)
def afY (h:į L N) {ns:List Int} (hn:∀n∈ns,0≤n∧n<N) (hl:ns.length≤1000):zj ((N:Int),L) ns=some (if ģ L N then 0 else 9):=by
 have h2:=h.n60;unfold zj PD;rw[lL h,À];dsimp only;rw[Ð (by rfl)];refine Eq.trans (δ ns (fun _=>false) (fun _=>some 1) (some (if ģ L N then 0 else 9)) (fun i n hi hm kn=>?_) (fun kn=>?_)) ?_
 ·try dsimp only
  unfold qP;have a:=hn n (List.mem_of_getElem? hm)
  have e:(decide (0≤n)&&decide (n<(N:Int)))=true:=by simp[a.1,a.2]
  rw[Ô hi,Ë hm,N2,À,e,Î hi (by omega)];simp
 ·try dsimp only
  unfold qP;rw[à,Cs h.links h.n1 (by omega),À]
  cases ģ L N<;>rfl
 ·rw[eo.2 (by simp)]
def No (h:į L N) {s t:Int} (hs:0≤s∧s<N) (ht:0≤t∧t<N):pP ((N:Int),L) s t=some (ii L N s t):=by
 have h2:=h.n60;unfold pP PS ii
 rw[afY h (fun n hn=>by simp at hn; rcases hn with rfl|rfl<;>assumption) (by simp),À]
 by_cases ho:ģ L N=true
 ·rw[if_pos ho,Ð (by rfl),ab4 h.links h.n1 (by omega) ho hs,À,nN ht.1 (by unfold ŕ; rw[ĥ,ö]; omega),Ĥ,if_neg (show ¬(!ģ L N)=true by simp[ho])]
  by_cases hf:gv (ŕ L N s) t=ľ
  ·rw[if_pos (by simpa[ieq] using hf),if_pos hf]
  ·rw[if_neg (by simpa[ieq] using hf),if_neg hf]
 ·rw[if_neg ho,Ó (by rfl),if_pos (show(!ģ L N)=true by simpa using ho)]
end
def ì (b:Þ) (c:Cmp):Þ:=(b.1,b.2.1,b.2.2.1,b.2.2.2.1,b.2.2.2.2.1++[c],b.2.2.2.2.2)
def lS:Þ:=((0,0),[],[],[],[],[])
def zB (b:Þ) (c:Cmp):Þ×Int:=if ç b≠0 then(lS,ç b) else if ç (ì b c)≠0 then(lS,ç (ì b c)) else(ì b c,0)
def aiL {b:Þ} (h:ē b) {c:Cmp} (hA:c.2.2.1.length≤1000) (hB:c.2.2.2.1.length≤1000):Γ (ì b c):=by
 have hs:=h.size;have:=h.nC;refine⟨hs.gauges,hs.uses,hs.loans,by simp[ì]; omega,hs.looks,fun d hd=>?_⟩;rcases cQ.1 (show d∈b.2.2.2.2.1++[c] from hd) with hd|hd
 ·exact hs.piles d hd
 ·simp at hd; subst hd; exact⟨hA,hB⟩
def aku {b:Þ} (hs:Γ b) (hr:∀g∈b.2.1,I64 g.2.2.2.2.1.1) {c:Cmp} (hA:c.2.2.1.length≤1000) (hB:c.2.2.2.1.length≤1000):oC b c=some (zB b c):=by
 unfold oC XH zB;have h1:=hs.gauges; have h2:=hs.uses; have h3:=hs.loans; have h4:=hs.compares; have h5:=hs.looks;rw[Ö (by omega),Am.iff_true,Ö (by omega),Am.iff_true,i6 hs hr,À]
 by_cases hc:ç b=0
 ·have h:=(ë b).1 hc;rw[Ð (by simp[ine,hc]),Ö (by omega),Am.iff_true,Ö (by omega),Am.iff_true,Ö (by omega),Am.iff_true,Ö (by omega),Am.iff_true,Ö (by omega),Am.iff_true,if_neg (show ¬(ç b≠0) from fun h=>h hc)];refine ð b.2.2.2.2.1 (fun _=>b.2.2.2.2.1) _ rfl (fun i d hi hd kn=>?_) (fun kn=>?_)
  ·dsimp only;unfold vt;obtain⟨p1,p2⟩:=hs.piles d (List.mem_of_getElem? hd)
   have e1:b.2.2.2.2.1.set i d=b.2.2.2.2.1:=by
    obtain⟨h,rfl⟩:=cO.1 hd;exact List.set_getElem_self h
   rw[Ô hi,ic hi,Ī hd,Ö (by omega),Am.iff_true,Ö (by omega),Am.iff_true,ic hi,Ī hd,dl];rw[show(d.1,d.2.1,d.2.2.1,d.2.2.2)=d from rfl,e1,ic hi,jo hd,Î hi (by omega)];rw[show(d.1,d.2.1,d.2.2.1,d.2.2.2.1,d.2.2.2.2)=d from rfl,e1]
  ·try dsimp only
   unfold vt;rw[à];dsimp only;rw[Ö (by simp only[List.length_singleton]; omega),Am.iff_true];rw[show û (b.1,b.2.1,b.2.2.1,b.2.2.2.1,b.2.2.2.2.1++[c],b.2.2.2.2.2)=û (ì b c) from rfl,i6 (aiL h hA hB) hr,À]
   by_cases hc2:ç (ì b c)=0
   ·rw[Ð (by simp[ine,hc2]),if_neg (show ¬(ç (ì b c)≠0) from fun h=>h hc2)];rfl
   ·rw[Ó (by simp[ine,hc2]),if_pos hc2];rfl
 ·rw[Ó (by simp[ine,hc]),if_pos hc];rfl
def É (c:Cmp):Cmp:=(c.1,c.2.1,c.2.2.1,c.2.2.2.1,0,c.2.2.2.2.2)
def adJ (b:Þ) (c:Cmp):Int:=JQ (Ņ b c).1+(jD b c).1-c.2.2.2.2.2.1
def DG (b:Þ) (c:Cmp):Int:=(Ņ b c).2.1 / (Ņ b c).2.2+(jD b c).2+c.2.2.2.2.2.1
def NA (b:Þ) (c:Cmp) (s:Int×Int):(Int×Int)×Int:=if DG b c<adJ b c then((0,0),5) else((s.1+adJ b c,s.2+DG b c),0)
structure aev (b:Þ) (c:Cmp):Prop where
 nums:LG c=true
 r1:pZ (D4 (iw b) (è c.2.2.1 c.2.2.2.1)) 1000 100
 r2:pZ (D4 (iw b) (è c.2.2.2.1 c.2.2.1)) 1000 100
def ē.cmp {b:Þ} (h:ē b) {c:Cmp} (hc:c∈b.2.2.2.2.1):aev b c:=⟨h.nums hc,(h.rates hc).1,(h.rates hc).2⟩
def xa {b:Þ} (hf:0≤b.1.1∧b.1.1≤b.1.2∧b.1.2≤1000000) {c:Cmp} (h:aev b c):pZ (Ņ b c).1 2000000000 10000∧pZ (Ņ b c).2 2000000000 10000∧(-3000000000≤JQ (Ņ b c).1+(jD b c).1∧JQ (Ņ b c).1+(jD b c).1≤3000000000) ∧
 (-3000000000≤(Ņ b c).2.1 / (Ņ b c).2.2+(jD b c).2∧(Ņ b c).2.1 / (Ņ b c).2.2+(jD b c).2≤3000000000)∧(0≤c.2.2.2.2.2.1∧c.2.2.2.2.2.1≤1073741824):=by
 have hn:=(Χ c).1 h.nums;have ha:=ķ hn.2.2.2.2.2.1;have hb:=ķ hn.2.2.2.2.2.2;obtain⟨g1,g2⟩:=VK (Ns h.r1 h.r2) hn.2.2.2.2.1;have fb:=vE (b:=b) (c:=c) (by omega) (by omega) (by omega) (by omega) (by omega) (by omega);have q1:pZ (Ņ b c).1 2000000000 10000:=g1;have q2:pZ (Ņ b c).2 2000000000 10000:=g2;have c1:=Au q1;have c2:=vB q2;exact⟨q1,q2,by omega,by omega,hn.2.2.2.1⟩
def alg {b:Þ} (hs:Γ b) (hf:0≤b.1.1∧b.1.1≤b.1.2∧b.1.2≤1000000) {c:Cmp} (h:aev b c) {s:Int×Int} (h1 : -2305843009213693952≤s.1∧s.1≤2305843009213693952) (h2 : -2305843009213693952≤s.2∧s.2≤2305843009213693952):tR b c s=some (NA b c s):=by
 have hn:=(Χ c).1 h.nums;have ha:=ķ hn.2.2.2.2.2.1;have hb:=ķ hn.2.2.2.2.2.2;obtain⟨q1,q2,b1,b2,b3⟩:=xa hf h;unfold tR Qa NA adJ DG;rw[abq hs (by omega) (by omega) h.r1 h.r2 hn.2.2.2.2.1,À,afA (by omega) (by omega) (by omega) (by omega) (by omega) (by omega),À,akP q1.rat,À,aga q2.rat,À];dsimp only;rw[Õ (by omega) (by omega),Õ (by omega) (by omega),Õ (by omega) (by omega),Õ (by omega) (by omega),Ĥ]
 by_cases hlt:(Ņ b c).2.1 / (Ņ b c).2.2+(jD b c).2+c.2.2.2.2.2.1<JQ (Ņ b c).1+(jD b c).1-c.2.2.2.2.2.1
 ·rw[if_pos (by simpa[igt] using hlt),if_pos hlt]
 ·rw[if_neg (by simpa[igt] using hlt),if_neg hlt,Õ (by omega) (by omega),Õ (by omega) (by omega)]
def ø (b:Þ):List Lk:=(Ý b).take ((Ý b).length-2)
def Ľ (b:Þ) (c:Cmp):(Int×Int)×Int :=
 if (zB b (É c)).2≠0 then((0,0),(zB b (É c)).2) else
 if (ii (ø (ì b (É c))) ((Ê (ì b (É c))).length+1) (cy (ì b (É c)) (É c)) (cx (ì b (É c)) (É c))).2≠0 then
  ((0,0),(ii (ø (ì b (É c))) ((Ê (ì b (É c))).length+1) (cy (ì b (É c)) (É c)) (cx (ì b (É c)) (É c))).2) else
 if (ii (ø (ì b (É c))) ((Ê (ì b (É c))).length+1) (cx (ì b (É c)) (É c)) (cy (ì b (É c)) (É c))).2≠0 then
  ((0,0),(ii (ø (ì b (É c))) ((Ê (ì b (É c))).length+1) (cx (ì b (É c)) (É c)) (cy (ì b (É c)) (É c))).2) else
 NA b (É c) (-(ii (ø (ì b (É c))) ((Ê (ì b (É c))).length+1) (cx (ì b (É c)) (É c)) (cy (ì b (É c)) (É c))).1,
  (ii (ø (ì b (É c))) ((Ê (ì b (É c))).length+1) (cy (ì b (É c)) (É c)) (cx (ì b (É c)) (É c))).1)
def aco {L:List Lk} {N:Nat} (h:į L N) {s t:Int} (hs:0≤s∧s<N) (ht:0≤t∧t<N) : -2305843009213693952≤(ii L N s t).1∧(ii L N s t).1≤2305843009213693952:=by
 unfold ii;have h2:=h.n60
 split
 ·simp
 ·rename_i ho
  have ho':ģ L N=true:=by simpa using ho
  obtain⟨p,hp⟩:=(Ĭ h.links (by omega)).1 ho';have hd:=Β h.links (by omega) hp hs
  split
  ·simp
  ·rename_i hne;dsimp only;have hb:=hd.bd t ht.1 ht.2;obtain⟨vs,hw⟩:=hd.att t ht.1 ht.2 hne;have h3:=hw.low' hp;have h4:=VT (L:=L) (fun l hl=>(h.most l hl).1) (M:=4503599627370496) (by omega);have h5:=h.len;unfold ľ at hb
   constructor<;>omega
def ahD {b:Þ} (hs:Γ b) (hr:∀g∈b.2.1,I64 g.2.2.2.2.1.1) {c:Cmp} (hA:c.2.2.1.length≤1000) (hB:c.2.2.2.1.length≤1000):vQ b c=some (Ľ b c):=by
 unfold vQ DB Ľ;rw[show oC b (c.1,c.2.1,c.2.2.1,c.2.2.2.1,0,c.2.2.2.2.2)=oC b (É c) from rfl,aku hs hr (c:=É c) hA hB,À]
 by_cases hw:(zB b (É c)).2=0
 ·rw[Ð (by simp[ine,hw]),if_neg (show ¬((zB b (É c)).2≠0) from fun h=>h hw)]
  -- the book is valid, and so is the greater one
  have hb:ç b=0:=by
   unfold zB at hw
   split at hw
   ·rename_i h; exact(h hw).elim
   ·rename_i h; simpa using h
  have hm:ç (ì b (É c))=0:=by
   unfold zB at hw;rw[if_neg (by simp[hb])] at hw
   split at hw
   ·rename_i h; exact(h hw).elim
   ·rename_i h; simpa using h
  have he:zB b (É c)=(ì b (É c),0):=by
   unfold zB;rw[if_neg (by simp[hb]),if_neg (by simp[hm])]
  have g:=(ë b).1 hb;have gm:=(ë _).1 hm
  have hmem:É c∈(ì b (É c)).2.2.2.2.1:=by simp[ì]
  have hN:=gm.nodes;have hll:=GU gm
  have hcl:(ì b (É c)).2.2.2.2.1.length=b.2.2.2.2.1.length+1:=by simp[ì]
  have hlk:=gm.links;have hsys:į (ø (ì b (É c))) ((Ê (ì b (É c))).length+1):=gm.sys.sub (fun l hl=>List.mem_of_mem_take hl) (by unfold ø; rw[List.length_take]; omega);have hx:=(Yb gm hmem).rng;have hy:=(QY gm hmem).rng;have lA:c.2.2.1.length≤1000:=hA;rw[he];dsimp only;rw[afk gm,À];dsimp only;rw[á,Õ (by omega) (by omega)]
  have e1:((ile (0:Int) (((Ý (ì b (É c))).length:Int)-2))&&(ile (((Ý (ì b (É c))).length:Int)-2) (þ (Ý (ì b (É c))))))=true:=by
   simp[ile,þ]; omega
  have e2:(((Ý (ì b (É c))).length:Int)-2).toNat=(Ý (ì b (É c))).length-2:=by omega
  rw[ĝ e1,rV (by omega) (by omega),À,akn _ _ _ (by dsimp only; omega),À,rV (by omega) (by omega),À,akn _ _ _ (by dsimp only; omega),À,e2]
  have e3:(((Ê (ì b (É c))).length:Int)+1)=(((Ê (ì b (É c))).length+1:Nat):Int):=by push_cast; rfl
  rw[e3];rw[show List.take ((Ý (ì b (É c))).length-2) (Ý (ì b (É c)))=ø (ì b (É c)) from rfl];dsimp only;rw[show atP (Ê (ì b (É c))) (è c.2.2.1 c.2.2.2.1) c.2.1=cx (ì b (É c)) (É c) from rfl,show atP (Ê (ì b (É c))) (è c.2.2.2.1 c.2.2.1) c.2.1=cy (ì b (É c)) (É c) from rfl];rw[No hsys hy hx,À,No hsys hx hy];have b1:=aco hsys hy hx;have b2:=aco hsys hx hy;generalize hB1:ii (ø (ì b (É c))) ((Ê (ì b (É c))).length+1) (cy (ì b (É c)) (É c)) (cx (ì b (É c)) (É c))=B1 at b1 ⊢;generalize hB2:ii (ø (ì b (É c))) ((Ê (ì b (É c))).length+1) (cx (ì b (É c)) (É c)) (cy (ì b (É c)) (É c))=B2 at b2 ⊢
  by_cases h1:B1.2=0
  ·rw[Ð (by simp[ine,h1]),if_neg (show ¬(B1.2≠0) from fun h=>h h1),À]
   by_cases h2:B2.2=0
   ·rw[Ð (by simp[ine,h2]),if_neg (show ¬(B2.2≠0) from fun h=>h h2),Õ (by omega) (by omega)];have hck:aev b (É c):=⟨(gm.cmp hmem).nums,(gm.cmp hmem).r1,(gm.cmp hmem).r2⟩;rw[show tR b (c.1,c.2.1,c.2.2.1,c.2.2.2.1,0,c.2.2.2.2.2) (0-B2.1,B1.1)=tR b (É c) (0-B2.1,B1.1) from rfl,alg g.size g.film hck (by dsimp only; omega) (by dsimp only; omega),À,Int.zero_sub]
   ·rw[Ó (by simp[ine,h2]),if_pos h2]
  ·rw[Ó (by simp[ine,h1]),if_pos h1]
 ·rw[Ó (by simp[ine,hw]),if_pos hw]
structure In (b:Þ):Prop where
 size:Γ b
 num:∀g∈b.2.1,I64 g.2.2.2.2.1.1
def YA (b:Þ):Sys×List (Int×Int)×Int:=if ç b≠0 then((0,[]),[],ç b) else((((Ê b).length:Int)+1,Ý b),Ŭ b,0)
def pW {b:Þ} (h:In b):ħ b=some (YA b):=by
 unfold ħ Jp YA;rw[i6 h.size h.num,À]
 by_cases hc:ç b=0
 ·rw[Ð (by simp[ine,hc]),afk ((ë b).1 hc),À,if_neg (show ¬(ç b≠0) from fun h=>h hc)]
 ·rw[Ó (by simp[ine,hc]),if_pos hc]
def cmp0:Cmp:=(0,0,[],[],0,0,0,0)
def sf (b:Þ) (i:Int):Cmp×Int:=if ç b≠0 then(cmp0,ç b) else if i<0∨(b.2.2.2.2.1.length:Int)≤i then(cmp0,1) else(b.2.2.2.2.1[i.toNat]?.getD cmp0,0)
def akY {b:Þ} (h:In b) (i:Int):Hn b i=some (sf b i):=by
 unfold Hn P8 sf;rw[i6 h.size h.num,À]
 by_cases hc:ç b=0
 ·rw[Ð (by simp[ine,hc]),if_neg (show ¬(ç b≠0) from fun h=>h hc),á]
  by_cases h1:i<0
  ·rw[Ó (by simp[ilt,h1]),if_pos (.inl h1)]; rfl
  ·rw[Ð (by simp[ilt]; omega)]
   by_cases h2:(b.2.2.2.2.1.length:Int)≤i
   ·rw[Ó (by simp[ige,h2]),if_pos (.inr h2)]; rfl
   ·rw[Ð (by simp[ige]; omega),if_neg (by omega)];obtain⟨j,rfl⟩:=fP (show 0≤i by omega)
    have hj:j<b.2.2.2.2.1.length:=by omega
    rw[Ë (cI hj),dl,cI hj];rfl
 ·rw[Ó (by simp[ine,hc]),if_pos hc]; rfl
def act {b:Þ} {i:Int} (h:(sf b i).2=0):ē b∧(sf b i).1∈b.2.2.2.2.1∧b.2.2.2.2.1[i.toNat]?=some (sf b i).1∧0≤i:=by
 unfold sf at h ⊢
 split at h
 ·rename_i hc; exact(hc h).elim
 ·rename_i hc
  have hc0:ç b=0:=by simpa using hc
  split at h
  ·simp at h
  ·rename_i hi
   have hj:i.toNat<b.2.2.2.2.1.length:=by omega
   rw[if_neg hc,if_neg hi,cI hj];exact⟨(ë b).1 hc0,fg hj,rfl,by omega⟩
def amG (b:Þ) (i:Int):(Int×Int)×Int:=if (sf b i).2≠0 then((0,0),(sf b i).2) else(Φ b (sf b i).1,0)
def aoi {b:Þ} (h:In b) (i:Int):Nh b i=some (amG b i):=by
 unfold Nh XJ amG;rw[akY h,À]
 by_cases hw:(sf b i).2=0
 ·obtain⟨g,hm,_,_⟩:=act hw;rw[Ð (by simp[ine,hw]),g.says hm,À,if_neg (show ¬((sf b i).2≠0) from fun h=>h hw)]
 ·rw[Ó (by simp[ine,hw]),if_pos hw]
def exB:Þ:=((0,2),[(1,0,1000,(-5,5),(1,10),1),(2,0,1000,(-50,50),(1,4),0)],[(1,10)],[(1,(20,29),3)],[(7,10,[1],[2],-20,1,100,200)],[])
def zn:In exB:=⟨⟨by decide,by decide,by decide,by decide,by decide,by decide⟩,by
 intro g hg;simp[exB] at hg
 rcases hg with rfl|rfl<;>exact⟨by decide,by decide⟩⟩
def exC:Cmp:=(8,10,[1],[2],0,0,0,0)
def jH (b:Þ) (x d:Int):Int:=match ix (Ê b) x d with|some j=>(j:Int)+1|none=>0
def af9 (b:Þ) (n:Int×Int):Int×Int:=if ç b≠0 then(0,ç b) else if jH b n.1 n.2=0 then(0,5) else(jH b n.1 n.2,0)
def Ru {b:Þ} (h:In b) (n:Int×Int):Ş b n=some (af9 b n):=by
 have hl:=Ib h.size;unfold Ş Qp af9;rw[i6 h.size h.num,À]
 by_cases hc:ç b=0
 ·rw[Ð (by simp[ine,hc]),if_neg (show ¬(ç b≠0) from fun h=>h hc),VP h.size,À,show ú (Ê b) n=ú (Ê b) (n.1,n.2) from rfl,aci (by omega),À];unfold jH
  cases hx:ix (Ê b) n.1 n.2 with
  |none=>rfl
  |some j =>
   have:=(ku hx).1;simp only;rw[Ð (by simp[ilt]),Õ (by omega) (by omega),if_neg (by omega)]
 ·rw[Ó (by simp[ine,hc]),if_pos hc]
def jg (b:Þ) (n:Int×Int):Þ:=(b.1,b.2.1,b.2.2.1,b.2.2.2.1,b.2.2.2.2.1,b.2.2.2.2.2++[n])
def abd {b:Þ} (h:ē b) (n:Int×Int):Γ (jg b n):=by
 have hs:=h.size;have:=h.nK;exact⟨hs.gauges,hs.uses,hs.loans,hs.compares,by simp[jg]; omega,hs.piles⟩
def ahE (b:Þ) (n:Int×Int):Þ×Int:=if ç b≠0 then(lS,ç b) else if ç (jg b n)≠0 then(lS,ç (jg b n)) else(jg b n,0)
def aon {b:Þ} (h:In b) (n:Int×Int):jB b n=some (ahE b n):=by
 have hs:=h.size;have h1:=hs.gauges; have h2:=hs.uses; have h3:=hs.loans; have h4:=hs.compares; have h5:=hs.looks;unfold jB XK ahE;rw[i6 hs h.num,À]
 by_cases hc:ç b=0
 ·have hg:=(ë b).1 hc;rw[Ð (by simp[ine,hc]),Ö (by omega),Am.iff_true,Ö (by omega),Am.iff_true,Ö (by omega),Am.iff_true,Ö (by omega),Am.iff_true,Ö (by omega),Am.iff_true,if_neg (show ¬(ç b≠0) from fun h=>h hc)];refine ð b.2.2.2.2.1 (fun _=>b.2.2.2.2.1) _ rfl (fun i d hi hd kn=>?_) (fun kn=>?_)
  ·dsimp only;unfold vu;obtain⟨p1,p2⟩:=hs.piles d (List.mem_of_getElem? hd)
   have e1:b.2.2.2.2.1.set i d=b.2.2.2.2.1:=by
    obtain⟨h,rfl⟩:=cO.1 hd;exact List.set_getElem_self h
   rw[Ô hi,ic hi,Ī hd,Ö (by omega),Am.iff_true,Ö (by omega),Am.iff_true,ic hi,Ī hd,dl];rw[show(d.1,d.2.1,d.2.2.1,d.2.2.2)=d from rfl,e1,ic hi,jo hd,Î hi (by omega)];rw[show(d.1,d.2.1,d.2.2.1,d.2.2.2.1,d.2.2.2.2)=d from rfl,e1]
  ·try dsimp only
   unfold vu;rw[à];dsimp only;rw[Ö (by simp only[List.length_singleton]; omega),Am.iff_true];rw[show û (b.1,b.2.1,b.2.2.1,b.2.2.2.1,b.2.2.2.2.1,b.2.2.2.2.2++[n])=û (jg b n) from rfl,i6 (abd hg n) h.num,À]
   by_cases hc2:ç (jg b n)=0
   ·rw[Ð (by simp[ine,hc2]),if_neg (show ¬(ç (jg b n)≠0) from fun h=>h hc2)];rfl
   ·rw[Ó (by simp[ine,hc2]),if_pos hc2];rfl
 ·rw[Ó (by simp[ine,hc]),if_pos hc];rfl
def acj {b:Þ} {x:List Int}:ahH b x=(true,0)↔ē b∧M6 b x=true∧anV b x=true:=by
 unfold ahH;constructor
 ·intro h
  split at h
  ·cases h
  ·rename_i hc
   have hc0:ç b=0:=by simpa using hc
   split at h
   ·rename_i hl;simp only[Prod.mk.injEq,and_true] at h;exact⟨(ë b).1 hc0,hl,h⟩
   ·cases h
 ·rintro⟨h1,h2,h3⟩;rw[if_neg (by simp[(ë b).2 h1]),if_pos h2,h3]
def yZ {b:Þ} {x:List Int}:M6 b x=true↔x.length=(Ê b).length∧∀n∈x,-4503599627370496≤n∧n≤4503599627370496:=by
 simp[M6,inP]
def abA {L:List Lk} {x:List Int}:anW L x=true↔Pot L (gv x):=by
 simp only[anW,dz,decide_eq_true_eq,Pot];exact⟨fun h u v m hl=>h (u,v,m) hl,fun h l hl=>h l.1 l.2.1 l.2.2 hl⟩
def anN (a:Int) (x:List Int) {v:Int} (hv:0≤v):gv (a::x) v=if v=0 then a else gv x (v-1):=by
 unfold gv
 by_cases h:v=0
 ·subst h; rfl
 ·obtain⟨n,rfl⟩:=fP hv
  cases n with
  |zero=>simp at h
  |succ n =>
   have e:(((n+1:Nat):Int)-1).toNat=n:=by omega
   rw[if_neg h,e];simp
section
variable {b:Þ}
def aiA:off b b.2.1.length=(Ê b).length:=by unfold off Ê; rw[List.take_length]
def afe:∀n,n≤b.2.1.length→∀j,j<off b n→∃(i:Nat) (g:ê) (k:Nat),b.2.1[i]?=some g∧k<(ß b g).length∧j=off b i+k:=by
 intro n
 induction n with
 |zero=>intro _ j hj; simp[off] at hj
 |succ n ih =>
  intro hn j hj;have hg:b.2.1[n]?=some b.2.1[n]:=cI (by omega);rw[alw hg] at hj
  by_cases h:j<off b n
  ·exact ih (by omega) j h
  ·exact⟨n,_,j-off b n,hg,by omega,by omega⟩
def Ua {v:Int} (h0:1≤v) (h1:v<((Ê b).length+1:Nat)):∃(i:Nat) (g:ê) (k:Nat),b.2.1[i]?=some g∧k<(ß b g).length∧v=(off b i:Int)+k+1:=by
 obtain⟨i,g,k,h2,h3,h4⟩:=afe (b:=b) b.2.1.length (cJ _) (v-1).toNat (by rw[aiA]; omega);exact⟨i,g,k,h2,h3,by omega⟩
def GL (b:Þ) (L:List Lk):Prop:=∀(i:Nat) (g:ê),b.2.1[i]?=some g→∀l∈ô b g,l∈L
def M8:GL b (Ý b):=fun i g hg l hl=>oP.2 (.inl ⟨i,g,hg,hl⟩)
def acv {L:List Lk} (h:ē b) (hL:GL b L) {v:Int} (h0:0≤v) (h1:v<((Ê b).length+1:Nat)):∃vs d,Wl L (fun u=>u=0) vs v d∧d≤4503599627370496:=by
 by_cases hv:v=0
 ·exact⟨[],0,.nil hv,by omega⟩
 obtain⟨i,g,k,hg,hk,rfl⟩:=Ua (by omega) h1;have hr:=h.gaugeR (cR hg);have r1:=hr.2.2.2.2.2.1;have r2:=hr.2.2.2.2.2.2.1
 have key:∀k:Nat,k<(ß b g).length→∃vs,Wl L (fun u=>u=0) vs ((off b i:Int)+k+1) (g.2.2.1+g.2.2.2.1.2):=by
  intro k
  induction k with
  |zero =>
   intro _;have hw:Wl L (fun u=>u=0) [0] ((off b i:Int)+1) (0+(g.2.2.1+g.2.2.2.1.2)):=Wl.step (.nil rfl) (hL i g hg _ ((ł h hg).2 (.inl rfl)));rw[Int.zero_add] at hw;exact⟨[0],by simpa using hw⟩
  |succ k ih =>
   intro hk;obtain⟨vs,hw⟩:=ih (by omega);have hw':=Wl.step hw (hL i g hg _ ((ł h hg).2 (.inr (.inr ⟨k,_,_,cI (show k<_ by omega),cI hk,.inl rfl⟩))));rw[f6] at hw'
   have e:(off b i:Int)+((k+1:Nat):Int)+1=(off b i:Int)+k+2:=by push_cast; omega
   exact⟨_,by rw[e]; exact hw'⟩
 obtain⟨vs,hw⟩:=key k hk;exact⟨vs,_,hw,by omega⟩
def Nr {L:List Lk} (h:ē b) (hL:GL b L) {v:Int} (h0:0≤v) (h1:v<((Ê b).length+1:Nat)):∃vs d,Wl L (fun u=>u=v) vs 0 d∧d≤4503599627370496:=by
 by_cases hv:v=0
 ·exact⟨[],0,.nil hv.symm,by omega⟩
 obtain⟨i,g,k,hg,hk,rfl⟩:=Ua (by omega) h1;have hgm:=cR hg;have hr:=h.gaugeR hgm;have r1:=hr.2.2.2.2.2.1;have r2:=hr.2.2.2.2.2.2.1;have hd:=Ht h hgm
 have key:∀m:Nat,m≤k→∃vs d,Wl L (fun u=>u=(off b i:Int)+k+1) vs ((off b i:Int)+(k-m:Nat)+1) d∧d≤m*(12*(20001*1048576)+40*1048576):=by
  intro m
  induction m with
  |zero=>intro _; exact⟨[],0,.nil (by simp),by simp⟩
  |succ m ih =>
   intro hm;obtain⟨vs,d,hw,hd⟩:=ih (by omega)
   have e1:((k-m:Nat):Int)=((k-(m+1):Nat):Int)+1:=by omega
   have hl:(((off b i:Int)+(k-(m+1):Nat)+2,(off b i:Int)+(k-(m+1):Nat)+1,iQ b g ((ß b g)[k-(m+1)]'(by omega)) ((ß b g)[k-(m+1)+1]'(by omega))):Lk)∈L :=
    hL i g hg _ ((ł h hg).2 (.inr (.inr ⟨k-(m+1),_,_,cI (by omega),cI (by omega),.inr rfl⟩)))
   have hb:=kp h hgm (f:=(ß b g)[k-(m+1)]'(by omega)) (t:=(ß b g)[k-(m+1)+1]'(by omega)) (h.day hgm (fg _)).2.1
   have e2:(off b i:Int)+(k-m:Nat)+1=(off b i:Int)+(k-(m+1):Nat)+2:=by omega
   rw[e2] at hw;exact⟨_,_,.step hw hl,by push_cast; omega⟩
 obtain⟨vs,d,hw,hdb⟩:=key k (cJ _)
 have e:(off b i:Int)+(k-k:Nat)+1=(off b i:Int)+1:=by omega
 rw[e] at hw;have hw':=Wl.step hw (hL i g hg _ ((ł h hg).2 (.inr (.inl rfl))));exact⟨_,_,hw',by omega⟩
def alo (h:ē b) {p:Int→Int} (hp:Pot (Ý b) p) {v:Int} (h0:0≤v) (h1:v<((Ê b).length+1:Nat)) : -4503599627370496≤p v-p 0∧p v-p 0≤4503599627370496:=by
 obtain⟨vs,d,hw,hd⟩:=acv h M8 h0 h1;obtain⟨ws,e,hx,he⟩:=Nr h M8 h0 h1;obtain⟨s,rfl,hs⟩:=hw.pot hp;obtain⟨t,rfl,ht⟩:=hx.pot hp;omega
end
structure vZ (L:List Lk) (N:Nat):Prop where
 to:∀v:Int,0≤v→v<N→∃vs d,Wl L (fun u=>u=0) vs v d∧d≤4503599627370496
 from':∀v:Int,0≤v→v<N→∃vs d,Wl L (fun u=>u=v) vs 0 d∧d≤4503599627370496
def ē.tied {b:Þ} (h:ē b):vZ (Ý b) ((Ê b).length+1):=⟨fun v h0 h1=>acv h M8 h0 h1,fun v h0 h1=>Nr h M8 h0 h1⟩
def ē.tiedL {b:Þ} {L:List Lk} (h:ē b) (hL:GL b L):vZ L ((Ê b).length+1):=⟨fun v h0 h1=>acv h hL h0 h1,fun v h0 h1=>Nr h hL h0 h1⟩
section
variable {L:List Lk} {N:Nat}
def N1 {L:List Lk} {s:Int} {vs:List Int} {v d:Int}:Wl L (fun v=>aix s v=true) vs v d↔Wl L (fun u=>u=s) vs v d :=
 ⟨fun h=>h.mono fun u hu=>by simpa[aix] using hu,fun h=>h.mono fun u hu=>by simpa[aix] using hu⟩
def pV (s:Int):(ŕ L N s).length=N:=by unfold ŕ; rw[ĥ,ö]
def JV (h:į L N) (ht:vZ L N) (ho:ģ L N=true) {v:Int} (h0:0≤v) (h1:v<N):gv (ŕ L N 0) v≤4503599627370496:=by
 have h2:=h.n60;have h3:=h.n1;obtain⟨p,hp⟩:=(Ĭ h.links (by omega)).1 ho;obtain⟨vs,d,hw,hd⟩:=ht.to v h0 h1;have:=(Β h.links (by omega) hp (s:=0) ⟨by omega,by omega⟩).low v vs d (N1.2 hw);omega
def aht (h:į L N) (ht:vZ L N) (ho:ģ L N=true) {v:Int} (h0:0≤v) (h1:v<N):gv (ŕ L N v) 0≤4503599627370496:=by
 have h2:=h.n60;have h3:=h.n1;obtain⟨p,hp⟩:=(Ĭ h.links (by omega)).1 ho;obtain⟨vs,d,hw,hd⟩:=ht.from' v h0 h1;have:=(Β h.links (by omega) hp (s:=v) ⟨h0,h1⟩).low 0 vs d (N1.2 hw);omega
def Rk (h:į L N) (ho:ģ L N=true) {v:Int} (h0:0≤v) (h1:v<N):gv (ŕ L N v) v=0:=by
 have h2:=h.n60;obtain⟨p,hp⟩:=(Ĭ h.links (by omega)).1 ho;have hd:=Β h.links (by omega) hp (s:=v) ⟨h0,h1⟩;have h3:=hd.low v [] 0 (.nil (by simp[aix]));obtain⟨vs,hw⟩:=hd.att v h0 h1 (by unfold ľ; omega);obtain⟨s,hs,hx⟩:=(N1.1 hw).pot hp;subst hs;omega
def ael (h:į L N) (ht:vZ L N) (ho:ģ L N=true):Pot L (gv (ŕ L N 0)):=by
 have h2:=h.n60;have h3:=h.n1;obtain⟨p,hp⟩:=(Ĭ h.links (by omega)).1 ho;intro u v m hl;have hr:=h.inr _ hl;have:=JV h ht ho hr.1.1 hr.1.2;exact(Β h.links (by omega) hp (s:=0) ⟨by omega,by omega⟩).pot h.inr hl (by simp only at this; unfold ľ; omega)
end
def Vc {b:Þ}:∀i,i≤b.2.2.2.2.1.length→((b.2.2.2.2.1.take i).flatMap (Ą b)).length=2*i∧(((b.2.2.2.2.1.take i).mapIdx fun i _=>[((3:Int),(i:Int)),((3:Int),(i:Int))]).flatten).length=2*i:=by
 intro i
 induction i with
 |zero=>intro _; simp
 |succ i ih =>
  intro hi;have ih:=ih (by omega);have hg:b.2.2.2.2.1[i]?=some b.2.2.2.2.1[i]:=cI hi;rw[iA _ hg,take_succ hg,eJ,ft,cN,cN];simp only[dP,gH,dH,fY,gd,Ą,cX,dk];omega
section
variable {L:List Lk} {N:Nat}
def HM (h:į L N):Ē ((N:Int),L)=some (ģ L N,0):=by
 have h2:=h.n60;unfold Ē rO;rw[lL h,À];dsimp only;rw[Ð (by rfl),Cs h.links h.n1 (by omega),À]
 cases ģ L N<;>rfl
end
def jJ (b:Þ) (n:Int×Int):Þ×Int:=if jH b n.1 n.2≠0 then(b,0) else if ç (jg b n)≠0 then(lS,ç (jg b n)) else(jg b n,0)
def ŏ:Þ→List (Int×Int)→Þ×Int
 |b,[]=>(b,0)
 |b,n::t=>if (jJ b n).2≠0 then(lS,(jJ b n).2) else ŏ (jJ b n).1 t
def ý (b:Þ) (ns:List (Int×Int)):Þ×Int :=
 if ç b≠0 then(lS,ç b) else if (ŏ b ns).2≠0 then(lS,(ŏ b ns).2) else
 if ģ (Ý (ŏ b ns).1) ((Ê (ŏ b ns).1).length+1) then((ŏ b ns).1,0) else(lS,9)
def YV {b:Þ} (h:ē b) {n:Int×Int} (e:(jJ b n).2=0):ē (jJ b n).1:=by
 unfold jJ at e ⊢
 split
 ·exact h
 ·rename_i h1;rw[if_neg h1] at e
  split
  ·rename_i h2;rw[if_pos h2] at e;exact absurd e h2
  ·rename_i h2;exact(ë _).1 (by simpa using h2)
def acy {b:Þ} {n:Int×Int} (e:(jJ b n).2=0):(jJ b n).1.2.1=b.2.1:=by
 unfold jJ at e ⊢
 split
 ·rfl
 ·rename_i h1;rw[if_neg h1] at e
  split
  ·rename_i h2;rw[if_pos h2] at e;exact absurd e h2
  ·rfl
def D3:∀{ns:List (Int×Int)} {b:Þ},ē b→(ŏ b ns).2=0→ē (ŏ b ns).1
 |[],b,h,_=>h
 |n::t,b,h,e=>by
  unfold ŏ at e ⊢
  split
  ·rename_i h1; rw[if_pos h1] at e; exact absurd e h1
  ·rename_i h1;rw[if_neg h1] at e;exact D3 (YV h (by simpa using h1)) e
def t7:∀{ns:List (Int×Int)} {b:Þ},(ŏ b ns).2=0→(ŏ b ns).1.2.1=b.2.1
 |[],b,_=>rfl
 |n::t,b,e=>by
  unfold ŏ at e ⊢
  split
  ·rename_i h1; rw[if_pos h1] at e; exact absurd e h1
  ·rename_i h1;rw[if_neg h1] at e;rw[t7 e,acy (by simpa using h1)]
def ē.inn {b:Þ} (h:ē b) (hn:∀g∈b.2.1,I64 g.2.2.2.2.1.1):In b:=⟨h.size,hn⟩
def jm {b:Þ} (h:ē b):YA b=((((Ê b).length:Int)+1,Ý b),Ŭ b,0):=by
 unfold YA;rw[if_neg (by simp[(ë b).2 h])]
def DQ {b:Þ} (h:ē b) (n:Int×Int):af9 b n=if jH b n.1 n.2=0 then(0,5) else(jH b n.1 n.2,0):=by
 unfold af9;rw[if_neg (by simp[(ë b).2 h])]
abbrev Flat:Type:=Int×Int×List ê×List (Int×Int)×List Lv×List Cmp×List (Int×Int)
def flat (b:Þ):Flat:=(b.1.1,b.1.2,b.2.1,b.2.2.1,b.2.2.2.1,b.2.2.2.2.1,b.2.2.2.2.2)
def vC (b:Þ):(((flat b).1,(flat b).2.1),(flat b).2.2)=b:=rfl
section
variable {ρ:Type}
def anq (ns:List (Int×Int)) (E1:Int×Flat→Option ρ) (K1:Flat→Option ρ) (b:Þ):Option ρ :=
 Ò (fun(v:Int×Flat) kk=>ą (Ú ns) ns v.1 v.2.1 v.2.2.1 v.2.2.2.1 v.2.2.2.2.1 v.2.2.2.2.2.1 v.2.2.2.2.2.2.1 v.2.2.2.2.2.2.2 (fun u1 u2 u3 u4 u5 u6 u7 u8=>kk (u1,u2,u3,u4,u5,u6,u7,u8)) (fun z=>E1 z) (fun z=>K1 z)) ((0:Int),b.1.1,b.1.2,b.2.1,b.2.2.1,b.2.2.2.1,b.2.2.2.2.1,b.2.2.2.2.2)
def aii {ns:List (Int×Int)} (hl:ns.length≤1000) {E1:Int×Flat→Option ρ} {K1:Flat→Option ρ} (R:Int→Option ρ) (h1:∀z,z.1≠0→E1 z=R z.1) {b:Þ} (hg:ē b) (hn:∀g∈b.2.1,I64 g.2.2.2.2.1.1) :
 anq ns E1 K1 b=if (ŏ b ns).2≠0 then R (ŏ b ns).2 else K1 (flat (ŏ b ns).1):=by
 unfold anq
 refine GS ns (fun(i:Nat) (s:Flat) (t:List (Int×Int))=>if (ŏ ((s.1,s.2.1),s.2.2) t).2≠0 then R (ŏ ((s.1,s.2.1),s.2.2) t).2 else K1 (flat (ŏ ((s.1,s.2.1),s.2.2) t).1))
  (fun i s=>ē ((s.1,s.2.1),s.2.2)∧∀g∈s.2.2.1,I64 g.2.2.2.2.1.1) (fun s hs kn=>?_) (fun i n t s hd hi ha hs kn hk=>?_) (s:=flat b) ⟨hg,hn⟩
 ·dsimp only;unfold ą;rw[à];rfl
 ·dsimp only;unfold ą;obtain⟨hs1,hs2⟩:=hs;have hin:In ((s.1,s.2.1),s.2.2):=hs1.inn hs2;rw[Ô hi,ic hi,Ī ha];rw[show Ş ((s.1,s.2.1),s.2.2.1,s.2.2.2.1,s.2.2.2.2.1,s.2.2.2.2.2.1,s.2.2.2.2.2.2) n=Ş ((s.1,s.2.1),s.2.2) n from rfl,Ru hin,À];rw[show jB ((s.1,s.2.1),s.2.2.1,s.2.2.2.1,s.2.2.2.2.1,s.2.2.2.2.2.1,s.2.2.2.2.2.2) n=jB ((s.1,s.2.1),s.2.2) n from rfl,aon hin,À];rw[DQ hs1];generalize hB:(((s.1,s.2.1),s.2.2):Þ)=B at hs1 hin ⊢
  have hu:ŏ B (n::t)=if (jJ B n).2≠0 then(lS,(jJ B n).2) else ŏ (jJ B n).1 t:=rfl
  rw[hu]
  by_cases h0:jH B n.1 n.2=0
  ·rw[if_pos h0,Ð (by rfl)]
   by_cases h2:ç (jg B n)=0
   ·have e:jJ B n=(jg B n,0):=by unfold jJ; rw[if_neg (by simp[h0]),if_neg (by simp[h2])]
    have e2:ahE B n=(jg B n,0):=by unfold ahE; rw[if_neg (by simp[(ë B).2 hs1]),if_neg (by simp[h2])]
    rw[e2,e,Ð (by rfl),Î hi (by omega),if_neg (show ¬((0:Int)≠0) by simp)];subst hB;exact hk (s.1,s.2.1,s.2.2.1,s.2.2.2.1,s.2.2.2.2.1,s.2.2.2.2.2.1,s.2.2.2.2.2.2++[n]) ⟨(ë _).1 h2,hs2⟩
   ·have e:jJ B n=(lS,ç (jg B n)):=by unfold jJ; rw[if_neg (by simp[h0]),if_pos h2]
    have e2:ahE B n=(lS,ç (jg B n)):=by unfold ahE; rw[if_neg (by simp[(ë B).2 hs1]),if_pos h2]
    rw[e2,e,Ó (by simp[ine,h2]),if_pos h2,if_pos h2];exact h1 _ h2
  ·have e:jJ B n=(B,0):=by unfold jJ; rw[if_pos h0]
   rw[if_neg h0,Ó (by rfl),Î hi (by omega),e,if_neg (show ¬((0:Int)≠0) by simp)];subst hB;exact hk s ⟨hs1,hs2⟩
def qj {b:Þ} (hI:In b) {ns:List (Int×Int)} (hl:ns.length≤1000) {E0:Int→Option ρ} {E1:Int×Flat→Option ρ} {E2:Flat→Sys×List (Int×Int)×Int→Option ρ} {E3:Flat→Sys×List (Int×Int)×Int→Bool×Int→Option ρ}
 {K:Flat→Sys×List (Int×Int)×Int→Bool×Int→Option ρ} (R:Int→Option ρ) (h0:∀e,e≠0→E0 e=R e) (h1:∀z,z.1≠0→E1 z=R z.1) (h3:∀z s r,E3 z s r=R 9) :
 Ã (û b) (fun r1=>ifb (ine r1 (0:Int)) (E0 r1) (anq ns E1 (fun z8=>Ã (ħ ((z8.1,z8.2.1),z8.2.2)) fun r9=>ifb (ine r9.2.2 (0:Int)) (E2 z8 r9) (Ã (Ē r9.1) fun r10=>ifb (!r10.1) (E3 z8 r9 r10) (K z8 r9 r10))) b)) =
 if (ý b ns).2≠0 then R (ý b ns).2 else K (flat (ý b ns).1) ((((Ê (ý b ns).1).length:Int)+1,Ý (ý b ns).1),Ŭ (ý b ns).1,0) (true,0):=by
 rw[i6 hI.size hI.num,À];unfold ý
 by_cases hc:ç b=0
 ·have hg:=(ë b).1 hc;rw[Ð (by simp[ine,hc]),if_neg (show ¬(ç b≠0) from fun h=>h hc),aii hl R h1 hg hI.num]
  by_cases hr:(ŏ b ns).2=0
  ·rw[if_neg (show ¬((ŏ b ns).2≠0) from fun h=>h hr),if_neg (show ¬((ŏ b ns).2≠0) from fun h=>h hr)];have hB:=D3 hg hr
   have hBn:∀g∈(ŏ b ns).1.2.1,I64 g.2.2.2.2.1.1:=by rw[t7 hr]; exact hI.num
   generalize (ŏ b ns).1=B at hB hBn ⊢;rw[vC,pW (hB.inn hBn),À,jm hB,Ð (by rfl)];dsimp only;rw[show(((Ê B).length:Int)+1)=(((Ê B).length+1:Nat):Int) by push_cast; rfl,HM hB.sys,À]
   cases ho:ģ (Ý B) ((Ê B).length+1) with
   |true =>
    rw[if_neg (by simp)];simp only[dR,é];push_cast;rfl
   |false =>
    rw[if_pos (by simp)];simp only[fL,ğ];rw[h3];rfl
  ·rw[if_pos hr,if_pos hr,if_pos hr]
 ·rw[Ó (by simp[ine,hc]),h0 _ hc,if_pos hc,if_pos hc]
end
def Ly (b:Þ) (id day:Int):Bool:=b.2.2.1.any fun u=>u.1==id&&u.2==day
def ad0 (b:Þ) (g:ê) (d:Int):Int:=match lJ b g.1 d with|some l=>l.2.2|none=>if Ly b g.1 d then g.2.2.2.2.2 else 0
def ai1 (l:Lv) (id:Int) {f t:Int} (hft:f≤t):(if l.1=id∧0<Ę l f (t+1) then Ę l f (t+1)*l.2.2 else 0)=(if l.1=id∧0<Ę l f t then Ę l f t*l.2.2 else 0)+(if l.1=id∧l.2.1.1≤t∧t≤l.2.1.2 then l.2.2 else 0):=by
 by_cases hid:l.1=id
 ·by_cases h1:l.2.1.1≤t∧t≤l.2.1.2
  ·have e:Ę l f (t+1)=Ę l f t+1:=by unfold Ę; omega
   have p:0≤Ę l f t:=by unfold Ę; omega
   rw[e,if_pos ⟨hid,by omega⟩,if_pos (show l.1=id∧l.2.1.1≤t∧t≤l.2.1.2 from⟨hid,h1⟩),fV,gi]
   by_cases hp:0<Ę l f t
   ·rw[if_pos ⟨hid,hp⟩]
   ·rw[if_neg (fun h=>hp h.2)]
    have:Ę l f t=0:=by omega
    rw[this];omega
  ·rw[if_neg (show ¬(l.1=id∧l.2.1.1≤t∧t≤l.2.1.2) from fun h=>h1 h.2),f6]
   by_cases hlo:l.2.1.1≤t
   ·have e:Ę l f (t+1)=Ę l f t:=by unfold Ę; omega
    rw[e]
   ·have p1:¬0<Ę l f (t+1):=by unfold Ę; omega
    have p2:¬0<Ę l f t:=by unfold Ę; omega
    rw[if_neg (fun h=>p1 h.2),if_neg (fun h=>p2 h.2)]
 ·rw[if_neg (fun h=>hid h.1),if_neg (fun h=>hid h.1),if_neg (fun h=>hid h.1)];rfl
def UD (id:Int) {f t:Int} (hft:f≤t):∀{x:List Lv},x.Pairwise (fun a c=>¬(a.1=c.1∧a.2.1.1≤c.2.1.2∧c.2.1.1≤a.2.1.2)) →
 ļ id f (t+1) x=ļ id f t x+(match x.find? (fun l=>l.1==id&&inP t l.2.1.1 l.2.1.2) with|some l=>l.2.2|none=>0)
 |[],_=>rfl
 |l::r,hp=>by
  rw[dE] at hp;have ih:=UD id hft hp.2;simp only[ļ];rw[ih,ai1 l id hft,gw]
  by_cases hm:l.1=id∧l.2.1.1≤t∧t≤l.2.1.2
  ·have e:(l.1==id&&inP t l.2.1.1 l.2.1.2)=true:=by simp[inP,hm.1,hm.2.1,hm.2.2]
   have hn:r.find? (fun l=>l.1==id&&inP t l.2.1.1 l.2.1.2)=none:=by
    rw[eh];intro c hc hcm;simp only[inP,cM,beq_iff_eq,decide_eq_true_eq] at hcm;exact hp.1 c hc ⟨by rw[hm.1,hcm.1],by omega,by omega⟩
   rw[if_pos hm,e,hn];simp only;omega
  ·have e:(l.1==id&&inP t l.2.1.1 l.2.1.2)=false:=by
    rw[er];intro h;simp only[inP,cM,beq_iff_eq,decide_eq_true_eq] at h;exact hm h
   rw[if_neg hm,e];simp only;omega
section
variable {b:Þ}
def ē.apart (h:ē b):b.2.2.2.1.Pairwise (fun a c=>¬(a.1=c.1∧a.2.1.1≤c.2.1.2∧c.2.1.1≤a.2.1.2)):=by
 rw[List.pairwise_iff_getElem];intro i j hi hj hij ⟨h1,h2,h3⟩;have hz:=h.loans j _ (List.getElem?_eq_getElem hj);unfold Tz at hz
 have hany:(b.2.2.2.1.take j).any (fun x=>x.1==b.2.2.2.1[j].1&&(decide (x.2.1.1≤b.2.2.2.1[j].2.1.2)&&decide (b.2.2.2.1[j].2.1.1≤x.2.1.2)))=true:=by
  rw[eR];exact⟨b.2.2.2.1[i],df.2 ⟨i,by rw[cZ]; omega,by rw[gE]⟩,by simp[h1,h2,h3]⟩
 rw[hany] at hz
 (repeat' split at hz)<;>first|omega|simp_all
def ē.notUsed (h:ē b) {id d:Int} {l:Lv} (hl:lJ b id d=some l):Ly b id d=false:=by
 have hm:=gr hl;have hp:=fS hl;simp only[inP,cM,beq_iff_eq,decide_eq_true_eq] at hp;obtain⟨j,hj,rfl⟩:=df.1 hm;have hz:=h.loans j _ (cI hj);rw[er];intro hu;obtain⟨u,hu,hue⟩:=eR.1 hu;simp only[cM,beq_iff_eq] at hue
 have hany:b.2.2.1.any (fun u=>u.1==b.2.2.2.1[j].1&&inP u.2 b.2.2.2.1[j].2.1.1 b.2.2.2.1[j].2.1.2)=true:=by
  rw[eR];exact⟨u,hu,by simp only[inP,cM,beq_iff_eq,decide_eq_true_eq]; exact⟨by rw[hue.1,hp.1],by omega,by omega⟩⟩
 unfold Tz at hz;rw[hany] at hz
 (repeat' split at hz)<;>first|omega|simp_all
def YN {id f t:Int} (hft:f≤t):Y3 (iU b id f (t+1))=Y3 (iU b id f t)++if Ly b id t then[t] else[]:=by
 have hm:∀t x,x∈iU b id f t↔Ly b id x=true∧f≤x∧x<t:=by
  intro t x;unfold iU Ly;simp only[List.mem_map,List.mem_filter,List.any_eq_true,inP,Bool.and_eq_true,beq_iff_eq,decide_eq_true_eq];constructor
  ·rintro⟨u,⟨h1,h2,h3,h4⟩,rfl⟩;exact⟨⟨u,h1,h2,rfl⟩,h3,by omega⟩
  ·rintro⟨⟨u,h1,h2,rfl⟩,h3,h4⟩;exact⟨u,⟨h1,h2,h3,by omega⟩,rfl⟩
 refine aeo (Cv _) ?_ fun x=>?_
 ·rw[List.pairwise_append]
  refine⟨Cv _,by split<;>simp,fun a ha c hc=>?_⟩
  rw[qf,hm] at ha
  split at hc
  ·rw[cY] at hc; omega
  ·cases hc
 ·rw[qf,hm,cQ,qf,hm]
  by_cases hu:Ly b id t=true
  ·rw[if_pos hu,cY];constructor
   ·rintro⟨h1,h2,h3⟩
    by_cases he:x=t
    ·exact .inr he
    ·exact .inl ⟨h1,h2,by omega⟩
   ·rintro(⟨h1,h2,h3⟩|rfl)
    ·exact⟨h1,h2,by omega⟩
    ·exact⟨hu,hft,by omega⟩
  ·rw[if_neg hu];constructor
   ·rintro⟨h1,h2,h3⟩;refine .inl ⟨h1,h2,?_⟩
    by_cases he:x=t
    ·rw[he] at h1; exact absurd h1 hu
    ·omega
   ·rintro(⟨h1,h2,h3⟩|h)
    ·exact⟨h1,h2,by omega⟩
    ·cases h
def Qr (h:ē b) (g:ê) {f t:Int} (hft:f≤t):iQ b g f (t+1)=iQ b g f t+ad0 b g t:=by
 unfold iQ ad0;rw[UD g.1 hft h.apart,YN hft];show ļ g.1 f t b.2.2.2.1+(match lJ b g.1 t with|some l=>l.2.2|none=>0)+_=_
 cases ha:lJ b g.1 t with
 |some l =>
  rw[h.notUsed ha];simp only[dg,if_false,dH];omega
 |none =>
  simp only
  cases Ly b g.1 t with
  |true=>simp only[if_true,cN,dC,Int.natCast_add,fV]; omega
  |false=>simp only[dg,if_false,dH]; omega
def yV (g:ê) {f t:Int} (hft:t≤f):iQ b g f t=0:=by
 unfold iQ
 have h1:∀x:List Lv,ļ g.1 f t x=0:=by
  intro x
  induction x with
  |nil=>rfl
  |cons l r ih =>
   simp only[ļ];rw[ih,if_neg (by unfold Ę; omega)];rfl
 have h2:iU b g.1 f t=[]:=by
  unfold iU
  rw[List.filter_eq_nil_iff.2 fun u hu hc=>by
   simp only[inP,cM,beq_iff_eq,decide_eq_true_eq] at hc
   omega]
  rfl
 rw[h1,h2];have h3:Y3 ([]:List Int)=[]:=rfl;rw[h3];simp
end
section
variable {b:Þ}
def M4 (h:ē b) (g:ê) {f t u:Int} (h1:f≤t) (h2:t≤u):iQ b g f u=iQ b g f t+iQ b g t u:=by
 obtain⟨n,rfl⟩:∃n:Nat,u=t+n:=⟨(u-t).toNat,by omega⟩;clear h2
 induction n with
 |zero=>simp[yV]
 |succ n ih =>
  have e:t+((n+1:Nat):Int)=(t+n)+1:=by omega
  rw[e,Qr h g (show f≤t+(n:Int) by omega),Qr h g (show t≤t+(n:Int) by omega),ih];omega
def DC (h:ē b) {g:ê} (hg:g∈b.2.1) {f t:Int} (hf:0≤f):0≤iQ b g f t:=(kp h hg hf).1
def Κ (b:Þ) (id d:Int):Int:=match ix (Ê b) id d with|some j=>(j:Int)+1|none=>0
def ql (h:ē b) {i:Nat} {g:ê} (hg:b.2.1[i]?=some g) {k:Nat} {d:Int} (hk:(ß b g)[k]?=some d):Κ b g.1 d=(off b i:Int)+k+1:=by
 unfold Κ;rw[VQ h hg hk];simp only;omega
structure pX (b:Þ) (p:Int→Int) (g:ê):Prop where
 hi:p (Κ b g.1 g.2.1)≤p 0+(g.2.2.1+g.2.2.2.1.2)
 lo:p 0+(g.2.2.1+g.2.2.2.1.1)≤p (Κ b g.1 g.2.1)
 down:∀d e,d∈ß b g→e∈ß b g→d≤e→p (Κ b g.1 e)≤p (Κ b g.1 d)
 loss:∀d e,d∈ß b g→e∈ß b g→d≤e→p (Κ b g.1 d)≤p (Κ b g.1 e)+iQ b g d e
def ox (h:ē b) {i:Nat} {g:ê} (hg:b.2.1[i]?=some g) {p:Int→Int}:(∀l∈ô b g,p l.2.1≤p l.1+l.2.2)↔pX b p g:=by
 have hgm:=cR hg;obtain⟨tl,htl⟩:=QX h hgm
 have h0:Κ b g.1 g.2.1=(off b i:Int)+1:=by
  have:=ql h hg (k:=0) (d:=g.2.1) (by rw[htl]; rfl);rw[this];omega
 constructor
 ·intro hl;have e1:=hl _ ((ł h hg).2 (.inl rfl));have e2:=hl _ ((ł h hg).2 (.inr (.inl rfl)));simp only at e1 e2
  have step:∀(k:Nat) (d e:Int),(ß b g)[k]?=some d→(ß b g)[k+1]?=some e→p (Κ b g.1 e)≤p (Κ b g.1 d)∧p (Κ b g.1 d)≤p (Κ b g.1 e)+iQ b g d e:=by
   intro k d e hd he;have a1:=hl _ ((ł h hg).2 (.inr (.inr ⟨k,d,e,hd,he,.inl rfl⟩)));have a2:=hl _ ((ł h hg).2 (.inr (.inr ⟨k,d,e,hd,he,.inr rfl⟩)));simp only at a1 a2;rw[ql h hg hd,ql h hg he]
   have e3:(off b i:Int)+((k+1:Nat):Int)+1=(off b i:Int)+k+2:=by omega
   rw[e3];exact⟨by omega,a2⟩
  have pair:∀(n k:Nat) (d e:Int),(ß b g)[k]?=some d→(ß b g)[k+n]?=some e→p (Κ b g.1 e)≤p (Κ b g.1 d)∧p (Κ b g.1 d)≤p (Κ b g.1 e)+iQ b g d e:=by
   intro n
   induction n with
   |zero =>
    intro k d e hd he;rw[fq,hd] at he;cases he;rw[yV g (dF _)];omega
   |succ n ih =>
    intro k d e hd he;have hlt:=(cO.1 he).1;have hm:(ß b g)[k+n]?=some ((ß b g)[k+n]'(by omega)):=cI (by omega);obtain⟨a1,a2⟩:=ih k d _ hd hm;obtain⟨a3,a4⟩:=step (k+n) _ e hm he
    have o1:d≤(ß b g)[k+n]'(by omega):=by
     obtain⟨hkl,hkd⟩:=cO.1 hd;rcases fi n with rfl|hn
     ·rw[←hkd]; exact Int.le_of_eq (by congr 1)
     ·have:=(dG.1 (vT b g)) k (k+n) hkl (by omega) (by omega);rw[hkd] at this; omega
    have o2:(ß b g)[k+n]'(by omega)≤e:=by
     obtain⟨hel,hee⟩:=cO.1 he;have:=(dG.1 (vT b g)) (k+n) (k+(n+1)) (by omega) hel (by omega);rw[hee] at this; omega
    have:=M4 h g o1 o2;omega
  have any:∀d e,d∈ß b g→e∈ß b g→d≤e→p (Κ b g.1 e)≤p (Κ b g.1 d)∧p (Κ b g.1 d)≤p (Κ b g.1 e)+iQ b g d e:=by
   intro d e hd he hde;obtain⟨k,hk,rfl⟩:=df.1 hd;obtain⟨m,hm,rfl⟩:=df.1 he
   have hkm:k≤m:=by
    rcases dv m k with hlt|hge
    ·have:=(dG.1 (vT b g)) m k hm hk hlt; omega
    ·exact hge
   exact pair (m-k) k _ _ (cI hk) (by rw[show k+(m-k)=m by omega]; exact cI hm)
  exact⟨by rw[h0]; omega,by rw[h0]; omega,fun d e hd he hde=>(any d e hd he hde).1,fun d e hd he hde=>(any d e hd he hde).2⟩
 ·intro hf l hl;rcases(ł h hg).1 hl with rfl|rfl|⟨k,d,e,hd,he,rfl|rfl⟩
  ·have:=hf.hi; rw[h0] at this; simp only; omega
  ·have:=hf.lo; rw[h0] at this; simp only; omega
  ·have hde:d≤e:=by
    obtain⟨a1,a2⟩:=cO.1 hd;obtain⟨a3,a4⟩:=cO.1 he;have:=(dG.1 (vT b g)) k (k+1) a1 a3 (by omega);rw[a2,a4] at this; omega
   have:=hf.down d e (cR hd) (cR he) hde;rw[ql h hg hd,ql h hg he] at this
   have e3:(off b i:Int)+((k+1:Nat):Int)+1=(off b i:Int)+k+2:=by omega
   rw[e3] at this;simp only;omega
  ·have hde:d≤e:=by
    obtain⟨a1,a2⟩:=cO.1 hd;obtain⟨a3,a4⟩:=cO.1 he;have:=(dG.1 (vT b g)) k (k+1) a1 a3 (by omega);rw[a2,a4] at this; omega
   have:=hf.loss d e (cR hd) (cR he) hde;rw[ql h hg hd,ql h hg he] at this
   have e3:(off b i:Int)+((k+1:Nat):Int)+1=(off b i:Int)+k+2:=by omega
   rw[e3] at this;simp only;exact this
def Vy (h:ē b) {p:Int→Int}:Pot (Ý b) p↔(∀g∈b.2.1,pX b p g)∧∀c∈b.2.2.2.2.1,p (cx b c)≤p (cy b c)+(Φ b c).2∧p (cy b c)+(Φ b c).1≤p (cx b c):=by
 constructor
 ·intro hp;refine⟨fun g hg=>?_,fun c hc=>?_⟩
  ·obtain⟨i,hi,rfl⟩:=df.1 hg;exact(ox h (cI hi)).1 fun l hl=>hp l.1 l.2.1 l.2.2 (oP.2 (.inl ⟨i,_,cI hi,hl⟩))
  ·have a1:=hp _ _ _ (oP.2 (.inr ⟨c,hc,.inl rfl⟩));have a2:=hp _ _ _ (oP.2 (.inr ⟨c,hc,.inr rfl⟩));omega
 ·rintro⟨hg,hc⟩ u v m hl;rcases oP.1 hl with⟨i,g,hig,hl⟩|⟨c,hcm,hl⟩
  ·exact(ox h hig).2 (hg g (cR hig)) (u,v,m) hl
  ·obtain⟨a1,a2⟩:=hc c hcm;rcases hl with hl|hl
   ·obtain⟨rfl,rfl,rfl⟩:u=cy b c∧v=cx b c∧m=(Φ b c).2:=by simpa using hl
    exact a1
   ·obtain⟨rfl,rfl,rfl⟩:u=cx b c∧v=cy b c∧m = -(Φ b c).1:=by simpa using hl
    omega
end
def amX:List Int→Int
 |[]=>0
 |[a]=>a
 |a::b::t=>max a (amX (b::t))
def ZQ:∀{l:List Int},l≠[]→(∀a∈l,a≤amX l)∧amX l∈l
 |[],h=>absurd rfl h
 |[a],_=>⟨fun x hx=>by rw[cY] at hx; rw[hx]; exact dF _,by simp[amX]⟩
 |a::b::t,_=>by
  obtain⟨h1,h2⟩:=ZQ (l:=b::t) (by simp);have e:amX (a::b::t)=max a (amX (b::t)):=rfl;rw[e];constructor
  ·intro x hx;rcases cW.1 hx with rfl|hx
   ·omega
   ·have:=h1 x hx; omega
  ·rcases Int.le_total a (amX (b::t)) with h|h
   ·rw[Int.max_eq_right h]; exact f9 _ h2
   ·rw[Int.max_eq_left h]; exact List.mem_cons_self
section
variable {b:Þ}
def TT (b:Þ) (f:Int→Int→Int) (z:Int) (v:Int):Int:=if v=0 then z else match (Ê b)[(v-1).toNat]? with|some n=>f n.1 n.2|none=>0
def o8 (f:Int→Int→Int) (z:Int):TT b f z 0=z:=by unfold TT; rw[if_pos rfl]
def D5 (h:ē b) (f:Int→Int→Int) (z:Int) {g:ê} (hg:g∈b.2.1) {d:Int} (hd:d∈ß b g):TT b f z (Κ b g.1 d)=f g.1 d:=by
 obtain⟨i,hi,rfl⟩:=List.mem_iff_getElem.1 hg;obtain⟨k,hk,rfl⟩:=List.mem_iff_getElem.1 hd;have hgi:=List.getElem?_eq_getElem hi;have hdk:=List.getElem?_eq_getElem hk;rw[ql h hgi hdk];unfold TT
 have e:((off b i:Int)+k+1-1).toNat=off b i+k:=by omega
 rw[if_neg (by omega),e,MT hgi hdk]
def MH (b:Þ) (l:List Int) (d:Int):Int:=match l with|[]=>0|x::_=>Κ b x d
def afX (l:List Int) (d:Int):atP (Ê b) l d=MH b l d:=by
 unfold atP MH Κ
 cases l<;>rfl
def JM (c:Cmp):cx b c=MH b (è c.2.2.1 c.2.2.2.1) c.2.1:=afX _ _
def JL (c:Cmp):cy b c=MH b (è c.2.2.2.1 c.2.2.1) c.2.1:=afX _ _
def ov (h:ē b) {c:Cmp} (hc:c∈b.2.2.2.2.1) {x:Int} (hx:x∈è c.2.2.1 c.2.2.2.1∨x∈è c.2.2.2.1 c.2.2.1):∃g∈b.2.1,g.1=x∧c.2.1∈ß b g:=by
 have hx':(x∈c.2.2.1∧x∉c.2.2.2.1)∨(x∈c.2.2.2.1∧x∉c.2.2.1):=by
  rcases hx with hx|hx
  ·exact .inl (jQ.1 hx)
  ·exact .inr (jQ.1 hx)
 have hm:x∈c.2.2.1++c.2.2.2.1:=by rw[cQ]; exact hx'.imp (·.1) (·.1)
 obtain⟨⟨g,hg,_⟩,_⟩:=h.pile hc hm;obtain⟨hgm,hid⟩:=nk hg;refine⟨g,hgm,hid,jW.2 (.inr (.inl ⟨c,hc,?_,rfl⟩))⟩;rw[hid];intro he;rw[dJ,ee,ee] at he;rcases hx' with⟨a,e⟩|⟨a,e⟩
 ·exact e (he.1 a)
 ·exact e (he.2 a)
def fill (b:Þ) (p:Int→Int) (g:ê) (d:Int):Int:=amX ((ß b g).map fun e=>if d≤e then p (Κ b g.1 e) else p (Κ b g.1 e)-iQ b g e d)
def QL {p:Int→Int} {g:ê} (d:Int):(∀e∈ß b g,(if d≤e then p (Κ b g.1 e) else p (Κ b g.1 e)-iQ b g e d)≤fill b p g d)∧∃e∈ß b g,fill b p g d=if d≤e then p (Κ b g.1 e) else p (Κ b g.1 e)-iQ b g e d:=by
 have hne:((ß b g).map fun e=>if d≤e then p (Κ b g.1 e) else p (Κ b g.1 e)-iQ b g e d)≠[]:=by
  intro h;have:=List.map_eq_nil_iff.1 h;have h2:=j7 (b:=b) g;rw[this] at h2;cases h2
 obtain⟨h1,h2⟩:=ZQ hne;refine⟨fun e he=>h1 _ (dT.2 ⟨e,he,rfl⟩),?_⟩;obtain⟨e,he,hx⟩:=dT.1 h2;exact⟨e,he,hx.symm⟩
def M9 (h:ē b) {p:Int→Int} {g:ê} (hg:g∈b.2.1) (hf:pX b p g) {d:Int} (hd:d∈ß b g):fill b p g d=p (Κ b g.1 d):=by
 obtain⟨h1,e,he,h2⟩:=QL (b:=b) (p:=p) (g:=g) d;have h3:=h1 d hd;rw[if_pos (dF _)] at h3
 have h4:fill b p g d≤p (Κ b g.1 d):=by
  rw[h2]
  split
  ·rename_i hde;exact hf.down d e hd he hde
  ·rename_i hde;have:=hf.loss e d he hd (by omega);omega
 omega
def G4 (h:ē b) {p:Int→Int} {g:ê} (hg:g∈b.2.1) (hf:pX b p g) {d e:Int} (h0:g.2.1≤d) (hde:d≤e):fill b p g e≤fill b p g d∧fill b p g d≤fill b p g e+iQ b g d e:=by
 obtain⟨a1,x,hx,a2⟩:=QL (b:=b) (p:=p) (g:=g) d;obtain⟨b1,y,hy,b2⟩:=QL (b:=b) (p:=p) (g:=g) e;have hm:=(h.gaugeR hg).2.2.2.2.1;have hl:=DC h hg (f:=d) (t:=e) (by omega);have dx:=h.day hg hx;have dy:=h.day hg hy;constructor
 ·have q:=a1 y hy;rw[b2]
  by_cases c1:e≤y
  ·rw[if_pos c1];rw[if_pos (by omega)] at q;exact q
  ·rw[if_neg c1]
   by_cases c2:d≤y
   ·rw[if_pos c2] at q;have:=DC h hg (f:=y) (t:=e) dy.2.1;omega
   ·rw[if_neg c2] at q;have:=M4 h g (f:=y) (t:=d) (u:=e) (by omega) hde;omega
 ·have q:=b1 x hx;rw[a2]
  by_cases c1:d≤x
  ·rw[if_pos c1]
   by_cases c2:e≤x
   ·rw[if_pos c2] at q;omega
   ·rw[if_neg c2] at q;have:=M4 h g (f:=d) (t:=x) (u:=e) c1 (by omega);have:=DC h hg (f:=d) (t:=x) (by omega);omega
  ·rw[if_neg c1];rw[if_neg (by omega)] at q;have:=M4 h g (f:=x) (t:=d) (u:=e) (by omega) hde;omega
end
section
variable {b:Þ} {c:Cmp}
def adP:ø (ì b c)=(ì b c).2.1.flatMap (ô (ì b c))++b.2.2.2.2.1.flatMap (Ą (ì b c)):=by
 unfold ø
 have e:Ý (ì b c)=((ì b c).2.1.flatMap (ô (ì b c))++b.2.2.2.2.1.flatMap (Ą (ì b c)))++Ą (ì b c) c:=by
  unfold Ý;rw[show(ì b c).2.2.2.2.1=b.2.2.2.2.1++[c] from rfl,List.flatMap_append,List.append_assoc];simp
 rw[e,cN,show(Ą (ì b c) c).length=2 from rfl,Nat.add_sub_cancel,List.take_left]
def M7 (h':ē (ì b c)) {p:Int→Int}:Pot (ø (ì b c)) p↔(∀g∈b.2.1,pX (ì b c) p g)∧∀d∈b.2.2.2.2.1,p (cx (ì b c) d)≤p (cy (ì b c) d)+(Φ b d).2∧p (cy (ì b c) d)+(Φ b d).1≤p (cx (ì b c) d):=by
 rw[adP];constructor
 ·intro hp;refine⟨fun g hg=>?_,fun d hd=>?_⟩
  ·obtain⟨i,hi,rfl⟩:=df.1 hg;exact(ox h' (i:=i) (cI hi)).1 fun l hl=>hp l.1 l.2.1 l.2.2 (cQ.2 (.inl (dn.2 ⟨_,fg hi,hl⟩)))
  ·have a1:=hp (cy (ì b c) d) (cx (ì b c) d) (Φ (ì b c) d).2 (cQ.2 (.inr (dn.2 ⟨d,hd,by simp[Ą]⟩)));have a2:=hp (cx (ì b c) d) (cy (ì b c) d) (-(Φ (ì b c) d).1) (cQ.2 (.inr (dn.2 ⟨d,hd,by simp[Ą]⟩)));have e:Φ (ì b c) d=Φ b d:=rfl;rw[e] at a1 a2;omega
 ·rintro⟨hg,hc⟩ u v m hl;rcases cQ.1 hl with hl|hl
  ·obtain⟨g,hgm,hl⟩:=dn.1 hl;obtain⟨i,hi,rfl⟩:=df.1 hgm;exact(ox h' (i:=i) (cI hi)).2 (hg _ hgm) (u,v,m) hl
  ·obtain⟨d,hd,hl⟩:=dn.1 hl;obtain⟨a1,a2⟩:=hc d hd;have e:Φ (ì b c) d=Φ b d:=rfl;simp only[Ą,cW,fA,or_false,e] at hl;rcases hl with hl|hl
   ·obtain⟨rfl,rfl,rfl⟩:u=cy (ì b c) d∧v=cx (ì b c) d∧m=(Φ b d).2:=by simpa using hl
    exact a1
   ·obtain⟨rfl,rfl,rfl⟩:u=cx (ì b c) d∧v=cy (ì b c) d∧m = -(Φ b d).1:=by simpa using hl
    omega
def tU {g:ê} {d:Int} (hd:d∈ß b g):d∈ß (ì b c) g:=by
 rcases jW.1 hd with e|⟨x,hx,h1,h2⟩|hn
 ·exact jW.2 (.inl e)
 ·exact jW.2 (.inr (.inl ⟨x,cQ.2 (.inl hx),h1,h2⟩))
 ·exact jW.2 (.inr (.inr hn))
def aiU (g:ê) (f t:Int):iQ (ì b c) g f t=iQ b g f t:=rfl
def JU {b':Þ} (h':ē b') {l:List Int} {day:Int} (f:Int→Int→Int) (z:Int) (hl:∀x∈l,∃g∈b'.2.1,g.1=x∧day∈ß b' g):TT b' f z (MH b' l day)=match l with|[]=>z|x::_=>f x day:=by
 unfold MH
 cases l with
 |nil=>exact o8 f z
 |cons x t =>
  obtain⟨g,hg,rfl,hd⟩:=hl x (by simp);exact D5 h' f z hg hd
def aiv (h:ē b) (h':ē (ì b c)):(∃p,Pot (Ý b) p)↔∃p,Pot (ø (ì b c)) p:=by
 constructor
 ·rintro⟨p,hp⟩;obtain⟨hg,hc⟩:=(Vy h).1 hp
  let f:Int→Int→Int:=fun id d=>match Ů b id with|some g=>fill b p g d|none=>0
  have hfv:∀g∈b.2.1,∀d,f g.1 d=fill b p g d:=fun g hgm d=>by
   show(match Ů b g.1 with|some g=>fill b p g d|none=>0)=_;rw[vz h.ids hgm]
  have hq:∀g∈b.2.1,∀d∈ß (ì b c) g,TT (ì b c) f (p 0) (Κ (ì b c) g.1 d)=fill b p g d:=fun g hgm d hd=>by
   rw[D5 h' f (p 0) hgm hd,hfv g hgm d]
  refine⟨TT (ì b c) f (p 0),(M7 h').2 ⟨fun g hgm=>?_,fun d hd=>?_⟩⟩
  ·have gf:=hg g hgm;have hmade:g.2.1∈ß b g:=j7 g;have e0:=hq g hgm g.2.1 (j7 g);rw[M9 h hgm gf hmade] at e0;refine⟨?_,?_,fun x y hx hy hxy=>?_,fun x y hx hy hxy=>?_⟩
   ·rw[e0,o8]; exact gf.hi
   ·rw[e0,o8]; exact gf.lo
   ·rw[hq g hgm x hx,hq g hgm y hy];exact(G4 h hgm gf (h'.day hgm hx).1 hxy).1
   ·rw[hq g hgm x hx,hq g hgm y hy,aiU];exact(G4 h hgm gf (h'.day hgm hx).1 hxy).2
  ·have key:∀l:List Int,(∀x∈l,∃g∈b.2.1,g.1=x∧d.2.1∈ß b g)→TT (ì b c) f (p 0) (MH (ì b c) l d.2.1)=p (MH b l d.2.1):=by
    intro l hl;rw[JU h' f (p 0) (fun x hx=>by obtain⟨g,q1,q2,q3⟩:=hl x hx; exact⟨g,q1,q2,tU q3⟩)]
    cases l with
    |nil=>rfl
    |cons x t =>
     obtain⟨g,q1,rfl,q3⟩:=hl x (by simp);show f g.1 d.2.1=p (Κ b g.1 d.2.1);rw[hfv g q1,M9 h q1 (hg g q1) q3]
   rw[JM,JL,key _ (fun x hx=>ov h hd (.inl hx)),key _ (fun x hx=>ov h hd (.inr hx)),←JM,←JL];exact hc d hd
 ·rintro⟨p,hp⟩;obtain⟨hg,hc⟩:=(M7 h').1 hp
  let f:Int→Int→Int:=fun id d=>p (Κ (ì b c) id d)
  have hq:∀g∈b.2.1,∀d∈ß b g,TT b f (p 0) (Κ b g.1 d)=p (Κ (ì b c) g.1 d):=fun g hgm d hd=>D5 h f (p 0) hgm hd;refine⟨TT b f (p 0),(Vy h).2 ⟨fun g hgm=>?_,fun d hd=>?_⟩⟩
  ·have gf:=hg g hgm;have e0:=hq g hgm g.2.1 (j7 g);refine⟨?_,?_,fun x y hx hy hxy=>?_,fun x y hx hy hxy=>?_⟩
   ·rw[e0,o8]; exact gf.hi
   ·rw[e0,o8]; exact gf.lo
   ·rw[hq g hgm x hx,hq g hgm y hy];exact gf.down x y (tU hx) (tU hy) hxy
   ·rw[hq g hgm x hx,hq g hgm y hy];exact gf.loss x y (tU hx) (tU hy) hxy
  ·have key:∀l:List Int,(∀x∈l,∃g∈b.2.1,g.1=x∧d.2.1∈ß b g)→TT b f (p 0) (MH b l d.2.1)=p (MH (ì b c) l d.2.1):=by
    intro l hl;rw[JU h f (p 0) hl]
    cases l<;>rfl
   rw[JM,JL,key _ (fun x hx=>ov h hd (.inl hx)),key _ (fun x hx=>ov h hd (.inr hx)),←JM,←JL];exact hc d hd
end
end Go.Proofs.ZzM
end
