/- lemmas -/
import Derived.Test.YtenljaeklhlanaaGreatAmF
import Derived.Test.YtenljaeklhlanaaGreatMdTA
set_option linter.all false
noncomputable section
namespace Go.Am
section
variable {ρ:Type}
def Ĝ {α β:Type} (e:Nat->α->BY β):Nat->CK α->BY β
 |_,[]=>none
 |i,a::t=>match e i a with
  |some b=>some b
  |none=>Ĝ e (i+1) t
def jt {α β:Type} (l:CK α) (e:Nat->α->BY β) (k0:β->BY ρ) (k1:BY ρ) {f:Int->(Int->BY ρ)->BY ρ}
 (h:∀(i:Nat) (a:α),i<l.length->l[i]?=some a->∀c,f i c=match e i a with|some b=>k0 b|none=>c ((i:Int)+1))
 (d:∀c,f l.length c=k1):Ê f 0=match Ĝ e 0 l with|some b=>k0 b|none=>k1:=by
 refine ahn l (fun i t=>match Ĝ e i t with|some b=>k0 b|none=>k1) d fun i a t hd hi ha c g=>?_;rw[h i a hi ha c,g,Ĝ]
 cases e i a<;>rfl
def ê {α σ:Type} (l:CK α) (g:Nat->σ) (r:BY ρ) {f:Int×σ->(Int×σ->BY ρ)->BY ρ} {d:σ} (h0:g 0=d)
 (h:∀(i:Nat) (a:α),i<l.length->l[i]?=some a->∀b,f (i,g i) b=b ((i:Int)+1,g (i+1)))
 (j:∀b,f (l.length,g l.length) b=r):Ê f (0,d)=r:=by
 subst h0
 have c:∀s,(s=g 0)->Ê f (0,s)=r:=fun s e=>Vv l (fun _ _ _=>r) (fun i s=>s=g i) (fun s c b=>by rw[c]; exact j b) (fun i a t s hd hi ha m b k=>by
  rw[m,h i a hi ha b]; exact k _ rfl) e
 exact c _ rfl
def AH {α σ:Type} (l:CK α) (g:Nat->σ) (r:BY ρ) {f:Int×σ->(Int×σ->BY ρ)->BY ρ} {k:σ} (P:Nat->Prop) (h0:g 0=k) (o:P 0)
 (h:∀(i:Nat) (a:α),i<l.length->l[i]?=some a->P i->∀b,f (i,g i) b=r\/(P (i+1)/\f (i,g i) b=b ((i:Int)+1,g (i+1))))
 (m:P l.length->∀b,f (l.length,g l.length) b=r):Ê f (0,k)=r:=by
 subst h0
 have c:∀s,(s=g 0/\P 0)->Ê f (0,s)=r:=fun s e=>Vv l (fun _ _ _=>r) (fun i s=>s=g i/\P i) (fun s c b=>by rw[c.1]; exact m c.2 b) (fun i a t s hd hi ha d b n=>by
  rcases h i a hi ha d.2 b with j|⟨j,h2⟩
  ·rw[d.1,j]
  ·rw[d.1,h2]; exact n _ ⟨rfl,j⟩) e
 exact c _ ⟨rfl,o⟩
def È {i n:Nat} (h:i<n) (a:n<=1000000000) (f:Int->BY ρ):ck ((i:Int)+1) f=f ((i:Int)+1):=Ï (by omega) (by omega) f
def alR {i n:Nat} (h:i<n) (x y:BY ρ):ifb (ilt (i:Int) (agX n)) x y=x:=by simp[õ,Ng,h]
def Ó (n:Nat) (x y:BY ρ):ifb (ilt (n:Int) (agX n)) x y=y:=by simp[õ,Ng]
def Ì {α:Type} {l:CK α} {i:Nat} (h:i<l.length) (x y:BY ρ):ifb (ilt (i:Int) (Õ l)) x y=x:=alR h x y
def PH {α:Type} (p:α->Bool):∀(i:Nat) (l:CK α),Ĝ (fun i a=>bif p a then some (i:Int) else none) i l=(l.findIdx? p).map fun j=>((i+j:Nat):Int)
 |_,[]=>rfl
 |i,a::t=>by
  simp only[Ĝ,List.findIdx?_cons]
  cases b:p a with
  |true=>simp
  |false =>
   simp only[cond_false,dr,if_false];rw[PH p (i+1) t]
   cases t.findIdx? p with
   |none=>rfl
   |some j=>simp only[d9]; congr 1; omega
def Kz {α β:Type} (e:α->BY β):∀(i:Nat) (l:CK α),Ĝ (fun _ a=>e a) i l=l.findSome? e
 |_,[]=>rfl
 |i,a::t=>by
  simp only[Ĝ,gO]
  cases e a with
  |some b=>rfl
  |none=>exact Kz e (i+1) t
def Α {α β:Type} {e:Nat->α->BY β}:∀{i:Nat} {l:CK α},Ĝ e i l=none↔∀j a,l[j]?=some a->e (i+j) a=none
 |_,[]=>by simp[Ĝ]
 |i,a::t=>by
  simp only[Ĝ];constructor
  ·intro h j b hb
   cases d:e i a with
   |some c=>rw[d] at h; cases h
   |none =>
    rw[d] at h
    cases j with
    |zero=>simp at hb; subst hb; simpa using d
    |succ j=>have:=(Α.1 h) j b (by simpa using hb); rw[<-this]; congr 1; omega
  ·intro h;have h0:=h 0 a (by simp);simp only[gD] at h0;rw[h0]
   exact Α.2 fun j b hb=>by have:=h (j+1) b (by simpa using hb); rw[<-this]; congr 1; omega
def take_succ {α:Type} {l:CK α} {i:Nat} {a:α} (h:l[i]?=some a):l.take (i+1)=l.take i++[a]:=by rw[List.take_succ,h]; rfl
end
end Go.Am
end

noncomputable section
namespace Go.Proofs.ZzM
open Go Go.Am
section
variable {ρ:Type}
def ñ {τ:Type} {f:τ->(τ->BY ρ)->BY ρ} {r:BY ρ} (I:τ->Prop) (μ:τ->Nat)
 (h:∀x,I x->(∀a,f x a=r)\/∃y,I y/\μ y<μ x/\∀a,f x a=a y) {x:τ} (b:I x):Ê f x=r :=
 vR (F:=fun _=>r) I μ (fun x b a d=>by
  rcases h x b with c|⟨y,c,h2,e⟩
  ·exact c a
  ·rw[e,d y c h2]) b
def Χ {α:Type} (l:CK α) (p:α->Bool) (k0:Int->BY ρ) (k1:BY ρ) {f:Int->(Int->BY ρ)->BY ρ}
 (h:∀(i:Nat) (a:α),i<l.length->l[i]?=some a->∀b,f i b=if p a then k0 i else b ((i:Int)+1))
 (c:∀b,f l.length b=k1):Ê f 0=match l.findIdx? p with|some j=>k0 j|none=>k1:=by
 rw[jt l (fun i a=>bif p a then some (i:Int) else none) k0 k1 (fun i a hi ha b=>by rw[h i a hi ha b]; cases p a<;>rfl) c,PH]
 cases l.findIdx? p with
 |none=>rfl
 |some j=>simp
def Ē {α:Type} (l:CK α) (p:α->Bool) (k0:Int->BY ρ) (K k1:BY ρ) {f:Int->(Int->BY ρ)->BY ρ} (m:∀j:Nat,k0 j=K)
 (h:∀(i:Nat) (a:α),i<l.length->l[i]?=some a->∀b,f i b=if p a then k0 i else b ((i:Int)+1))
 (g:∀b,f l.length b=k1):Ê f 0=if l.any p then K else k1:=by
 rw[Χ l p k0 k1 h g]
 cases c:l.findIdx? p with
 |none =>
  have:l.any p=false:=by
   rw[eh];intro x d;have:=dU.1 c x d;simp[this]
  simp[this]
 |some j =>
  have:l.any p=true:=by
   have:=dN.1 c;obtain⟨k,e,_⟩:=this;exact dA.2 ⟨_,fq k,e⟩
  simp[this,m]
end
abbrev æ:Type:=Int×Int×Int×(Int×Int)×((Int×Int)×Int)
abbrev IE:Type:=Int×((Int×Int)×Int)
abbrev Cmp:Type:=Int×Int×CK Int×CK Int×Int×(Int×(Int×Int))
abbrev ø:Type:=(Int×Int)×CK æ×CK (Int×Int)×CK IE×CK Cmp×CK (Int×Int)
abbrev Sys:Type:=Int×CK (Int×Int×Int)
abbrev Maker:Type:=ø×CK (Int×Int)×Sys×CK (Int×Int)
section
variable {ρ:Type}
def Ñ {b:Bool} (h:b=true) (x y:BY ρ):ifb b x y=x:=by rw[h]; rfl
def Í {b:Bool} (h:b=false) (x y:BY ρ):ifb b x y=y:=by rw[h]; rfl
end
def I64 (n:Int):Prop:=-9223372036854775808<=n/\n<=9223372036854775807
def inP (n lo hi:Int):Bool:=decide (lo<=n)&&decide (n<=hi)
def yH (n:Int):Bool:=inP n 0 20000
def j7 (s:Int×Int) (lo hi:Int):Bool:=decide (lo<=s.1)&&(decide (s.1<=s.2)&&decide (s.2<=hi))
def iB (n lo hi:Int):ġ n lo hi=some (inP n lo hi):=by
 unfold ġ Ts inP ile
 cases decide (lo<=n)<;>rfl
def L6 (n:Int):mQ n=some (yH n):=by
 unfold mQ YU;rw[iB]; rfl
def HB (s:Int×Int) (lo hi:Int):Ξ s lo hi=some (j7 s lo hi):=by
 unfold Ξ Tu j7 ile
 cases decide (lo<=s.1)<;>cases decide (s.1<=s.2)<;>rfl
def Un {n:Int} (h:I64 n):uq n=some (n.natAbs:Int):=by
 obtain⟨b,h2⟩:=h;unfold uq acV
 by_cases a:n<0
 ·have:ilt n 0=true:=by simpa using a
  rw[Ñ this];congr 1;simp only[IntKind.wrap,IntKind.bits,IntKind.signed];simp;omega
 ·have:ilt n 0=false:=by simpa using a
  rw[Í this];congr 1;simp only[IntKind.wrap,IntKind.bits,IntKind.signed];simp;omega
def alS (a b:Nat):PO a b=some ((Nat.gcd a b:Nat):Int):=by
 unfold PO ahd;refine ñ (fun x:Int×Int=>∃c d:Nat,x=((c:Int),(d:Int))/\Nat.gcd c d=Nat.gcd a b) (fun x=>x.2.toNat) ?_ ⟨a,b,rfl,rfl⟩;rintro x ⟨c,d,rfl,e⟩
 cases d with
 |zero =>
  refine .inl fun f=>?_;rw[Nat.gcd_zero_right] at e;unfold Bs;simp[e,ine]
 |succ d =>
  refine .inr ⟨(((d+1:Nat):Int),((c % (d+1):Nat):Int)),⟨d+1,c % (d+1),rfl,?_⟩,?_,fun f=>?_⟩
  ·rw[<-e,ir c (d+1),Nat.gcd_rec (d+1) c,ir]
  ·have:=g9 c (gT d);simp only[dl];omega
  ·unfold Bs
   have g:ine ((d+1:Nat):Int) 0=true:=by simp[ine]; omega
   have h2:mX ((d+1:Nat):Int) 0=false:=by simp[mX]; omega
   simp only[g,Ñ Í h2];congr 1
def J9 (r:Int×Int):Bool :=
 decide (1<=r.2)&&(decide (r.2<=2147483647)&&(decide ((r.1.natAbs:Int)<=2147483647)&&decide (Nat.gcd r.1.natAbs r.2.natAbs=1)))
def Wq {r:Int×Int} (h:I64 r.1):wp r=some (J9 r):=by
 unfold wp YP J9
 by_cases b:1<=r.2
 ·by_cases h2:r.2<=2147483647
  ·have f:I64 r.2:=⟨by omega,by omega⟩
   have a:ige r.2 1=true:=by simp[ige,b]
   have e:ile r.2 2147483647=true:=by simp[ile,h2]
   rw[Ñ a,Ñ e,Un h,À]
   by_cases c:(r.1.natAbs:Int)<=2147483647
   ·have d:ile (r.1.natAbs:Int) 2147483647=true:=by simp[ile,c]
    rw[Ñ d,À,Un f,À,alS,À];congr 1;rw[eM];simp only[ieq,beq_iff_eq,b,h2,c,decide_true,eI,decide_eq_true_eq];omega
   ·have d:ile (r.1.natAbs:Int) 2147483647=false:=by simp[ile]; omega
    rw[Í d];simp[c]
  ·have a:ige r.2 1=true:=by simp[ige,b]
   have e:ile r.2 2147483647=false:=by simp[ile]; omega
   rw[Ñ a,Í e];simp[h2]
 ·have a:ige r.2 1=false:=by simp[ige]; omega
  rw[Í a];simp[b]
def rQ (g:æ):Bool :=
 J9 g.2.2.2.2.1&&inP g.2.2.2.2.1.1 (-1000) 1000&&decide (g.2.2.2.2.1.2<=100)&&inP g.1 1 1099511627776&&yH g.2.1&&inP g.2.2.1 1 1125899906842624&&j7 g.2.2.2.1 (-1073741824) 1073741824&&inP g.2.2.2.2.2 0 1048576
def aeK {g:æ} (h:I64 g.2.2.2.2.1.1):xS g=some (rQ g):=by
 unfold xS EQ rQ;rw[Wq h,iB,iB,L6,iB,HB,iB];generalize J9 g.2.2.2.2.1=i;generalize inP g.2.2.2.2.1.1 (-1000) 1000=f;generalize inP g.1 1 1099511627776=e;generalize yH g.2.1=d;generalize inP g.2.2.1 1 1125899906842624=c;generalize j7 g.2.2.2.1 (-1073741824) 1073741824=b;generalize inP g.2.2.2.2.2 0 1048576=j;unfold ile;generalize decide (g.2.2.2.2.1.2<=100)=a
 cases i<;>cases f<;>cases e<;>cases d<;>cases c<;>cases b<;>cases a<;>rfl
section
variable {ρ:Type}
def HE {α:Type} {l:CK α} {i:Nat} {a:α} (h0:0<i) (h:l[i-1]?=some a) (f:α->BY ρ):ï l ((i:Int)-1) f=f a:=by
 have:((i:Int)-1)=((i-1:Nat):Int):=by omega
 rw[this,Æ h]
def PX {i:Nat} (h:0<i) (a:i<=1000000000) (f:Int->BY ρ):ck ((i:Int)-1) f=f ((i:Int)-1):=Ï (by omega) (by omega) f
def ő {i n:Nat} (h:i<n) (x:BY ρ):Û ((ile 0 (i:Int))&&(ilt (i:Int) (n:Int))) x=x:=by
 have:((ile 0 (i:Int))&&(ilt (i:Int) (n:Int)))=true:=by simp[ile,ilt,h]
 rw[this,Am.iff_true]
def é {α:Type} {l:CK α} {i:Nat} {a:α} (h:l[i]?=some a) (f:α->BY ρ):Ħ l (Int.toNat (i:Int)) f=f a:=by
 rw[dl]; exact Δ h f
end
def lU {α:Type} (key:α->Int) (l:CK α) (i:Nat) (a:α):Bool :=
 decide (0<i)&&(l[i-1]?).any fun q=>decide (key a<=key q)
def uQ {α:Type} {l:CK α} {i:Nat} (hi:i<l.length) (h0:0<i):∃q,l[i-1]?=some q :=
 ⟨l[i-1],cX (by omega)⟩
def Iq {α:Type} (key:α->Int) (l:CK α):(∀i a,l[i]?=some a->lU key l i a=false)↔l.Pairwise (fun a b=>key a<key b):=by
 rw[dM];constructor
 ·intro h
  have step:∀i (d:i+1<l.length),key l[i]<key l[i+1]:=by
   intro i d;have:=h (i+1) l[i+1] (cX d);simp only[lU,gY,gT,decide_true,eI,cX (show i<l.length by omega),Option.any_some,decide_eq_false_iff_not] at this;omega
  intro i j hi f g
  induction j with
  |zero=>omega
  |succ j e =>
   have:=step j f;rcases dq i j with c|k
   ·have:=e (by omega) c; omega
   ·have:i=j:=by omega
    subst this; assumption
 ·intro h i a ha;obtain⟨hi,rfl⟩:=List.getElem?_eq_some_iff.1 ha;unfold lU
  cases i with
  |zero=>rfl
  |succ i =>
   have:=h i (i+1) (by omega) hi (by omega);simp only[gY,gT,decide_true,eI,cX (show i<l.length by omega),Option.any_some,decide_eq_false_iff_not];omega
def pG (l:CK æ) (i:Nat) (g:æ):BY Int :=
 if !rQ g then some 1 else if lU (fun g=>g.1) l i g then some 6 else none
def jR (b:ø):Int:=(Ĝ (pG b.2.1) 0 b.2.1).getD 0
def RQ {b:ø} (e:∀g∈b.2.1,I64 g.2.2.2.2.1.1) (h:b.2.1.length<=1000):Β b=some (jR b):=by
 unfold Β AF;refine Eq.trans (jt b.2.1 (pG b.2.1) some (some 0) (fun i a hi ha d=>?_) (fun d=>?_)) ?_
 ·try dsimp only
  unfold jC;rw[Ì hi,Æ ha,aeK (e a (List.mem_of_getElem? ha)),À];unfold pG
  cases j:rQ a with
  |false=>simp
  |true =>
   simp only[dR,ä,dr,if_false];rcases fK i with h0|h0
   ·subst h0
    have:igt ((0:Nat):Int) 0=false:=by simp[igt]
    rw[Í this,È hi (by omega)];simp[lU]
   ·obtain⟨q,c⟩:=uQ hi h0
    have f:igt (i:Int) 0=true:=by simp[igt]; omega
    rw[Ñ f,PX h0 (by omega),HE h0 c];simp only[lU,h0,decide_true,Bool.true_and,c,Option.any_some];unfold ile
    cases h2:decide (a.1<=q.1) with
    |true=>simp
    |false =>
     rw[ä,È hi (by omega)];simp
 ·try dsimp only
  unfold jC;rw[Ó]
 ·unfold jR
  cases Ĝ (pG b.2.1) 0 b.2.1<;>rfl
def WW (l:CK æ):CK (Int×æ):=l.foldl (fun m g=>Nh (k:=tI) (v:=Ù) g.1 g m) []
def ŝ (b:ø):CK (Int×æ):=WW b.2.1
def IL {b:ø} (d:b.2.1.length<=1000):Ň b=some (ŝ b):=by
 unfold Ň O7;refine ê b.2.1 (fun i=>WW (b.2.1.take i)) _ rfl (fun i a hi ha c=>?_) (fun c=>?_)
 ·try dsimp only
  unfold oh;rw[Ì hi,Æ ha,È hi (by omega),take_succ ha];simp only[WW,List.foldl_append,List.foldl_cons,List.foldl_nil]
 ·try dsimp only
  unfold oh;rw[Ó,List.take_length];rfl
def XV (x y:Int) (g:æ):∀m:CK (Int×æ),pk (k:=tI) (v:=Ù) x (Nh (k:=tI) (v:=Ù) y g m)=if x=y then some g else pk (k:=tI) (v:=Ù) x m
 |[]=>by
  unfold Nh pk Ž pk
  by_cases h:x=y<;>simp[h]
 |e::m=>by
  unfold Nh
  by_cases h:y=e.1
  ·have:Ž tI y e.1=true:=by simp[Ž,h]
   rw[this]
   try dsimp only
   unfold pk Ž
   by_cases h2:x=y
   ·simp[h2]
   ·have:¬x=e.1:=fun a=>h2 (a.trans h.symm);simp[h2,this]
  ·have:Ž tI y e.1=false:=by simp[Ž,h]
   rw[this]
   try dsimp only
   have b:=XV x y g m;unfold pk
   by_cases h2:x=e.1
   ·have:Ž tI x e.1=true:=by simp[Ž,h2]
    rw[this];have:¬x=y:=fun a=>h (a.symm.trans h2);simp[this]
   ·have:Ž tI x e.1=false:=by simp[Ž,h2]
    rw[this];exact b
def î (b:ø) (id:Int):BY æ:=b.2.1.find? fun g=>g.1==id
def aau (x:Int) (l:CK æ):pk (k:=tI) (v:=Ù) x (WW l)=l.reverse.find? fun g=>g.1==x:=by
 unfold WW;rw[<-List.foldr_reverse]
 induction l.reverse with
 |nil=>rfl
 |cons g t a =>
  rw[List.foldr_cons,XV,a,f8]
  by_cases h:x=g.1
  ·simp[h]
  ·have:(g.1==x)=false:=by simp; exact fun h2=>h h2.symm
   simp[h,this]
def KA {l:CK æ} (h:l.Pairwise fun a b=>a.1<b.1) (x:Int):l.reverse.find? (fun g=>g.1==x)=l.find? fun g=>g.1==x:=by
 induction l with
 |nil=>rfl
 |cons g t d =>
  rw[dJ] at h;rw[List.reverse_cons,List.find?_append,d h.2,f8]
  by_cases c:g.1=x
  ·have:t.find? (fun g=>g.1==x)=none:=ew.2 fun y e=>by have:g.1<y.1:=h.1 y e; simp; omega
   rw[this]; simp[c]
  ·have:(g.1==x)=false:=by simp[c]
   simp[this]
def vc {b:ø} (h:b.2.1.Pairwise fun a b=>a.1<b.1) (x:Int):pk (k:=tI) (v:=Ù) x (ŝ b)=î b x:=by
 unfold ŝ î;rw[aau,KA h]
def mu (s:CK (Int×æ)) (id day:Int):Int :=
 match pk (k:=tI) (v:=Ù) id s with
 |some g=>if day<g.2.1 then 4 else 0
 |none=>5
def aav (s:CK (Int×æ)) (id day:Int):jw s id day=some (mu s id day):=by
 unfold jw DJ mu
 cases h:pk (k:=tI) (v:=Ù) id s with
 |none=>simp only[Qt,h]
 |some g =>
  simp only[Qt,h];rw[õ]
  by_cases h2:day<g.2.1<;>simp[h2]
def Z7 (s:CK (Int×æ)) (id day:Int):Int:=if !yH day then 1 else mu s id day
def Xi (s:CK (Int×æ)) (id day:Int):ň id day s=some (Z7 s id day):=by
 unfold ň Pa Z7;rw[L6,À,aav,À]
 cases yH day<;>rfl
def LD (b:ø) (s:CK (Int×æ)) (i:Nat) (l:IE):Int :=
 if !j7 l.2.1 0 20000 then 1 else if !inP l.2.2 0 1048576 then 1 else if mu s l.1 l.2.1.1 != 0 then mu s l.1 l.2.1.1 else
 if (b.2.2.2.1.take i).any (fun x=>x.1==l.1&&(decide (x.2.1.1<=l.2.1.2)&&decide (l.2.1.1<=x.2.1.2))) then 9 else
 if b.2.2.1.any (fun u=>u.1==l.1&&inP u.2 l.2.1.1 l.2.1.2) then 9 else 0
def Zz {b:ø} (t:b.2.2.2.1.length<=1000) (r:b.2.2.1.length<=1000) (s:CK (Int×æ)) {i:Nat} {l:IE} (m:b.2.2.2.1[i]?=some l):ι b s i=some (LD b s i l):=by
 unfold ι xx LD;have hi:i<b.2.2.2.1.length:=(List.getElem?_eq_some_iff.1 m).1;rw[Æ m,HB,À,iB,À,aav,À]
 cases j7 l.2.1 0 20000 with
 |false=>rfl
 |true =>
 cases inP l.2.2 0 1048576 with
 |false=>rfl
 |true =>
 cases h:(mu s l.1 l.2.1.1 != 0) with
 |true =>
  have:ine (mu s l.1 l.2.1.1) 0=true:=h;simp[this]
 |false =>
 have g:ine (mu s l.1 l.2.1.1) 0=false:=h
 have p:((ile (0:Int) (i:Int))&&(ile (i:Int) (ç b.2.2.2.1)))=true:=by simp[ile,ç]; omega
 simp only[dR,ä,g,dr,if_false];rw[à p,dl]
 have c:∀(k:Int->BY Int),Ê (fun(v:Int) n=>Ν b.2.2.1 (Õ b.2.2.1) l.1 l.2.1.1 l.2.1.2 v (fun u=>n u) (fun z=>ifb (ige z 0) (k 9) (k 0)) (fun _=>k 0)) (0:Int)=if b.2.2.1.any (fun u=>u.1==l.1&&inP u.2 l.2.1.1 l.2.1.2) then k 9 else k 0:=by
  intro k;refine Ē b.2.2.1 _ (fun z=>ifb (ige z 0) (k 9) (k 0)) (k 9) (k 0) (fun j=>?_) (fun j a d ha f=>?_) (fun f=>?_)
  ·have:ige (j:Int) 0=true:=by simp[ige]
   rw[Ñ this]
  ·try dsimp only
   unfold Ν;rw[Ì d,Æ ha,iB,À,È d (by omega)]
   cases e:(a.1==l.1) with
   |false =>
    have:ieq a.1 l.1=false:=e;simp[this]
   |true =>
    have:ieq a.1 l.1=true:=e;rw[this]
    cases inP a.2 l.2.1.1 l.2.1.2<;>simp
  ·try dsimp only
   unfold Ν;rw[Ó]
 rw[c];refine dY (Ē (b.2.2.2.1.take i) (fun x=>x.1==l.1&&(decide (x.2.1.1<=l.2.1.2)&&decide (l.2.1.1<=x.2.1.2))) (fun z=>ifb (ige z 0) (some 9) (if b.2.2.1.any (fun u=>u.1==l.1&&inP u.2 l.2.1.1 l.2.1.2) then some 9 else some 0)) (some 9) (if b.2.2.1.any (fun u=>u.1==l.1&&inP u.2 l.2.1.1 l.2.1.2) then some 9 else some 0) (fun j=>?_) (fun j a d ha f=>?_) (fun f=>?_)) ?_
 ·have:ige (j:Int) 0=true:=by simp[ige]
  rw[Ñ this]
 ·try dsimp only
  unfold lM
  have o:j<=1000:=by rw[dm] at d; omega
  rw[Ì d,Æ ha,È d (by rw[dm]; omega)]
  cases e:(a.1==l.1) with
  |false =>
   have:ieq a.1 l.1=false:=e;simp[this]
  |true =>
   have:ieq a.1 l.1=true:=e;rw[this]
   cases h2:decide (a.2.1.1<=l.2.1.2)<;>cases q:decide (l.2.1.1<=a.2.1.2)<;>simp[ile,h2,q,õ]<;>simp_all
 ·try dsimp only
  unfold lM;rw[Ó]
 ·cases List.any (b.2.2.2.1.take i) _<;>cases b.2.2.1.any _<;>rfl
def ZX {l:CK Int} (c:l.length<=1000000) (x:Int):iN l x=some (match l.findIdx? (·==x) with|some j=>(j:Int)|none=>-1):=by
 unfold iN vC;refine Eq.trans (Χ l (·==x) some (some (-1)) (fun i a hi ha b=>?_) (fun b=>?_)) ?_
 ·try dsimp only
  unfold ix;rw[Ì hi,Æ ha,È hi (by omega),õ]
  by_cases h:x=a
  ·subst h; simp[ieq]
  ·have h2:¬a=x:=fun e=>h e.symm;simp[ieq,h,h2]
 ·try dsimp only
  unfold ix;rw[Ó]
 ·cases l.findIdx? (·==x)<;>rfl
def Ţ {l:CK Int} (b:l.length<=1000000) (x:Int):è l x=some (l.contains x):=by
 unfold è pC;rw[ZX b,À];congr 1
 cases h:l.findIdx? (·==x) with
 |none =>
  have:l.contains x=false:=by
   rw[eG];intro c;have:=dU.1 h x (by simpa using c);simp at this
  rw[this]; rfl
 |some j =>
  obtain⟨d,a,_⟩:=dN.1 h
  have:l.contains x=true:=by
   have h2:l[j]=x:=by simpa using a
   rw[<-h2]; simp
  rw[this];simp[ige]
def á (a b:CK Int):CK Int:=a.filter fun x=>!b.contains x
def AK {a b:CK Int} (ha:a.length<=1000000) (hb:b.length<=1000000):θ a b=some (á a b):=by
 unfold θ ac0;rw[Ð (by omega),Am.iff_true]
 have g:∀z:Nat,z<a.length->á (a.take z) b=a.take z->b.contains (a[z]?.getD 0)=true ->
  Ê (fun(d:(Val (.pair tI (.pair tI (.slice tI))))) f=>lS b d.1 d.2.1 d.2.2 (fun n m l=>f (n,m,l)) (fun c=>Û ((ile (0:Int) c.1)&&(ile c.1 (ç c.2))) (Û ((ile (0:Int) c.1)&&(ile c.1 (ç (List.take (Int.toNat c.1) c.2++List.replicate (List.length c.2-(Int.toNat c.1)) (0:Int)++List.drop ((Int.toNat c.1)+(List.length c.2-(Int.toNat c.1))) c.2)))) (some (List.take (Int.toNat c.1) (List.drop 0 (List.take (Int.toNat c.1) c.2++List.replicate (List.length c.2-(Int.toNat c.1)) (0:Int)++List.drop ((Int.toNat c.1)+(List.length c.2-(Int.toNat c.1))) c.2))))))) ((z:Int),((z:Int)+1),a)=some (á a b):=by
  intro z p H v
  refine ñ (fun x:Int×Int×CK Int=>∃i j:Nat,x.1=i/\x.2.1=j/\i<j/\j<=a.length/\x.2.2.length=a.length/\x.2.2.take i=á (a.take j) b/\x.2.2.drop j=a.drop j) (fun x=>a.length-x.2.1.toNat) ?_
   ⟨z,z+1,rfl,by simp,by omega,by omega,rfl,?_,rfl⟩
  ·rintro⟨N,M,s⟩ ⟨i,j,A,h2,J,I,D,y,hd⟩;simp only at A h2 D y hd;subst A h2;rcases dq j a.length with u|u
   ·refine .inr ?_
    have t:s[j]?=some a[j]:=by
     have F:(s.drop j)[0]?=(a.drop j)[0]?:=by rw[hd]
     rw[eR,eR] at F;simpa[cX u] using F
    have e:j<s.length:=by omega
    have r:á (a.take (j+1)) b=á (a.take j) b++if b.contains a[j] then[] else[a[j]]:=by
     rw[take_succ (cX u),á,á,eS];congr 1
     cases h:b.contains a[j] with
     |true=>simp only[eO,h,dR,dr,if_false,eJ,if_true]
     |false=>simp only[eO,h,fu,dr,if_false,eJ,if_true]
    cases h:b.contains a[j] with
    |true =>
     refine⟨(i,(j:Int)+1,s),⟨i,j+1,rfl,by simp,by omega,by omega,D,?_,?_⟩,by simp; omega,fun w=>?_⟩
     ·rw[r,h]; simpa using y
     ·have:=congrArg (List.drop 1) hd;simpa[gg,Nat.add_comm] using this
     ·try dsimp only
      unfold lS;rw[Ì e,ő e,é t,Ţ hb,À,h];simp only[Bool.not_true,ä];rw[È e (by omega)]
    |false =>
     have k:i<s.length:=by omega
     refine⟨((i:Int)+1,(j:Int)+1,s.set i a[j]),⟨i+1,j+1,by simp,by simp,by omega,by omega,by simpa using D,?_,?_⟩,by simp; omega,fun w=>?_⟩
     ·show List.take (i+1) (s.set i a[j])=_;rw[r,h,List.take_succ,ic,List.take_set_of_le (cZ i),y];simp[k]
     ·show List.drop (j+1) (s.set i a[j])=_;rw[List.drop_set_of_lt (by omega)];have:=congrArg (List.drop 1) hd;simpa[gg,Nat.add_comm] using this
     ·try dsimp only
      unfold lS;rw[Ì e,ő e,é t,Ţ hb,À,h];simp only[Bool.not_false,jd];rw[ő k,é (List.getElem?_eq_getElem k),È k (by omega),È e (by omega),Int.toNat_natCast]
   ·refine .inl fun w=>?_
    have E:j=s.length:=by omega
    try dsimp only
    unfold lS;rw[E,Ó];dsimp only
    have L:((ile (0:Int) (i:Int))&&(ile (i:Int) (ç s)))=true:=by simp[ile,ç]; omega
    rw[à L]
    have K:((ile (0:Int) (i:Int))&&(ile (i:Int) (ç (List.take (Int.toNat (i:Int)) s++List.replicate (List.length s-(Int.toNat (i:Int))) (0:Int)++List.drop ((Int.toNat (i:Int))+(List.length s-(Int.toNat (i:Int)))) s))))=true:=by
     simp[ile,ç]; omega
    rw[à K,dl,gE,di,fQ (by simp; omega),List.take_take,Nat.min_self,y];rw[dZ (by omega)]
  ·show List.take z a=á (a.take (z+1)) b;have o:a[z]?=some a[z]:=cX p;rw[take_succ o,á,eS];rw[o] at v;simp only[fZ] at v
   have:List.filter (fun x=>!b.contains x) [a[z]]=[]:=by simp only[eO,v,dR,dr,if_false,eJ]
   rw[this,du];exact H.symm
 refine dY (Χ a (fun x=>b.contains x) (fun B=>ifb (ieq B (-1:Int)) (some a) (ck (B+(1:Int)) fun G=>Ê (fun(d:(Val (.pair tI (.pair tI (.slice tI))))) f=>lS b d.1 d.2.1 d.2.2 (fun n m l=>f (n,m,l)) (fun c=>Û ((ile (0:Int) c.1)&&(ile c.1 (ç c.2))) (Û ((ile (0:Int) c.1)&&(ile c.1 (ç (List.take (Int.toNat c.1) c.2++List.replicate (List.length c.2-(Int.toNat c.1)) (0:Int)++List.drop ((Int.toNat c.1)+(List.length c.2-(Int.toNat c.1))) c.2)))) (some (List.take (Int.toNat c.1) (List.drop 0 (List.take (Int.toNat c.1) c.2++List.replicate (List.length c.2-(Int.toNat c.1)) (0:Int)++List.drop ((Int.toNat c.1)+(List.length c.2-(Int.toNat c.1))) c.2))))))) (B,G,a))) (some a) (fun i x hi q w=>?_) (fun w=>?_)) ?_
 ·try dsimp only
  unfold xu;rw[Ì hi,ő hi,é q,Ţ hb,À,È hi (by omega),õ]
 ·try dsimp only
  unfold xu;rw[Ó]
 ·cases h:a.findIdx? (fun x=>b.contains x) with
  |none =>
   have:á a b=a:=by
    rw[á,gN];intro x q;have:=dU.1 h x q;simpa using this
   rw[this]
  |some z =>
   obtain⟨p,v,C⟩:=dN.1 h
   have A:ieq (z:Int) (-1)=false:=by simp[ieq]
   try dsimp only
   rw[Í A,È p (by omega)];refine g z p ?_ ?_
   ·rw[á,gN];intro x q;obtain⟨j,u,rfl⟩:=dp.1 q;rw[dm] at u;rw[fj];have:=C j (by omega);simpa using this
   ·rw[cX p]; exact v
def yA (l:CK Int) (i:Nat) (a:Int):BY Bool:=if !inP a 1 1099511627776 then some false else if lU (fun x=>x) l i a then some false else none
def uz (l:CK Int):Bool:=match Ĝ (yA l) 0 l with|some _=>false|none=>decide (l.length<=6)
def Hz {l:CK Int} (g:l.length<=1000000):nQ l=some (uz l):=by
 unfold nQ Tt;refine Eq.trans (jt l (yA l) some (some (decide (l.length<=6))) (fun i a hi ha d=>?_) (fun d=>?_)) ?_
 ·try dsimp only
  unfold qg;rw[Ì hi,Æ ha,iB,À];unfold yA
  cases inP a 1 1099511627776 with
  |false=>rfl
  |true =>
   simp only[dR,ä,dr,if_false];rcases fK i with h0|h0
   ·subst h0
    have:igt ((0:Nat):Int) 0=false:=by simp[igt]
    rw[Í this,È hi (by omega)];simp[lU]
   ·obtain⟨q,c⟩:=uQ hi h0
    have f:igt (i:Int) 0=true:=by simp[igt]; omega
    rw[Ñ f,PX h0 (by omega),HE h0 c];simp only[lU,h0,decide_true,Bool.true_and,c,Option.any_some];unfold ile
    cases h2:decide (a<=q) with
    |true=>rfl
    |false =>
     rw[ä,È hi (by omega)];rfl
 ·try dsimp only
  unfold qg;rw[Ó,Î];simp[ile];omega
 ·have hb:∀x,Ĝ (yA l) 0 l=some x->x=false:=by
   have:∀(m:CK Int) (j:Nat) (x:Bool),Ĝ (yA l) j m=some x->x=false:=by
    intro m
    induction m with
    |nil=>intro j x h; cases h
    |cons a m e =>
     intro j x h;unfold Ĝ at h
     cases b:yA l j a with
     |none=>rw[b] at h; exact e _ _ h
     |some y =>
      rw[b] at h;cases h;unfold yA at b
      split at b
      ·cases b; rfl
      ·split at b
       ·cases b; rfl
       ·cases b
   exact this l 0
  unfold uz
  cases h:Ĝ (yA l) 0 l with
  |none=>rfl
  |some x=>rw[hb x h]
def yY (l:CK Int):uz l=true↔(∀x∈l,1<=x/\x<=1099511627776)/\l.Pairwise (·<·)/\l.length<=6:=by
 have h0:Ĝ (yA l) 0 l=none↔(∀x∈l,1<=x/\x<=1099511627776)/\l.Pairwise (·<·):=by
  rw[Α,<-Iq (fun x=>x) l];constructor
  ·intro h
   have b:∀(j:Nat) (a:Int),l[j]?=some a->inP a 1 1099511627776=true/\lU (fun x=>x) l j a=false:=by
    intro j a ha;have:=h j a ha;rw[Nat.zero_add] at this;unfold yA at this
    split at this
    ·cases this
    ·split at this
     ·cases this
     ·rename_i b h2;exact⟨by simpa using b,by simpa using h2⟩
   refine⟨fun x d=>?_,fun i a ha=>(b i a ha).2⟩;obtain⟨j,e,rfl⟩:=dp.1 d;have:=(b j l[j] (cX e)).1;simpa[inP] using this
  ·rintro⟨b,h2⟩ j a ha;rw[dL];have c:=b a (df ha)
   have:inP a 1 1099511627776=true:=by simpa[inP] using c
   simp[yA,this,h2 j a ha]
 unfold uz
 cases h:Ĝ (yA l) 0 l with
 |none =>
  obtain⟨b,h2⟩:=h0.1 h;simp only[decide_eq_true_eq];exact⟨fun c=>⟨b,h2,c⟩,fun c=>c.2.2⟩
 |some x =>
  constructor
  ·intro h2; cases h2
  ·rintro⟨b,h2,c⟩;rw[h0.2 ⟨b,h2⟩] at h; cases h
def Qs {a b:CK Int} (ha:a.length<=1000000) (hb:b.length<=1000000):Ī [a,b]=some (a++b):=by
 have q:∀n:Nat,n<=4000000->∀(f:Int->BY (CK Int)),ck (n:Int) f=f n:=fun n h f=>Ï (by omega) (by omega) f
 have c:Ê (fun(l:pc) d=>Ĥ [a,b] (Õ [a,b]) l.1 l.2 (fun g e=>d (g,e)) (fun m=>some m)) ((0:Int),([]:CK Int))=some (a++b):=by
  refine ê [a,b] (fun i=>([a,b].take i).flatten) (some (a++b)) (f:=fun(l:pc) d=>Ĥ [a,b] (Õ [a,b]) l.1 l.2 (fun g e=>d (g,e)) (fun m=>some m)) rfl (fun i x hi j o=>?_) (fun o=>?_)
  ·try dsimp only
   unfold Ĥ;rw[Ì hi,Æ j,È hi (by simp),take_succ j,List.flatten_append]
   have:ß ((List.take i [a,b]).flatten.length+x.length)=true:=by
    refine Ð ?_
    have u:x.length<=1000000:=by
     have:=df j;simp at this
     rcases this with rfl|rfl<;>assumption
    have h2:(List.take i [a,b]).flatten.length<=2000000:=by
     have:i=0\/i=1:=by simp at hi; omega
     rcases this with rfl|rfl<;>simp<;>omega
    omega
   rw[à this];simp
  ·try dsimp only
   unfold Ĥ;rw[Ó];simp
 unfold Ī tq;refine ñ (fun x:Int×Int=>∃i:Nat,i<=2/\x=((([a,b].take i).flatten.length:Int),(i:Int))) (fun x=>2-x.2.toNat) ?_ ⟨0,by omega,rfl⟩;rintro x ⟨i,hi,rfl⟩;rcases Nat.lt_or_ge i 2 with h2|h2
 ·refine .inr ⟨((([a,b].take (i+1)).flatten.length:Int),(i:Int)+1),⟨i+1,h2,by simp⟩,by simp; omega,fun o=>?_⟩;have k:i<[a,b].length:=h2;obtain⟨x,j⟩:∃x,[a,b][i]?=some x:=⟨_,cX k⟩
  have r:x.length<=1000000:=by
   have:=df j;simp at this
   rcases this with rfl|rfl<;>assumption
  have t:(List.take i [a,b]).flatten.length<=2000000:=by
   have:i=0\/i=1:=by omega
   rcases this with rfl|rfl<;>simp<;>omega
  try dsimp only
  unfold Φ;rw[Ì k,Æ j,Î]
  have p:(((List.take i [a,b]).flatten.length:Int)+(x.length:Int))=((List.take i [a,b]).flatten.length+x.length:Nat):=by omega
  rw[p,q _ (by omega)]
  have:ilt ((((List.take i [a,b]).flatten.length+x.length:Nat)):Int) 0=false:=by simp[ilt]; omega
  rw[Í this,È k (by simp),take_succ j];simp
 ·refine .inl fun o=>?_
  obtain rfl:i=2:=by omega
  try dsimp only
  unfold Φ;rw[show((2:Nat):Int)=(([a,b].length:Nat):Int) from rfl,Ó]
  have p:((List.take 2 [a,b]).flatten.length:Int)=((a.length+b.length:Nat):Int):=by simp
  have s:ilt (((a.length+b.length:Nat)):Int) 0=false:=by simp[ilt]; omega
  rw[p];dsimp only;rw[Í s,Int.sub_zero,q _ (by omega)];rcases Nat.eq_zero_or_pos (a.length+b.length) with h0|h0
  ·have:igt (((a.length+b.length:Nat)):Int) 0=false:=by simp[igt]; omega
   rw[Í this];exact c
  ·have:igt (((a.length+b.length:Nat)):Int) 0=true:=by simp[igt]; omega
   rw[Ñ this]
   have:((ilt (0:Int) (((a.length+b.length:Nat)):Int))&&(ß (Int.toNat (((a.length+b.length:Nat)):Int))))=true:=by
    rw[dl,Ð (by omega)];simp[ilt]; omega
   rw[à this]
   have:ile 0 (ç (List.replicate (Int.toNat (((a.length+b.length:Nat)):Int)) (0:Int)))=true:=by simp[ile]
   rw[à this];exact c
def ś (b:ø) (id day:Int):BY IE:=b.2.2.2.1.find? fun l=>l.1==id&&inP day l.2.1.1 l.2.1.2
def Ma {α:Type} (p:α->Bool):∀l:CK α,l.find? p=(match l.findIdx? p with|some j=>l[j]?|none=>none)
 |[]=>rfl
 |a::l=>by
  rw[f8,List.findIdx?_cons]
  cases h:p a with
  |true=>simp
  |false =>
   simp only[dr,if_false];rw[Ma p l]
   cases l.findIdx? p<;>simp
def ajb {b:ø} (k:b.2.2.2.1.length<=1000) (id day:Int):xT b id day=some (match ś b id day with|some l=>(l,true)|none=>((0,(0,0),0),false)):=by
 unfold xT ac2;refine Eq.trans (Χ b.2.2.2.1 (fun l=>l.1==id&&inP day l.2.1.1 l.2.1.2) (fun c=>ifb (ilt c (0:Int)) (some (((0:Int),((0:Int),(0:Int)),(0:Int)),false)) (ï b.2.2.2.1 c fun g=>some (g,true))) (some ((0,(0,0),0),false)) (fun i a hi ha f=>?_) (fun f=>?_)) ?_
 ·try dsimp only
  unfold xy;rw[Ì hi,Æ ha,iB,À,È hi (by omega)]
  cases e:(a.1==id) with
  |false =>
   have:ieq a.1 id=false:=e;simp[this]
  |true =>
   have:ieq a.1 id=true:=e;rw[this]
   cases inP day a.2.1.1 a.2.1.2<;>simp
 ·try dsimp only
  unfold xy;rw[Ó]
 ·unfold ś;rw[Ma]
  cases h:b.2.2.2.1.findIdx? (fun l=>l.1==id&&inP day l.2.1.1 l.2.1.2) with
  |none=>rfl
  |some j =>
   obtain⟨d,_,_⟩:=dN.1 h
   have:ilt (j:Int) 0=false:=by simp[ilt]
   try dsimp only
   rw[Í this,Æ (cX d),cX d]
section
variable {ρ:Type}
def afL {α:Type} {all l:CK α} (k:BY ρ) (h:l <+: all):yg all l k=k:=by unfold yg; rw[if_pos h]
def VK {α β:Type} {f:CK α->β->(CK α->BY ρ)->BY ρ} {g:β->CK α} {al:CK α}:∀{xs:CK β} {v:CK α} {K:CK α->BY ρ},
 (∀v y a,y∈xs->(v++g y) <+: al->f v y a=a (v++g y))->(v++xs.flatMap g) <+: al->AO f xs v K=K (v++xs.flatMap g)
 |[],v,K,_,_=>by simp[AO]
 |x::xs,v,K,h,b=>by
  rw[dB,<-di] at b ⊢;rw[AO,h v x _ (by simp) ((eo _ _).trans b),VK (fun v y a c=>h v y a (dS _ c)) b]
end
def afU {b:CK Int->BY (CK Int)} {l xs:CK Int} (h:Bv l=some xs):kL xs b l some=some (xs,l):=by
 unfold Bv at h
 have c:ß l.length=true:=by cases e:ß l.length with|true=>rfl|false=>rw[e] at h; cases h
 rw[à c] at h;cases h
 have f:l.length<=4294967296:=by simpa[ß] using c
 unfold kL
 refine ê l (fun i=>l.take i) _ rfl (fun i a hi ha d=>?_) (fun d=>?_)<;>(try dsimp only)<;>unfold i9
 ·rw[Ì hi,Æ ha,<-take_succ ha,afL _ (List.take_prefix _ _),Ï (by omega) (by omega)]
 ·rw[Ó,fo]
def abL:∀(n:Nat) {l y:CK Int},l.length=n->y∈uX n l->y.length=n
 |0,l,y,_,h=>by simp[uX] at h; simp[h]
 |n+1,l,y,c,h=>by
  have a:¬l.length=0:=by omega
  simp only[uX,if_neg a,dD,fh,dE] at h;obtain⟨i,hi,z,b,rfl⟩:=h;have:=abL n (l:=l.take i++l.drop (i+1)) (by simp; omega) b;simp[this]
def Ww:∀{l:CK (Int×CK Int)} {y:CK (CK Int)},y∈ω l->y.length=l.length
 |[],y,h=>by simp[ω] at h; simp[h]
 |m::r,y,h=>by
  simp only[ω,dD,dE] at h;obtain⟨x,_,z,a,rfl⟩:=h;simp[Ww a]
def amv {α:Type} {n i:Nat} (h:i<n) (g:Nat->CK α):((List.range i).flatMap g++g i) <+: (List.range n).flatMap g:=by
 have:List.range n=List.range i++i::(List.range (n-i-1)).map (i+1+·):=by
  rw[show n=(i+1)+(n-i-1) by omega,List.range_add,fE,di];simp[show i+1+(n-i-1)-i-1=n-i-1 by omega]
 rw[this,eP,dB,<-di];exact eo _ _
def Z1 (n:Nat) (l:CK Int):BY (CK (CK Int)):=Û (decide (l.length<n)&&decide (l.length<=9)) (some (uX l.length l))
def agm {n:Nat} {l:CK Int} (h:l.length<n) (a:l.length<=9):Z1 n l=some (uX l.length l):=by unfold Z1; rw[à (by simp[h,a])]
def aca {n:Nat} {l:CK Int} {xs:CK (CK Int)} (h:Z1 n l=some xs):l.length<n/\l.length<=9/\xs=uX l.length l:=by
 unfold Z1 at h
 cases hb:(decide (l.length<n)&&decide (l.length<=9)) with
 |false=>rw[hb] at h; cases h
 |true =>
  rw[hb] at h; cases h;simp only[cY,decide_eq_true_eq] at hb;exact⟨hb.1,hb.2,rfl⟩
def agD {n:Nat} {l:CK Int} {xs:CK (CK Int)} (h:Z1 (n+1) l=some xs):zB xs (Z1 n) l some=some (xs,l):=by
 obtain⟨t,h2,rfl⟩:=aca h;unfold zB
 by_cases h0:l.length=0
 ·obtain rfl:l=[]:=List.eq_nil_of_length_eq_zero h0;rw[show ifb (ieq (Õ ([]:CK Int)) (0:Int))=fun(x y:BY (CK (CK Int)×CK Int))=>x from by funext x y; simp[Î,ieq,õ]];exact afL _ (by simp[uX])
 ·obtain⟨k,m⟩:∃k,l.length=k+1:=⟨l.length-1,by omega⟩
  have s:uX l.length l=(List.range l.length).flatMap fun i=>(uX k (l.take i++l.drop (i+1))).map (l.getD i 0::·):=by
   rw[m];show(if l.length=0 then[[]] else _)=_;rw[if_neg h0,m]
  have b:ieq (Õ l) (0:Int)=false:=by rw[Î]; exact decide_eq_false (by omega)
  rw[Í b];rw[s]
  refine ê l (fun i=>(List.range i).flatMap fun i=>(uX k (l.take i++l.drop (i+1))).map (l.getD i 0::·)) _ rfl (fun i a hi ha d=>?_) (fun d=>?_)<;>(try dsimp only)<;>unfold qY
  ·have e:(l.take i++l.drop (i+1)).length=k:=by simp; omega
   rw[Ì hi,Æ ha,à (by simp[ile,ç]; omega),Ï (by omega) (by omega),à (by simp[ile,ç]; omega),dl,show Int.toNat ((i:Int)+1)=i+1 by omega,
    Qs (by simp; omega) (by simp; omega),À,agm (by omega) (by omega),À,e]
   have c:l.getD i 0=a:=by rw[ej,ha]; rfl
   have j:∀xs:CK (CK Int),xs.map (l.getD i 0::·)=xs.flatMap fun y=>[a::y]:=fun xs=>by
    rw[c]; induction xs with|nil=>rfl|cons x xs o=>simp[o]
   have f:=amv hi fun i=>(uX k (l.take i++l.drop (i+1))).map (l.getD i 0::·)
   have r:(List.range (i+1)).flatMap (fun i=>(uX k (l.take i++l.drop (i+1))).map (l.getD i 0::·))=(List.range i).flatMap (fun i=>(uX k (l.take i++l.drop (i+1))).map (l.getD i 0::·))++(uX k (l.take i++l.drop (i+1))).flatMap fun y=>[a::y]:=by
    rw[fE,eP,dB,gh,du,j]
   rw[r];rw[j] at f;refine(VK (g:=fun y=>[a::y]) (fun v y d p q=>?_) f).trans ?_
   ·unfold qX;have:=abL k e p;rw[à (Ð (by simp; omega))];exact afL _ q
   ·dsimp only;rw[Ï (by omega) (by omega)]
  ·rw[Ó]
def Z2 (n:Nat) (l:CK (Int×CK Int)):BY (CK (CK (CK Int))):=Û (decide (l.length<n)&&(decide (l.length<=9)&&l.all fun m=>decide (m.2.length<=9))) (some (ω l))
def acb {n:Nat} {l:CK (Int×CK Int)} {xs:CK (CK (CK Int))} (h:Z2 n l=some xs):l.length<n/\l.length<=9/\(∀m∈l,m.2.length<=9)/\xs=ω l:=by
 unfold Z2 at h
 cases hb:(decide (l.length<n)&&(decide (l.length<=9)&&l.all fun m=>decide (m.2.length<=9))) with
 |false=>rw[hb] at h; cases h
 |true =>
  rw[hb] at h; cases h;simp only[cY,decide_eq_true_eq,dI] at hb;exact⟨hb.1,hb.2.1,hb.2.2,rfl⟩
def agn {n:Nat} {l:CK (Int×CK Int)} (h:l.length<n) (a:l.length<=9) (ha:∀m∈l,m.2.length<=9):Z2 n l=some (ω l):=by
 unfold Z2; rw[à (by simp only[Bool.and_eq_true,decide_eq_true_eq,List.all_eq_true]; exact⟨h,a,ha⟩)]
def abj {n:Nat} {l:CK (Int×CK Int)} {xs:CK (CK (CK Int))} (h:Z2 (n+1) l=some xs):uC xs (Z2 n) l some=some (xs,l):=by
 obtain⟨q,h2,i,rfl⟩:=acb h;unfold uC
 cases l with
 |nil =>
  rw[show ifb (ieq (Õ ([]:CK (Int×CK Int))) (0:Int))=fun(x y:BY (CK (CK (CK Int))×CK (Int×CK Int)))=>x from by funext x y; simp[Î,ieq,õ]];exact afL _ (by simp[ω])
 |cons e r =>
  have b:ieq (Õ (e::r)) (0:Int)=false:=by rw[Î]; exact decide_eq_false (by simp only[dk]; omega)
  rw[Í b];have p:=i e (by simp);rw[show ï (e::r) (0:Int)=fun f=>f e from by funext f; rfl];dsimp only;rw[show Bw e.2=some (uX e.2.length e.2) from by unfold Bw; rw[à (by simp[p])],À];have d:ω (e::r)=(uX e.2.length e.2).flatMap fun x=>(ω r).map (x::·):=rfl
  have c:∀(x:CK Int),(ω r).map (x::·)=(ω r).flatMap fun y=>[x::y]:=fun x=>by
   generalize ω r=ys
   induction ys with|nil=>rfl|cons y ys k=>simp[k]
  refine(VK (g:=fun x=>(ω r).map (x::·)) (al:=ω (e::r)) (fun v x j s a=>?_) (by rw[d8,<-d]; exact eF)).trans ?_
  ·unfold nB;simp only[List.length_cons] at q h2;rw[à (by simp[ile,ç]; omega),show List.drop 1 (e::r)=r from rfl,agn (by omega) (by omega) (fun m c=>i m (by simp[c])),À];rw[c] at a ⊢;refine VK (g:=fun y=>[x::y]) (fun v y j o a=>?_) a;unfold nA;have:=Ww o;rw[à (Ð (by simp; omega))];exact afL _ a
  ·rw[d8,<-d]
def aei {l:CK Int} {xs:CK (CK Int)} (h:Bw l=some xs):Z1 10 l=some xs:=by
 unfold Bw at h
 cases hb:decide (l.length<=9) with
 |false=>rw[hb] at h; cases h
 |true =>
  rw[hb] at h; cases h;have:=of_decide_eq_true hb;exact agm (by omega) this
def Zv {l:CK (Int×CK Int)} {xs:CK (CK (CK Int))} (h:nM l=some xs):Z2 10 l=some xs:=by
 unfold nM at h
 cases hb:(decide (l.length<=9)&&l.all fun m=>decide (m.2.length<=9)) with
 |false=>rw[hb] at h; cases h
 |true =>
  rw[hb] at h; cases h;simp only[cY,decide_eq_true_eq,dI] at hb;exact agn (by omega) hb.1 hb.2
end Go.Proofs.ZzM
end
