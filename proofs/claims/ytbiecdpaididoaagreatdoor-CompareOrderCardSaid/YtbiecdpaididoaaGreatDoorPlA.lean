/- lemmas -/
import Derived.Test.YtbiecdpaididoaaGreatDoorAmG
import Derived.Test.YtbiecdpaididoaaGreatDoorMdTA
set_option linter.all false
noncomputable section
namespace Go.Am
section
variable {ρ:Type}
def Ľ {α β:Type} (e:Nat->α->AN β):Nat->AS α->AN β
 |_,[]=>none
 |i,a::t=>match e i a with
  |some b=>some b
  |none=>Ľ e (i+1) t
def iZ {α β:Type} (l:AS α) (e:Nat->α->AN β) (j:β->AN ρ) (g:AN ρ) {f:Int->(Int->AN ρ)->AN ρ}
 (h:∀(i:Nat) (a:α),i<l.length->l[i]?=some a->∀d,f i d=match e i a with|some b=>j b|none=>d ((i:Int)+1))
 (m:∀d,f l.length d=g):Ù f 0=match Ľ e 0 l with|some b=>j b|none=>g:=by
 refine MG l (fun i t=>match Ľ e i t with|some b=>j b|none=>g) m fun i a t hd hi ha d n=>?_;rw[h i a hi ha d,n,Ľ]
 cases e i a<;>rfl
def η {α σ:Type} (l:AS α) (g:Nat->σ) (r:AN ρ) {f:Int×σ->(Int×σ->AN ρ)->AN ρ} {s0:σ} (h0:g 0=s0)
 (h:∀(i:Nat) (a:α),i<l.length->l[i]?=some a->∀d,f (i,g i) d=d ((i:Int)+1,g (i+1)))
 (m:∀d,f (l.length,g l.length) d=r):Ù f (0,s0)=r:=by
 subst h0
 have j:∀s,(s=g 0)->Ù f (0,s)=r:=fun s e=>I3 l (fun _ _ _=>r) (fun i s=>s=g i) (fun s j d=>by rw[j]; exact m d) (fun i a t s hd hi ha hI d n=>by
  rw[hI,h i a hi ha d]; exact n _ rfl) e
 exact j _ rfl
def Ô {i n:Nat} (h:i<n) (a:n<=1000000000) (f:Int->AN ρ):ck ((i:Int)+1) f=f ((i:Int)+1):=ë (by omega) (by omega) f
def ifb_lt {i n:Nat} (h:i<n) (x y:AN ρ):ifb (ilt (i:Int) (EP n)) x y=x:=by simp[Ė,kH,h]
def ï (n:Nat) (x y:AN ρ):ifb (ilt (n:Int) (EP n)) x y=y:=by simp[Ė,kH]
def Ø {α:Type} {l:AS α} {i:Nat} (h:i<l.length) (x y:AN ρ):ifb (ilt (i:Int) (Û l)) x y=x:=ifb_lt h x y
def zm {α:Type} (p:α->Bool):∀(i:Nat) (l:AS α),Ľ (fun i a=>bif p a then some (i:Int) else none) i l=(l.findIdx? p).map fun j=>((i+j:Nat):Int)
 |_,[]=>rfl
 |i,a::t=>by
  simp only[Ľ,List.findIdx?_cons]
  cases d:p a with
  |true=>simp
  |false =>
   simp only[cond_false,bO,if_false];rw[zm p (i+1) t]
   cases t.findIdx? p with
   |none=>rfl
   |some j=>simp only[b9]; congr 1; omega
def gy {α β:Type} {e:Nat->α->AN β}:∀{i:Nat} {l:AS α},Ľ e i l=none↔∀j a,l[j]?=some a->e (i+j) a=none
 |_,[]=>by simp[Ľ]
 |i,a::t=>by
  simp only[Ľ];constructor
  ·intro h j b hb
   cases d:e i a with
   |some c=>rw[d] at h; cases h
   |none =>
    rw[d] at h
    cases j with
    |zero=>simp at hb; subst hb; simpa using d
    |succ j=>have:=(gy.1 h) j b (by simpa using hb); rw[<-this]; congr 1; omega
  ·intro h;have h0:=h 0 a (by simp);simp only[dD] at h0;rw[h0]
   exact gy.2 fun j b hb=>by have:=h (j+1) b (by simpa using hb); rw[<-this]; congr 1; omega
def take_succ {α:Type} {l:AS α} {i:Nat} {a:α} (h:l[i]?=some a):l.take (i+1)=l.take i++[a]:=by rw[List.take_succ,h]; rfl
end
end Go.Am
end

noncomputable section
namespace Go.Proofs.ZzM
open Go Go.Am
section
variable {ρ:Type}
def fN {τ:Type} {f:τ->(τ->AN ρ)->AN ρ} {r:AN ρ} (I:τ->Prop) (μ:τ->Nat)
 (h:∀x,I x->(∀a,f x a=r)\/∃y,I y/\μ y<μ x/\∀a,f x a=a y) {x:τ} (d:I x):Ù f x=r :=
 yZ (F:=fun _=>r) I μ (fun x d a g=>by
  rcases h x d with e|⟨y,e,h2,i⟩
  ·exact e a
  ·rw[i,g y e h2]) d
def fO {α:Type} (l:AS α) (p:α->Bool) (g:Int->AN ρ) (e:AN ρ) {f:Int->(Int->AN ρ)->AN ρ}
 (h:∀(i:Nat) (a:α),i<l.length->l[i]?=some a->∀d,f i d=if p a then g i else d ((i:Int)+1))
 (m:∀d,f l.length d=e):Ù f 0=match l.findIdx? p with|some j=>g j|none=>e:=by
 rw[iZ l (fun i a=>bif p a then some (i:Int) else none) g e (fun i a hi ha d=>by rw[h i a hi ha d]; cases p a<;>rfl) m,zm]
 cases l.findIdx? p with
 |none=>rfl
 |some j=>simp
def ζ {α:Type} (l:AS α) (p:α->Bool) (g:Int->AN ρ) (K e:AN ρ) {f:Int->(Int->AN ρ)->AN ρ} (u:∀j:Nat,g j=K)
 (h:∀(i:Nat) (a:α),i<l.length->l[i]?=some a->∀d,f i d=if p a then g i else d ((i:Int)+1))
 (r:∀d,f l.length d=e):Ù f 0=if l.any p then K else e:=by
 rw[fO l p g e h r]
 cases m:l.findIdx? p with
 |none =>
  have:l.any p=false:=by
   rw[cN];intro x n;have:=cH.1 m x n;simp[this]
  simp[this]
 |some j =>
  have:l.any p=true:=by
   have:=cq.1 m;obtain⟨s,o,_⟩:=this;exact dW.2 ⟨_,dJ s,o⟩
  simp[this,u]
end
abbrev ß:Type:=Int×Int×Int×(Int×Int)×((Int×Int)×Int)
abbrev uC:Type:=Int×((Int×Int)×Int)
abbrev Cmp:Type:=Int×Int×AS Int×AS Int×Int×(Int×(Int×Int))
abbrev à:Type:=(Int×Int)×AS ß×AS (Int×Int)×AS uC×AS Cmp×AS (Int×Int)
abbrev Sys:Type:=Int×AS (Int×Int×Int)
abbrev Maker:Type:=à×AS (Int×Int)×Sys×AS (Int×Int)
section
variable {ρ:Type}
def ø {b:Bool} (h:b=true) (x y:AN ρ):ifb b x y=x:=by rw[h]; rfl
def á {b:Bool} (h:b=false) (x y:AN ρ):ifb b x y=y:=by rw[h]; rfl
end
def I64 (n:Int):Prop:=-9223372036854775808<=n/\n<=9223372036854775807
def inP (n lo hi:Int):Bool:=decide (lo<=n)&&decide (n<=hi)
def Gz (n:Int):Bool:=inP n 0 20000
def κ (s:Int×Int) (lo hi:Int):Bool:=decide (lo<=s.1)&&(decide (s.1<=s.2)&&decide (s.2<=hi))
def Ļ (n lo hi:Int):ó n lo hi=some (inP n lo hi):=by
 unfold ó BC inP ile
 cases decide (lo<=n)<;>rfl
def tQ (n:Int):Ρ n=some (Gz n):=by
 unfold Ρ Fl;rw[Ļ]; rfl
def tR (s:Int×Int) (lo hi:Int):ĺ s lo hi=some (κ s lo hi):=by
 unfold ĺ BG κ ile
 cases decide (lo<=s.1)<;>cases decide (s.1<=s.2)<;>rfl
def Cu {n:Int} (h:I64 n):kB n=some (n.natAbs:Int):=by
 obtain⟨d,h2⟩:=h;unfold kB IK
 by_cases a:n<0
 ·have:ilt n 0=true:=by simpa using a
  rw[ø this];congr 1;simp only[IntKind.wrap,IntKind.bits,IntKind.signed];simp;omega
 ·have:ilt n 0=false:=by simpa using a
  rw[á this];congr 1;simp only[IntKind.wrap,IntKind.bits,IntKind.signed];simp;omega
def QG (a b:Nat):zr a b=some ((Nat.gcd a b:Nat):Int):=by
 unfold zr Mr;refine fN (fun x:Int×Int=>∃c d:Nat,x=((c:Int),(d:Int))/\Nat.gcd c d=Nat.gcd a b) (fun x=>x.2.toNat) ?_ ⟨a,b,rfl,rfl⟩;rintro x ⟨c,d,rfl,e⟩
 cases d with
 |zero =>
  refine .inl fun f=>?_;rw[Nat.gcd_zero_right] at e;unfold pm;simp[e,ine]
 |succ d =>
  refine .inr ⟨(((d+1:Nat):Int),((c % (d+1):Nat):Int)),⟨d+1,c % (d+1),rfl,?_⟩,?_,fun f=>?_⟩
  ·rw[<-e,Nat.gcd_comm c (d+1),Nat.gcd_rec (d+1) c,Nat.gcd_comm]
  ·have:=Nat.mod_lt c (ff d);simp only[bN];omega
  ·unfold pm
   have g:ine ((d+1:Nat):Int) 0=true:=by simp[ine]; omega
   have h2:Β ((d+1:Nat):Int) 0=false:=by simp[Β]; omega
   simp only[g,ø á h2];congr 1
def zY (r:Int×Int):Bool :=
 decide (1<=r.2)&&(decide (r.2<=2147483647)&&(decide ((r.1.natAbs:Int)<=2147483647)&&decide (Nat.gcd r.1.natAbs r.2.natAbs=1)))
def DR {r:Int×Int} (h:I64 r.1):lY r=some (zY r):=by
 unfold lY E8 zY
 by_cases d:1<=r.2
 ·by_cases h2:r.2<=2147483647
  ·have i:I64 r.2:=⟨by omega,by omega⟩
   have a:ige r.2 1=true:=by simp[ige,d]
   have g:ile r.2 2147483647=true:=by simp[ile,h2]
   rw[ø a,ø g,Cu h,À]
   by_cases e:(r.1.natAbs:Int)<=2147483647
   ·have f:ile (r.1.natAbs:Int) 2147483647=true:=by simp[ile,e]
    rw[ø f,À,Cu i,À,QG,À];congr 1;rw[dj];simp only[ieq,beq_iff_eq,d,h2,e,decide_true,cT,decide_eq_true_eq];omega
   ·have f:ile (r.1.natAbs:Int) 2147483647=false:=by simp[ile]; omega
    rw[á f];simp[e]
  ·have a:ige r.2 1=true:=by simp[ige,d]
   have g:ile r.2 2147483647=false:=by simp[ile]; omega
   rw[ø a,á g];simp[h2]
 ·have a:ige r.2 1=false:=by simp[ige]; omega
  rw[á a];simp[d]
def nr (g:ß):Bool :=
 zY g.2.2.2.2.1&&inP g.2.2.2.2.1.1 (-1000) 1000&&decide (g.2.2.2.2.1.2<=100)&&inP g.1 1 1099511627776&&Gz g.2.1&&inP g.2.2.1 1 1125899906842624&&κ g.2.2.2.1 (-1073741824) 1073741824&&inP g.2.2.2.2.2 0 1048576
def KH {g:ß} (h:I64 g.2.2.2.2.1.1):mV g=some (nr g):=by
 unfold mV rB nr;rw[DR h,Ļ,Ļ,tQ,Ļ,tR,Ļ];generalize zY g.2.2.2.2.1=x1;generalize inP g.2.2.2.2.1.1 (-1000) 1000=x2;generalize inP g.1 1 1099511627776=x3;generalize Gz g.2.1=x4;generalize inP g.2.2.1 1 1125899906842624=x5;generalize κ g.2.2.2.1 (-1073741824) 1073741824=x6;generalize inP g.2.2.2.2.2 0 1048576=x7;unfold ile;generalize decide (g.2.2.2.2.1.2<=100)=x8
 cases x1<;>cases x2<;>cases x3<;>cases x4<;>cases x5<;>cases x6<;>cases x8<;>rfl
section
variable {ρ:Type}
def FI {α:Type} {l:AS α} {i:Nat} {a:α} (h0:0<i) (h:l[i-1]?=some a) (f:α->AN ρ):Ę l ((i:Int)-1) f=f a:=by
 have:((i:Int)-1)=((i-1:Nat):Int):=by omega
 rw[this,Í h]
def NH {i:Nat} (h:0<i) (a:i<=1000000000) (f:Int->AN ρ):ck ((i:Int)-1) f=f ((i:Int)-1):=ë (by omega) (by omega) f
def fP {i n:Nat} (h:i<n) (x:AN ρ):ì ((ile 0 (i:Int))&&(ilt (i:Int) (n:Int))) x=x:=by
 have:((ile 0 (i:Int))&&(ilt (i:Int) (n:Int)))=true:=by simp[ile,ilt,h]
 rw[this,Am.iff_true]
def Ţ {α:Type} {l:AS α} {i:Nat} {a:α} (h:l[i]?=some a) (f:α->AN ρ):Ω l (Int.toNat (i:Int)) f=f a:=by
 rw[bN]; exact pk h f
end
def A1 {α:Type} (d:α->Int) (l:AS α) (i:Nat) (a:α):Bool :=
 decide (0<i)&&(l[i-1]?).any fun q=>decide (d a<=d q)
def Eu {α:Type} {l:AS α} {i:Nat} (hi:i<l.length) (h0:0<i):∃q,l[i-1]?=some q :=
 ⟨l[i-1],br (by omega)⟩
def P9 {α:Type} (d:α->Int) (l:AS α):(∀i a,l[i]?=some a->A1 d l i a=false)↔l.Pairwise (fun a b=>d a<d b):=by
 rw[b5];constructor
 ·intro h
  have step:∀i (f:i+1<l.length),d l[i]<d l[i+1]:=by
   intro i f;have:=h (i+1) l[i+1] (br f);simp only[A1,eO,ff,decide_true,cT,br (show i<l.length by omega),Option.any_some,decide_eq_false_iff_not] at this;omega
  intro i j hi m n
  induction j with
  |zero=>omega
  |succ j g =>
   have:=step j m;rcases cd i j with e|o
   ·have:=g (by omega) e; omega
   ·have:i=j:=by omega
    subst this; assumption
 ·intro h i a ha;obtain⟨hi,rfl⟩:=List.getElem?_eq_some_iff.1 ha;unfold A1
  cases i with
  |zero=>rfl
  |succ i =>
   have:=h i (i+1) (by omega) hi (by omega);simp only[eO,ff,decide_true,cT,br (show i<l.length by omega),Option.any_some,decide_eq_false_iff_not];omega
def oJ (l:AS ß) (i:Nat) (g:ß):AN Int :=
 if !nr g then some 1 else if A1 (fun g=>g.1) l i g then some 6 else none
def υ (b:à):Int:=(Ľ (oJ b.2.1) 0 b.2.1).getD 0
def AR {b:à} (f:∀g∈b.2.1,I64 g.2.2.2.2.1.1) (j:b.2.1.length<=1000):Į b=some (υ b):=by
 unfold Į oC;refine Eq.trans (iZ b.2.1 (oJ b.2.1) some (some 0) (fun i a hi ha e=>?_) (fun e=>?_)) ?_
 ·try dsimp only
  unfold Ũ;rw[Ø hi,Í ha,KH (f a (List.mem_of_getElem? ha)),À];unfold oJ
  cases l:nr a with
  |false=>simp
  |true =>
   simp only[cO,õ,bO,if_false];rcases ez i with h0|h0
   ·subst h0
    have:igt ((0:Nat):Int) 0=false:=by simp[igt]
    rw[á this,Ô hi (by omega)];simp[A1]
   ·obtain⟨q,d⟩:=Eu hi h0
    have h:igt (i:Int) 0=true:=by simp[igt]; omega
    rw[ø h,NH h0 (by omega),FI h0 d];simp only[A1,h0,decide_true,Bool.true_and,d,Option.any_some];unfold ile
    cases h2:decide (a.1<=q.1) with
    |true=>simp
    |false =>
     rw[õ,Ô hi (by omega)];simp
 ·try dsimp only
  unfold Ũ;rw[ï]
 ·unfold υ
  cases Ľ (oJ b.2.1) 0 b.2.1<;>rfl
def Ei (l:AS ß):AS (Int×ß):=l.foldl (fun m g=>Lb (k:=tI) (v:=Ñ) g.1 g m) []
def ĉ (b:à):AS (Int×ß):=Ei b.2.1
def kZ {b:à} (e:b.2.1.length<=1000):Ă b=some (ĉ b):=by
 unfold Ă yA;refine η b.2.1 (fun i=>Ei (b.2.1.take i)) _ rfl (fun i a hi ha d=>?_) (fun d=>?_)
 ·try dsimp only
  unfold gF;rw[Ø hi,Í ha,Ô hi (by omega),take_succ ha];simp only[Ei,List.foldl_append,List.foldl_cons,List.foldl_nil]
 ·try dsimp only
  unfold gF;rw[ï,List.take_length];rfl
def ER (x y:Int) (g:ß):∀m:AS (Int×ß),ro (k:=tI) (v:=Ñ) x (Lb (k:=tI) (v:=Ñ) y g m)=if x=y then some g else ro (k:=tI) (v:=Ñ) x m
 |[]=>by
  unfold Lb ro kO ro
  by_cases h:x=y<;>simp[h]
 |e::m=>by
  unfold Lb
  by_cases h:y=e.1
  ·have:kO tI y e.1=true:=by simp[kO,h]
   rw[this]
   try dsimp only
   unfold ro kO
   by_cases h2:x=y
   ·simp[h2]
   ·have:¬x=e.1:=fun a=>h2 (a.trans h.symm);simp[h2,this]
  ·have:kO tI y e.1=false:=by simp[kO,h]
   rw[this]
   try dsimp only
   have d:=ER x y g m;unfold ro
   by_cases h2:x=e.1
   ·have:kO tI x e.1=true:=by simp[kO,h2]
    rw[this];have:¬x=y:=fun a=>h (a.symm.trans h2);simp[this]
   ·have:kO tI x e.1=false:=by simp[kO,h2]
    rw[this];exact d
def ų (b:à) (id:Int):AN ß:=b.2.1.find? fun g=>g.1==id
def Hb (x:Int) (l:AS ß):ro (k:=tI) (v:=Ñ) x (Ei l)=l.reverse.find? fun g=>g.1==x:=by
 unfold Ei;rw[<-List.foldr_reverse]
 induction l.reverse with
 |nil=>rfl
 |cons g t a =>
  rw[List.foldr_cons,ER,a,eN]
  by_cases h:x=g.1
  ·simp[h]
  ·have:(g.1==x)=false:=by simp; exact fun h2=>h h2.symm
   simp[h,this]
def FR {l:AS ß} (h:l.Pairwise fun a b=>a.1<b.1) (x:Int):l.reverse.find? (fun g=>g.1==x)=l.find? fun g=>g.1==x:=by
 induction l with
 |nil=>rfl
 |cons g t e =>
  rw[b7] at h;rw[List.reverse_cons,dP,e h.2,eN]
  by_cases d:g.1=x
  ·have:t.find? (fun g=>g.1==x)=none:=ci.2 fun y f=>by have:g.1<y.1:=h.1 y f; simp; omega
   rw[this]; simp[d]
  ·have:(g.1==x)=false:=by simp[d]
   simp[this]
def uS {b:à} (h:b.2.1.Pairwise fun a b=>a.1<b.1) (x:Int):ro (k:=tI) (v:=Ñ) x (ĉ b)=ų b x:=by
 unfold ĉ ų;rw[Hb,FR h]
def ft (s:AS (Int×ß)) (id a:Int):Int :=
 match ro (k:=tI) (v:=Ñ) id s with
 |some g=>if a<g.2.1 then 4 else 0
 |none=>5
def CZ (s:AS (Int×ß)) (id a:Int):Ņ s id a=some (ft s id a):=by
 unfold Ņ qC ft
 cases h:ro (k:=tI) (v:=Ñ) id s with
 |none=>simp only[Gx,h]
 |some g =>
  simp only[Gx,h];rw[Ė]
  by_cases h2:a<g.2.1<;>simp[h2]
def JU (s:AS (Int×ß)) (id a:Int):Int:=if !Gz a then 1 else ft s id a
def EB (s:AS (Int×ß)) (id a:Int):Đ id a s=some (JU s id a):=by
 unfold Đ yF JU;rw[tQ,À,CZ,À]
 cases Gz a<;>rfl
def tM (b:à) (s:AS (Int×ß)) (i:Nat) (l:uC):Int :=
 if !κ l.2.1 0 20000 then 1 else if !inP l.2.2 0 1048576 then 1 else if ft s l.1 l.2.1.1 != 0 then ft s l.1 l.2.1.1 else
 if (b.2.2.2.1.take i).any (fun x=>x.1==l.1&&(decide (x.2.1.1<=l.2.1.2)&&decide (l.2.1.1<=x.2.1.2))) then 9 else
 if b.2.2.1.any (fun u=>u.1==l.1&&inP u.2 l.2.1.1 l.2.1.2) then 9 else 0
def F5 {b:à} (E:b.2.2.2.1.length<=1000) (D:b.2.2.1.length<=1000) (s:AS (Int×ß)) {i:Nat} {l:uC} (n:b.2.2.2.1[i]?=some l):ľ b s i=some (tM b s i l):=by
 unfold ľ mK tM;have hi:i<b.2.2.2.1.length:=(List.getElem?_eq_some_iff.1 n).1;rw[Í n,tR,À,Ļ,À,CZ,À]
 cases κ l.2.1 0 20000 with
 |false=>rfl
 |true =>
 cases inP l.2.2 0 1048576 with
 |false=>rfl
 |true =>
 cases m:(ft s l.1 l.2.1.1 != 0) with
 |true =>
  have:ine (ft s l.1 l.2.1.1) 0=true:=m;simp[this]
 |false =>
 have h:ine (ft s l.1 l.2.1.1) 0=false:=m
 have y:((ile (0:Int) (i:Int))&&(ile (i:Int) (Č b.2.2.2.1)))=true:=by simp[ile,Č]; omega
 simp only[cO,õ,h,bO,if_false];rw[lV y,bN]
 have d:∀(k:Int->AN Int),Ù (fun(v:Int) o=>Ĺ b.2.2.1 (Û b.2.2.1) l.1 l.2.1.1 l.2.1.2 v (fun u=>o u) (fun z=>ifb (ige z 0) (k 9) (k 0)) (fun _=>k 0)) (0:Int)=if b.2.2.1.any (fun u=>u.1==l.1&&inP u.2 l.2.1.1 l.2.1.2) then k 9 else k 0:=by
  intro k;refine ζ b.2.2.1 _ (fun z=>ifb (ige z 0) (k 9) (k 0)) (k 9) (k 0) (fun j=>?_) (fun j a e ha g=>?_) (fun g=>?_)
  ·have:ige (j:Int) 0=true:=by simp[ige]
   rw[ø this]
  ·try dsimp only
   unfold Ĺ;rw[Ø e,Í ha,Ļ,À,Ô e (by omega)]
   cases f:(a.1==l.1) with
   |false =>
    have:ieq a.1 l.1=false:=f;simp[this]
   |true =>
    have:ieq a.1 l.1=true:=f;rw[this]
    cases inP a.2 l.2.1.1 l.2.1.2<;>simp
  ·try dsimp only
   unfold Ĺ;rw[ï]
 rw[d];refine dg (ζ (b.2.2.2.1.take i) (fun x=>x.1==l.1&&(decide (x.2.1.1<=l.2.1.2)&&decide (l.2.1.1<=x.2.1.2))) (fun z=>ifb (ige z 0) (some 9) (if b.2.2.1.any (fun u=>u.1==l.1&&inP u.2 l.2.1.1 l.2.1.2) then some 9 else some 0)) (some 9) (if b.2.2.1.any (fun u=>u.1==l.1&&inP u.2 l.2.1.1 l.2.1.2) then some 9 else some 0) (fun j=>?_) (fun j a e ha g=>?_) (fun g=>?_)) ?_
 ·have:ige (j:Int) 0=true:=by simp[ige]
  rw[ø this]
 ·try dsimp only
  unfold ε
  have r:j<=1000:=by rw[bU] at e; omega
  rw[Ø e,Í ha,Ô e (by rw[bU]; omega)]
  cases f:(a.1==l.1) with
  |false =>
   have:ieq a.1 l.1=false:=f;simp[this]
  |true =>
   have:ieq a.1 l.1=true:=f;rw[this]
   cases h2:decide (a.2.1.1<=l.2.1.2)<;>cases C:decide (l.2.1.1<=a.2.1.2)<;>simp[ile,h2,C,Ė]<;>simp_all
 ·try dsimp only
  unfold ε;rw[ï]
 ·cases List.any (b.2.2.2.1.take i) _<;>cases b.2.2.1.any _<;>rfl
def Ow {l:AS Int} (f:l.length<=1000000) (x:Int):Ż l x=some (match l.findIdx? (·==x) with|some j=>(j:Int)|none=>-1):=by
 unfold Ż lC;refine Eq.trans (fO l (·==x) some (some (-1)) (fun i a hi ha d=>?_) (fun d=>?_)) ?_
 ·try dsimp only
  unfold Ň;rw[Ø hi,Í ha,Ô hi (by omega),Ė]
  by_cases h:x=a
  ·subst h; simp[ieq]
  ·have h2:¬a=x:=fun e=>h e.symm;simp[ieq,h,h2]
 ·try dsimp only
  unfold Ň;rw[ï]
 ·cases l.findIdx? (·==x)<;>rfl
def ic {l:AS Int} (d:l.length<=1000000) (x:Int):ā l x=some (l.contains x):=by
 unfold ā ix;rw[Ow d,À];congr 1
 cases h:l.findIdx? (·==x) with
 |none =>
  have:l.contains x=false:=by
   rw[di];intro e;have:=cH.1 h x (by simpa using e);simp at this
  rw[this]; rfl
 |some j =>
  obtain⟨f,a,_⟩:=cq.1 h
  have:l.contains x=true:=by
   have h2:l[j]=x:=by simpa using a
   rw[<-h2]; simp
  rw[this];simp[ige]
def å (a b:AS Int):AS Int:=a.filter fun x=>!b.contains x
def kM {a b:AS Int} (ha:a.length<=1000000) (hb:b.length<=1000000):Ī a b=some (å a b):=by
 unfold Ī IT;rw[Ó (by omega),Am.iff_true]
 have l:∀z:Nat,z<a.length->å (a.take z) b=a.take z->b.contains (a[z]?.getD 0)=true ->
  Ù (fun(e:(Val (.pair tI (.pair tI (.slice tI))))) g=>π b e.1 e.2.1 e.2.2 (fun r o n=>g (r,o,n)) (fun d=>ì ((ile (0:Int) d.1)&&(ile d.1 (Č d.2))) (ì ((ile (0:Int) d.1)&&(ile d.1 (Č (List.take (Int.toNat d.1) d.2++List.replicate (List.length d.2-(Int.toNat d.1)) (0:Int)++List.drop ((Int.toNat d.1)+(List.length d.2-(Int.toNat d.1))) d.2)))) (some (List.take (Int.toNat d.1) (List.drop 0 (List.take (Int.toNat d.1) d.2++List.replicate (List.length d.2-(Int.toNat d.1)) (0:Int)++List.drop ((Int.toNat d.1)+(List.length d.2-(Int.toNat d.1))) d.2))))))) ((z:Int),((z:Int)+1),a)=some (å a b):=by
  intro z v T F
  refine fN (fun x:Int×Int×AS Int=>∃i j:Nat,x.1=i/\x.2.1=j/\i<j/\j<=a.length/\x.2.2.length=a.length/\x.2.2.take i=å (a.take j) b/\x.2.2.drop j=a.drop j) (fun x=>a.length-x.2.1.toNat) ?_
   ⟨z,z+1,rfl,by simp,by omega,by omega,rfl,?_,rfl⟩
  ·rintro⟨x1,x2,s⟩ ⟨i,j,I,h2,V,U,O,H,hd⟩;simp only at I h2 O H hd;subst I h2;rcases cd j a.length with E|E
   ·refine .inr ?_
    have D:s[j]?=some a[j]:=by
     have Q:(s.drop j)[0]?=(a.drop j)[0]?:=by rw[hd]
     rw[dc,dc] at Q;simpa[br E] using Q
    have f:j<s.length:=by omega
    have C:å (a.take (j+1)) b=å (a.take j) b++if b.contains a[j] then[] else[a[j]]:=by
     rw[take_succ (br E),å,å,List.filter_append];congr 1
     cases h:b.contains a[j] with
     |true=>simp only[dm,h,cO,bO,if_false,dB,if_true]
     |false=>simp only[dm,h,Bool.not_false,bO,if_false,dB,if_true]
    cases h:b.contains a[j] with
    |true =>
     refine⟨(i,(j:Int)+1,s),⟨i,j+1,rfl,by simp,by omega,by omega,O,?_,?_⟩,by simp; omega,fun G=>?_⟩
     ·rw[C,h]; simpa using H
     ·have:=congrArg (List.drop 1) hd;simpa[eD,Nat.add_comm] using this
     ·try dsimp only
      unfold π;rw[Ø f,fP f,Ţ D,ic hb,À,h];simp only[Bool.not_true,õ];rw[Ô f (by omega)]
    |false =>
     have m:i<s.length:=by omega
     refine⟨((i:Int)+1,(j:Int)+1,s.set i a[j]),⟨i+1,j+1,by simp,by simp,by omega,by omega,by simpa using O,?_,?_⟩,by simp; omega,fun G=>?_⟩
     ·show List.take (i+1) (s.set i a[j])=_;rw[C,h,List.take_succ,dO,List.take_set_of_le (bt i),H];simp[m]
     ·show List.drop (j+1) (s.set i a[j])=_;rw[List.drop_set_of_lt (by omega)];have:=congrArg (List.drop 1) hd;simpa[eD,Nat.add_comm] using this
     ·try dsimp only
      unfold π;rw[Ø f,fP f,Ţ D,ic hb,À,h];simp only[Bool.not_false,mS];rw[fP m,Ţ (List.getElem?_eq_getElem m),Ô m (by omega),Ô f (by omega),Int.toNat_natCast]
   ·refine .inl fun G=>?_
    have P:j=s.length:=by omega
    try dsimp only
    unfold π;rw[P,ï];dsimp only
    have X:((ile (0:Int) (i:Int))&&(ile (i:Int) (Č s)))=true:=by simp[ile,Č]; omega
    rw[lV X]
    have W:((ile (0:Int) (i:Int))&&(ile (i:Int) (Č (List.take (Int.toNat (i:Int)) s++List.replicate (List.length s-(Int.toNat (i:Int))) (0:Int)++List.drop ((Int.toNat (i:Int))+(List.length s-(Int.toNat (i:Int)))) s))))=true:=by
     simp[ile,Č]; omega
    rw[lV W,bN,List.drop_zero,bM,dF (by simp; omega),List.take_take,Nat.min_self,H];rw[cG (by omega)]
  ·show List.take z a=å (a.take (z+1)) b;have u:a[z]?=some a[z]:=br v;rw[take_succ u,å,List.filter_append];rw[u] at F;simp only[dI] at F
   have:List.filter (fun x=>!b.contains x) [a[z]]=[]:=by simp only[dm,F,cO,bO,if_false,dB]
   rw[this,bW];exact T.symm
 refine dg (fO a (fun x=>b.contains x) (fun J=>ifb (ieq J (-1:Int)) (some a) (ck (J+(1:Int)) fun R=>Ù (fun(e:(Val (.pair tI (.pair tI (.slice tI))))) g=>π b e.1 e.2.1 e.2.2 (fun r o n=>g (r,o,n)) (fun d=>ì ((ile (0:Int) d.1)&&(ile d.1 (Č d.2))) (ì ((ile (0:Int) d.1)&&(ile d.1 (Č (List.take (Int.toNat d.1) d.2++List.replicate (List.length d.2-(Int.toNat d.1)) (0:Int)++List.drop ((Int.toNat d.1)+(List.length d.2-(Int.toNat d.1))) d.2)))) (some (List.take (Int.toNat d.1) (List.drop 0 (List.take (Int.toNat d.1) d.2++List.replicate (List.length d.2-(Int.toNat d.1)) (0:Int)++List.drop ((Int.toNat d.1)+(List.length d.2-(Int.toNat d.1))) d.2))))))) (J,R,a))) (some a) (fun i x hi y G=>?_) (fun G=>?_)) ?_
 ·try dsimp only
  unfold mH;rw[Ø hi,fP hi,Ţ y,ic hb,À,Ô hi (by omega),Ė]
 ·try dsimp only
  unfold mH;rw[ï]
 ·cases h:a.findIdx? (fun x=>b.contains x) with
  |none =>
   have:å a b=a:=by
    rw[å,List.filter_eq_self];intro x y;have:=cH.1 h x y;simpa using this
   rw[this]
  |some z =>
   obtain⟨v,F,K⟩:=cq.1 h
   have I:ieq (z:Int) (-1)=false:=by simp[ieq]
   try dsimp only
   rw[á I,Ô v (by omega)];refine l z v ?_ ?_
   ·rw[å,List.filter_eq_self];intro x y;obtain⟨j,E,rfl⟩:=bK.1 y;rw[bU] at E;rw[dQ];have:=K j (by omega);simpa using this
   ·rw[br v]; exact F
def CE (l:AS Int) (i:Nat) (a:Int):AN Bool:=if !inP a 1 1099511627776 then some false else if A1 (fun x=>x) l i a then some false else none
def nX (l:AS Int):Bool:=match Ľ (CE l) 0 l with|some _=>false|none=>decide (l.length<=6)
def tP {l:AS Int} (o:l.length<=1000000):gA l=some (nX l):=by
 unfold gA BF;refine Eq.trans (iZ l (CE l) some (some (decide (l.length<=6))) (fun i a hi ha f=>?_) (fun f=>?_)) ?_
 ·try dsimp only
  unfold iI;rw[Ø hi,Í ha,Ļ,À];unfold CE
  cases inP a 1 1099511627776 with
  |false=>rfl
  |true =>
   simp only[cO,õ,bO,if_false];rcases ez i with h0|h0
   ·subst h0
    have:igt ((0:Nat):Int) 0=false:=by simp[igt]
    rw[á this,Ô hi (by omega)];simp[A1]
   ·obtain⟨q,e⟩:=Eu hi h0
    have n:igt (i:Int) 0=true:=by simp[igt]; omega
    rw[ø n,NH h0 (by omega),FI h0 e];simp only[A1,h0,decide_true,Bool.true_and,e,Option.any_some];unfold ile
    cases h2:decide (a<=q) with
    |true=>rfl
    |false =>
     rw[õ,Ô hi (by omega)];rfl
 ·try dsimp only
  unfold iI;rw[ï,Þ];simp[ile];omega
 ·have hb:∀x,Ľ (CE l) 0 l=some x->x=false:=by
   have:∀(m:AS Int) (j:Nat) (x:Bool),Ľ (CE l) j m=some x->x=false:=by
    intro m
    induction m with
    |nil=>intro j x h; cases h
    |cons a m g =>
     intro j x h;unfold Ľ at h
     cases d:CE l j a with
     |none=>rw[d] at h; exact g _ _ h
     |some y =>
      rw[d] at h;cases h;unfold CE at d
      split at d
      ·cases d; rfl
      ·split at d
       ·cases d; rfl
       ·cases d
   exact this l 0
  unfold nX
  cases h:Ľ (CE l) 0 l with
  |none=>rfl
  |some x=>rw[hb x h]
def Gq {a b:AS Int} (ha:a.length<=1000000) (hb:b.length<=1000000):ď [a,b]=some (a++b):=by
 have v:∀n:Nat,n<=4000000->∀(f:Int->AN (AS Int)),ck (n:Int) f=f n:=fun n h f=>ë (by omega) (by omega) f
 have d:Ù (fun(o:rd) e=>þ [a,b] (Û [a,b]) o.1 o.2 (fun j g=>e (j,g)) (fun r=>some r)) ((0:Int),([]:AS Int))=some (a++b):=by
  refine η [a,b] (fun i=>([a,b].take i).flatten) (some (a++b)) (f:=fun(o:rd) e=>þ [a,b] (Û [a,b]) o.1 o.2 (fun j g=>e (j,g)) (fun r=>some r)) rfl (fun i x hi l s=>?_) (fun s=>?_)
  ·try dsimp only
   unfold þ;rw[Ø hi,Í l,Ô hi (by simp),take_succ l,List.flatten_append]
   have:ã ((List.take i [a,b]).flatten.length+x.length)=true:=by
    refine Ó ?_
    have D:x.length<=1000000:=by
     have:=bI l;simp at this
     rcases this with rfl|rfl<;>assumption
    have h2:(List.take i [a,b]).flatten.length<=2000000:=by
     have:i=0\/i=1:=by simp at hi; omega
     rcases this with rfl|rfl<;>simp<;>omega
    omega
   rw[lV this];simp
  ·try dsimp only
   unfold þ;rw[ï];simp
 unfold ď jR;refine fN (fun x:Int×Int=>∃i:Nat,i<=2/\x=((([a,b].take i).flatten.length:Int),(i:Int))) (fun x=>2-x.2.toNat) ?_ ⟨0,by omega,rfl⟩;rintro x ⟨i,hi,rfl⟩;rcases Nat.lt_or_ge i 2 with h2|h2
 ·refine .inr ⟨((([a,b].take (i+1)).flatten.length:Int),(i:Int)+1),⟨i+1,h2,by simp⟩,by simp; omega,fun s=>?_⟩;have m:i<[a,b].length:=h2;obtain⟨x,l⟩:∃x,[a,b][i]?=some x:=⟨_,br m⟩
  have y:x.length<=1000000:=by
   have:=bI l;simp at this
   rcases this with rfl|rfl<;>assumption
  have C:(List.take i [a,b]).flatten.length<=2000000:=by
   have:i=0\/i=1:=by omega
   rcases this with rfl|rfl<;>simp<;>omega
  try dsimp only
  unfold ļ;rw[Ø m,Í l,Þ]
  have u:(((List.take i [a,b]).flatten.length:Int)+(x.length:Int))=((List.take i [a,b]).flatten.length+x.length:Nat):=by omega
  rw[u,v _ (by omega)]
  have:ilt ((((List.take i [a,b]).flatten.length+x.length:Nat)):Int) 0=false:=by simp[ilt]; omega
  rw[á this,Ô m (by simp),take_succ l];simp
 ·refine .inl fun s=>?_
  obtain rfl:i=2:=by omega
  try dsimp only
  unfold ļ;rw[show((2:Nat):Int)=(([a,b].length:Nat):Int) from rfl,ï]
  have u:((List.take 2 [a,b]).flatten.length:Int)=((a.length+b.length:Nat):Int):=by simp
  have z:ilt (((a.length+b.length:Nat)):Int) 0=false:=by simp[ilt]; omega
  rw[u];dsimp only;rw[á z,Int.sub_zero,v _ (by omega)];rcases Nat.eq_zero_or_pos (a.length+b.length) with h0|h0
  ·have:igt (((a.length+b.length:Nat)):Int) 0=false:=by simp[igt]; omega
   rw[á this];exact d
  ·have:igt (((a.length+b.length:Nat)):Int) 0=true:=by simp[igt]; omega
   rw[ø this]
   have:((ilt (0:Int) (((a.length+b.length:Nat)):Int))&&(ã (Int.toNat (((a.length+b.length:Nat)):Int))))=true:=by
    rw[bN,Ó (by omega)];simp[ilt]; omega
   rw[lV this]
   have:ile 0 (Č (List.replicate (Int.toNat (((a.length+b.length:Nat)):Int)) (0:Int)))=true:=by simp[ile]
   rw[lV this];exact d
def kT (b:à) (id a:Int):AN uC:=b.2.2.2.1.find? fun l=>l.1==id&&inP a l.2.1.1 l.2.1.2
def Jh {α:Type} (p:α->Bool):∀l:AS α,l.find? p=(match l.findIdx? p with|some j=>l[j]?|none=>none)
 |[]=>rfl
 |a::l=>by
  rw[eN,List.findIdx?_cons]
  cases h:p a with
  |true=>simp
  |false =>
   simp only[bO,if_false];rw[Jh p l]
   cases l.findIdx? p<;>simp
def N9 {b:à} (o:b.2.2.2.1.length<=1000) (id d:Int):iQ b id d=some (match kT b id d with|some l=>(l,true)|none=>((0,(0,0),0),false)):=by
 unfold iQ IV;refine Eq.trans (fO b.2.2.2.1 (fun l=>l.1==id&&inP d l.2.1.1 l.2.1.2) (fun e=>ifb (ilt e (0:Int)) (some (((0:Int),((0:Int),(0:Int)),(0:Int)),false)) (Ę b.2.2.2.1 e fun n=>some (n,true))) (some ((0,(0,0),0),false)) (fun i a hi ha m=>?_) (fun m=>?_)) ?_
 ·try dsimp only
  unfold mL;rw[Ø hi,Í ha,Ļ,À,Ô hi (by omega)]
  cases g:(a.1==id) with
  |false =>
   have:ieq a.1 id=false:=g;simp[this]
  |true =>
   have:ieq a.1 id=true:=g;rw[this]
   cases inP d a.2.1.1 a.2.1.2<;>simp
 ·try dsimp only
  unfold mL;rw[ï]
 ·unfold kT;rw[Jh]
  cases h:b.2.2.2.1.findIdx? (fun l=>l.1==id&&inP d l.2.1.1 l.2.1.2) with
  |none=>rfl
  |some j =>
   obtain⟨f,_,_⟩:=cq.1 h
   have:ilt (j:Int) 0=false:=by simp[ilt]
   try dsimp only
   rw[á this,Í (br f),br f]
def Rv (a:Int):AS Int->AS Int
 |[]=>[a]
 |b::t=>if a<=b then a::b::t else b::Rv a t
def BT:AS Int->AS Int
 |[]=>[]
 |a::t=>Rv a (BT t)
def nO (p:AN Int):AS Int->AS Int
 |[]=>[]
 |a::t=>if p=some a then nO (some a) t else a::nO (some a) t
def Be (l:AS Int):AS Int:=nO none (BT l)
def y8 (a:Int):∀l,(Rv a l).Perm (a::l)
 |[]=>List.Perm.refl _
 |b::t=>by
  unfold Rv
  split
  ·exact List.Perm.refl _
  ·exact((y8 a t).cons b).trans (List.Perm.swap a b t)
def mR:∀l,(BT l).Perm l
 |[]=>List.Perm.refl _
 |a::t=>(y8 a _).trans ((mR t).cons a)
def y6 (a:Int):∀{l:AS Int},l.Pairwise (·<=·)->(Rv a l).Pairwise (·<=·)
 |[],_=>by simp[Rv]
 |b::t,h=>by
  rw[List.pairwise_cons] at h;unfold Rv
  split
  ·rename_i e;refine b7.2 ⟨fun x d=>?_,b7.2 h⟩;rcases bC.1 d with rfl|d
   ·exact e
   ·have:=h.1 x d; omega
  ·rename_i e;refine b7.2 ⟨fun x d=>?_,y6 a h.2⟩;rcases bC.1 ((y8 a t).mem_iff.1 d) with rfl|d
   ·omega
   ·exact h.1 x d
def mQ:∀l:AS Int,(BT l).Pairwise (·<=·)
 |[]=>List.Pairwise.nil
 |a::t=>y6 a (mQ t)
def OW (l:AS Int):sa l=BT l:=by
 have d:(sa l).Pairwise (·<=·):=by
  have:=List.pairwise_mergeSort (le:=fun a b:Int=>decide (a<=b)) (fun a b c d h2=>by simp at *; omega) (fun a b=>by simp; omega) l
  exact this.imp fun h=>by simpa using h
 exact List.Perm.eq_of_pairwise (le:=(·<=·)) (fun a b _ _ d h2=>by omega) d (mQ l) ((List.mergeSort_perm l _).trans (mR l).symm)
def A4 (a:Int):∀(l:AS Int) (p:AN Int),nO p (l++[a])=nO p l++(if (match l.getLast? with|some b=>some b|none=>p)=some a then[] else[a])
 |[],p=>by simp only[cV,nO,List.getLast?_nil]; rfl
 |b::t,p=>by
  have d:=A4 a t (some b)
  have e:(match (b::t).getLast? with|some c=>some c|none=>p)=(match t.getLast? with|some c=>some c|none=>some b):=by
   cases t with
   |nil=>rfl
   |cons c t =>
    rw[List.getLast?_cons_cons]
    cases h:(c::t).getLast? with
    |none=>simp at h
    |some x=>rfl
  rw[e];simp only[cE,nO,d]
  split<;>simp
def qU (l:AS Int):∀m,m<=l.length->Lib.compactUpTo l.toArray m=nO none (l.take m)
 |0,_=>by simp[Lib.compactUpTo,nO]
 |m+1,h=>by
  have e:m<l.length:=h;rw[Lib.compactUpTo_succ,qU l m (by omega),take_succ (br e),A4];congr 1
  have f:l.toArray[m]! = l[m]:=by simp[getElem!_pos,e]
  rw[f];unfold Lib.keeps;rw[f]
  cases m with
  |zero=>simp
  |succ m =>
   have d:m<l.length:=by omega
   have i:l.toArray[m+1-1]! = l[m]:=by simp[getElem!_pos,d]
   rw[i]
   have g:(l.take (m+1)).getLast?=some l[m]:=by rw[take_succ (br d),List.getLast?_append]; rfl
   rw[g]
   by_cases a:l[m+1]=l[m]
   ·simp[a]
   ·have:¬l[m]=l[m+1]:=fun h=>a h.symm;simp[a,this]
def HF (l:AS Int):pM l=nO none l:=by
 unfold pM Lib.compact;rw[qU l l.length (Nat.le_refl _),List.take_length]
def Lz (l:AS Int):pM (sa l)=Be l:=by rw[OW,HF]; rfl
def D3:∀{l:AS Int} {p:AN Int} {x:Int},p≠some x->(x∈nO p l↔x∈l)
 |[],_,_,_=>Iff.rfl
 |a::t,p,x,g=>by
  unfold nO
  by_cases d:x=a
  ·subst d;rw[if_neg g]; simp
  ·have f:=D3 (l:=t) (p:=some a) (x:=x) (fun e=>d (by cases e; rfl))
   split<;>simp[f,d]
def Ib:∀{l:AS Int} {p:AN Int},l.Pairwise (·<=·)->(∀q,p=some q->∀x∈l,q<=x)->(nO p l).Pairwise (·<·)/\∀q,p=some q->∀x∈nO p l,q<x
 |[],p,_,_=>⟨List.Pairwise.nil,fun _ _ _ h=>by cases h⟩
 |a::t,p,h,j=>by
  rw[List.pairwise_cons] at h;obtain⟨i,g⟩:=Ib (l:=t) (p:=some a) h.2 (fun q f x d=>by cases f; exact h.1 x d);unfold nO
  split
  ·rename_i e;exact⟨i,fun q f x d=>by rw[e] at f; cases f; exact g _ rfl x d⟩
  ·rename_i e;refine⟨b7.2 ⟨fun x d=>g _ rfl x d,i⟩,fun q f x d=>?_⟩;have:=j q f a (by simp);have m:q≠a:=fun h=>e (by rw[f,h]);rcases bC.1 d with rfl|d
   ·omega
   ·have:=g _ rfl x d; omega
def pd {l:AS Int} {x:Int}:x∈Be l↔x∈l:=by
 unfold Be;rw[D3 (by simp),(mR l).mem_iff]
def qZ (l:AS Int):(Be l).Pairwise (·<·):=(Ib (mQ l) (fun q a=>by cases a)).1
def D4:∀(l:AS Int) (p:AN Int),(nO p l).length<=l.length
 |[],_=>bt _
 |a::t,p=>by
  have:=D4 t (some a);unfold nO
  split<;>simp<;>omega
def xg (l:AS Int):(Be l).length<=l.length:=by
 unfold Be;have:=D4 (BT l) none
 rwa [(mR l).length_eq] at this
def Sf {l m:AS Int} (g:l.Pairwise (·<·)) (f:m.Pairwise (·<·)) (h:∀x,x∈l↔x∈m):l=m:=by
 induction l generalizing m with
 |nil =>
  cases m with
  |nil=>rfl
  |cons a t=>have:=(h a).2 (by simp); cases this
 |cons a t j =>
  rw[b7] at g
  cases m with
  |nil=>have:=(h a).1 (by simp); cases this
  |cons b u =>
   rw[b7] at f
   have i:a=b:=by
    rcases bC.1 ((h a).1 (by simp)) with d|d
    ·exact d
    ·rcases bC.1 ((h b).2 (by simp)) with h2|h2
     ·exact h2.symm
     ·have:=f.1 a d; have:=g.1 b h2; omega
   subst i;rw[j g.2 f.2 fun x=>?_];constructor
   ·intro e;rcases bC.1 ((h x).1 (by simp[e])) with d|d
    ·have:=g.1 x e; omega
    ·exact d
   ·intro e;rcases bC.1 ((h x).2 (by simp[e])) with d|d
    ·have:=f.1 x e; omega
    ·exact d
def ir (b:à) (s:AS (Int×ß)) (c:Cmp):Int :=
 if (c.2.2.1++c.2.2.2.1).any (fun id=>ft s id c.2.1==5) then 5 else
 if (c.2.2.1++c.2.2.2.1).any (fun id=>ft s id c.2.1==4) then 4 else
 if (c.2.2.1++c.2.2.2.1).any (fun id=>(kT b id c.2.1).isSome) then 9 else
 if 1<(å c.2.2.1 c.2.2.2.1).length then 1 else if 1<(å c.2.2.2.1 c.2.2.1).length then 1 else
 if (å c.2.2.1 c.2.2.2.1).length+(å c.2.2.2.1 c.2.2.1).length=0 then 1 else 0
def rm (c:Cmp):Bool :=
 inP c.1 1 1099511627776&&(Gz c.2.1&&(inP c.2.2.2.2.1 (-1125899906842624) 1125899906842624&&(inP c.2.2.2.2.2.1 0 1073741824&&(κ c.2.2.2.2.2.2 (-10000) 10000&&(nX c.2.2.1&&nX c.2.2.2.1)))))
def ę (b:à) (s:AS (Int×ß)) (i:Nat) (c:Cmp):Int :=
 if !rm c then 1 else if (b.2.2.2.2.1.take i).any (fun x=>x.1==c.1) then 6 else ir b s c
def tN (a b:AS Int):(å a b).length<=a.length:=cZ _ _
set_option maxHeartbeats 1000000 in
def zI {b:à} (V:b.2.2.2.2.1.length<=1000) (Q:b.2.2.2.1.length<=1000) (s:AS (Int×ß)) {i:Nat} {c:Cmp} (X:c.2.2.1.length<=100000) (W:c.2.2.2.1.length<=100000)
 (H:b.2.2.2.2.1[i]?=some c):ė b s i=some (ę b s i c):=by
 have hi:i<b.2.2.2.2.1.length:=(List.getElem?_eq_some_iff.1 H).1;unfold ė ij ę rm;rw[Í H,Ļ,À]
 cases inP c.1 1 1099511627776 with
 |false=>rfl
 |true =>
 rw[tQ,À]
 cases Gz c.2.1 with
 |false=>rfl
 |true =>
 rw[Ļ,À]
 cases inP c.2.2.2.2.1 (-1125899906842624) 1125899906842624 with
 |false=>rfl
 |true =>
 rw[Ļ,À]
 cases inP c.2.2.2.2.2.1 0 1073741824 with
 |false=>rfl
 |true =>
 rw[tR,À]
 cases κ c.2.2.2.2.2.2 (-10000) 10000 with
 |false=>rfl
 |true =>
 rw[tP (by omega),À]
 cases nX c.2.2.1 with
 |false=>rfl
 |true =>
 rw[tP (by omega),À]
 cases nX c.2.2.2.1 with
 |false=>rfl
 |true =>
 have R:((ile (0:Int) (i:Int))&&(ile (i:Int) (Č b.2.2.2.2.1)))=true:=by simp[ile,Č]; omega
 simp only[cO,õ,Bool.and_self,bO,if_false];rw[lV R,bN]
 -- what comes behind the IDs
 have rest:(Â (ď ([c.2.2.1,c.2.2.2.1])) fun g=>Ù (fun(C:Int) n=>ĝ s g (Û ([(5:Int),(4:Int)])) c.2.1 ([(5:Int),(4:Int)]) C (fun E=>n E) (fun y=>some y) (fun _=>Ù (fun(D:Int) o=>Ĝ g (Û g) b.1.1 b.1.2 b.2.1 b.2.2.1 b.2.2.2.1 b.2.2.2.2.1 b.2.2.2.2.2 c.2.1 D (fun F=>o F) (fun v=>some v) (fun _=>Â (Ī c.2.2.1 c.2.2.2.1) fun f=>Â (Ī c.2.2.2.1 c.2.2.1) fun e=>ifb (igt (Û f) (1:Int)) (some (1:Int)) (ifb (igt (Û e) (1:Int)) (some (1:Int)) (ck ((Û f)+(Û e)) fun h=>ifb (ieq h (0:Int)) (some (1:Int)) (some (0:Int)))))) (0:Int))) (0:Int))=some (ir b s c):=by
  rw[Gq (by omega) (by omega),À]
  have I:(c.2.2.1++c.2.2.2.1).length<=200000:=by simp; omega
  have last:(Â (Ī c.2.2.1 c.2.2.2.1) fun f=>Â (Ī c.2.2.2.1 c.2.2.1) fun e=>ifb (igt (Û f) (1:Int)) (some (1:Int)) (ifb (igt (Û e) (1:Int)) (some (1:Int)) (ck ((Û f)+(Û e)) fun h=>ifb (ieq h (0:Int)) (some (1:Int)) (some (0:Int))))) =
   some (if 1<(å c.2.2.1 c.2.2.2.1).length then 1 else if 1<(å c.2.2.2.1 c.2.2.1).length then 1 else if (å c.2.2.1 c.2.2.2.1).length+(å c.2.2.2.1 c.2.2.1).length=0 then 1 else 0):=by
   rw[kM (by omega) (by omega),À,kM (by omega) (by omega),À];have U:=tN c.2.2.1 c.2.2.2.1;have T:=tN c.2.2.2.1 c.2.2.1;rw[Þ,Þ,ë (by omega) (by omega)]
   by_cases O:1<(å c.2.2.1 c.2.2.2.1).length
   ·rw[ø (by simp[igt]; omega),if_pos O]
   rw[á (by simp[igt]; omega),if_neg O]
   by_cases K:1<(å c.2.2.2.1 c.2.2.1).length
   ·rw[ø (by simp[igt]; omega),if_pos K]
   rw[á (by simp[igt]; omega),if_neg K]
   by_cases J:(å c.2.2.1 c.2.2.2.1).length+(å c.2.2.2.1 c.2.2.1).length=0
   ·rw[ø (by simp[ieq]; omega),if_pos J]
   rw[á (by simp[ieq]; omega),if_neg J]
  refine dg (iZ [(5:Int),4] (fun _ d=>if (c.2.2.1++c.2.2.2.1).any (fun id=>ft s id c.2.1==d) then some d else none) some (some (if (c.2.2.1++c.2.2.2.1).any (fun id=>(kT b id c.2.1).isSome) then 9 else if 1<(å c.2.2.1 c.2.2.2.1).length then 1 else if 1<(å c.2.2.2.1 c.2.2.1).length then 1 else if (å c.2.2.1 c.2.2.2.1).length+(å c.2.2.2.1 c.2.2.1).length=0 then 1 else 0)) (fun j d m P u=>?_) (fun u=>?_)) ?_
  ·try dsimp only
   unfold ĝ;rw[Ø m,fP m,Ţ P];refine Eq.trans (ζ (c.2.2.1++c.2.2.2.1) (fun id=>ft s id c.2.1==d) (fun _=>some d) (some d) (u ((j:Int)+1)) (fun _=>rfl) (fun k a r ha l=>?_) (fun l=>?_)) ?_
   ·try dsimp only
    unfold ŕ;rw[Ø r,Í ha,CZ,À,Ô r (by omega),Ė]
   ·try dsimp only
    unfold ŕ;rw[ï,Ô m (by simp)]
   ·cases List.any (c.2.2.1++c.2.2.2.1) (fun id=>ft s id c.2.1==d)<;>rfl
  ·try dsimp only
   unfold ĝ;rw[ï];refine Eq.trans (ζ (c.2.2.1++c.2.2.2.1) (fun id=>(kT b id c.2.1).isSome) (fun _=>some 9) (some 9) (some (if 1<(å c.2.2.1 c.2.2.2.1).length then 1 else if 1<(å c.2.2.2.1 c.2.2.1).length then 1 else if (å c.2.2.1 c.2.2.2.1).length+(å c.2.2.2.1 c.2.2.1).length=0 then 1 else 0)) (fun _=>rfl) (fun k a r ha l=>?_) (fun l=>?_)) ?_
   ·try dsimp only
    unfold Ĝ;have G:=N9 Q a c.2.1;rw[Ø r,Í ha,Ô r (by omega)];rw[show iQ ((b.1.1,b.1.2),b.2.1,b.2.2.1,b.2.2.2.1,b.2.2.2.2.1,b.2.2.2.2.2) a c.2.1=iQ b a c.2.1 from rfl,G,À]
    cases kT b a c.2.1<;>rfl
   ·try dsimp only
    unfold Ĝ;rw[ï,last]
   ·cases List.any (c.2.2.1++c.2.2.2.1) (fun id=>(kT b id c.2.1).isSome)<;>rfl
  ·unfold ir Ľ Ľ Ľ
   try dsimp only
   cases List.any (c.2.2.1++c.2.2.2.1) (fun id=>ft s id c.2.1==5) with
   |true=>rfl
   |false =>
   cases List.any (c.2.2.1++c.2.2.2.1) (fun id=>ft s id c.2.1==4)<;>rfl
 refine dg (ζ (b.2.2.2.2.1.take i) (fun x=>x.1==c.1) (fun z=>ifb (ige z (0:Int)) (some 6) (some (ir b s c))) (some 6) (some (ir b s c)) (fun j=>?_) (fun j a m ha u=>?_) (fun u=>?_)) ?_
 ·have:ige (j:Int) 0=true:=by simp[ige]
  rw[ø this]
 ·try dsimp only
  unfold Ŗ;rw[rest,Ø m,Í ha,Ô m (by rw[List.length_take]; omega),Ė]
 ·try dsimp only
  unfold Ŗ;rw[ï,rest]
 ·cases List.any (b.2.2.2.2.1.take i) (fun x=>x.1==c.1)<;>rfl
def AQ (b:à) (g:ß):AS Int :=
 [g.2.1]++(b.2.2.2.2.1.filter fun c=>!(c.2.2.1.contains g.1==c.2.2.2.1.contains g.1)).map (fun c=>c.2.1)++(b.2.2.2.2.2.filter fun n=>n.1==g.1).map (fun n=>n.2)
def Ö (b:à) (g:ß):AS Int:=Be (AQ b g)
structure fU (b:à):Prop where
 gauges:b.2.1.length<=1000
 uses:b.2.2.1.length<=1000
 loans:b.2.2.2.1.length<=1000
 compares:b.2.2.2.2.1.length<=1000
 looks:b.2.2.2.2.2.length<=1000
 piles:∀c∈b.2.2.2.2.1,c.2.2.1.length<=1000/\c.2.2.2.1.length<=1000
def Ec (l:AS Int):(sa l).length=l.length:=List.length_mergeSort l
def FX {b:à} (a:fU b) (g:ß):(AQ b g).length<=2001:=by
 have f:=a.compares;have h2:=a.looks;have e:=cZ (fun c:Cmp=>!(c.2.2.1.contains g.1==c.2.2.2.1.contains g.1)) b.2.2.2.2.1;have d:=cZ (fun n:Int×Int=>n.1==g.1) b.2.2.2.2.2;simp only[AQ,bz,cw,cj];omega
def Nz {b:à} (d:fU b) (g:ß):iP b g=some (Ö b g):=by
 unfold iP IU;have v:=FX d g
 have hd:(Ö b g).length<=2001:=by
  unfold Ö;have:=xg (AQ b g);omega
 have o:=d.compares;have m:=d.looks;refine η b.2.2.2.2.1 (fun i=>[g.2.1]++((b.2.2.2.2.1.take i).filter fun c=>!(c.2.2.1.contains g.1==c.2.2.2.1.contains g.1)).map (fun c=>c.2.1)) _ rfl (fun i c hi f e=>?_) (fun e=>?_)
 ·try dsimp only
  unfold mJ;obtain⟨u,s⟩:=d.piles c (List.mem_of_getElem? f);rw[Ø hi,Í f,ic (by omega),À,ic (by omega),À,Ô hi (by omega),Ô hi (by omega),take_succ f,List.filter_append,List.map_append]
  have a:([g.2.1]++((b.2.2.2.2.1.take i).filter fun c=>!(c.2.2.1.contains g.1==c.2.2.2.1.contains g.1)).map (fun c=>c.2.1)).length<=1001:=by
   have l:=cZ (fun c:Cmp=>!(c.2.2.1.contains g.1==c.2.2.2.1.contains g.1)) (b.2.2.2.2.1.take i);rw[bU] at l;simp only[bz,cw,cj];omega
  rw[Ó (by simp only[cj]; omega),Am.iff_true]
  cases h:(c.2.2.1.contains g.1==c.2.2.2.1.contains g.1) with
  |true=>simp only[cO,õ,dm,h,bO,if_false,dB,dC,bW]
  |false=>simp only[Bool.not_false,mS,dm,h,if_true,dB,cm,dC,bM]
 ·try dsimp only
  unfold mJ;rw[ï,List.take_length];refine η b.2.2.2.2.2 (fun i=>[g.2.1]++(b.2.2.2.2.1.filter fun c=>!(c.2.2.1.contains g.1==c.2.2.2.1.contains g.1)).map (fun c=>c.2.1)++((b.2.2.2.2.2.take i).filter fun n=>n.1==g.1).map (fun n=>n.2)) _ (by simp) (fun i n hi j e=>?_) (fun e=>?_)
  ·try dsimp only
   unfold mI;rw[Ø hi,Í j,Ô hi (by omega),Ô hi (by omega),take_succ j,List.filter_append,List.map_append]
   have a:([g.2.1]++(b.2.2.2.2.1.filter fun c=>!(c.2.2.1.contains g.1==c.2.2.2.1.contains g.1)).map (fun c=>c.2.1)++((b.2.2.2.2.2.take i).filter fun n=>n.1==g.1).map (fun n=>n.2)).length<=2001:=by
    have l:=cZ (fun c:Cmp=>!(c.2.2.1.contains g.1==c.2.2.2.1.contains g.1)) b.2.2.2.2.1;have r:=cZ (fun n:Int×Int=>n.1==g.1) (b.2.2.2.2.2.take i);rw[bU] at r;simp only[bz,cw,cj];omega
   rw[Ó (by simp only[cj]; omega),Am.iff_true]
   cases h:(n.1==g.1) with
   |true =>
    have:ieq n.1 g.1=true:=h;simp[h,this]
   |false =>
    have:ieq n.1 g.1=false:=h;simp[h,this]
  ·try dsimp only
   unfold mI;rw[ï,List.take_length];rw[show([g.2.1]++(b.2.2.2.2.1.filter fun c=>!(c.2.2.1.contains g.1==c.2.2.2.1.contains g.1)).map (fun c=>c.2.1)++(b.2.2.2.2.2.filter fun n=>n.1==g.1).map (fun n=>n.2))=AQ b g from rfl];dsimp only;rw[Ó (by omega),Am.iff_true,Ó (by rw[Ec]; omega),Am.iff_true,Lz];rfl
def Î (b:à):AS (Int×Int):=b.2.1.flatMap fun g=>(Ö b g).map fun d=>((g.1,d):Int×Int)
def zE {b:à} (a:fU b) (g:ß):(Ö b g).length<=2001:=by
 unfold Ö;have:=xg (AQ b g);have:=FX a g;omega
def rM {α β:Type} (f:α->AS β) (n:Nat) (h:∀a,(f a).length<=n):∀l:AS α,(l.flatMap f).length<=l.length*n
 |[]=>by simp
 |a::l=>by
  have:=rM f n h l;have:=h a;simp only[cn,bz,bJ,bQ,dl];omega
def CT {b:à} (h:fU b):jy b=some (Î b):=by
 unfold jy Fk;have u:=h.gauges
 have a:∀l:AS ß,(l.flatMap fun g=>(Ö b g).map fun d=>((g.1,d):Int×Int)).length<=l.length*2001:=fun l =>
  rM _ 2001 (fun g=>by rw[cw]; exact zE h g) l
 refine η b.2.1 (fun i=>(b.2.1.take i).flatMap fun g=>(Ö b g).map fun d=>((g.1,d):Int×Int)) _ rfl (fun i g hi e o=>?_) (fun o=>?_)
 ·try dsimp only
  unfold j7;rw[Ø hi,Í e];rw[show iP ((b.1.1,b.1.2),b.2.1,b.2.2.1,b.2.2.2.1,b.2.2.2.2.1,b.2.2.2.2.2) g=iP b g from rfl,Nz h,À];have hd:=zE h g;have s:=a (b.2.1.take i)
  have r:(b.2.1.take i).length<=1000:=by rw[bU]; omega
  refine η (Ö b g) (fun j=>((b.2.1.take i).flatMap fun g=>(Ö b g).map fun d=>((g.1,d):Int×Int))++((Ö b g).take j).map fun d=>((g.1,d):Int×Int)) _ (by simp) (fun j d n f m=>?_) (fun m=>?_)
  ·try dsimp only
   unfold j6;rw[Ø n,Í f,Ô n (by omega),take_succ f,List.map_append];rw[Ó (by simp only[List.length_append,List.length_map,List.length_take,List.length_singleton]; omega),Am.iff_true];simp
  ·try dsimp only
   unfold j6;rw[ï,List.take_length];dsimp only;rw[Ô hi (by omega),take_succ e,List.flatMap_append];simp
 ·try dsimp only
  unfold j7;rw[ï,List.take_length];rfl
def ql (b:à) (s:AS (Int×ß)):AS Int :=
 b.2.2.1.map (fun u=>JU s u.1 u.2)++(b.2.2.2.1.mapIdx (fun i l=>tM b s i l)++(b.2.2.2.2.1.mapIdx (fun i c=>ę b s i c)++b.2.2.2.2.2.map (fun u=>JU s u.1 u.2)))
def EV {α:Type} {f:Int->AN Int} {g:Nat->α->Int} (l:AS α) (h:∀(i:Nat) (a:α),l[i]?=some a->f i=some (g i a)):yj f (nM l.length)=some (l.mapIdx g):=by
 have m:∀i,i<l.length->f (i:Int)=some ((l.mapIdx g)[i]?.getD 0):=by
  intro i hi;rw[h i l[i] (br hi)];simp[hi]
 have h2:∀x∈nM l.length,f x=some ((l.mapIdx g)[x.toNat]?.getD 0):=by
  intro x d;unfold nM at d;obtain⟨i,hi,rfl⟩:=List.mem_map.1 d;rw[m i (by simpa using hi)];rfl
 rw[sG h2];congr 1;refine eW (by simp[nM]) fun i n j=>?_
 have e:i<l.length:=by simpa using j
 simp[nM,e]
def Qi (b:à):Prop:=∀c∈b.2.2.2.2.1,c.2.2.1.length<=100000/\c.2.2.2.1.length<=100000
def fU.w {b:à} (h:fU b):Qi b:=fun c a=>by have:=h.piles c a; omega
def Ĩ {l:AS Int} (h:nX l=true):l.length<=6:=by
 unfold nX at h
 split at h
 ·cases h
 ·exact of_decide_eq_true h
def Mc {c:Cmp} (h:rm c=true):c.2.2.1.length<=6/\c.2.2.2.1.length<=6:=by
 simp only[rm,bu] at h;exact⟨Ĩ h.2.2.2.2.2.1,Ĩ h.2.2.2.2.2.2⟩
def Pc {b:à} (g:b.2.2.1.length<=1000) (e:b.2.2.2.1.length<=1000) (h:b.2.2.2.2.1.length<=1000) (d:Qi b) (s:AS (Int×ß)):gY b s=some (ql b s):=by
 unfold gY ql
 rw[sG (fun u _=>EB s u.1 u.2),À,EV b.2.2.2.1 (fun i l f=>F5 e g s f),À,
  EV b.2.2.2.2.1 (fun i c a=>zI h e s (d c (bI a)).1 (d c (bI a)).2 a),À,sG (fun u _=>EB s u.1 u.2),À]
def â (b:à):Int :=
 if !κ b.1 0 1000000 then 1 else
 if 12<b.2.1.length then 2 else if 40<b.2.2.1.length then 2 else if 12<b.2.2.2.1.length then 2 else if 40<b.2.2.2.2.1.length then 2 else if 10<b.2.2.2.2.2.length then 2 else
 if υ b != 0 then υ b else
 match (ql b (ĉ b)).find? (fun e=>e != 0) with
 |some e=>e
 |none=>if 59<(Î b).length then 2 else if 300<2*b.2.1.length+2*((Î b).length-b.2.1.length:Int)+2*b.2.2.2.2.1.length then 2 else 0
def Ki {b:à} (a:fU b):(Î b).length<=2001000:=by
 have:=rM (fun g:ß=>(Ö b g).map fun d=>((g.1,d):Int×Int)) 2001 (fun g=>by rw[List.length_map]; exact zE a g) b.2.1;have h2:=a.gauges;unfold Î;omega
def Gr {b:à} (a:Qi b) (s:∀g∈b.2.1,I64 g.2.2.2.2.1.1):đ b=some (â b):=by
 unfold đ yY â;rw[tR,À]
 cases κ b.1 0 1000000 with
 |false=>rfl
 |true =>
 rw[á (show(!true)=false from rfl),if_neg (by simp)];simp only[Þ]
 by_cases r:12<b.2.1.length
 ·rw[ø (by simp[igt]; omega),if_pos r]
 rw[á (by simp[igt]; omega),if_neg r]
 by_cases o:40<b.2.2.1.length
 ·rw[ø (by simp[igt]; omega),if_pos o]
 rw[á (by simp[igt]; omega),if_neg o]
 by_cases n:12<b.2.2.2.1.length
 ·rw[ø (by simp[igt]; omega),if_pos n]
 rw[á (by simp[igt]; omega),if_neg n]
 by_cases m:40<b.2.2.2.2.1.length
 ·rw[ø (by simp[igt]; omega),if_pos m]
 rw[á (by simp[igt]; omega),if_neg m]
 by_cases l:10<b.2.2.2.2.2.length
 ·rw[ø (by simp[igt]; omega),if_pos l]
 rw[á (by simp[igt]; omega),if_neg l]
 have f:b.2.1.length<=1000:=by omega
 rw[AR s f,À]
 cases d:(υ b != 0) with
 |true =>
  have:ine (υ b) 0=true:=d;rw[ø this,if_pos rfl]
 |false =>
 have:ine (υ b) 0=false:=d;rw[á this,if_neg (by simp)];rw[kZ f,À];unfold Et;rw[Pc (by omega) (by omega) (by omega) a,À]
 cases v:(ql b (ĉ b)).find? (fun e=>e != 0) with
 |some e=>rfl
 |none =>
 dsimp only
 have a:fU b:=⟨by omega,by omega,by omega,by omega,by omega,fun c y=>by
  obtain⟨i,hi,rfl⟩:=bK.1 y
  have:=ci.1 v (ę b (ĉ b) i b.2.2.2.2.1[i]) (by
   unfold ql
   exact bY _ (bY _ (b8 _ (eo.2 ⟨i,hi,rfl⟩))))
  unfold ę at this
  split at this
  ·simp at this
  ·rename_i u;have:=Mc (by simpa using u)
   omega⟩
 have z:=Ki a;rw[CT a,À]
 by_cases j:59<(Î b).length
 ·rw[ø (by simp[igt]; omega),if_pos j]
 rw[á (by simp[igt]; omega),if_neg j];rw[ë (by omega) (by omega),ë (by omega) (by omega),ë (by omega) (by omega),ë (by omega) (by omega),ë (by omega) (by omega),ë (by omega) (by omega)]
 by_cases h:300<2*b.2.1.length+2*((Î b).length-b.2.1.length:Int)+2*b.2.2.2.2.1.length
 ·rw[ø (by simp[igt]; omega),if_pos h]
 rw[á (by simp[igt]; omega),if_neg h]
def kF {b:à} (a:fU b) (d:∀g∈b.2.1,I64 g.2.2.2.2.1.1):đ b=some (â b):=Gr a.w d
def wrapU {n:Nat} (h:n<18446744073709551616):IntKind.wrap .u64 (n:Int)=n:=by
 simp only[IntKind.wrap,IntKind.bits,IntKind.signed];simp;omega
def wrapI {n:Nat} (h:n<9223372036854775808):IntKind.wrap .i64 (n:Int)=n:=by
 simp only[IntKind.wrap,IntKind.bits,IntKind.signed];simp;omega
def ii (l:AS (Int×Int)) (x d:Int):AN Nat:=l.findIdx? fun n=>decide (x=n.1)&&decide (d=n.2)
def Ov {l:AS (Int×Int)} (f:l.length<=100000000) (x d:Int):Ď l (x,d)=some (match ii l x d with|some j=>(j:Int)|none=>-1):=by
 unfold Ď ŭ;refine Eq.trans (fO l (fun n=>decide (x=n.1)&&decide (d=n.2)) some (some (-1)) (fun i a hi ha e=>?_) (fun e=>?_)) ?_
 ·try dsimp only
  unfold ă;rw[Ø hi,Í ha,Ô hi (by omega),Ė,Bool.and_true]
 ·try dsimp only
  unfold ă;rw[ï]
 ·unfold ii
  cases List.findIdx? (fun n=>decide (x=n.1)&&decide (d=n.2)) l<;>rfl
def atP (l:AS (Int×Int)) (p:AS Int) (d:Int):Int :=
 match p with
 |[]=>0
 |x::_=>match ii l x d with|some j=>(j:Int)+1|none=>0
def lz {l:AS (Int×Int)} {x d:Int} {j:Nat} (h:ii l x d=some j):j<l.length/\l[j]?=some (x,d):=by
 unfold ii at h;obtain⟨e,a,_⟩:=List.findIdx?_eq_some_iff_getElem.1 h;refine⟨e,?_⟩;rw[List.getElem?_eq_getElem e];simp only[Bool.and_eq_true,decide_eq_true_eq] at a;congr 1;exact Prod.ext a.1.symm a.2.symm
def Od (m:Maker) (p:AS Int) (d:Int) (f:m.2.1.length<=100000000):ŏ m p d=some (atP m.2.1 p d):=by
 unfold ŏ wk atP
 cases p with
 |nil=>simp[Þ,ieq]
 |cons x p =>
  have h:ieq (Û (x::p)) 0=false:=by
   rw[Þ];simp only[ieq,bJ,beq_eq_false_iff_ne,ne_eq];omega
  rw[h,õ,show(0:Int)=((0:Nat):Int) from rfl,Í (a:=x) rfl,Ov f,À]
  cases e:ii m.2.1 x d with
  |none=>dsimp only; rw[ë (by omega) (by omega)]; simp only[e]; rfl
  |some j =>
   have:=(lz e).1;dsimp only;rw[ë (by omega) (by omega)];simp only[e]
def pT (s:AS (Int×ß)) (p:AS Int):Int×Int :=
 match p with
 |[]=>(0,1)
 |x::_=>match ro (k:=tI) (v:=Ñ) x s with
  |some g=>g.2.2.2.2.1
  |none=>(0,0)
def Es (s:AS (Int×ß)) (p:AS Int):ş s p=some (pT s p):=by
 unfold ş nn pT
 cases p with
 |nil=>simp[Þ,ieq]
 |cons x p =>
  have h:ieq (Û (x::p)) 0=false:=by
   rw[Þ];simp only[ieq,bJ,beq_eq_false_iff_ne,ne_eq];omega
  rw[h,õ,show(0:Int)=((0:Nat):Int) from rfl,Í (a:=x) rfl]
  cases d:ro (k:=tI) (v:=Ñ) x s with
  |none=>simp only[Gx,d]
  |some g=>simp only[Gx,d]
def H9 {l:AS (Int×Int)} (e:∀r∈l,I64 r.1) (f:l.length<=1000):Ο l=some (if l.any (fun r=>!zY r) then 1 else 0):=by
 unfold Ο E4;refine Eq.trans (ζ l (fun r=>!zY r) (fun _=>some 1) (some 1) (some 0) (fun _=>rfl) (fun i a hi ha d=>?_) (fun d=>?_)) ?_
 ·try dsimp only
  unfold jZ;rw[Ø hi,Í ha,DR (e a (List.mem_of_getElem? ha)),À,Ô hi (by omega),Ė]
 ·try dsimp only
  unfold jZ;rw[ï]
 ·cases l.any (fun r=>!zY r)<;>rfl
def iq (n d:Int):Int×Int:=(n / (Nat.gcd n.natAbs d.natAbs:Nat),d / (Nat.gcd n.natAbs d.natAbs:Nat))
def iD (r:Int×Int):zY r=true↔1<=r.2/\r.2<=2147483647/\(r.1.natAbs:Int)<=2147483647/\Nat.gcd r.1.natAbs r.2.natAbs=1:=by
 simp[zY]
def se {n d:Int} (hd:0<d):∃g:Nat,0<g/\g=Nat.gcd n.natAbs d.natAbs/\n=(iq n d).1*g/\d=(iq n d).2*g:=by
 have a:0<Nat.gcd n.natAbs d.natAbs:=Nat.gcd_pos_of_pos_right _ (by omega);refine⟨_,a,rfl,?_,?_⟩
 ·exact(Int.ediv_mul_cancel (Int.ofNat_dvd_left.2 (Nat.gcd_dvd_left _ _))).symm
 ·exact(Int.ediv_mul_cancel (Int.ofNat_dvd_left.2 (Nat.gcd_dvd_right _ _))).symm
def GY {n d:Int} (hd:0<d) (o:n.natAbs<=2147483647) (i:d<=2147483647):zY (iq n d)=true:=by
 obtain⟨g,h0,f,l,h2⟩:=se (n:=n) hd;rw[iD]
 have e:n.natAbs=(iq n d).1.natAbs*g:=by conv=>lhs; rw[l]; rw[dH,dK]
 have a:d.natAbs=(iq n d).2.natAbs*g:=by conv=>lhs; rw[h2]; rw[dH,dK]
 have m:0<(iq n d).2:=by
  rcases Int.lt_trichotomy (iq n d).2 0 with h|h|h
  ·have:=Int.mul_neg_of_neg_of_pos h (show(0:Int)<g by omega); omega
  ·rw[h] at h2; simp at h2; omega
  ·exact h
 have s:(iq n d).1.natAbs<=n.natAbs:=by rw[e]; exact ee _ h0
 have r:(iq n d).2.natAbs<=d.natAbs:=by rw[a]; exact ee _ h0
 refine⟨by omega,by omega,by omega,?_⟩;have:=Nat.gcd_mul_right (iq n d).1.natAbs g (iq n d).2.natAbs;rw[<-e,<-a,<-f] at this
 have j:(Nat.gcd (iq n d).1.natAbs (iq n d).2.natAbs)*g=1*g:=by omega
 exact Nat.eq_of_mul_eq_mul_right h0 j
def Bi {n d:Int} (hd:0<d) (m:n.natAbs<=2147483647) (f:d<=2147483647):jx n d=some (iq n d,0):=by
 obtain⟨g,h0,o,r,h2⟩:=se (n:=n) hd;have D:=(iD _).1 (GY hd m f);unfold jx yy;rw[Cu ⟨by omega,by omega⟩,À,Cu ⟨by omega,by omega⟩,À,QG,À,<-o]
 have C:n.natAbs=(iq n d).1.natAbs*g:=by conv=>lhs; rw[r]; rw[dH,dK]
 have y:d.natAbs=(iq n d).2.natAbs*g:=by conv=>lhs; rw[h2]; rw[dH,dK]
 have l:Int.tdiv (n.natAbs:Int) (g:Int)=((iq n d).1.natAbs:Int):=by
  rw[C,fi]; exact Int.mul_tdiv_cancel _ (by omega)
 have j:Int.tdiv (d.natAbs:Int) (g:Int)=((iq n d).2.natAbs:Int):=by
  rw[y,fi]; exact Int.mul_tdiv_cancel _ (by omega)
 have z:Β (g:Int) 0=false:=by simp[Β]; omega
 have u:igt ((iq n d).1.natAbs:Int) 2147483647=false:=by simp[igt]; omega
 have s:igt ((iq n d).2.natAbs:Int) 2147483647=false:=by simp[igt]; omega
 rw[á z,á z,l,j,wrapU (by omega),wrapU (by omega),wrapI (by omega),wrapI (by omega),á u,á s]
 have i:ilt d 0=false:=by simp[ilt]; omega
 rw[i]
 have v:((iq n d).2.natAbs:Int)=(iq n d).2:=by omega
 rw[v]
 by_cases e:n<0
 ·have a:ilt n 0=true:=by simp[ilt,e]
  have:(iq n d).1<=0:=by
   rcases Int.lt_or_le 0 (iq n d).1 with h|h
   ·have:=Int.mul_pos h (show(0:Int)<g by omega); omega
   ·exact h
  rw[a];rw[show(!true==false)=true from rfl,mS,ë (by omega) (by omega)]
  have:0-((iq n d).1.natAbs:Int)=(iq n d).1:=by omega
  rw[this]
 ·have a:ilt n 0=false:=by simp[ilt]; omega
  have:0<=(iq n d).1:=by
   rcases Int.lt_or_le (iq n d).1 0 with h|h
   ·have:=Int.mul_neg_of_neg_of_pos h (show(0:Int)<g by omega); omega
   ·exact h
  rw[a];rw[show(!false==false)=false from rfl,õ]
  have:((iq n d).1.natAbs:Int)=(iq n d).1:=by omega
  rw[this]
structure l9 (r:Int×Int) (n d:Int):Prop where
 rat:zY r=true
 num : -n<=r.1/\r.1<=n
 den:r.2<=d
def l9.pos {r:Int×Int} {n d:Int} (h:l9 r n d):1<=r.2:=((iD r).1 h.rat).1
def l9.i64 {r:Int×Int} {n d:Int} (h:l9 r n d):I64 r.1:=by
 have:=((iD r).1 h.rat).2.2.1;exact⟨by omega,by omega⟩
def Lj {x y:Int×Int} (e:zY x=true) (d:zY y=true):Ο [x,y]=some 0:=by
 rw[H9]
 ·simp[e,d]
 ·intro r a
  have:zY r=true:=by simp at a; rcases a with rfl|rfl<;>assumption
  have:=((iD r).1 this).2.2.1;exact⟨by omega,by omega⟩
 ·simp
def jP {a b m n:Int} (h : -m<=a/\a<=m) (h2 : -n<=b/\b<=n) : -(m*n)<=a*b/\a*b<=m*n:=by
 have e:0<=m:=by omega
 have d:0<=n:=by omega
 have g:(a*b).natAbs<=(m*n).natAbs:=by
  rw[dH,dH];exact eE (by omega) (by omega)
 have f:0<=m*n:=eP e d;omega
def OC (x y:Int×Int):Int×Int:=iq (x.1*y.2-y.1*x.2) (x.2*y.2)
def A6 {x y:Int×Int} (d:l9 x 1000 100) (a:l9 y 1000 100):(x.1*y.2-y.1*x.2).natAbs<=200000/\0<x.2*y.2/\x.2*y.2<=10000:=by
 have g:=jP d.num (show -100<=y.2/\y.2<=100 from⟨by have:=a.pos; omega,a.den⟩);have h2:=jP a.num (show -100<=x.2/\x.2<=100 from⟨by have:=d.pos; omega,d.den⟩);have f:=jP (show -100<=x.2/\x.2<=100 from⟨by have:=d.pos; omega,d.den⟩) (show -100<=y.2/\y.2<=100 from⟨by have:=a.pos; omega,a.den⟩);have e:=Int.mul_pos (show 0<x.2 by have:=d.pos; omega) (show 0<y.2 by have:=a.pos; omega);refine⟨by omega,e,by omega⟩
def Sub_ok {x y:Int×Int} (d:l9 x 1000 100) (a:l9 y 1000 100):Dr x y=some (OC x y,0):=by
 obtain⟨g,e,b3⟩:=A6 d a;have f:=jP d.num (show -100<=y.2/\y.2<=100 from⟨by have:=a.pos; omega,a.den⟩);have h2:=jP a.num (show -100<=x.2/\x.2<=100 from⟨by have:=d.pos; omega,d.den⟩);unfold Dr Mw;rw[Lj d.rat a.rat,À];rw[show ine (0:Int) 0=false from rfl,õ,ë (by omega) (by omega),ë (by omega) (by omega),ë (by omega) (by omega),ë (by omega) (by omega),Bi e (by omega) (by omega),À];rfl
def LK {n d:Int} (hd:0<d):(iq n d).1.natAbs<=n.natAbs/\(iq n d).2<=d:=by
 obtain⟨g,h0,i,a,h2⟩:=se (n:=n) hd
 have h:n.natAbs=(iq n d).1.natAbs*g:=by conv=>lhs; rw[a]; rw[dH,dK]
 have f:d.natAbs=(iq n d).2.natAbs*g:=by conv=>lhs; rw[h2]; rw[dH,dK]
 have e:(iq n d).1.natAbs<=n.natAbs:=by rw[h]; exact ee _ h0
 have j:(iq n d).2.natAbs<=d.natAbs:=by rw[f]; exact ee _ h0
 exact⟨e,by omega⟩
def xH {x y:Int×Int} (e:l9 x 1000 100) (d:l9 y 1000 100):l9 (OC x y) 200000 10000:=by
 obtain⟨h,a,b3⟩:=A6 e d;obtain⟨g,f⟩:=LK (n:=x.1*y.2-y.1*x.2) a;exact⟨GY a (by omega) (by omega),by unfold OC; omega,by unfold OC; omega⟩
def od (k:Int×Int) (n:Int):Int×Int:=iq (k.1*n) k.2
def Bx {k:Int×Int} (d:l9 k 200000 10000) {n:Int} (a : -10000<=n/\n<=10000):(k.1*n).natAbs<=2000000000:=by
 have:=jP d.num a;omega
def Hv {n:Int} (a : -10000<=n/\n<=10000):zY (n,1)=true:=by
 rw[iD];exact⟨by simp,by simp,by simp; omega,by simp⟩
def QT {k:Int×Int} (a:l9 k 200000 10000) {n:Int} (d : -10000<=n/\n<=10000):zx k (n,1)=some (od k n,0):=by
 have b:=Bx a d;have p:=a.pos;have q:=a.den;unfold zx My;rw[Lj a.rat (Hv d),À];rw[show ine (0:Int) 0=false from rfl,õ,ë (by simp only; omega) (by simp only; omega),Int.mul_one,ë (by omega) (by omega),Bi (by omega) (by simp only; omega) (by omega),À];rfl
def CW {k:Int×Int} (a:l9 k 200000 10000) {n:Int} (d : -10000<=n/\n<=10000):l9 (od k n) 2000000000 10000:=by
 have b:=Bx a d;have p:=a.pos;have q:=a.den;obtain⟨f,e⟩:=LK (n:=k.1*n) (show 0<k.2 by omega);exact⟨GY (by omega) (by omega) (by omega),by unfold od; omega,by unfold od; omega⟩
def QM (x y:Int×Int):Int:=if x=y then 0 else if x.1*y.2<y.1*x.2 then -1 else if y.1*x.2<x.1*y.2 then 1 else 0
def QL {x y:Int×Int} {m d:Int} (a:l9 x m d) (e:l9 y m d) (f:m<=2000000000) (hd:d<=10000):zu x y=some (QM x y):=by
 have i:=jP a.num (show -d<=y.2/\y.2<=d from⟨by have:=e.pos; have:=e.den; omega,e.den⟩);have h2:=jP e.num (show -d<=x.2/\x.2<=d from⟨by have:=a.pos; have:=a.den; omega,a.den⟩);have h0:0<=m/\0<=d:=⟨by have:=a.num; omega,by have:=a.pos; have:=a.den; omega⟩;have g:m*d<=2000000000*10000:=Int.mul_le_mul f hd h0.2 (by omega);unfold zu Mu QM;rw[ë (by omega) (by omega),ë (by omega) (by omega)];simp only[Ė,Bool.and_true,Bool.and_eq_true,decide_eq_true_eq,Β,ilt,igt,gt_iff_lt];have:(x.1=y.1/\x.2=y.2)↔x=y:=⟨fun h=>Prod.ext h.1 h.2,fun h=>by rw[h]; exact⟨rfl,rfl⟩⟩;simp only[this]
 (repeat' split)<;>rfl
def su (k:Int×Int) (a:Int×Int):(Int×Int)×(Int×Int) :=
 if 0<QM (od k a.1) (od k a.2) then(od k a.2,od k a.1) else(od k a.1,od k a.2)
def Rg {k a:Int×Int} (d:l9 k 200000 10000) (f:κ a (-10000) 10000=true):iO k a=some (su k a):=by
 simp only[κ,Bool.and_eq_true,decide_eq_true_eq] at f;obtain⟨j,h2,i⟩:=f;have n1 : -10000<=a.1/\a.1<=10000:=⟨by omega,by omega⟩;have e : -10000<=a.2/\a.2<=10000:=⟨by omega,by omega⟩;have r1:l9 (a.1,1) 10000 10000:=⟨Hv n1,n1,by simp⟩;have r2:l9 (a.2,1) 10000 10000:=⟨Hv e,e,by simp⟩;unfold iO sY zw yz kR qB;rw[Lj r1.rat r2.rat,À];have:ieq 0 0=true:=rfl;rw[ø this,QL r1 r2 (by omega) (by omega),À]
 have g:ile (QM (a.1,1) (a.2,1)) 0=true:=by
  unfold QM;simp only[ile,decide_eq_true_eq,Int.mul_one]
  split
  ·omega
  ·split
   ·omega
   ·rw[if_neg (by omega)]; omega
 rw[g,À];simp only[Bool.not_true,õ];rw[DR d.i64,d.rat,À];simp only[Bool.not_true,õ];rw[QT d n1,À,QT d e,À];simp only[show ine (0:Int) 0=false from rfl,õ];rw[QL (CW d n1) (CW d e) (by omega) (by omega),À];unfold su;rw[Ė]
 by_cases h:0<QM (od k a.1) (od k a.2)
 ·rw[if_pos h,if_pos (by simpa[igt] using h)]; rfl
 ·rw[if_neg h,if_neg (by simpa[igt] using h)]; rfl
def rateK (s:AS (Int×ß)) (c:Cmp):Int×Int:=OC (pT s (å c.2.2.1 c.2.2.2.1)) (pT s (å c.2.2.2.1 c.2.2.1))
def Ā (b:à) (c:Cmp):(Int×Int)×(Int×Int):=su (rateK (ĉ b) c) c.2.2.2.2.2.2
def FM {b:à} (d:fU b) {c:Cmp} (g:c.2.2.1.length<=1000) (f:c.2.2.2.1.length<=1000)
 (a:l9 (pT (ĉ b) (å c.2.2.1 c.2.2.2.1)) 1000 100) (h2:l9 (pT (ĉ b) (å c.2.2.2.1 c.2.2.1)) 1000 100) (e:κ c.2.2.2.2.2.2 (-10000) 10000=true):gB b c=some (Ā b c):=by
 unfold gB BH;rw[kZ d.gauges,À,kM (by omega) (by omega),À,Es,À,kM (by omega) (by omega),À,Es,À];unfold mU sZ;rw[Sub_ok a h2,À,À]
 try dsimp only
 rw[Rg (xH a h2) e,À];rfl
def ũ (b:à) (c:Cmp):Int×Int :=
 (((c.2.2.1.length-1:Nat):Int)*b.1.1-((c.2.2.2.1.length-1:Nat):Int)*b.1.2,((c.2.2.1.length-1:Nat):Int)*b.1.2-((c.2.2.2.1.length-1:Nat):Int)*b.1.1)
def Jj {b:à} {c:Cmp} (d:c.2.2.1.length<=1000) (a:c.2.2.2.1.length<=1000) (h:0<=b.1.1) (h2:b.1.1<=1000000) (g:0<=b.1.2) (f:b.1.2<=1000000):l5 b c=some (ũ b c):=by
 unfold l5 Fp ũ
 have e:∀n:Nat,I9 0 ((n:Int)-1)=((n-1:Nat):Int):=by
  intro n;unfold I9
  split<;>omega
 have bd:∀(n:Nat) (x:Int),n<=1000->0<=x->x<=1000000->0<=((n-1:Nat):Int)*x/\((n-1:Nat):Int)*x<=1000000000:=by
  intro n x j h0 i;refine⟨eP (by omega) h0,?_⟩;have:=dT (show((n-1:Nat):Int)<=1000 by omega) i h0 (by omega);omega
 have o:=bd _ _ d h h2;have m:=bd _ _ d g f;have b3:=bd _ _ a h h2;have l:=bd _ _ a g f;simp only[Þ];rw[ë (by omega) (by omega),ë (by omega) (by omega)];simp only[e];rw[ë (by omega) (by omega),ë (by omega) (by omega),ë (by omega) (by omega),ë (by omega) (by omega),ë (by omega) (by omega),ë (by omega) (by omega)]
def Jg {n d:Int} (hd:1<=d) (g : -4000000000<=n/\n<=4000000000):oO n d=some (n / d):=by
 unfold oO E7
 have z:Β d 0=false:=by simp[Β]; omega
 rw[á z];have t:=Int.mul_tdiv_add_tmod n d
 have i : -4000000000<=Int.tdiv n d/\Int.tdiv n d<=4000000000:=by
  have:=Int.natAbs_tdiv_le_natAbs n d;omega
 rw[ë (by omega) (by omega),á z,Ė]
 by_cases h:Int.tmod n d<0
 ·rw[if_pos (by simpa[ilt] using h),ë (by omega) (by omega)];congr 1
  have f : -d<Int.tmod n d:=by
   have e:=Int.natAbs_tmod n d;have a:=Nat.mod_lt n.natAbs (show 0<d.natAbs by omega);omega
  refine(Int.ediv_eq_iff_of_pos (by omega)).2 ⟨?_,?_⟩ |>.symm
  ·rw[Int.sub_mul,fg]; omega
  ·rw[Int.sub_mul,fg (Int.tdiv n d)]; omega
 ·rw[if_neg (by simpa[ilt] using h)];congr 1
  have f:Int.tmod n d<d:=by
   have e:=Int.natAbs_tmod n d;have a:=Nat.mod_lt n.natAbs (show 0<d.natAbs by omega);omega
  refine(Int.ediv_eq_iff_of_pos (by omega)).2 ⟨?_,?_⟩ |>.symm
  ·rw[fg]; omega
  ·rw[fg (Int.tdiv n d)]; omega
def Qs {x:Int×Int} (d:zY x=true):Ο [x]=some 0:=by
 rw[H9]
 ·simp[d]
 ·intro r a
  have:zY r=true:=by simp at a; subst a; assumption
  have:=((iD r).1 this).2.2.1;exact⟨by omega,by omega⟩
 ·simp
def zL (r:Int×Int):Int:=-(-r.1 / r.2)
def JP {r:Int×Int} (h:zY r=true):oP r=some (r.1 / r.2,0):=by
 unfold oP Fc;have:=(iD r).1 h;rw[Qs h,À];rw[show ine (0:Int) 0=false from rfl,õ,Jg (by omega) (by omega),À]
def vz {n d:Int} (hd:1<=d):(n / d).natAbs<=n.natAbs:=by
 exact Int.natAbs_ediv_le_natAbs n d
def Oz {r:Int×Int} (h:zY r=true):ud r=some (zL r,0):=by
 unfold ud IL zL;have:=(iD r).1 h;rw[Qs h,À];rw[show ine (0:Int) 0=false from rfl,õ,ë (by omega) (by omega),Jg (by omega) (by omega),À];have hb:=vz (n:=0-r.1) (show 1<=r.2 by omega);rw[ë (by omega) (by omega),Int.zero_sub,Int.zero_sub]
def ū (b:à) (c:Cmp):Int×Int :=
 (c.2.2.2.2.1-c.2.2.2.2.2.1-(ũ b c).2-(Ā b c).2.1 / (Ā b c).2.2,c.2.2.2.2.1+c.2.2.2.2.2.1-(ũ b c).1-zL (Ā b c).1)
structure Ĉ (b:à):Prop where
 film:0<=b.1.1/\b.1.1<=b.1.2/\b.1.2<=1000000
 nG:b.2.1.length<=12
 nU:b.2.2.1.length<=40
 nL:b.2.2.2.1.length<=12
 nC:b.2.2.2.2.1.length<=40
 nK:b.2.2.2.2.2.length<=10
 gauge:∀g∈b.2.1,nr g=true
 ids:b.2.1.Pairwise fun a b=>a.1<b.1
 uses:∀u∈b.2.2.1,JU (ĉ b) u.1 u.2=0
 loans:∀i l,b.2.2.2.1[i]?=some l->tM b (ĉ b) i l=0
 compares:∀i c,b.2.2.2.2.1[i]?=some c->ę b (ĉ b) i c=0
 looks:∀u∈b.2.2.2.2.2,JU (ĉ b) u.1 u.2=0
 nodes:(Î b).length<=59
 links:2*(Î b).length+2*b.2.2.2.2.1.length<=300
def rH (b:à):υ b=0↔(∀g∈b.2.1,nr g=true)/\b.2.1.Pairwise fun a b=>a.1<b.1:=by
 have h0:Ľ (oJ b.2.1) 0 b.2.1=none↔(∀g∈b.2.1,nr g=true)/\b.2.1.Pairwise fun a b=>a.1<b.1:=by
  rw[gy,<-P9 (fun g:ß=>g.1) b.2.1];constructor
  ·intro h
   have f:∀(j:Nat) (a:ß),b.2.1[j]?=some a->nr a=true/\A1 (fun g:ß=>g.1) b.2.1 j a=false:=by
    intro j a ha;have:=h j a ha;rw[Nat.zero_add] at this;unfold oJ at this
    split at this
    ·cases this
    ·split at this
     ·cases this
     ·rename_i f h2;exact⟨by simpa using f,by simpa using h2⟩
   refine⟨fun x n=>?_,fun i a ha=>(f i a ha).2⟩;obtain⟨j,o,rfl⟩:=bK.1 n;exact(f j _ (br o)).1
  ·rintro⟨f,h2⟩ j a ha;rw[bX];simp[oJ,f a (bI ha),h2 j a ha]
 rw[<-h0];unfold υ
 cases h:Ľ (oJ b.2.1) 0 b.2.1 with
 |none=>simp
 |some e =>
  have:∀(m:AS ß) (j:Nat) (x:Int),Ľ (oJ b.2.1) j m=some x->x≠0:=by
   intro m
   induction m with
   |nil=>intro j x h; cases h
   |cons a m l =>
    intro j x h;unfold Ľ at h
    cases d:oJ b.2.1 j a with
    |none=>rw[d] at h; exact l _ _ h
    |some y =>
     rw[d] at h;cases h;unfold oJ at d
     split at d
     ·cases d; omega
     ·split at d
      ·cases d; omega
      ·cases d
  simp[this _ _ _ h]
def ñ (b:à):â b=0↔Ĉ b:=by
 unfold â;constructor
 ·intro h
  split at h
  ·omega
  rename_i G
  (repeat' split at h)<;>try omega
  ·rename_i g
   have n:υ b≠0:=by simpa using g
   exact(n h).elim
  ·rename_i o;have:=List.find?_some o;rename_i e;simp at this;exact(this h).elim
  ·rename_i D C z y v g e o s r
   have m:υ b=0:=by simpa using g
   obtain⟨I,H⟩:=(rH b).1 m
   have a:∀x∈ql b (ĉ b),x=0:=fun x j=>by
    have:=ci.1 o x j;simpa using this
   simp only[ql,bw] at a
   have f:κ b.1 0 1000000=true:=by simpa using G
   simp only[κ,bu,decide_eq_true_eq] at f;refine⟨⟨f.1,f.2.1,f.2.2⟩,by omega,by omega,by omega,by omega,by omega,I,H,fun u d=>a _ (.inl (cD.2 ⟨u,d,rfl⟩)),fun i l E=>?_,fun i c F=>?_,fun u d=>a _ (.inr (.inr (.inr (cD.2 ⟨u,d,rfl⟩)))),by omega,by omega⟩
   ·obtain⟨hi,rfl⟩:=bB.1 E;exact a _ (.inr (.inl (eo.2 ⟨i,hi,rfl⟩)))
   ·obtain⟨hi,rfl⟩:=bB.1 F;exact a _ (.inr (.inr (.inl (eo.2 ⟨i,hi,rfl⟩))))
 ·intro h
  have f:κ b.1 0 1000000=true:=by simp[κ,h.film.1,h.film.2.1,h.film.2.2]
  have g:υ b=0:=(rH b).2 ⟨h.gauge,h.ids⟩
  have a:(ql b (ĉ b)).find? (fun e=>e != 0)=none:=by
   rw[ci];intro x j;simp only[ql,bw,cD,eo] at j
   have:x=0:=by
    rcases j with⟨u,d,rfl⟩|⟨i,hi,rfl⟩|⟨i,hi,rfl⟩|⟨u,d,rfl⟩
    ·exact h.uses u d
    ·exact h.loans i _ (br hi)
    ·exact h.compares i _ (br hi)
    ·exact h.looks u d
   simp[this]
  have:=h.nG; have:=h.nU; have:=h.nL; have:=h.nC; have:=h.nK; have:=h.nodes; have:=h.links;rw[f,g,a];simp only[cO,bO,if_false,bne_self_eq_false];rw[if_neg (by omega),if_neg (by omega),if_neg (by omega),if_neg (by omega),if_neg (by omega),if_neg (by omega),if_neg (by omega)]
section
variable {b:à}
def Ĉ.nums (h:Ĉ b) {c:Cmp} (a:c∈b.2.2.2.2.1):rm c=true:=by
 obtain⟨i,hi,rfl⟩:=List.mem_iff_getElem.1 a;have:=h.compares i _ (List.getElem?_eq_getElem hi);unfold ę at this
 split at this
 ·omega
 ·rename_i h; simpa using h
def Ĉ.pilesOf (h:Ĉ b) {c:Cmp} (a:c∈b.2.2.2.2.1):ir b (ĉ b) c=0:=by
 obtain⟨i,hi,rfl⟩:=List.mem_iff_getElem.1 a;have:=h.compares i _ (List.getElem?_eq_getElem hi);unfold ę at this
 split at this
 ·omega
 ·split at this
  ·omega
  ·exact this
def gL (c:Cmp):rm c=true↔(1<=c.1/\c.1<=1099511627776)/\(0<=c.2.1/\c.2.1<=20000)/\(-1125899906842624<=c.2.2.2.2.1/\c.2.2.2.2.1<=1125899906842624)/\(0<=c.2.2.2.2.2.1/\c.2.2.2.2.2.1<=1073741824)/\κ c.2.2.2.2.2.2 (-10000) 10000=true/\nX c.2.2.1=true/\nX c.2.2.2.1=true:=by
 simp[rm,inP,Gz,and_assoc]
def Ĉ.size (h:Ĉ b):fU b:=by
 have i:=h.nG; have h2:=h.nU; have g:=h.nL; have f:=h.nC; have e:=h.nK;refine⟨by omega,by omega,by omega,by omega,by omega,fun c d=>?_⟩;have:=(gL c).1 (h.nums d);have a:=Ĩ this.2.2.2.2.2.1;have b:=Ĩ this.2.2.2.2.2.2;omega
def BZ (g:ß):nr g=true↔zY g.2.2.2.2.1=true/\(-1000<=g.2.2.2.2.1.1/\g.2.2.2.2.1.1<=1000)/\g.2.2.2.2.1.2<=100/\(1<=g.1/\g.1<=1099511627776)/\(0<=g.2.1/\g.2.1<=20000)/\(1<=g.2.2.1/\g.2.2.1<=1125899906842624)/\(-1073741824<=g.2.2.2.1.1/\g.2.2.2.1.1<=g.2.2.2.1.2/\g.2.2.2.1.2<=1073741824)/\(0<=g.2.2.2.2.2/\g.2.2.2.2.2<=1048576):=by
 simp[nr,inP,Gz,κ,and_assoc]
def g8 {id:Int} {g:ß} (h:ų b id=some g):g∈b.2.1/\g.1=id:=by
 unfold ų at h;exact⟨List.mem_of_find?_eq_some h,by simpa using List.find?_some h⟩
def rI (hi:b.2.1.Pairwise fun a b=>a.1<b.1) {g:ß} (d:g∈b.2.1):ų b g.1=some g:=by
 unfold ų
 induction e:b.2.1 generalizing b with
 |nil=>rw[e] at d; cases d
 |cons a t f =>
  rw[e] at d hi;rw[b7] at hi;rw[eN];rcases bC.1 d with rfl|d
  ·simp
  ·have h:=hi.1 g d
   have:(a.1==g.1)=false:=by simp; omega
   rw[this];have:=f (b:=(b.1,t,b.2.2)) hi.2 d rfl;exact this
def uT (h:Ĉ b) {id a:Int} (d:ft (ĉ b) id a=0):∃g,ų b id=some g/\g.2.1<=a:=by
 unfold ft at d;rw[uS h.ids] at d
 split at d
 ·rename_i g e
  split at d
  ·omega
  ·exact⟨g,e,by omega⟩
 ·omega
def Hc (s:AS (Int×ß)) (id a:Int):ft s id a=0\/ft s id a=4\/ft s id a=5:=by
 unfold ft
 split
 ·split<;>simp
 ·simp
def Ĉ.pile (h:Ĉ b) {c:Cmp} (j:c∈b.2.2.2.2.1) {x:Int} (d:x∈c.2.2.1++c.2.2.2.1):(∃g,ų b x=some g/\g.2.1<=c.2.1)/\kT b x c.2.1=none:=by
 have a:=h.pilesOf j;unfold ir at a
 split at a
 ·omega
 rename_i m
 split at a
 ·omega
 rename_i n
 split at a
 ·omega
 rename_i l;have f:=(cN.1 (di.2 m)) x d;have i:=(cN.1 (di.2 n)) x d;have e:=(cN.1 (di.2 l)) x d;simp at f i e;refine⟨uT h ?_,e⟩;rcases Hc (ĉ b) x c.2.1 with h0|h0|h0
 ·exact h0
 ·exact(i h0).elim
 ·exact(f h0).elim
def Ĉ.lefts (h:Ĉ b) {c:Cmp} (d:c∈b.2.2.2.2.1):(å c.2.2.1 c.2.2.2.1).length<=1/\(å c.2.2.2.1 c.2.2.1).length<=1/\(å c.2.2.1 c.2.2.2.1).length+(å c.2.2.2.1 c.2.2.1).length≠0:=by
 have a:=h.pilesOf d;unfold ir at a
 (repeat' split at a)<;>first|omega|exact⟨by omega,by omega,by omega⟩
def gW {a c:AS Int} {x:Int}:x∈å a c↔x∈a/\x∉c:=by
 simp[å]
def Ĉ.rate (h:Ĉ b) {p:AS Int} (d:∀x∈p,∃g,ų b x=some g):l9 (pT (ĉ b) p) 1000 100:=by
 unfold pT
 cases p with
 |nil =>
  have:l9 (0,1) 1000 100:=⟨by decide,by decide,by decide⟩;exact this
 |cons x t =>
  obtain⟨g,a⟩:=d x (by simp)
  try dsimp only
  rw[uS h.ids,a];have:=(BZ g).1 (h.gauge g (g8 a).1);exact⟨this.1,this.2.1,this.2.2.1⟩
def Ĉ.rates (h:Ĉ b) {c:Cmp} (e:c∈b.2.2.2.2.1):l9 (pT (ĉ b) (å c.2.2.1 c.2.2.2.1)) 1000 100/\l9 (pT (ĉ b) (å c.2.2.2.1 c.2.2.1)) 1000 100:=by
 constructor
 ·exact h.rate fun x a=>by
   obtain⟨⟨g,d,_⟩,_⟩:=h.pile e (b8 _ (gW.1 a).1);exact⟨g,d⟩
 ·exact h.rate fun x a=>by
   obtain⟨⟨g,d,_⟩,_⟩:=h.pile e (bY _ (gW.1 a).1);exact⟨g,d⟩
def Ĉ.growth (h:Ĉ b) {c:Cmp} (e:c∈b.2.2.2.2.1):gB b c=some (Ā b c):=by
 obtain⟨r1,r2⟩:=h.rates e;have d:=(gL c).1 (h.nums e);have a:=Ĩ d.2.2.2.2.2.1;have b:=Ĩ d.2.2.2.2.2.2;exact FM h.size (by omega) (by omega) r1 r2 d.2.2.2.2.1
def Ĉ.films (h:Ĉ b) {c:Cmp} (d:c.2.2.1.length<=1000) (a:c.2.2.2.1.length<=1000):l5 b c=some (ũ b c):=by
 have:=h.film;exact Jj d a (by omega) (by omega) (by omega) (by omega)
def CP {k a:Int×Int} (d:l9 k 200000 10000) (e:κ a (-10000) 10000=true):l9 (su k a).1 2000000000 10000/\l9 (su k a).2 2000000000 10000:=by
 simp only[κ,Bool.and_eq_true,decide_eq_true_eq] at e;have r1:=CW d (n:=a.1) ⟨by omega,by omega⟩;have r2:=CW d (n:=a.2) ⟨by omega,by omega⟩;unfold su
 split
 ·exact⟨r2,r1⟩
 ·exact⟨r1,r2⟩
def rN {c:Cmp} (d:c.2.2.1.length<=1000) (a:c.2.2.2.1.length<=1000) (g:0<=b.1.1) (h2:b.1.1<=1000000) (f:0<=b.1.2) (e:b.1.2<=1000000) :
 (-1000000000<=(ũ b c).1/\(ũ b c).1<=1000000000)/\(-1000000000<=(ũ b c).2/\(ũ b c).2<=1000000000):=by
 have bd:∀(n:Nat) (x:Int),n<=1000->0<=x->x<=1000000->0<=((n-1:Nat):Int)*x/\((n-1:Nat):Int)*x<=1000000000:=by
  intro n x i h0 h;refine⟨eP (by omega) h0,?_⟩;have:=dT (show((n-1:Nat):Int)<=1000 by omega) h h0 (by omega);omega
 have m:=bd _ _ d g h2;have l:=bd _ _ d f e;have b3:=bd _ _ a g h2;have j:=bd _ _ a f e;unfold ũ
 try dsimp only
 omega
def rK {r:Int×Int} (h:l9 r 2000000000 10000) : -2000000000<=r.1 / r.2/\r.1 / r.2<=2000000000:=by
 have:=vz (n:=r.1) h.pos;have:=h.num;omega
def vF {r:Int×Int} (h:l9 r 2000000000 10000) : -2000000000<=zL r/\zL r<=2000000000:=by
 have:=vz (n:=-r.1) h.pos;have:=h.num;unfold zL;omega
def Ĉ.says (h:Ĉ b) {c:Cmp} (d:c∈b.2.2.2.2.1):mT b c=some (ū b c):=by
 obtain⟨r1,r2⟩:=h.rates d;have a:=(gL c).1 (h.nums d);have ha:=Ĩ a.2.2.2.2.2.1;have hb:=Ĩ a.2.2.2.2.2.2;have m:=h.film;obtain⟨i,g⟩:=CP (xH r1 r2) a.2.2.2.2.1;have n:=rN (b:=b) (c:=c) (by omega) (by omega) (by omega) (by omega) (by omega) (by omega);have f:l9 (Ā b c).1 2000000000 10000:=i;have e:l9 (Ā b c).2 2000000000 10000:=g;have r:=vF f;have o:=rK e;unfold mT IM ū;rw[h.growth d,À,h.films (by omega) (by omega),À,JP e.rat,À,Oz f.rat,À]
 try dsimp only
 have l:=a.2.2.1;have j:=a.2.2.2.1;rw[ë (by omega) (by omega),ë (by omega) (by omega),ë (by omega) (by omega),ë (by omega) (by omega),ë (by omega) (by omega),ë (by omega) (by omega)]
end
def ô (l:uC) (f t:Int):Int:=min l.2.1.2 (t-1)-max l.2.1.1 f+1
def û (id f t:Int):AS uC->Int
 |[]=>0
 |l::r=>(if l.1=id/\0<ô l f t then ô l f t*l.2.2 else 0)+û id f t r
def oG (id f t:Int):∀(x y:AS uC),û id f t (x++y)=û id f t x+û id f t y
 |[],y=>by simp[û]
 |l::r,y=>by
  simp only[cE,û,oG id f t r y];omega
def Ŋ (b:à) (id f t:Int):AS Int:=(b.2.2.1.filter fun u=>u.1==id&&inP u.2 f (t-1)).map fun u=>u.2
def ű (b:à) (g:ß) (f t:Int):Int:=û g.1 f t b.2.2.2.1+(Be (Ŋ b g.1 f t)).length*g.2.2.2.2.2
def Rw (a c:Int):Lc a c=min a c:=by unfold Lc; split<;>omega
def Rx (a c:Int):I9 a c=max a c:=by unfold I9; split<;>omega
def vg {b:à} (h:Ĉ b) {l:uC} (d:l∈b.2.2.2.1):(0<=l.2.1.1/\l.2.1.1<=l.2.1.2/\l.2.1.2<=20000)/\(0<=l.2.2/\l.2.2<=1048576):=by
 obtain⟨i,hi,rfl⟩:=List.mem_iff_getElem.1 d;have:=h.loans i _ (List.getElem?_eq_getElem hi);unfold tM at this
 split at this
 ·omega
 rename_i a
 split at this
 ·omega
 rename_i h2;simp only[cg,Bool.not_eq_false,κ,inP,bu,decide_eq_true_eq] at a h2;exact⟨a,h2⟩
def BO {l:uC} (h:(0<=l.2.1.1/\l.2.1.1<=l.2.1.2/\l.2.1.2<=20000)/\(0<=l.2.2/\l.2.2<=1048576)) {f t:Int} (a:0<=f) (hd:0<ô l f t):0<=ô l f t*l.2.2/\ô l f t*l.2.2<=20001*1048576:=by
 refine⟨Int.mul_nonneg (by omega) h.2.1,Int.mul_le_mul ?_ h.2.2 h.2.1 (by omega)⟩;unfold ô;omega
def kL {id f t:Int} (a:0<=f):∀{x:AS uC},(∀l∈x,(0<=l.2.1.1/\l.2.1.1<=l.2.1.2/\l.2.1.2<=20000)/\(0<=l.2.2/\l.2.2<=1048576))->0<=û id f t x/\û id f t x<=x.length*(20001*1048576)
 |[],_=>by simp[û]
 |l::r,h=>by
  have g:=kL (id:=id) (t:=t) a (x:=r) fun l d=>h l (by simp[d]);simp only[û,bJ,eX,eJ,eS]
  split
  ·rename_i e;have:=BO (h l (by simp)) a e.2;omega
  ·omega
def MA {b:à} (h:Ĉ b) {g:ß} (s:0<=g.2.2.2.2.2/\g.2.2.2.2.2<=1048576) {f t:Int} (C:0<=f/\f<=100000) (O:0<=t/\t<=100000):kD b g f t=some (ű b g f t):=by
 have Q:=h.nL;have I:=h.nU
 have e:∀i,0<=û g.1 f t (b.2.2.2.1.take i)/\û g.1 f t (b.2.2.2.1.take i)<=12*(20001*1048576):=by
  intro i;have j:=kL (id:=g.1) (t:=t) C.1 (x:=b.2.2.2.1.take i) fun l o=>vg h (eG o);have h2:((b.2.2.2.1.take i).length:Int)*(20001*1048576)<=12*(20001*1048576):=dv (by rw[bU]; omega) (by omega);omega
 unfold kD IQ;refine fN (fun x:Int×Int=>∃i:Nat,i<=b.2.2.2.1.length/\x=(û g.1 f t (b.2.2.2.1.take i),(i:Int))) (fun x=>b.2.2.2.1.length-x.2.toNat) ?_ ⟨0,by omega,rfl⟩;rintro x ⟨i,hi,rfl⟩;rcases Nat.lt_or_ge i b.2.2.2.1.length with a|H
 ·have o:b.2.2.2.1[i]?=some b.2.2.2.1[i]:=br a;have G:=vg h (bI o);refine .inr ⟨(û g.1 f t (b.2.2.2.1.take (i+1)),(i:Int)+1),⟨i+1,a,by simp⟩,by simp; omega,fun F=>?_⟩
  try dsimp only
  unfold mF;have E:=e i;have R:=e (i+1)
  have m:û g.1 f t (b.2.2.2.1.take (i+1))=û g.1 f t (b.2.2.2.1.take i)+(if b.2.2.2.1[i].1=g.1/\0<ô b.2.2.2.1[i] f t then ô b.2.2.2.1[i] f t*b.2.2.2.1[i].2.2 else 0):=by
   rw[take_succ o,oG]; simp[û]
  rw[Ø a,Í o,ë (by omega) (by omega),Rw,Rx,ë (by omega) (by omega),ë (by omega) (by omega)];rw[show min b.2.2.2.1[i].2.1.2 (t-1)-max b.2.2.2.1[i].2.1.1 f+1=ô b.2.2.2.1[i] f t from rfl,Ė]
  by_cases d:b.2.2.2.1[i].1=g.1
  ·rw[if_pos (by simpa[ieq] using d),Ė]
   by_cases hd:0<ô b.2.2.2.1[i] f t
   ·have K:=BO G C.1 hd;rw[if_pos ⟨d,hd⟩] at m;rw[if_pos (by simpa[igt] using hd),ë (by omega) (by omega),ë (by omega) (by omega),Ô a (by omega),m]
   ·rw[if_neg (fun v=>hd v.2)] at m;rw[if_neg (by simpa[igt] using hd),Ô a (by omega),m,fe]
  ·rw[if_neg (fun v=>d v.1)] at m;rw[if_neg (by simpa[ieq] using d),Ô a (by omega),m,fe]
 ·refine .inl fun F=>?_
  have:i=b.2.2.2.1.length:=by omega
  subst this
  try dsimp only
  unfold mF;rw[ï,List.take_length]
  have n:∀x:AS (Int×Int),x.length<=40->((x.filter fun u=>u.1==g.1&&inP u.2 f (t-1)).map fun u=>u.2).length<=40:=by
   intro x y;rw[cw];exact bG (cZ _ _) y
  refine η b.2.2.1 (fun i=>((b.2.2.1.take i).filter fun u=>u.1==g.1&&inP u.2 f (t-1)).map fun u=>u.2) _ rfl (fun i u hi z r=>?_) (fun r=>?_)
  ·try dsimp only
   unfold mE;have y:=n (b.2.2.1.take i) (by rw[List.length_take]; omega);rw[Ø hi,Í z,ë (by omega) (by omega),Ļ,À,Ó (by simp only[List.length_singleton]; omega),Am.iff_true,Ô hi (by omega),Ô hi (by omega),take_succ z,List.filter_append,List.map_append]
   cases j:(u.1==g.1) with
   |false =>
    have:ieq u.1 g.1=false:=j;simp only[this,õ,dm,j,Bool.false_and,bO,if_false,dB,dC,bW]
   |true =>
    have:ieq u.1 g.1=true:=j;rw[this]
    cases h2:inP u.2 f (t-1) with
    |false=>simp only[mS,õ,dm,j,h2,cT,bO,if_false,dB,dC,bW]
    |true=>simp only[mS,dm,j,h2,cT,if_true,dB,dC,cm]
  ·try dsimp only
   unfold mE;rw[ï,List.take_length];rw[show((b.2.2.1.filter fun u=>u.1==g.1&&inP u.2 f (t-1)).map fun u=>u.2)=Ŋ b g.1 f t from rfl];have J:(Ŋ b g.1 f t).length<=40:=n _ I
   have D:(Be (Ŋ b g.1 f t)).length<=40:=by
    have:=xg (Ŋ b g.1 f t);omega
   have P:0<=((Be (Ŋ b g.1 f t)).length:Int)*g.2.2.2.2.2/\((Be (Ŋ b g.1 f t)).length:Int)*g.2.2.2.2.2<=40*1048576 :=
    ⟨eP (by omega) s.1,dT (by omega) s.2 s.1 (by omega)⟩
   have E:=e b.2.2.2.1.length;rw[List.take_length] at E;dsimp only;rw[Ó (by omega),Am.iff_true,Ó (by rw[Ec]; omega),Am.iff_true,Lz,Þ,ë (by omega) (by omega),ë (by omega) (by omega)];rfl
abbrev Lk:Type:=Int×Int×Int
inductive Wl (L:List Lk) (S:Int->Prop):List Int->Int->Int->Prop
 |nil {v:Int}:S v->Wl L S [] v 0
 |step {vs:List Int} {u v m d:Int}:Wl L S vs u d->(u,v,m)∈L->Wl L S (u::vs) v (d+m)
def Pot (L:AS Lk) (p:Int->Int):Prop:=∀u v m,(u,v,m)∈L->p v<=p u+m
def InR (L:AS Lk) (N:Nat):Prop:=∀l∈L,(0<=l.1/\l.1<N)/\(0<=l.2.1/\l.2.1<N)
section
variable {L:AS Lk} {S:Int->Prop} {N:Nat} {p:Int->Int}
def Wl.cut (i:Pot L p) {vs:AS Int} {v d:Int} (h:Wl L S vs v d):∀x∈vs,∃a f,Wl L S a x f/\(x::a) <:+ vs/\f+(p v-p x)<=d:=by
 induction h with
 |nil h=>intro x e; cases e
 | @step vs u v m d g j ih =>
  intro x e;have o:=i u v m j;rcases bC.1 e with rfl|e
  ·exact⟨vs,d,g,List.suffix_refl _,by omega⟩
  ·obtain⟨a,f,n,l,r⟩:=ih x e;exact⟨a,f,n,l.trans (List.suffix_cons _ _),by omega⟩
def Wl.simple (r:Pot L p) {vs:AS Int} {v d:Int} (h:Wl L S vs v d):∃e l,Wl L S e v l/\l<=d/\(v::e).Nodup:=by
 induction h with
 |nil h=>exact⟨[],0,.nil h,cF _,by simp⟩
 | @step vs u v m d E s ih =>
  obtain⟨a,C,y,F,j⟩:=ih;have f:=Wl.step y s
  by_cases i:v∈u::a
  ·obtain⟨g,z,o,n,D⟩:=f.cut r v i;exact⟨g,z,o,by omega,j.sublist n.sublist⟩
  ·exact⟨u::a,C+m,f,by omega,dw.2 ⟨i,j⟩⟩
def Wl.range (i:InR L N) (g:∀v,S v->0<=v/\v<N) {vs:AS Int} {v d:Int} (h:Wl L S vs v d):(0<=v/\v<N)/\∀u∈vs,0<=u/\u<N:=by
 induction h with
 |nil h=>exact⟨g _ h,fun u e=>by cases e⟩
 | @step vs u v m d j f ih =>
  refine⟨(i _ f).2,fun w a=>?_⟩;rcases bC.1 a with rfl|h
  ·exact ih.1
  ·exact ih.2 w h
def Iw:∀(N:Nat) (l:AS Int),l.Nodup->(∀x∈l,0<=x/\x<N)->l.length<=N
 |0,l,_,h=>by
  cases l with
  |nil=>simp
  |cons a l=>have:=h a (by simp); omega
 |N+1,l,d,h=>by
  have f:(l.erase (N:Int)).length<=N:=Iw N _ (d.erase _) fun x e=>by
   have h2:=(d.mem_erase_iff).1 e;have:=h x h2.2;have:=h2.1;omega
  have:=List.length_erase (a:=(N:Int)) (l:=l)
  split at this<;>omega
def Wl.short (g:InR L N) (f:∀v,S v->0<=v/\v<N) {vs:AS Int} {v d:Int} (h:Wl L S vs v d) (e:(v::vs).Nodup):vs.length+1<=N:=by
 have:=h.range g f
 exact Iw N (v::vs) e fun x a=>by
  rcases bC.1 a with rfl|a
  ·exact this.1
  ·exact this.2 x a
def wI (f:Lk->Bool):AS Lk->Int
 |[]=>0
 |l::t=>(if f l then min l.2.2 0 else 0)+wI f t
def Mk (f:Lk->Bool):∀L:AS Lk,wI (fun _=>true) L<=wI f L
 |[]=>cF _
 |l::t=>by
  have:=Mk f t;simp only[wI,if_true]
  split<;>omega
def mf (f:Lk->Bool):∀L:AS Lk,wI f L<=0
 |[]=>cF _
 |l::t=>by
  have:=mf f t;simp only[wI]
  split<;>omega
def IF {f:Lk->Bool} {l:Lk} (d:f l=true):∀{L:AS Lk},l∈L->wI f L<=l.2.2
 |a::t,h=>by
  simp only[wI];rcases bC.1 h with rfl|h
  ·have:=mf f t;rw[if_pos d]; omega
  ·have:=IF d h
   split<;>omega
def Mj {f g:Lk->Bool} (h:∀l,f l=true->g l=false):∀L:AS Lk,wI (fun l=>f l||g l) L=wI f L+wI g L
 |[]=>rfl
 |l::t=>by
  have i:=Mj h t;simp only[wI,i]
  by_cases d:f l=true
  ·simp[d,h l d]; omega
  ·have a:f l=false:=by simpa using d
   by_cases e:g l=true
   ·simp[a,e]; omega
   ·simp[a,e]
def Wl.low {vs:AS Int} {v d:Int} (h:Wl L S vs v d):vs.Nodup->wI (fun l=>vs.contains l.1) L<=d:=by
 induction h with
 |nil h=>intro _; exact mf _ _
 | @step vs u v m d o i ih =>
  intro a;rw[dw] at a;have r:=ih a.2;have h2:wI (fun l=>l.1==u) L<=m:=IF (f:=fun l=>l.1==u) (l:=(u,v,m)) (by simp) i
  have n:=Mj (f:=fun l:Lk=>l.1==u) (g:=fun l=>vs.contains l.1) (fun l e=>by
   simp only[beq_iff_eq] at e;rw[e]
   simpa using a.1) L
  have j:(fun l:Lk=>(u::vs).contains l.1)=fun l=>(l.1==u)||vs.contains l.1:=by funext l; rw[List.contains_cons]
  rw[j,n];omega
def xj (L:AS Lk):Int:=wI (fun _=>true) L
def Wl.low' (e:Pot L p) {vs:AS Int} {v d:Int} (h:Wl L S vs v d):xj L<=d:=by
 obtain⟨a,i,g,h2,f⟩:=h.simple e;have:=g.low (List.nodup_cons.1 f).2;have:=Mk (fun l=>a.contains l.1) L;unfold xj;omega
def Wl.high {M:Int} (e:∀l∈L,l.2.2<=M) {vs:AS Int} {v d:Int} (h:Wl L S vs v d):d<=vs.length*M:=by
 induction h with
 |nil h=>simp
 | @step vs u v m d f a ih =>
  have:=e _ a;simp only[bJ,eX,eJ,eS];simp only at this;omega
def Wl.mono {a:Int->Prop} (g:∀v,S v->a v) {vs:AS Int} {v d:Int} (h:Wl L S vs v d):Wl L a vs v d:=by
 induction h with
 |nil h=>exact .nil (g _ h)
 |step i f e=>exact .step e f
def Wl.pot (a:Pot L p) {vs:AS Int} {v d:Int} (h:Wl L S vs v d):∃s,S s/\p v-p s<=d:=by
 induction h with
 | @nil v h=>exact⟨v,h,by omega⟩
 | @step vs u v m d g e ih =>
  obtain⟨s,f,h2⟩:=ih;have:=a u v m e;exact⟨s,f,by omega⟩
end
abbrev fA:Int:=1152921504606846976
structure Lf (L:AS Lk) (S:Int->Prop) (N:Nat) (x:Int->Int):Prop where
 att:∀v:Int,0<=v->v<N->x v≠fA->∃vs,Wl L S vs v (x v)
 low:∀v vs d,Wl L S vs v d->x v<=d
 bd:∀v:Int,0<=v->v<N->x v<=fA
def Lf.uniq {L:AS Lk} {S:Int->Prop} {N:Nat} {x y:Int->Int} (d:Lf L S N x) (e:Lf L S N y) {v:Int} (h0:0<=v) (f:v<N):x v=y v:=by
 have a:∀{x y:Int->Int},Lf L S N x->Lf L S N y->x v<=y v:=by
  intro x y d e
  by_cases h:y v=fA
  ·rw[h]; exact d.bd v h0 f
  ·obtain⟨vs,g⟩:=e.att v h0 f h;exact d.low v vs _ g
 exact Int.le_antisymm (a d e) (a e d)
def gv (x:AS Int) (v:Int):Int:=x[v.toNat]?.getD 0
def FL {x:AS Int} {v:Int} (h:v.toNat<x.length):x[v.toNat]?=some (gv x v):=by
 unfold gv; rw[List.getElem?_eq_getElem h]; rfl
def oI {x:AS Int} {u v:Int} (e:0<=u) (d:0<=v) (h:u.toNat<x.length) (y:Int):gv (x.set u.toNat y) v=if v=u then y else gv x v:=by
 unfold gv;rw[List.getElem?_set]
 by_cases a:v=u
 ·subst a; simp[h]
 ·have:¬u.toNat=v.toNat:=by omega
  simp[a,this]
def Ja {x y:AS Int} (a:x.length=y.length) (h:∀v:Int,0<=v->v<x.length->gv x v=gv y v):x=y:=by
 refine List.ext_getElem a fun i d h2=>?_;have:=h i (by omega) (by omega);unfold gv at this;simpa[d,h2] using this
def fW (x:AS Int) (l:Lk):AS Int:=if gv x l.1<fA/\gv x l.1+l.2.2<gv x l.2.1 then x.set l.2.1.toNat (gv x l.1+l.2.2) else x
def wF (L:AS Lk) (x:AS Int):AS Int:=L.foldl fW x
def fC (L:AS Lk):Nat->AS Int->AS Int
 |0,x=>x
 |n+1,x=>fC L n (wF L x)
def iC (x:AS Int) (l:Lk):(fW x l).length=x.length:=by unfold fW; split<;>simp
def nY (L:AS Lk):∀x:AS Int,(wF L x).length=x.length:=by
 induction L with
 |nil=>intro x; rfl
 |cons l t a=>intro x; show(wF t (fW x l)).length=_; rw[a,iC]
def ĩ (L:AS Lk):∀(n:Nat) (x:AS Int),(fC L n x).length=x.length
 |0,x=>rfl
 |n+1,x=>by rw[fC,ĩ L n,nY]
def ri (L:AS Lk):∀(n:Nat) (x:AS Int),fC L (n+1) x=wF L (fC L n x)
 |0,x=>rfl
 |n+1,x=>by rw[fC,ri L n]; rfl
section
variable {L0:AS Lk} {S:Int->Prop} {N:Nat}
def Er {x:AS Int} {l:Lk} (d:(0<=l.1/\l.1<N)/\(0<=l.2.1/\l.2.1<N)) (e:x.length=N) (v:Int) (a:0<=v):gv (fW x l) v<=gv x v:=by
 unfold fW
 split
 ·rename_i h;rw[oI d.2.1 a (by omega)]
  split
  ·rename_i h2; subst h2; omega
  ·exact cF _
 ·exact cF _
def sh:∀{L:AS Lk},InR L N->∀{x:AS Int},x.length=N->∀v,0<=v->gv (wF L x) v<=gv x v
 |[],_,x,_,v,_=>cF _
 |l::t,e,x,a,v,d=>by
  have g:=Er (e l (by simp)) a v d;have h2:=sh (L:=t) (fun l f=>e l (by simp[f])) (x:=fW x l) (by rw[iC,a]) v d;show gv (wF t (fW x l)) v<=_;omega
def uN:∀{L:AS Lk},InR L N->∀{x:AS Int},x.length=N->∀u v m,(u,v,m)∈L->gv x u<fA->gv (wF L x) v<=gv x u+m
 |l::t,f,x,g,u,v,m,e,j=>by
  have i:InR t N:=fun l a=>f l (by simp[a])
  have d:(fW x l).length=N:=by rw[iC,g]
  show gv (wF t (fW x l)) v<=_;rcases bC.1 e with rfl|e
  ·have a:=f (u,v,m) (by simp);have h2:=sh i d v a.2.1
   have n:gv (fW x (u,v,m)) v<=gv x u+m:=by
    unfold fW
    split
    ·rw[oI a.2.1 a.2.1 (by simp only at a; simp only; omega),if_pos rfl]; exact cF _
    ·rename_i h; simp only[not_and,Int.not_lt] at h; exact h j
   omega
  ·have a:=f (u,v,m) (by simp[e]);have o:=Er (f l (by simp)) g u a.1.1;have:=uN i d u v m e (by omega);omega
def Att (L0:AS Lk) (S:Int->Prop) (N:Nat) (x:AS Int):Prop:=∀v:Int,0<=v->v<N->gv x v<fA->∃vs,Wl L0 S vs v (gv x v)
def J7 {x:AS Int} {l:Lk} (a:(0<=l.1/\l.1<N)/\(0<=l.2.1/\l.2.1<N)) (f:l∈L0) (j:x.length=N) (h:Att L0 S N x):Att L0 S N (fW x l):=by
 unfold fW
 split
 ·rename_i g;intro v h0 i d;rw[oI a.2.1 h0 (by omega)] at d ⊢
  split
  ·rename_i h2;obtain⟨vs,e⟩:=h l.1 a.1.1 a.1.2 g.1;exact⟨_,h2▸Wl.step e f⟩
  ·rename_i h2;rw[if_neg h2] at d;exact h v h0 i d
 ·exact h
def EA:∀{L:AS Lk},InR L N->(∀l∈L,l∈L0)->∀{x:AS Int},x.length=N->Att L0 S N x->Att L0 S N (wF L x)
 |[],_,_,_,_,h=>h
 |l::t,e,hsub,x,d,h=>EA (L:=t) (fun l a=>e l (by simp[a])) (fun l a=>hsub l (by simp[a])) (x:=fW x l) (by rw[iC,d]) (J7 (e l (by simp)) (hsub l (by simp)) d h)
def Bn (d:InR L0 N):∀(n:Nat) {x:AS Int},x.length=N->Att L0 S N x->Att L0 S N (fC L0 n x)
 |0,_,_,h=>h
 |n+1,x,a,h=>Bn d n (by rw[nY,a]) (EA d (fun _ h=>h) a h)
def sg (e:InR L0 N):∀(n:Nat) {x:AS Int},x.length=N->∀v,0<=v->gv (fC L0 n x) v<=gv x v
 |0,_,_,_,_=>cF _
 |n+1,x,a,v,d=>Int.le_trans (sg e n (by rw[nY,a]) v d) (sh e a v d)
def start (S:Int->Bool) (N:Nat):AS Int:=(List.range N).map fun(i:Nat)=>if S i then 0 else fA
def Ŧ (S:Int->Bool) {N:Nat} {v:Int} (h0:0<=v) (a:v<N):gv (start S N) v=if S v then 0 else fA:=by
 unfold gv start
 have:v.toNat<N:=by omega
 rw[dE,dY this];simp only[b9,dI];rw[Int.toNat_of_nonneg h0]
def í (S:Int->Bool) (N:Nat):(start S N).length=N:=by simp[start]
end
def uM {L:AS Lk} {S:Int->Bool} {N:Nat} {M:Int} (o:InR L N) (j:∀v,S v=true->0<=v/\v<N) (s:∀l∈L,l.2.2<=M):∀(n:Nat),n*M<fA->0<=M->∀vs v d,Wl L (fun v=>S v=true) vs v d->vs.length<=n->gv (fC L n (start S N)) v<=d
 |0,_,_,vs,v,d,f,i=>by
  cases f with
  |nil h =>
   have:=j v h;rw[fC,Ŧ S this.1 this.2,if_pos h]; exact cF _
  |step=>simp at i
 |n+1,y,e,vs,v,d,f,i=>by
  have g:n*M<fA:=by rw[eX,eJ,eS] at y; omega
  have a:(fC L n (start S N)).length=N:=by rw[ĩ,í]
  rw[ri]
  cases f with
  |nil h =>
   have D:=sh o a v (j v h).1;have h2:=uM o j s n g e [] v 0 (.nil h) (by simp);omega
  | @step vs u _ m d f r =>
   have h2:=uM o j s n g e vs u d f (by simpa using i);have C:=f.high s;have z:(vs.length:Int)*M<=n*M:=dv (by simp at i; omega) e;have:=uN o a u v m r (by omega);omega
def xT {L:AS Lk} {S:Int->Bool} {N:Nat} {M:Int} {p:Int->Int} (C:Pot L p) (e:InR L N) (o:∀v,S v=true->0<=v/\v<N) (G:∀l∈L,l.2.2<=M) (r:0<=M) (F:N*M<fA) (n:Nat) (u:N<=n+1):Lf L (fun v=>S v=true) N (gv (fC L n (start S N))):=by
 have i:Att L (fun v=>S v=true) N (start S N):=fun v h0 a y=>by
  rw[Ŧ S h0 a] at y ⊢
  split
  ·rename_i h; exact⟨[],.nil h⟩
  ·rename_i h; rw[if_neg h] at y; omega
 have g:∀v:Int,0<=v->v<N->gv (fC L n (start S N)) v<=fA:=fun v h0 a=>by
  have:=sg e n (í S N) v h0;rw[Ŧ S h0 a] at this
  have O:(0:Int)<=fA:=by decide
  split at this<;>omega
 have f:∀(n:Nat),N<=n+1->∀v vs d,Wl L (fun v=>S v=true) vs v d->gv (fC L n (start S N)) v<=d:=by
  intro n u v vs d z;obtain⟨m,J,a,h2,I⟩:=z.simple C;have Q:=a.short e o I
  have s:0<N:=by omega
  obtain⟨k,rfl⟩:∃k,N=k+1:=⟨N-1,by omega⟩
  have E:(k:Int)*M<fA:=by rw[eX,eJ,eS] at F; omega
  have P:=uM e o G k E r m v J a (by omega);obtain⟨j,rfl⟩:∃j,n=k+j:=⟨n-k,by omega⟩
  have H:∀(j:Nat),gv (fC L (k+j) (start S (k+1))) v<=gv (fC L k (start S (k+1))) v:=by
   intro j
   induction j with
   |zero=>exact cF _
   |succ j K =>
    rw[<-Nat.add_assoc,ri];have:=sh e (x:=fC L (k+j) (start S (k+1))) (by rw[ĩ,í]) v (a.range e o).1.1;omega
  have:=H j;omega
 exact⟨fun v h0 a D=>Bn e n (í S N) i v h0 a (by have:=g v h0 a; omega),f n u,g⟩
def Lf.pot {L:AS Lk} {S:Int->Prop} {N:Nat} {x:Int->Int} (h:Lf L S N x) (d:InR L N) {u v m:Int} (a:(u,v,m)∈L) (f:x u≠fA):x v<=x u+m:=by
 obtain⟨vs,e⟩:=h.att u (d _ a).1.1 (d _ a).1.2 f;exact h.low v _ _ (.step e a)
def ą (b:à) (g:ß):AS Lk :=
 [(0,atP (Î b) [g.1] g.2.1,g.2.2.1+g.2.2.2.1.2),(atP (Î b) [g.1] g.2.1,0,-(g.2.2.1+g.2.2.2.1.1))] ++
 (List.range ((Ö b g).length-1)).flatMap fun(k:Nat)=>[(atP (Î b) [g.1] g.2.1+k,atP (Î b) [g.1] g.2.1+k+1,0),(atP (Î b) [g.1] g.2.1+k+1,atP (Î b) [g.1] g.2.1+k,ű b g ((Ö b g)[k]?.getD 0) ((Ö b g)[k+1]?.getD 0))]
def cx (b:à) (c:Cmp):Int:=atP (Î b) (å c.2.2.1 c.2.2.2.1) c.2.1
def cy (b:à) (c:Cmp):Int:=atP (Î b) (å c.2.2.2.1 c.2.2.1) c.2.1
def Ą (b:à) (c:Cmp):AS Lk:=[(cy b c,cx b c,(ū b c).2),(cx b c,cy b c,-(ū b c).1)]
def ĕ (b:à):AS Lk:=b.2.1.flatMap (ą b)++b.2.2.2.2.1.flatMap (Ą b)
def Ŏ (b:à) (i:Nat) (g:ß):AS (Int×Int):=[(1,(i:Int)),(1,(i:Int))]++(List.range ((Ö b g).length-1)).flatMap fun _=>[(2,(i:Int)),(2,(i:Int))]
def Cr (b:à):AS (Int×Int):=(b.2.1.mapIdx (Ŏ b)).flatten++(b.2.2.2.2.1.mapIdx fun i _=>[(3,(i:Int)),(3,(i:Int))]).flatten
section
variable {b:à}
def DY (h:Ĉ b) {id a:Int} (d:JU (ĉ b) id a=0):(0<=a/\a<=20000)/\∃g,ų b id=some g/\g.2.1<=a:=by
 unfold JU at d
 split at d
 ·omega
 ·rename_i hd;simp only[cg,Bool.not_eq_false,Gz,inP,bu,decide_eq_true_eq] at hd;exact⟨hd,uT h d⟩
def g9 {g:ß} {d:Int}:d∈Ö b g↔d=g.2.1\/(∃c∈b.2.2.2.2.1,(c.2.2.1.contains g.1)≠(c.2.2.2.1.contains g.1)/\c.2.1=d)\/(∃n∈b.2.2.2.2.2,n.1=g.1/\n.2=d):=by
 unfold Ö;rw[pd,AQ];simp only[List.mem_append,List.mem_singleton,List.mem_map,List.mem_filter];constructor
 ·rintro((h|⟨c,⟨e,h2⟩,a⟩)|⟨n,⟨e,h2⟩,a⟩)
  ·exact .inl h
  ·exact .inr (.inl ⟨c,e,by simpa using h2,a⟩)
  ·exact .inr (.inr ⟨n,e,by simpa using h2,a⟩)
 ·rintro(h|⟨c,e,h2,a⟩|⟨n,e,h2,a⟩)
  ·exact .inl (.inl h)
  ·exact .inl (.inr ⟨c,⟨e,by simpa using h2⟩,a⟩)
  ·exact .inr ⟨n,⟨e,by simpa using h2⟩,a⟩
def Ĉ.gaugeR (h:Ĉ b) {g:ß} (a:g∈b.2.1):zY g.2.2.2.2.1=true/\(-1000<=g.2.2.2.2.1.1/\g.2.2.2.2.1.1<=1000)/\g.2.2.2.2.1.2<=100/\(1<=g.1/\g.1<=1099511627776)/\(0<=g.2.1/\g.2.1<=20000)/\(1<=g.2.2.1/\g.2.2.1<=1125899906842624)/\(-1073741824<=g.2.2.2.1.1/\g.2.2.2.1.1<=g.2.2.2.1.2/\g.2.2.2.1.2<=1073741824)/\(0<=g.2.2.2.2.2/\g.2.2.2.2.2<=1048576):=(BZ g).1 (h.gauge g a)
def Ĉ.day (h:Ĉ b) {g:ß} (j:g∈b.2.1) {d:Int} (hd:d∈Ö b g):g.2.1<=d/\0<=d/\d<=20000:=by
 have o:=h.gaugeR j;have a:=rI h.ids j;rcases g9.1 hd with rfl|⟨c,l,i,rfl⟩|⟨n,f,i,rfl⟩
 ·have:=o.2.2.2.2.1; omega
 ·have f:=(gL c).1 (h.nums l)
  have m:g.1∈c.2.2.1++c.2.2.2.1:=by
   rw[bw]
   by_cases h2:g.1∈c.2.2.1
   ·exact .inl h2
   ·refine .inr ?_
    have s:c.2.2.1.contains g.1=false:=by simpa using h2
    rw[s] at i
    have:c.2.2.2.1.contains g.1=true:=by cases u:c.2.2.2.1.contains g.1<;>simp_all
    simpa using this
  obtain⟨⟨g',e,r⟩,_⟩:=h.pile l m;rw[a] at e; cases e;have:=f.2.1;omega
 ·obtain⟨h2,g',e,r⟩:=DY h (h.looks n f);rw[i,a] at e; cases e;omega
def gI (g:ß):g.2.1∈Ö b g:=g9.2 (.inl rfl)
def Dv (h:Ĉ b) {g:ß} (e:g∈b.2.1):(Ö b g).length<=59:=by
 have i:∀l:AS ß,g∈l->(Ö b g).length<=(l.flatMap fun g=>(Ö b g).map fun d=>((g.1,d):Int×Int)).length:=by
  intro l
  induction l with
  |nil=>intro e; cases e
  |cons a t f =>
   intro e;rw[cn,bz,cw];rcases bC.1 e with rfl|e
   ·omega
   ·have:=f e; omega
 have:=i b.2.1 e;have:=h.nodes;unfold Î at this;omega
def Oe {p:AS Int} {d:Int}:0<=atP (Î b) p d/\atP (Î b) p d<=(Î b).length:=by
 unfold atP
 cases p with
 |nil=>simp
 |cons x t =>
  try dsimp only
  cases h:ii (Î b) x d with
  |none=>simp
  |some j=>have:=(lz h).1; dsimp only; omega
def xN (h:Ĉ b) {c:Cmp} (d:c∈b.2.2.2.2.1):(-1125904000000000<=(ū b c).1/\(ū b c).1<=1125904000000000)/\(-1125904000000000<=(ū b c).2/\(ū b c).2<=1125904000000000):=by
 obtain⟨r1,r2⟩:=h.rates d;have a:=(gL c).1 (h.nums d);have ha:=Ĩ a.2.2.2.2.2.1;have hb:=Ĩ a.2.2.2.2.2.2;have m:=h.film;obtain⟨i,g⟩:=CP (xH r1 r2) a.2.2.2.2.1;have n:=rN (b:=b) (c:=c) (by omega) (by omega) (by omega) (by omega) (by omega) (by omega);have f:l9 (Ā b c).1 2000000000 10000:=i;have e:l9 (Ā b c).2 2000000000 10000:=g;have r:=vF f;have o:=rK e;have l:=a.2.2.1;have j:=a.2.2.2.1;unfold ū
 try dsimp only
 omega
def mN (h:Ĉ b) {g:ß} (e:g∈b.2.1) {f t:Int} (i:0<=f):0<=ű b g f t/\ű b g f t<=12*(20001*1048576)+40*1048576:=by
 have a:=(h.gaugeR e).2.2.2.2.2.2.2;have o:=kL (id:=g.1) (t:=t) i (x:=b.2.2.2.1) fun l d=>vg h d;have h2:(b.2.2.2.1.length:Int)*(20001*1048576)<=12*(20001*1048576):=dv (by have:=h.nL; omega) (by omega)
 have n:(Ŋ b g.1 f t).length<=40:=by
  unfold Ŋ;rw[List.length_map];exact Nat.le_trans (List.length_filter_le _ _) h.nU
 have m:=xg (Ŋ b g.1 f t)
 have j:0<=((Be (Ŋ b g.1 f t)).length:Int)*g.2.2.2.2.2/\((Be (Ŋ b g.1 f t)).length:Int)*g.2.2.2.2.2<=40*1048576 :=
  ⟨eP (by omega) a.1,dT (by omega) a.2 a.1 (by omega)⟩
 unfold ű;omega
end
def mi {α β:Type} (f:Nat->α->β) {l:AS α} {i:Nat} {a:α} (h:l[i]?=some a):(l.take (i+1)).mapIdx f=(l.take i).mapIdx f++[f i a]:=by
 have hi:i<l.length:=(bB.1 h).1
 have:(l.take i).length=i:=by rw[bU]; omega
 rw[take_succ h,List.mapIdx_append];simp[this]
def uK {α:Type} (f:Nat->AS α) (j:Nat):(List.range (j+1)).flatMap f=(List.range j).flatMap f++f j:=by
 rw[List.range_succ,eM]; simp
def je {α:Type} (f:Nat->AS α) (n:Nat) (h:∀k,(f k).length=2):((List.range n).flatMap f).length=2*n:=by
 induction n with
 |zero=>rfl
 |succ n a=>rw[uK,bz,a,h]; omega
set_option maxHeartbeats 2000000 in
def CY {b:à} (h:Ĉ b):pD b=some (b,Î b,(((Î b).length:Int)+1,ĕ b),Cr b):=by
 unfold pD IP;have Z:=h.nodes;have hG:=h.nG;have hC:=h.nC;rw[CT h.size,À,Þ,ë (by omega) (by omega)]
 -- lengths of what comes
 have gl:∀g∈b.2.1,(ą b g).length<=120/\∀i,(Ŏ b i g).length<=120:=by
  intro g a;have:=Dv h a;constructor
  ·unfold ą;rw[List.length_append,je _ _ (fun _=>rfl)];simp only[List.length_cons,List.length_nil]; omega
  ·intro i;unfold Ŏ;rw[List.length_append,je _ _ (fun _=>rfl)];simp only[List.length_cons,List.length_nil]; omega
 have s:∀i,((b.2.1.take i).flatMap (ą b)).length<=1440/\(((b.2.1.take i).mapIdx (Ŏ b)).flatten).length<=1440:=by
  intro i
  induction i with
  |zero=>simp
  |succ i n =>
   have o:∀i,i<=b.2.1.length->((b.2.1.take i).flatMap (ą b)).length<=i*120/\(((b.2.1.take i).mapIdx (Ŏ b)).flatten).length<=i*120:=by
    intro i
    induction i with
    |zero=>intro _; simp
    |succ i n =>
     intro hi;have n:=n (by omega);have a:b.2.1[i]?=some b.2.1[i]:=br hi;have h2:=gl _ (bI a);have h3:=h2.2 i;rw[mi _ a,take_succ a,eM,List.flatten_append,bz,bz];simp only[cn,List.flatMap_nil,bW,List.flatten_cons,List.flatten_nil];omega
   rcases cd b.2.1.length (i+1) with G|G
   ·rw[cG (by omega)];have:=o b.2.1.length (bt _);rw[List.take_length] at this;omega
   ·have:=o (i+1) G;omega
 refine η b.2.1 (fun i=>((b.2.1.take i).flatMap (ą b),((b.2.1.take i).mapIdx (Ŏ b)).flatten)) _ rfl (fun i g hi a O=>?_) (fun O=>?_)
 ·try dsimp only
  unfold mD;have e:=List.mem_of_getElem? a;have z:=h.gaugeR e;have hd:=Dv h e;have r:=s i;have Q:=Oe (b:=b) (p:=[g.1]) (d:=g.2.1);rw[Ø hi,Í a];rw[show iP ((b.1.1,b.1.2),b.2.1,b.2.2.1,b.2.2.2.1,b.2.2.2.2.1,b.2.2.2.2.2) g=iP b g from rfl,Nz h.size,À];rw[Od _ _ _ (by dsimp only; omega),À]
  try dsimp only
  have r1:=z.2.2.2.2.2.1;have r2:=z.2.2.2.2.2.2.1;rw[ë (by omega) (by omega),ë (by omega) (by omega),ë (by omega) (by omega),Ó (by simp only[bJ,bZ]; omega),Am.iff_true,Ó (by simp only[bJ,bZ]; omega),Am.iff_true]
  refine fN (fun x:Int×AS Lk×AS (Int×Int)=>∃j:Nat,j+1<=(Ö b g).length/\x.1=(j:Int)+1 /\
   x.2.1=(b.2.1.take i).flatMap (ą b)++([(0,atP (Î b) [g.1] g.2.1,g.2.2.1+g.2.2.2.1.2),(atP (Î b) [g.1] g.2.1,0,-(g.2.2.1+g.2.2.2.1.1))] ++
    (List.range j).flatMap fun(k:Nat)=>[(atP (Î b) [g.1] g.2.1+k,atP (Î b) [g.1] g.2.1+k+1,0),(atP (Î b) [g.1] g.2.1+k+1,atP (Î b) [g.1] g.2.1+k,ű b g ((Ö b g)[k]?.getD 0) ((Ö b g)[k+1]?.getD 0))]) /\
   x.2.2=((b.2.1.take i).mapIdx (Ŏ b)).flatten++([(1,(i:Int)),(1,(i:Int))]++(List.range j).flatMap fun _=>[(2,(i:Int)),(2,(i:Int))])) (fun x=>(Ö b g).length-x.1.toNat) ?_
   ⟨0,List.length_pos_of_mem (gI g),rfl,by simp,by simp⟩
  rintro⟨x1,ls,K⟩ ⟨j,Y,J,y,v⟩;dsimp only at J y v ⊢;subst J
  have F:ls.length<=1562:=by
   rw[y,bz,bz,je _ _ (fun _=>rfl)];simp only[bJ,bZ]; omega
  have E:K.length<=1562:=by
   rw[v,bz,bz,je _ _ (fun _=>rfl)];simp only[bJ,bZ]; omega
  rcases cd (j+1) (Ö b g).length with f|P
  ·refine .inr ⟨((j:Int)+1+1,_,_),⟨j+1,f,by push_cast; rfl,rfl,rfl⟩,by dsimp only; omega,fun l=>?_⟩
   try dsimp only
   unfold mC
   have I:(Ö b g)[j]?=some ((Ö b g)[j]?.getD 0):=by rw[br (by omega)]; rfl
   have H:(Ö b g)[j+1]?=some ((Ö b g)[j+1]?.getD 0):=by rw[br f]; rfl
   have T:=h.day e (bI I);have d2:=h.day e (bI H);have X:=mN h e (t:=(Ö b g)[j+1]?.getD 0) T.2.1
   have R:((j:Int)+1)=((j+1:Nat):Int):=by push_cast; rfl
   rw[R,Ø f,ë (by omega) (by omega),ë (by omega) (by omega),ë (by omega) (by omega),ë (by omega) (by omega)];rw[show(((j+1:Nat):Int)-1)=((j:Nat):Int) by omega,Í I,Í H];rw[show kD ((b.1.1,b.1.2),b.2.1,b.2.2.1,b.2.2.2.1,b.2.2.2.2.1,b.2.2.2.2.2) (g.1,g.2.1,g.2.2.1,(g.2.2.2.1.1,g.2.2.2.1.2),(g.2.2.2.2.1.1,g.2.2.2.2.1.2),g.2.2.2.2.2) ((Ö b g)[j]?.getD 0) ((Ö b g)[j+1]?.getD 0)=kD b g ((Ö b g)[j]?.getD 0) ((Ö b g)[j+1]?.getD 0) from rfl];rw[MA h z.2.2.2.2.2.2.2 ⟨by omega,by omega⟩ ⟨by omega,by omega⟩,À,ë (by omega) (by omega),ë (by omega) (by omega),Ó (by simp only[bJ,bZ]; omega),Am.iff_true,Ó (by simp only[bJ,bZ]; omega),Am.iff_true,Ô f (by omega)];rw[uK,uK,y,v]
   have V:atP (Î b) [g.1] g.2.1+((j+1:Nat):Int)-1=atP (Î b) [g.1] g.2.1+(j:Int):=by push_cast; omega
   have U:atP (Î b) [g.1] g.2.1+((j+1:Nat):Int)=atP (Î b) [g.1] g.2.1+(j:Int)+1:=by push_cast; omega
   have a3:0-(0-ű b g ((Ö b g)[j]?.getD 0) ((Ö b g)[j+1]?.getD 0))=ű b g ((Ö b g)[j]?.getD 0) ((Ö b g)[j+1]?.getD 0):=by omega
   rw[V,U,a3];simp only[bM]
  ·refine .inl fun l=>?_
   have C:j+1=(Ö b g).length:=by omega
   unfold mC;rw[show((j:Int)+1)=(((Ö b g).length:Nat):Int) by rw[<-C]; push_cast; rfl,ï];dsimp only;rw[Ô hi (by omega)];rw[mi _ a,take_succ a,List.flatMap_append,List.flatten_append,y,v,show j=(Ö b g).length-1 by omega];simp only[List.flatMap_cons,List.flatMap_nil,List.append_nil,List.flatten_cons,List.flatten_nil];rfl
 ·try dsimp only
  unfold mD;rw[ï,List.take_length];have r:=s b.2.1.length;rw[List.take_length] at r
  have cl:∀i,i<=b.2.2.2.2.1.length->((b.2.2.2.2.1.take i).flatMap (Ą b)).length=2*i/\(((b.2.2.2.2.1.take i).mapIdx fun i _=>[((3:Int),(i:Int)),((3:Int),(i:Int))]).flatten).length=2*i:=by
   intro i
   induction i with
   |zero=>intro _; simp
   |succ i n =>
    intro hi;have n:=n (by omega);have a:b.2.2.2.2.1[i]?=some b.2.2.2.2.1[i]:=br hi;rw[mi _ a,take_succ a,eM,List.flatten_append,bz,bz];simp only[cn,List.flatMap_nil,bW,List.flatten_cons,List.flatten_nil,Ą,bJ,bZ];omega
  refine η b.2.2.2.2.1 (fun i=>(b.2.1.flatMap (ą b)++(b.2.2.2.2.1.take i).flatMap (Ą b),(b.2.1.mapIdx (Ŏ b)).flatten++((b.2.2.2.2.1.take i).mapIdx fun i _=>[((3:Int),(i:Int)),((3:Int),(i:Int))]).flatten)) _ (by simp) (fun i c hi u l=>?_) (fun l=>?_)
  ·try dsimp only
   unfold mB;have m:=List.mem_of_getElem? u;have D:=(gL c).1 (h.nums m);have ha:=Ĩ D.2.2.2.2.2.1;have hb:=Ĩ D.2.2.2.2.2.2;have W:=xN h m;have c1:=cl i (by omega);rw[Ø hi,Í u,kM (by omega) (by omega),À,Od _ _ _ (by dsimp only; omega),À,kM (by omega) (by omega),À,Od _ _ _ (by dsimp only; omega),À];rw[show mT ((b.1.1,b.1.2),b.2.1,b.2.2.1,b.2.2.2.1,b.2.2.2.2.1,b.2.2.2.2.2) c=mT b c from rfl,h.says m,À];rw[ë (by omega) (by omega),Ó (by simp only[List.length_append,List.length_cons,List.length_nil]; omega),Am.iff_true,Ó (by simp only[List.length_append,List.length_cons,List.length_nil]; omega),Am.iff_true,Ô hi (by omega),mi _ u,take_succ u,List.flatMap_append,List.flatten_append];simp only[List.flatMap_cons,List.flatMap_nil,List.append_nil,List.flatten_cons,List.flatten_nil,List.append_assoc,Int.zero_sub];rfl
  ·try dsimp only
   unfold mB;rw[ï,List.take_length];rfl
section
variable {ρ:Type}
def wv (w:AS Bool) (v:Int):Bool:=w[v.toNat]?.getD false
def H7 {w:AS Bool} {u v:Int} (e:0<=u) (d:0<=v) (h:u.toNat<w.length) (y:Bool):wv (w.set u.toNat y) v=if v=u then y else wv w v:=by
 unfold wv;rw[List.getElem?_set]
 by_cases a:v=u
 ·subst a; simp[h]
 ·have:¬u.toNat=v.toNat:=by omega
  simp[a,this]
def jk {x:AS Int} {v:Int} (h:v.toNat<x.length) (f:Int->AN ρ):Ω x v.toNat f=f (gv x v):=pk (FL h) f
def CU {w:AS Bool} {v:Int} (h:v.toNat<w.length) (f:Bool->AN ρ):Ω w v.toNat f=f (wv w v):=by
 refine pk ?_ f;unfold wv; rw[List.getElem?_eq_getElem h]; rfl
def im {v:Int} {n:Nat} (h0:0<=v) (a:v<n) (x:AN ρ):ì ((ile 0 v)&&(ilt v (n:Int))) x=x:=by
 have:((ile 0 v)&&(ilt v (n:Int)))=true:=by simp[ile,ilt,h0,a]
 rw[this,Am.iff_true]
end
def jt (n least:Int):AS Lk->AS Int->AS Bool->AS Int->Bool×AS Int×AS Bool×AS Int
 |[],x,w,q=>(true,x,w,q)
 |l::t,x,w,q =>
  if l.1≠n then jt n least t x w q else
  if gv x l.2.1<=gv x n+l.2.2 then jt n least t x w q else
  if gv x n+l.2.2<least then(false,x.set l.2.1.toNat (gv x n+l.2.2),w,q) else
  if wv w l.2.1 then jt n least t (x.set l.2.1.toNat (gv x n+l.2.2)) w q else jt n least t (x.set l.2.1.toNat (gv x n+l.2.2)) (w.set l.2.1.toNat true) (q++[l.2.1])
structure Ś (L:AS Lk) (N:Nat) (M:Int):Prop where
 inr:InR L N
 noloop:∀l∈L,l.1≠l.2.1
 most:∀l∈L,-M<=l.2.2/\l.2.2<=M
 len:L.length<=400
 nodes:N<=1000
 m0:0<=M
 m1:M<=4503599627370496
set_option maxHeartbeats 1000000 in
def PF {ρ:Type} {L:AS Lk} {N:Nat} {M:Int} (G:Ś L N M) {n least:Int} (R:0<=n/\n<N) {x:AS Int} {w:AS Bool} {q:AS Int} (hx:x.length=N) (hw:w.length=N) (hq:q.length<=1000000)
 (hb : -2305843009213693952<=gv x n/\gv x n<=2305843009213693952) (V:(Val (.pair .bool (.pair (.slice tI) (.pair (.slice .bool) (.slice tI)))))->AN ρ) (U:(Val (.pair (.slice tI) (.pair (.slice .bool) (.slice tI))))->AN ρ) :
 Ù (fun(e:(Val (.pair tI (.pair (.slice tI) (.pair (.slice .bool) (.slice tI)))))) E=>ů [] least n L (Û L) e.1 e.2.1 e.2.2.1 e.2.2.2 (fun P O K J=>E (P,O,K,J)) V U) ((0:Int),x,w,q) =
  match jt n least L x w q with
  |(true,r)=>U r
  |(false,r)=>V (false,r):=by
 have Y:=G.len
 refine I3 L (fun i (s:AS Int×AS Bool×AS Int) t=>match jt n least t s.1 s.2.1 s.2.2 with|(true,r)=>U r|(false,r)=>V (false,r))
  (fun i s=>s.1.length=N/\s.2.1.length=N/\gv s.1 n=gv x n/\s.2.2.length<=1000000+i) (fun s hs kn=>?_) (fun i l t s hd hi Z hI kn F=>?_) (s:=(x,w,q)) ⟨hx,hw,rfl,by simpa using hq⟩
 ·try dsimp only
  unfold ů;rw[ï];rfl
 ·obtain⟨y,u,p⟩:=s;obtain⟨H,h2,I,h4⟩:=hI;dsimp only at H h2 I h4 F ⊢;have a:l∈L:=List.mem_of_getElem? Z;have z:=G.inr l a;have hm:=G.most l a;have hm1:=G.m1;have Q:=G.noloop l a;unfold ů;rw[Ø hi,Í Z];unfold jt
  by_cases d:l.1=n
  ·have T:ine l.1 n=false:=by simp[ine,d]
   rw[á T];have e1:∀(f:Bool->AN ρ) (g:AN ρ),Gx (k:=tI) (v:=.bool) (i:Int) [] f g=g:=fun f g=>rfl;rw[e1,if_neg (by simp[d])]
   have X:n.toNat<y.length:=by omega
   have D:l.2.1.toNat<y.length:=by omega
   have W:l.2.1.toNat<u.length:=by omega
   rw[im R.1 (by omega),jk X,ë (by omega) (by omega),im z.2.1 (by omega),jk D,Ė]
   by_cases m:gv y l.2.1<=gv y n+l.2.2
   ·rw[if_pos (by simpa[ige] using m),if_pos m,Ô hi (by omega)];exact F (y,u,p) ⟨H,h2,I,by dsimp only; omega⟩
   ·rw[if_neg (by simpa[ige] using m),if_neg m]
    have o:gv (y.set l.2.1.toNat (gv y n+l.2.2)) n=gv x n:=by
     rw[oI z.2.1 R.1 D,if_neg (fun h=>Q (d.trans h)),I]
    have C:gv (y.set l.2.1.toNat (gv y n+l.2.2)) l.2.1=gv y n+l.2.2:=by
     rw[oI z.2.1 z.2.1 D,if_pos rfl]
    rw[im R.1 (by omega),jk X,ë (by omega) (by omega),im z.2.1 (by omega),jk D];rw[show(Č (List.set y l.2.1.toNat (gv y n+l.2.2)))=((y.length:Nat):Int) by simp[Č]];rw[im z.2.1 (by omega),jk (by simpa using D),C,Ė]
    by_cases j:gv y n+l.2.2<least
    ·rw[if_pos (by simpa[ilt] using j),if_pos j]
    ·rw[if_neg (by simpa[ilt] using j),if_neg j,im z.2.1 (by omega),CU W,Ė]
     cases hwv:wv u l.2.1 with
     |true =>
      rw[if_neg (by simp),if_pos rfl,Ô hi (by omega)];exact F (y.set l.2.1.toNat (gv y n+l.2.2),u,p) ⟨by simpa using H,h2,o,by dsimp only; omega⟩
     |false =>
      rw[if_pos (by simp),if_neg (by simp),Ó (by simp only[cj]; omega),Am.iff_true,im z.2.1 (by omega),CU W,Ô hi (by omega)];exact F (y.set l.2.1.toNat (gv y n+l.2.2),u.set l.2.1.toNat true,p++[l.2.1]) ⟨by simpa using H,by simpa using h2,o,by simp only[bz,cj]; omega⟩
  ·have T:ine l.1 n=true:=by simp[ine,d]
   rw[ø T,if_pos d,Ô hi (by omega)];exact F (y,u,p) ⟨H,h2,I,by dsimp only; omega⟩
structure Qr (N:Nat) (n least:Int) (L:AS Lk) (x:AS Int) (q:AS Int) (x':AS Int) (w':AS Bool) (q':AS Int):Prop where
 lx:x'.length=N
 lw:w'.length=N
 same:gv x' n=gv x n
 le:∀v:Int,0<=v->v<N->gv x' v<=gv x v
 link:∀v m,(n,v,m)∈L->gv x' v<=gv x n+m
 chg:∀v:Int,0<=v->v<N->gv x' v=gv x v\/(v∈q'/\gv x' v<gv x v/\∃m,(n,v,m)∈L/\gv x' v=gv x n+m/\least<=gv x' v)
 new:∃l,q'=q++l/\∀v∈l,(0<=v/\v<N)/\gv x' v<gv x v
 nodup:q'.Nodup
 waits:∀v:Int,0<=v->v<N->(wv w' v=true↔v∈q')
def fm {N:Nat} {n least:Int} (Q:0<=n/\n<N):∀{L:AS Lk},InR L N->(∀l∈L,l.1≠l.2.1)->∀{x:AS Int} {w:AS Bool} {q:AS Int},x.length=N->w.length=N->q.Nodup->(∀v:Int,0<=v->v<N->(wv w v=true↔v∈q)) ->
 ∀{D:AS Int} {w':AS Bool} {H:AS Int},jt n least L x w q=(true,D,w',H)->Qr N n least L x q D w' H
 |[],_,_,x,w,q,O,I,J,d,D,w',H,h=>by
  cases h;exact⟨O,I,rfl,fun _ _ _=>cF _,fun _ _ h=>(by cases h),fun _ _ _=>.inl rfl,⟨[],by simp,fun _ h=>by cases h⟩,J,d⟩
 |l::t,hL,P,x,w,q,O,I,J,d,D,w',H,h=>by
  have u:InR t N:=fun l hl=>hL l (by simp[hl]);have s:∀l∈t,l.1≠l.2.1:=fun l hl=>P l (by simp[hl]);have f:=hL l (by simp);have hl0:=P l (by simp);unfold jt at h
  split at h
  ·rename_i G;have a:=fm Q u s O I J d h
   exact⟨a.lx,a.lw,a.same,a.le,fun v m j=>by
    rcases bC.1 j with rfl|j
    ·exact(G rfl).elim
    ·exact a.link v m j,fun v h0 y=>(a.chg v h0 y).imp id fun⟨C,o,m,U,K⟩=>⟨C,o,m,by simp[U],K⟩,a.new,a.nodup,a.waits⟩
  ·rename_i G
   have T:l.1=n:=by simpa using G
   split at h
   ·rename_i hle;have a:=fm Q u s O I J d h
    exact⟨a.lx,a.lw,a.same,a.le,fun v m j=>by
     rcases bC.1 j with rfl|j
     ·have:=a.le v f.2.1 f.2.2; simp only at hle; omega
     ·exact a.link v m j,fun v h0 y=>(a.chg v h0 y).imp id fun⟨C,o,m,U,K⟩=>⟨C,o,m,by simp[U],K⟩,a.new,a.nodup,a.waits⟩
   ·rename_i hgt
    split at h
    ·cases h
    ·rename_i hls
     have tt:l.2.1.toNat<x.length:=by omega
     have tw:l.2.1.toNat<w.length:=by omega
     have hy:(x.set l.2.1.toNat (gv x n+l.2.2)).length=N:=by simpa using O
     have E:gv (x.set l.2.1.toNat (gv x n+l.2.2)) n=gv x n:=by
      rw[oI f.2.1 Q.1 tt,if_neg (fun h=>hl0 (T.trans h))]
     have i:∀v,0<=v->gv (x.set l.2.1.toNat (gv x n+l.2.2)) v=if v=l.2.1 then gv x n+l.2.2 else gv x v:=fun v h0=>oI f.2.1 h0 tt _
     have hlm:(n,l.2.1,l.2.2)∈l::t:=by rw[<-T]; simp
     -- what both ways have in common
     have fin:∀{w1:AS Bool} {V:AS Int},Qr N n least t (x.set l.2.1.toNat (gv x n+l.2.2)) V D w' H->l.2.1∈V->(∃W,V=q++W/\∀v∈W,v=l.2.1)->Qr N n least (l::t) x q D w' H:=by
      intro w1 V a R Y;obtain⟨new,z,Z⟩:=a.new;obtain⟨W,hl',hlv⟩:=Y
      have X:gv D l.2.1<=gv x n+l.2.2:=by
       have:=a.le l.2.1 f.2.1 f.2.2;rw[i _ f.2.1,if_pos rfl] at this;exact this
      refine⟨a.lx,a.lw,a.same.trans E,fun v h0 y=>?_,fun v m j=>?_,fun v h0 y=>?_,⟨W++new,by rw[z,hl',bM],fun v r=>?_⟩,a.nodup,a.waits⟩
      ·have:=a.le v h0 y;rw[i v h0] at this
       split at this
       ·rename_i e; subst e; omega
       ·exact this
      ·rcases bC.1 j with rfl|j
       ·exact X
       ·have:=a.link v m j
        rwa [E] at this
      ·rcases a.chg v h0 y with g|⟨C,o,m,U,K,g5⟩
       ·rw[i v h0] at g
        split at g
        ·rename_i e;subst e;exact .inr ⟨by rw[z]; exact b8 _ R,by omega,l.2.2,hlm,g,by omega⟩
        ·exact .inl g
       ·rw[i v h0] at o;rw[E] at K;refine .inr ⟨C,?_,m,by simp[U],K,g5⟩
        split at o
        ·rename_i e; subst e; omega
        ·exact o
      ·rcases bw.1 r with r|r
       ·rw[hlv v r]; exact⟨f.2,by omega⟩
       ·obtain⟨C,o⟩:=Z v r;rw[i v C.1] at o;refine⟨C,?_⟩
        split at o
        ·rename_i e; subst e; omega
        ·exact o
     split at h
     ·rename_i F;exact fin (w1:=w) (fm Q u s hy I J d h) ((d _ f.2.1 f.2.2).1 F) ⟨[],by simp,fun _ h=>by cases h⟩
     ·rename_i F;have hnq:l.2.1∉q:=fun hc=>F ((d _ f.2.1 f.2.2).2 hc);refine fin (w1:=w.set l.2.1.toNat true) (fm Q u s hy (by simpa using I) ?_ ?_ h) (by simp) ⟨[l.2.1],rfl,fun v r=>by simpa using r⟩
      ·rw[eQ];exact⟨J,by simp,fun a ha b hb=>by simp at hb; subst hb; exact fun e=>hnq (e▸ha)⟩
      ·intro v h0 y;rw[H7 f.2.1 h0 tw]
       by_cases r:v=l.2.1
       ·simp[r]
       ·simp only[r,if_false,bw,bE,or_false];exact d v h0 y
def gV {n least:Int}:∀{L:AS Lk},(∀l∈L,l.1≠l.2.1)->(∀l∈L,0<=l.2.1)->0<=n->∀{x:AS Int} {w:AS Bool} {q:AS Int} {r},jt n least L x w q=(false,r)->∃v m,(n,v,m)∈L/\gv x n+m<least
 |[],_,_,_,x,w,q,r,h=>by cases h
 |l::t,f,h0,i,x,w,q,r,h=>by
  have a:∀l∈t,l.1≠l.2.1:=fun l u=>f l (by simp[u]);have d:∀l∈t,0<=l.2.1:=fun l u=>h0 l (by simp[u]);have g:(∃v m,(n,v,m)∈t/\gv x n+m<least)->∃v m,(n,v,m)∈l::t/\gv x n+m<least:=fun⟨v,m,z,y⟩=>⟨v,m,by simp[z],y⟩;unfold jt at h
  split at h
  ·exact g (gV a d i h)
  ·rename_i j
   have s:l.1=n:=by simpa using j
   split at h
   ·exact g (gV a d i h)
   ·split at h
    ·rename_i o;exact⟨l.2.1,l.2.2,by rw[<-s]; simp,o⟩
    ·have e:gv (x.set l.2.1.toNat (gv x n+l.2.2)) n=gv x n:=by
      unfold gv;rw[List.getElem?_set];have C:=f l (by simp);have h2:=h0 l (by simp)
      have:¬l.2.1.toNat=n.toNat:=by omega
      simp[this]
     split at h
     ·have:=gV a d i h;rw[e] at this;exact g this
     ·have:=gV a d i h;rw[e] at this;exact g this
def IE {ρ:Type} {L:AS Lk} {N:Nat} {M:Int} (l:Ś L N M) {n least:Int} (d:0<=n/\n<N) {x:AS Int} {w:AS Bool} {t rest:AS Int} (o:x.length=N) (s:w.length=N) (F:t.length=N) (v:rest.length<=1000000)
 (hb : -2305843009213693952<=gv x n/\gv x n<=2305843009213693952) (u:0<=gv t n/\gv t n<=1000000) (j:AS Int->AS Bool->AS Int->AS Int->AN ρ) (i:(Val (.pair .bool (.pair (.slice tI) (.pair (.slice .bool) (.pair (.slice tI) (.slice tI))))))->AN ρ) :
 Ć [] least (N:Int) L x w t (n::rest) j i =
  if (N:Int)+1<gv t n+1 then i (false,x,w.set n.toNat false,t.set n.toNat (gv t n+1),rest) else
  match jt n least L x (w.set n.toNat false) rest with
  |(true,e,w',h)=>j e w' (t.set n.toNat (gv t n+1)) h
  |(false,e,w',h)=>i (false,e,w',t.set n.toNat (gv t n+1),h):=by
 have G:=l.nodes
 have E:n.toNat<x.length:=by omega
 have m:n.toNat<w.length:=by omega
 have g:n.toNat<t.length:=by omega
 unfold Ć
 have D:ieq (Û (n::rest)) 0=false:=by
  rw[Þ];simp only[ieq,bJ,beq_eq_false_iff_ne,ne_eq];omega
 have C:ilt (0:Int) (Č (n::rest))=true:=by simp[ilt,Č]
 have z:ile (1:Int) (Č (n::rest))=true:=by simp[ile,Č]; omega
 have y:decide (1+(List.length (n::rest)-1)=List.length (n::rest))=true:=by simp; omega
 rw[á D,lV C];rw[show Ω (n::rest) 0=fun(f:Int->AN ρ)=>f n from rfl]
 try dsimp only
 rw[lV z,lV y,im d.1 (by omega),CU m,im d.1 (by omega),jk g,ë (by omega) (by omega),im d.1 (by omega),jk g];rw[show(Č (List.set t n.toNat (gv t n+1)))=((t.length:Nat):Int) by simp[Č]];rw[im d.1 (by omega),jk (by simpa using g),oI d.1 d.1 g,if_pos rfl,ë (by omega) (by omega),Ė];rw[show List.drop 1 (n::rest)=rest from rfl]
 by_cases a:(N:Int)+1<gv t n+1
 ·rw[if_pos (by simpa[igt] using a),if_pos a]
 ·rw[if_neg (by simpa[igt] using a),if_neg a];rw[PF l d o (w:=w.set n.toNat false) (by simpa using s) v hb];generalize jt n least L x (w.set n.toNat false) rest=r;obtain⟨b,e,w',h⟩:=r
  cases b<;>rfl
def LY {ρ:Type} {L:AS Lk} {N:Int} {least:Int} {x:AS Int} {w:AS Bool} {t:AS Int} (d:AS Int->AS Bool->AS Int->AS Int->AN ρ) (a:(Val (.pair .bool (.pair (.slice tI) (.pair (.slice .bool) (.pair (.slice tI) (.slice tI))))))->AN ρ) :
 Ć [] least N L x w t [] d a=a (true,x,w,t,[]):=by
 unfold Ć
 have e:ieq (Û ([]:AS Int)) 0=true:=by rw[Þ]; rfl
 rw[ø e]
def Dg (N:Nat) (t:AS Int):Nat:=(t.map fun a=>((N:Int)+2-a).toNat).sum
def I5 (N:Nat):∀(t:AS Int) (i:Nat) (a b:Int),t[i]?=some a->a<b->a<(N:Int)+2->Dg N (t.set i b)<Dg N t
 |a0::t,0,a,b,h,d,h2=>by
  simp at h; subst h;simp only[Dg,List.set_cons_zero,cm,List.sum_cons];omega
 |a0::t,i+1,a,b,h,d,h2=>by
  have:=I5 N t i a b (by simpa using h) d h2;simp only[Dg] at this;simp only[Dg,List.set_cons_succ,cm,List.sum_cons];omega
def FC {N:Nat} {t:AS Int} {n:Int} (a:n.toNat<t.length) (h:gv t n<=(N:Int)+1):Dg N (t.set n.toNat (gv t n+1))<Dg N t :=
 I5 N t n.toNat (gv t n) _ (FL a) (by omega) (by omega)
structure Le (L:AS Lk) (S:Int->Prop) (N:Nat) (M:Int) (k:Nat) (A B:AS Int) (x:AS Int) (w:AS Bool) (t q:AS Int):Prop where
 q_eq:q=A++B
 lx:x.length=N
 lw:w.length=N
 lt:t.length=N
 nodup:q.Nodup
 rng:∀v∈q,0<=v/\v<N
 waits:∀v:Int,0<=v->v<N->(wv w v=true↔v∈q)
 t0:∀v:Int,0<=v->v<N->0<=gv t v/\gv t v<=(k:Int)+1
 tA:∀v∈A,gv t v<=k
 low:∀vs v d,Wl L S vs v d->vs.length<=k->gv x v<=d
 nxt:∀vs u d,Wl L S vs u d->vs.length<=k->u∉A->∀v m,(u,v,m)∈L->gv x v<=d+m
 rel:∀u:Int,0<=u->u<N->u∉q->gv x u≠fA->∀v m,(u,v,m)∈L->gv x v<=gv x u+m
 att:∀v:Int,0<=v->v<N->gv x v≠fA->∃vs,Wl L S vs v (gv x v)
 bd:∀v:Int,0<=v->v<N->gv x v=fA\/gv x v<=((k:Int)+1)*M
 bA:∀v∈A,gv x v<=(k:Int)*M
 fin:∀v∈q,gv x v<fA
 kN:k+1<=N
 last:k+1=N->B=[]
section
variable {L:AS Lk} {S:Int->Prop} {N:Nat} {M:Int} {p:Int->Int} {k:Nat} {A B x:AS Int} {w:AS Bool} {t q:AS Int}
def xl {a b:Nat} {M:Int} (h:a<=b) (d:0<=M):(a:Int)*M<=(b:Int)*M:=dv (by omega) d
def Wl.lt_free (a:Ś L N M) (g:N*M<fA) {vs:AS Int} {v d:Int} (e:Wl L S vs v d) (h:vs.length<=N):d<fA:=by
 have i:=e.high fun l f=>(a.most l f).2;have h2:=xl h a.m0;omega
def Le.next (s:Ś L N M) (r:N*M<fA) (D:∀v,S v->0<=v/\v<N) (h:Le L S N M k [] B x w t q) (F:B≠[]):Le L S N M (k+1) B [] x w t q:=by
 have E:=s.m0
 have j:q=B:=by simpa using h.q_eq
 have G:k+1≠N:=fun e=>F (h.last e);have C:=h.kN
 have a:∀vs v d,Wl L S vs v d->vs.length<=k+1->gv x v<=d:=by
  intro vs v d g o
  cases g with
  |nil z=>exact h.low [] v 0 (.nil z) (by simp)
  | @step vs u _ m d g i=>exact h.nxt vs u d g (by simpa using o) (by simp) v m i
 refine⟨by simp[j],h.lx,h.lw,h.lt,h.nodup,h.rng,h.waits,fun v h0 f=>⟨(h.t0 v h0 f).1,by have:=(h.t0 v h0 f).2; push_cast; omega⟩,fun v n=>?_,a,fun vs u d g o y v m i=>?_,h.rel,h.att,fun v h0 f=>?_,fun v n=>?_,h.fin,by omega,fun _=>rfl⟩
 ·have:=h.rng v (by rw[j]; exact n);have:=(h.t0 v this.1 this.2).2;push_cast; omega
 ·have f:=a vs u d g o;have h2:=g.lt_free s r (by omega);have l:=(g.range s.inr D).1;have:=h.rel u l.1 l.2 (by rw[j]; exact y) (by omega) v m i;omega
 ·rcases h.bd v h0 f with h2|h2
  ·exact .inl h2
  ·refine .inr ?_;have:=xl (show k+1<=k+1+1 by omega) E;push_cast at this ⊢;omega
 ·have f:=h.rng v (by rw[j]; exact n);have h2:=h.fin v (by rw[j]; exact n);rcases h.bd v f.1 f.2 with l|l
  ·omega
  ·push_cast; exact l
def Le.step {n:Int} {O:AS Int} {least:Int} {I:AS Int} {w':AS Bool} {q':AS Int} (G:Ś L N M) (hNM:N*M<fA) (hp:Pot L p) (hS:∀v,S v->0<=v/\v<N) (h:Le L S N M k (n::O) B x w t q)
 (ha:Qr N n least L x (O++B) I w' q'):∃B',Le L S N M k O B' I w' (t.set n.toNat (gv t n+1)) q':=by
 have hM:=G.m0
 have z:q=n::(O++B):=by simpa using h.q_eq
 have K:=h.kN;have s:=h.rng n (by rw[z]; simp);have hnf:=h.fin n (by rw[z]; simp)
 have V:n∉O++B:=by have:=h.nodup; rw[z,dw] at this; exact this.1
 have U:n.toNat<t.length:=by have:=h.lt; omega
 have C:∀v,0<=v->gv (t.set n.toNat (gv t n+1)) v=if v=n then gv t n+1 else gv t v:=fun v h0=>oI s.1 h0 U _
 have hkM:((k:Int)+1)*M<fA:=by
  have:=xl K hM;push_cast at this;omega
 have H:∀v:Int,0<=v->v<N->gv x v<=fA:=fun v h0 a=>by rcases h.bd v h0 a with h2|h2<;>omega
 obtain⟨l,Q,E⟩:=ha.new
 have D:∀v:Int,0<=v->v<N->gv I v≠fA->∃vs,Wl L S vs v (gv I v):=by
  intro v h0 a J;rcases ha.chg v h0 a with g|⟨_,_,m,Z,Y,_⟩
  ·rw[g] at J ⊢; exact h.att v h0 a J
  ·obtain⟨vs,y⟩:=h.att n s.1 s.2 (by omega);rw[Y]; exact⟨_,y.step Z⟩
 refine⟨B++l,by rw[Q,bM],ha.lx,ha.lw,by rw[cW]; exact h.lt,ha.nodup,fun v f=>?_,ha.waits,fun v h0 a=>?_,fun v f=>?_,fun vs v d y j=>?_,fun vs u d y j P v m i=>?_,
  fun u h0 a P hf v m i=>?_,D,fun v h0 a=>?_,fun v f=>?_,fun v f=>?_,K,fun hk=>?_⟩
 ·rw[Q] at f;rcases bw.1 f with f|f
  ·exact h.rng v (by rw[z]; simp only[bC]; exact .inr f)
  ·exact(E v f).1
 ·rw[C v h0];have h2:=h.t0 v h0 a
  split
  ·have h3:=h.tA n (by simp);have h4:=h.t0 n s.1 s.2;omega
  ·exact h2
 ·have a:=h.rng v (by rw[z]; simp[f]);rw[C v a.1,if_neg (fun e=>V (by rw[<-e]; simp[f]))];exact h.tA v (by simp[f])
 ·have a:=h.low vs v d y j;have h2:=(y.range G.inr hS).1;have:=ha.le v h2.1 h2.2;omega
 ·have o:=(G.inr _ i).2
  by_cases r:u=n
  ·subst r;have a:=ha.link v m i;have h2:=h.low vs u d y j;omega
  ·have a:=h.nxt vs u d y j (by simp[r,P]) v m i;have:=ha.le v o.1 o.2;omega
 ·have o:=(G.inr _ i).2
  have W:gv I u=gv x u:=by
   rcases ha.chg u h0 a with g|⟨g,_⟩
   ·exact g
   ·exact(P g).elim
  by_cases r:u=n
  ·subst r;have a:=ha.link v m i;omega
  ·have T:u∉q:=by
    rw[z];intro X;rcases bC.1 X with e|X
    ·exact r e
    ·exact P (by rw[Q]; exact b8 _ X)
   have h2:=h.rel u h0 a T (by rw[<-W]; exact hf) v m i;have:=ha.le v o.1 o.2;omega
 ·rcases ha.chg v h0 a with g|⟨_,_,m,Z,Y,_⟩
  ·rw[g]; exact h.bd v h0 a
  ·have h2:=h.bA n (by simp);have h3:=(G.most _ Z).2;simp only at h3;refine .inr ?_;rw[Y,eJ,eS];omega
 ·have a:=h.rng v (by rw[z]; simp[f]);have h2:=h.bA v (by simp[f]);have:=ha.le v a.1 a.2;omega
 ·rw[Q] at f;rcases bw.1 f with f|f
  ·have a:=h.rng v (by rw[z]; simp only[bC]; exact .inr f);have h2:=h.fin v (by rw[z]; simp only[bC]; exact .inr f);have:=ha.le v a.1 a.2;omega
  ·obtain⟨F,g2⟩:=E v f;have:=H v F.1 F.2;omega
 ·rw[h.last hk]
  cases l with
  |nil=>rfl
  |cons v l =>
   exfalso;obtain⟨F,g2⟩:=E v (by simp);have:=H v F.1 F.2;obtain⟨vs,y⟩:=D v F.1 F.2 (by omega);obtain⟨R,d',k1,k2,k3⟩:=y.simple hp;have k4:=k1.short G.inr hS k3;have:=h.low R v d' k1 (by omega);omega
def Le.done (f:Ś L N M) (n:N*M<fA) (D:Pot L p) (r:∀v,S v->0<=v/\v<N) (h:Le L S N M k A B x w t []):Lf L S N (gv x):=by
 have l:=h.kN;have F:=f.m0
 have E:((k:Int)+1)*M<fA:=by
  have:=xl l F;push_cast at this;omega
 have i:∀vs v d,Wl L S vs v d->vs.length+1<=N->gv x v<=d:=by
  intro vs v d a
  induction a with
  |nil C=>intro _; exact h.low [] _ 0 (.nil C) (by simp)
  | @step vs u v m d a j ih =>
   intro e;simp only[bJ] at e;have y:=ih (by omega);have h2:=a.lt_free f n (by omega);have s:=(a.range f.inr r).1;have:=h.rel u s.1 s.2 (by simp) (by omega) v m j;omega
 refine⟨h.att,fun v vs d a=>?_,fun v h0 y=>?_⟩
 ·obtain⟨g,G,o,H,z⟩:=a.simple D;have:=i g v G o (o.short f.inr r z);omega
 ·rcases h.bd v h0 y with h2|h2<;>omega
def Eb {ρ:Type} {r:AN ρ} (e:Ś L N M) (j:N*M<fA) (C:Pot L p) (P:∀v,S v->0<=v/\v<N) (R:(Val (.pair .bool (.pair (.slice tI) (.pair (.slice .bool) (.pair (.slice tI) (.slice tI))))))->AN ρ)
 (hK:∀x w t q,x.length=N->Lf L S N (gv x)->R (true,x,w,t,q)=r) (h:Le L S N M k A B x w t q) :
 Ù (fun(f:(Val (.pair (.slice tI) (.pair (.slice .bool) (.pair (.slice tI) (.slice tI)))))) u=>Ć [] (xj L) (N:Int) L f.1 f.2.1 f.2.2.1 f.2.2.2 (fun G F E D=>u (G,F,E,D)) R) (x,w,t,q)=r:=by
 refine fN (fun s:AS Int×AS Bool×AS Int×AS Int=>∃k A B,Le L S N M k A B s.1 s.2.1 s.2.2.1 s.2.2.2) (fun s=>Dg N s.2.2.1) ?_ ⟨k,A,B,h⟩;rintro⟨x,w,t,q⟩ ⟨k,A,B,h⟩;dsimp only at h ⊢;have hN:=e.nodes
 cases q with
 |nil=>exact .inl fun kn=>by rw[LY]; exact hK x w t [] h.lx (h.done e j C P)
 |cons n rest =>
  -- the phase in which the first one is
  have O:∃k o B,Le L S N M k (n::o) B x w t (n::rest):=by
   cases A with
   |nil =>
    have hB:B=n::rest:=by simpa using h.q_eq.symm
    subst hB;exact⟨k+1,rest,[],h.next e j P (by simp)⟩
   |cons a o =>
    have:=h.q_eq;simp only[cE,List.cons.injEq] at this;obtain⟨rfl,_⟩:=this;exact⟨k,o,B,h⟩
  clear h k A B;obtain⟨k,o,B,h⟩:=O
  have g:rest=o++B:=by have:=h.q_eq; simpa using this
  have d:=h.rng n (by simp);have hnf:=h.fin n (by simp);have hkN:=h.kN;have X:=h.tA n (by simp);have h2:=h.t0 n d.1 d.2;obtain⟨vs,T⟩:=h.att n d.1 d.2 (by omega);have V:=T.low' C
  have U : -(400*4503599627370496)<=xj L:=by
   have:∀z:AS Lk,(∀l∈z,-M<=l.2.2)->-((z.length:Int)*M)<=xj z:=by
    intro z
    induction z with
    |nil=>intro _; simp[xj,wI]
    |cons l t ih =>
     intro W;have i1:=ih fun l y=>W l (by simp[y]);have i2:=W l (by simp);have i3:=e.m0;unfold xj at i1 ⊢;simp only[wI,if_true,List.length_cons,Int.natCast_succ,Int.add_mul,Int.one_mul];omega
   have h3:=this L fun l y=>(e.most l y).1;have h4:(L.length:Int)*M<=400*4503599627370496:=dT (by have:=e.len; omega) e.m1 e.m0 (by omega);omega
  have J:rest.length<=1000000:=by
   have:=Iw N (n::rest) h.nodup h.rng;simp only[bJ] at this;omega
  refine .inr ?_
  have H:(w.set n.toNat false).length=N:=by rw[cW]; exact h.lw
  cases K:jt n (xj L) L x (w.set n.toNat false) rest with
  |mk b Z =>
  obtain⟨Y,w',q'⟩:=Z
  cases b with
  |false =>
   exfalso;obtain⟨v,m,g1,g2⟩:=gV e.noloop (fun l y=>(e.inr l y).2.1) d.1 K;have:=(T.step g1).low' C;omega
  |true =>
   have i:=h.nodup;rw[dw] at i
   have ha:=fm d e.inr e.noloop h.lx H i.2 (fun v h0 X=>by
    rw[H7 d.1 h0 (by have:=h.lw; omega)]
    by_cases I:v=n
    ·subst I; simp[i.1]
    ·rw[if_neg I,h.waits v h0 X]
     simp[I]) K
   rw[g] at ha;obtain⟨B',Q⟩:=h.step e j C P ha;refine⟨(Y,w',t.set n.toNat (gv t n+1),q'),⟨k,o,B',Q⟩,FC (by have:=h.lt; omega) (by omega),fun kn=>?_⟩;have hF:fA=1152921504606846976:=rfl
   rw[IE e d h.lx h.lw h.lt J (by constructor<;>omega) (by constructor<;>omega),if_neg (by omega),K]
end
def ye (f:Lk->Bool):∀(L a:AS Lk),wI f (L++a)=wI f L+wI f a
 |[],a=>by simp[wI]
 |l::t,a=>by
  simp only[cE,wI,ye f t a];omega
def EO {L:AS Lk} {i:Nat} {l:Lk} (h:L[i]?=some l):xj (L.take (i+1))=xj (L.take i)+min l.2.2 0:=by
 rw[take_succ h,xj,xj,ye];simp[wI]
def imin0 (e:Int):Lc e 0=min e 0:=by
 unfold Lc
 split<;>omega
def CV {L:AS Lk} {M:Int} (h:∀l∈L,-M<=l.2.2) (g:0<=M) : -((L.length:Int)*M)<=xj L:=by
 induction L with
 |nil=>simp[xj,wI]
 |cons l t a =>
  have d:=a fun l e=>h l (by simp[e]);have f:=h l (by simp);unfold xj at d ⊢;simp only[wI,if_true,List.length_cons,Int.natCast_succ,Int.add_mul,Int.one_mul];omega
def Rm (L:AS Lk):xj L<=0:=mf _ L
section
variable {ρ:Type} {L:AS Lk} {N:Nat} {M:Int}
def I6 (f:Ś L N M) (n:Int->AN ρ):Ù (fun(a:a7) d=>Ō L (Û L) a.1 a.2 (fun m g=>d (m,g)) n) ((0:Int),(0:Int))=n (xj L):=by
 refine fN (fun x:Int×Int=>∃i:Nat,i<=L.length/\x=(xj (L.take i),(i:Int))) (fun x=>L.length-x.2.toNat) ?_ ⟨0,by omega,rfl⟩;rintro x ⟨i,hi,rfl⟩;have o:=f.len;rcases cd i L.length with h|h
 ·have e:L[i]?=some L[i]:=br h;refine .inr ⟨(xj (L.take (i+1)),(i:Int)+1),⟨i+1,h,by simp⟩,by simp; omega,fun r=>?_⟩
  try dsimp only
  unfold Ō
  have hb:∀j,j<=L.length->-(400*4503599627370496)<=xj (L.take j):=by
   intro j u;have s:=CV (L:=L.take j) (fun l e=>(f.most l (eG e)).1) f.m0;have h2:((L.take j).length:Int)*M<=400*4503599627370496:=dT (by rw[bU]; omega) f.m1 f.m0 (by omega);omega
  have s:=hb i hi;have h2:=hb (i+1) h;have v:=Rm (L.take i);rw[EO e] at h2;rw[Ø h,Í e,imin0,ë (by omega) (by omega),Ô h (by omega),EO e]
 ·refine .inl fun r=>?_
  have:i=L.length:=by omega
  subst this
  try dsimp only
  unfold Ō;rw[ï,List.take_length]
def Lx {x:AS Int} (Q:x.length=N) (R:N<=1000) {r:AN ρ} (J:(Val (.pair (.slice .bool) (.slice tI)))->AN ρ)
 (O:∀(w:AS Bool) (q:AS Int),w.length=N->q.Nodup->(∀v∈q,0<=v/\v<N)->(∀v:Int,0<=v->v<N->(wv w v=true↔v∈q))->(∀v:Int,0<=v->v<N->(v∈q↔gv x v≠fA))->J (w,q)=r) :
 Ù (fun(j:(Val (.pair tI (.pair (.slice .bool) (.slice tI))))) n=>ġ (N:Int) x j.1 j.2.1 j.2.2 (fun G F E=>n (G,F,E)) J) ((0:Int),(List.replicate N false),([]:AS Int))=r:=by
 refine fN (fun s:Int×AS Bool×AS Int=>∃i:Nat,i<=N/\s.1=i/\s.2.1.length=N/\s.2.2.Nodup/\s.2.2.length<=i/\(∀v∈s.2.2,0<=v/\v<i)/\(∀v:Int,0<=v->v<N->(wv s.2.1 v=true↔v∈s.2.2))/\(∀v:Int,0<=v->v<i->(v∈s.2.2↔gv x v≠fA))) (fun s=>N-s.1.toNat) ?_
  ⟨0,by omega,rfl,by simp,by simp,by simp,by simp,fun v h0 f=>?_,fun v h0 f=>by omega⟩
 ·rintro⟨s,w,q⟩ ⟨i,hi,f,h2,D,P,m,C,z⟩;simp only at f h2 D P m C z;subst f;rcases cd i N with h|h
  ·refine .inr ?_
   have g:i<x.length:=by omega
   have l:i<w.length:=by omega
   have o:((i:Int))∉q:=fun K=>by have:=(m _ K).2; omega
   by_cases y:gv x i=fA
   ·refine⟨((i:Int)+1,w,q),⟨i+1,h,by simp,h2,D,by simp only; omega,fun v d=>⟨(m v d).1,by have:=(m v d).2; push_cast; omega⟩,C,fun v h0 f=>?_⟩,by simp; omega,fun I=>?_⟩
    ·by_cases d:v=i
     ·subst d; simp[y,o]
     ·exact z v h0 (by push_cast at f; omega)
    ·try dsimp only
     unfold ġ
     have e:ilt (i:Int) (N:Int)=true:=by simp[ilt,h]
     rw[ø e,fP g,jk (by simpa using g)]
     have H:ine (gv x i) 1152921504606846976=false:=by simp[ine,y]
     rw[á H,Ô h (by omega)]
   ·refine⟨((i:Int)+1,w.set i true,q++[(i:Int)]),⟨i+1,h,by simp,by simpa using h2,?_,by simp; omega,fun v d=>?_,fun v h0 f=>?_,fun v h0 f=>?_⟩,by simp; omega,fun I=>?_⟩
    ·rw[eQ];exact⟨D,by simp,fun a ha b hb=>by simp at hb; subst hb; exact fun e=>o (e▸ha)⟩
    ·rcases bw.1 d with d|d
     ·exact⟨(m v d).1,by have:=(m v d).2; push_cast; omega⟩
     ·simp at d; subst d; push_cast; omega
    ·have:=H7 (w:=w) (u:=(i:Int)) (by omega) h0 (by simpa using l) true;rw[bN] at this;show wv (w.set i true) v=true↔v∈q++[(i:Int)];rw[this]
     by_cases d:v=i
     ·simp[d]
     ·simp only[d,if_false,bw,bE,or_false];exact C v h0 f
    ·show v∈q++[(i:Int)]↔_
     by_cases d:v=i
     ·subst d; simp[y]
     ·simp only[bw,bE,d,or_false];exact z v h0 (by push_cast at f; omega)
    ·try dsimp only
     unfold ġ
     have e:ilt (i:Int) (N:Int)=true:=by simp[ilt,h]
     rw[ø e,fP g,jk (by simpa using g)]
     have H:ine (gv x i) 1152921504606846976=true:=by simp[ine,y]
     rw[ø H,Ó (by simp only[cj]; omega),Am.iff_true,fP l,CU (by simpa using l),Ô h (by omega),bN]
  ·refine .inl fun I=>?_
   have:i=N:=by omega
   subst this
   try dsimp only
   unfold ġ
   have e:ilt (i:Int) (i:Int)=false:=by simp[ilt]
   rw[á e];exact O w q h2 D m C z
 ·have:wv (List.replicate N false) v=false:=by
   unfold wv;rw[List.getElem?_replicate]
   split<;>rfl
  simp[this]
def A9 (E:Ś L N M) (F:1<=N) {S:Int->Bool} (z:∀v,S v=true->0<=v/\v<N) {w:AS Bool} {q:AS Int} (h:w.length=N) (C:q.Nodup) (i:∀v∈q,0<=v/\v<N) (l:∀v:Int,0<=v->v<N->(wv w v=true↔v∈q)) (o:∀v:Int,0<=v->v<N->(v∈q↔gv (start S N) v≠fA)) :
 Le L (fun v=>S v=true) N M 0 q [] (start S N) w (List.replicate N 0) q:=by
 have y:∀v:Int,0<=v->v<N->gv (List.replicate N (0:Int)) v=0:=by
  intro v h0 a;unfold gv;rw[List.getElem?_replicate]
  split<;>rfl
 have j:∀v:Int,0<=v->v<N->(v∈q↔S v=true):=by
  intro v h0 a;rw[o v h0 a,Ŧ S h0 a]
  cases S v<;>simp[fA]
 have D:=E.m0;refine⟨by simp,í S N,h,by simp,C,i,l,fun v h0 a=>?_,fun v f=>?_,fun vs v d h s=>?_,fun vs u d h s n v m r=>?_,fun u h0 a n g v m r=>?_,fun v h0 a g=>?_,fun v h0 a=>?_,fun v f=>?_,fun v f=>?_,by omega,fun _=>rfl⟩
 ·rw[y v h0 a]; omega
 ·have:=i v f;rw[y v this.1 this.2]; omega
 ·cases h with
  |nil e =>
   have:=z v e;rw[Ŧ S this.1 this.2,if_pos e]; omega
  |step=>simp at s
 ·cases h with
  |nil e =>
   have:=z u e;exact(n ((j u this.1 this.2).2 e)).elim
  |step=>simp at s
 ·rw[Ŧ S h0 a] at g;have:=mt (j u h0 a).2 n;rw[if_neg this] at g;exact(g rfl).elim
 ·rw[Ŧ S h0 a] at g ⊢
  split at g
  ·rename_i e;rw[if_pos e]; exact⟨[],.nil e⟩
  ·exact(g rfl).elim
 ·rw[Ŧ S h0 a]
  split
  ·exact .inr (by simp[D])
  ·exact .inl rfl
 ·have a:=i v f;rw[Ŧ S a.1 a.2,if_pos ((j v a.1 a.2).1 f)]; simp
 ·have a:=i v f;rw[Ŧ S a.1 a.2,if_pos ((j v a.1 a.2).1 f)]; simp[fA]
structure Bad (L:AS Lk) (N:Nat) (x:AS Int) (w:AS Bool) (t q:AS Int):Prop where
 lx:x.length=N
 lw:w.length=N
 lt:t.length=N
 nodup:q.Nodup
 rng:∀v∈q,0<=v/\v<N
 waits:∀v:Int,0<=v->v<N->(wv w v=true↔v∈q)
 t0:∀v:Int,0<=v->v<N->0<=gv t v/\gv t v<=(N:Int)+1
 bd:∀v:Int,0<=v->v<N->-2305843009213693952<=gv x v/\gv x v<=0
 rel:∀u:Int,0<=u->u<N->u∉q->∀v m,(u,v,m)∈L->gv x v<=gv x u+m
def OU {r:AN ρ} {x:AS Int} {w:AS Bool} {t q:AS Int} (d:Ś L N M) (hp:¬∃p,Pot L p) (Q:(Val (.pair .bool (.pair (.slice tI) (.pair (.slice .bool) (.pair (.slice tI) (.slice tI))))))->AN ρ)
 (hK:∀x w t q,Q (false,x,w,t,q)=r) (h:Bad L N x w t q) :
 Ù (fun(o:(Val (.pair (.slice tI) (.pair (.slice .bool) (.pair (.slice tI) (.slice tI)))))) E=>Ć [] (xj L) (N:Int) L o.1 o.2.1 o.2.2.1 o.2.2.2 (fun P O K J=>E (P,O,K,J)) Q) (x,w,t,q)=r:=by
 refine fN (fun s:AS Int×AS Bool×AS Int×AS Int=>Bad L N s.1 s.2.1 s.2.2.1 s.2.2.2) (fun s=>Dg N s.2.2.1) ?_ h;rintro⟨x,w,t,q⟩ h;dsimp only at h ⊢;have hN:=d.nodes
 cases q with
 |nil =>
  exfalso;exact hp ⟨gv x,fun u v m y=>h.rel u (d.inr _ y).1.1 (d.inr _ y).1.2 (by simp) v m y⟩
 |cons n rest =>
  have a:=h.rng n (by simp);have hb:=h.bd n a.1 a.2;have ht:=h.t0 n a.1 a.2
  have V:rest.length<=1000000:=by
   have:=Iw N (n::rest) h.nodup h.rng;simp only[bJ] at this;omega
  have i:=fun(I:AS Int->AS Bool->AS Int->AS Int->AN ρ)=>IE (ρ:=ρ) d (least:=xj L) a h.lx h.lw h.lt V ⟨hb.1,by omega⟩ ⟨ht.1,by omega⟩ I Q
  by_cases C:(N:Int)+1<gv t n+1
  ·exact .inl fun I=>by rw[i,if_pos C]; exact hK _ _ _ _
  ·have R:(w.set n.toNat false).length=N:=by rw[cW]; exact h.lw
   cases W:jt n (xj L) L x (w.set n.toNat false) rest with
   |mk b r' =>
   obtain⟨Z,w',q'⟩:=r'
   cases b with
   |false=>exact .inl fun I=>by rw[i,if_neg C,W]; exact hK _ _ _ _
   |true =>
    have z:=h.nodup;rw[dw] at z
    have H:n.toNat<t.length:=by have:=h.lt; omega
    have ha:=fm a d.inr d.noloop h.lx R z.2 (fun v h0 j=>by
     rw[H7 a.1 h0 (by have:=h.lw; omega)]
     by_cases f:v=n
     ·subst f; simp[z.1]
     ·rw[if_neg f,h.waits v h0 j]
      simp[f]) W
    obtain⟨l,y,X⟩:=ha.new;refine .inr ⟨(Z,w',t.set n.toNat (gv t n+1),q'),⟨ha.lx,ha.lw,by rw[cW]; exact h.lt,ha.nodup,fun v f=>?_,ha.waits,fun v h0 j=>?_,fun v h0 j=>?_,fun u h0 j U v m D=>?_⟩,FC H (by omega),fun I=>by rw[i,if_neg C,W]⟩
    ·dsimp only at f;rw[y] at f;rcases List.mem_append.1 f with f|f
     ·exact h.rng v (by simp[f])
     ·exact(X v f).1
    ·try dsimp only
     rw[oI a.1 h0 H];have:=h.t0 v h0 j
     split<;>omega
    ·try dsimp only
     have h2:=h.bd v h0 j;rcases ha.chg v h0 j with g|⟨_,g2,m,g3,g4,g5⟩
     ·rw[g]; exact h2
     ·have h3:=CV (L:=L) (fun l y=>(d.most l y).1) d.m0;have h4:(L.length:Int)*M<=400*4503599627370496:=dT (by have:=d.len; omega) d.m1 d.m0 (by omega);omega
    ·dsimp only at U ⊢;have F:=(d.inr _ D).2
     have heq:gv Z u=gv x u:=by
      rcases ha.chg u h0 j with g|⟨g,_⟩
      ·exact g
      ·exact(U g).elim
     by_cases G:u=n
     ·subst G;have j:=ha.link v m D;omega
     ·have T:u∉n::rest:=by
       intro Y;rcases bC.1 Y with e|Y
       ·exact G e
       ·exact U (by rw[y]; exact b8 _ Y)
      have h2:=h.rel u h0 j T v m D;have:=ha.le v F.1 F.2;omega
end
def Ld (N:Nat) (v:Int):Bool:=decide (0<=v)&&decide (v<(N:Int))
def L9 (s:Int) (v:Int):Bool:=v==s
def D9 (N:Nat):start (Ld N) N=List.replicate N 0:=by
 refine Ja (by simp[í]) fun v h0 a=>?_;rw[í] at a;rw[Ŧ _ h0 a]
 have:Ld N v=true:=by simp[Ld,h0,a]
 rw[if_pos this];unfold gv;rw[List.getElem?_replicate]
 split<;>rfl
def ŧ (L:AS Lk) (N:Nat):AS Int:=fC L N (start (Ld N) N)
def Œ (L:AS Lk) (N:Nat):Bool:=decide (wF L (ŧ L N)=ŧ L N)
def kS (L:AS Lk) (N:Nat) (s:Int):AS Int:=fC L N (start (L9 s) N)
section
variable {L:AS Lk} {N:Nat} {M:Int}
def Pl (a:Ś L N M) (d:N<=200):N*M<fA:=by
 have:(N:Int)*M<=200*4503599627370496:=Int.mul_le_mul (by omega) a.m1 a.m0 (by omega);unfold fA;omega
def uG {p:Int->Int} (a:Ś L N M) (f:N<=200) (d:Pot L p):Lf L (fun v=>Ld N v=true) N (gv (ŧ L N)) :=
 xT d a.inr (fun v h=>by simpa[Ld] using h) (fun l e=>(a.most l e).2) a.m0 (Pl a f) N (by omega)
def gD {p:Int->Int} (a:Ś L N M) (g:N<=200) (e:Pot L p) {s:Int} (d:0<=s/\s<N):Lf L (fun v=>L9 s v=true) N (gv (kS L N s)) :=
 xT e a.inr (fun v h=>by simp[L9] at h; subst h; exact d) (fun l f=>(a.most l f).2) a.m0 (Pl a g) N (by omega)
def Ez:∀{L:AS Lk} {x:AS Int},(∀u v m,(u,v,m)∈L->gv x u<fA->gv x v<=gv x u+m)->wF L x=x
 |[],x,_=>rfl
 |l::t,x,h=>by
  have e:fW x l=x:=by
   unfold fW
   split
   ·rename_i d;have:=h l.1 l.2.1 l.2.2 (by simp) d.1;omega
   ·rfl
  show wF t (fW x l)=x;rw[e];exact Ez fun u v m a=>h u v m (by simp[a])
def ŝ (a:Ś L N M) (j:N<=200):Œ L N=true↔∃p,Pot L p:=by
 unfold Œ;rw[decide_eq_true_eq]
 have e:∀v:Int,0<=v->v<N->gv (ŧ L N) v<=0:=by
  intro v h0 g;have:=sg a.inr N (í (Ld N) N) v h0;rw[Ŧ _ h0 g,if_pos (by simp[Ld,h0,g])] at this;exact this
 constructor
 ·intro h;refine⟨gv (ŧ L N),fun u v m d=>?_⟩;have f:=(a.inr _ d).1;have:=uN a.inr (x:=ŧ L N) (by unfold ŧ; rw[ĩ,í]) u v m d (by have:=e u f.1 f.2; unfold fA; omega)
  rwa [h] at this
 ·rintro⟨p,i⟩;have hd:=uG a j i;exact Ez fun u v m d l=>hd.pot a.inr d (by omega)
end
section
variable {ρ:Type} {L:AS Lk} {N:Nat} {M:Int}
def tT (a:N<=1000) (x:AN ρ):ì ((ile (0:Int) (N:Int))&&(ã (Int.toNat (N:Int)))) x=x:=by
 rw[bN,Ó (by omega)]
 have:((ile (0:Int) (N:Int))&&true)=true:=by simp[ile]
 rw[this,Am.iff_true]
def GV (f:Ś L N M) (W:1<=N) (s:N<=200) (j:(Val (.pair .bool (.pair (.slice tI) (.pair (.slice .bool) (.pair (.slice tI) (.slice tI))))))->AN ρ) {rT rF:AN ρ}
 (U:Œ L N=true->∀w t q,j (true,ŧ L N,w,t,q)=rT) (V:∀x w t q,j (false,x,w,t,q)=rF) :
 (Ù (fun(e:(Val (.pair tI (.pair (.slice .bool) (.slice tI))))) g=>ġ (N:Int) (List.replicate N (0:Int)) e.1 e.2.1 e.2.2 (fun C z y=>g (C,z,y)) (fun I=>Ù (fun(d:(Val (.pair (.slice tI) (.pair (.slice .bool) (.pair (.slice tI) (.slice tI)))))) i=>Ć [] (xj L) (N:Int) L d.1 d.2.1 d.2.2.1 d.2.2.2 (fun G F E D=>i (G,F,E,D)) j) ((List.replicate N (0:Int)),I.1,(List.replicate N (0:Int)),I.2))) ((0:Int),(List.replicate N false),([]:AS Int)))=if Œ L N then rT else rF:=by
 refine Lx (by simp) (by omega) _ fun w q J P O l n=>?_
 try dsimp only
 have Q:∀v,Ld N v=true->0<=v/\v<N:=fun v h=>by simpa[Ld] using h
 by_cases o:Œ L N=true
 ·rw[if_pos o];obtain⟨p,r⟩:=(ŝ f s).1 o;have K:=A9 f W Q J P O l (fun v a b=>by rw[D9]; exact n v a b);rw[D9] at K;refine Eb f (Pl f s) r Q j (fun x w t q R hd=>?_) K
  have:x=ŧ L N:=by
   refine Ja (by rw[R]; unfold ŧ; rw[ĩ,í]) fun v a b=>?_;exact hd.uniq (uG f s r) a (by omega)
  rw[this]; exact U o w t q
 ·rw[if_neg o];refine OU f (fun r=>o ((ŝ f s).2 r)) j V ?_
  have H:∀v,gv (List.replicate N (0:Int)) v=0:=by
   intro v;unfold gv;rw[List.getElem?_replicate]
   split<;>rfl
  refine⟨by simp,J,by simp,P,O,l,fun v a b=>?_,fun v a b=>?_,fun u a b T v m X=>?_⟩
  ·rw[H]; omega
  ·rw[H]; omega
  ·exact(T ((n u a b).2 (by rw[H]; unfold fA; omega))).elim
end
def shift_ok {ρ:Type} {x:AS Int} (f:Int) (u:x.length<=1000) (v : -2305843009213693952<=f/\f<=2305843009213693952) (hb:∀a∈x,-2305843009213693952<=a/\a<=2305843009213693952) (m:AS Int->AN ρ) :
 Ù (fun(e:rd) g=>Ů f (Û x) e.1 e.2 (fun l j=>g (l,j)) m) ((0:Int),x)=m (x.map fun a=>a-f):=by
 refine η x (fun i=>(x.take i).map (fun a=>a-f)++x.drop i) _ (by simp) (fun i a hi ha o=>?_) (fun o=>?_)
 ·try dsimp only
  unfold Ů
  have n:((x.take i).map (fun a=>a-f)++x.drop i).length=x.length:=by simp; omega
  have d:((x.take i).map (fun a=>a-f)++x.drop i)[i]?=some a:=by
   rw[List.getElem?_append_right (by simp; omega)];simp only[cw,bU,dc];rw[<-ha]; congr 1; omega
  have h:i<((x.take i).map (fun a=>a-f)++x.drop i).length:=by omega
  have r:=hb a (bI ha);rw[Ø hi,fP h,Ţ d,ë (by omega) (by omega),fP h,Ţ d,Ô hi (by omega),bN,take_succ ha];congr 2;rw[cI hi,fh,bM,List.set_append_right _ _ (by simp; omega)]
  have:i-(List.map (fun a=>a-f) (List.take i x)).length=0:=by simp; omega
  rw[this]
  have s:x[i]=a:=by rw[br hi] at ha; simpa using ha
  simp[s]
 ·try dsimp only
  unfold Ů;rw[ï];simp
section
variable {L:AS Lk} {N:Nat} {M:Int}
def OX (d:Ś L N M) (j:N<=200) (n:Œ L N=true):∀a∈ŧ L N,-2305843009213693952<=a/\a<=0:=by
 obtain⟨p,f⟩:=(ŝ d j).1 n;have hd:=uG d j f;intro a ha;obtain⟨i,hi,rfl⟩:=bK.1 ha
 have g:(ŧ L N).length=N:=by unfold ŧ; rw[ĩ,í]
 have h0:gv (ŧ L N) i=(ŧ L N)[i]:=by unfold gv; simp[hi]
 have e:=sg d.inr N (í (Ld N) N) (i:Int) (by omega);rw[Ŧ _ (by omega) (by omega),if_pos (by simp[Ld]; omega)] at e;have h:gv (ŧ L N) i<=0:=e;obtain⟨vs,m⟩:=hd.att i (by omega) (by omega) (by unfold fA; omega);have u:=m.low' f;have s:=CV (L:=L) (fun l o=>(d.most l o).1) d.m0;have r:(L.length:Int)*M<=400*4503599627370496:=Int.mul_le_mul (by have:=d.len; omega) d.m1 d.m0 (by omega);omega
def solP (L:AS Lk) (N:Nat):AS Int:=(ŧ L N).map fun a=>a-gv (ŧ L N) 0
def GK (d:Ś L N M) (j:1<=N) (g:N<=200):kz ((N:Int),L) []=some (if Œ L N then(solP L N,true) else([],false)):=by
 unfold kz oj
 try dsimp only
 rw[tT (by omega),tT (by omega),tT (by omega),bN];refine dg (I6 d _) ?_;refine dg (GV d j g _ (rT:=some (solP L N,true)) (rF:=some ([],false)) (fun h w t q=>?_) (fun x w t q=>?_)) ?_
 ·try dsimp only
  have e:(ŧ L N).length=N:=by unfold ŧ; rw[ĩ,í]
  have hb:=OX d g h;have h0:ilt (0:Int) (Č (ŧ L N))=true:=decide_eq_true (show(0:Int)<((ŧ L N).length:Int) by omega);have f:(ŧ L N)[0]?=some (gv (ŧ L N) 0):=FL (v:=0) (show 0<_ by omega);have i:=hb _ (bI f);rw[show(!true)=false from rfl,õ,lV h0,pk f];exact shift_ok _ (by omega) ⟨i.1,by omega⟩ (fun a ha=>⟨(hb a ha).1,by have:=(hb a ha).2; omega⟩) _
 ·rfl
 ·cases Œ L N<;>rfl
structure jJ (L:AS Lk) (N:Nat):Prop where
 n1:1<=N
 n60:N<=60
 len:L.length<=300
 inr:InR L N
 noloop:∀l∈L,l.1≠l.2.1
 most:∀l∈L,-4503599627370496<=l.2.2/\l.2.2<=4503599627370496
def jJ.links (h:jJ L N):Ś L N 4503599627370496 :=
 ⟨h.inr,h.noloop,h.most,by have:=h.len; omega,by have:=h.n60; omega,by omega,by omega⟩
def jJ.sub {e:AS Lk} (h:jJ L N) (d:∀l∈e,l∈L) (f:e.length<=L.length):jJ e N :=
 ⟨h.n1,h.n60,by have:=h.len; omega,fun l a=>h.inr l (d l a),fun l a=>h.noloop l (d l a),fun l a=>h.most l (d l a)⟩
def G9 (n:Int) (L:AS Lk) (v:Int):pB (n,L) v=some (decide (0<=v)&&decide (v<n)):=by
 unfold pB II ige
 by_cases h:0<=v
 ·have:decide (v>=0)=true:=by simpa using h
  rw[ø this]; simp[h]
 ·have:decide (v>=0)=false:=by simpa using h
  rw[á this]; simp[h]
def uA (h:jJ L N):oM ((N:Int),L)=some (0,-1):=by
 have n:=h.n1;have h2:=h.n60;have m:=h.len;unfold oM E2
 try dsimp only
 rw[á (by simp[ilt]; omega),á (by simp[igt]; omega),á (by rw[Þ]; simp[igt]; omega)];refine dg (fO L (fun _=>false) (fun i=>some (1,i)) (some (0,-1)) (fun i l hi e f=>?_) (fun f=>?_)) ?_
 ·try dsimp only
  unfold jY;have d:=List.mem_of_getElem? e;have a:=h.inr l d;have b:=h.noloop l d;have c:=h.most l d
  have j:(decide (0<=l.1)&&decide (l.1<(N:Int)))=true:=by simp[a.1.1,a.1.2]
  have g:(decide (0<=l.2.1)&&decide (l.2.1<(N:Int)))=true:=by simp[a.2.1,a.2.2]
  rw[Ø hi,Í e,G9,À,j,G9,À,g];simp only[cO,õ,bO,if_false];rw[á (by simp[ieq,b]),á (by simp[ilt]; omega),á (by simp[igt]; omega),Ô hi (by omega)]
 ·try dsimp only
  unfold jY;rw[ï]
 ·rw[cH.2 (by simp)]
def Dk {ρ:Type} {x:AS Int} {v:Int} (h0:0<=v) (h:v.toNat<x.length) (f:Int->AN ρ):Ę x v f=f (gv x v):=by
 obtain⟨i,rfl⟩:=dG h0;exact Í (FL h) f
def Hz (L:AS Lk) (x:AS Int):Bool:=L.all fun l=>decide (gv x l.2.1<=gv x l.1+l.2.2)
def Gs (h:jJ L N) {x:AS Int} (C:x.length=N) (hb:∀a∈x,-fA<=a/\a<=fA):xx ((N:Int),L) x=some (Hz L x&&gv x 0==0,0):=by
 have E:=h.n1;have h2:=h.n60;have D:=h.len;unfold xx IJ;rw[uA h,À]
 try dsimp only
 rw[á (by rfl),á (by rw[Þ,C]; simp[ine])]
 have d:Ù (fun(m:Int) f=>gi x L (Û L) m (fun n=>f n) (fun e=>some (e.1,e.2)) (fun _=>Ę x (0:Int) fun s=>some (ieq s (0:Int),(0:Int)))) (0:Int)=some (Hz L x&&gv x 0==0,0):=by
  refine dg (ζ L (fun l=>!decide (gv x l.2.1<=gv x l.1+l.2.2)) (fun _=>some (false,0)) (some (false,0)) (some (gv x 0==0,0)) (fun _=>rfl) (fun i l hi v o=>?_) (fun o=>?_)) ?_
  ·try dsimp only
   unfold gi;have u:=List.mem_of_getElem? v;have a:=h.inr l u;have c:=h.most l u
   have y:l.1.toNat<x.length:=by omega
   have r:=hb _ (List.mem_of_getElem? (FL y));unfold fA at r;rw[Ø hi,Í v,Dk a.2.1 (by omega),Dk a.1.1 y,ë (by omega) (by omega),Ô hi (by omega),Ė]
   by_cases g:gv x l.2.1<=gv x l.1+l.2.2
   ·rw[if_neg (by simp[igt]; omega),if_neg (by simp[g])]
   ·rw[if_pos (by simp[igt]; omega),if_pos (by simp[g])]
  ·try dsimp only
   unfold gi;rw[ï,Dk (by omega) (by rw[Int.toNat_zero]; omega)]
  ·unfold Hz;rw[show(L.any fun l=>!decide (gv x l.2.1<=gv x l.1+l.2.2))=!(L.all fun l=>decide (gv x l.2.1<=gv x l.1+l.2.2)) from by rw[List.all_eq_not_any_not]; simp]
   cases(L.all fun l=>decide (gv x l.2.1<=gv x l.1+l.2.2))<;>rfl
 refine dg (ζ x (fun _=>false) (fun z=>ifb (ige z (0:Int)) (some (false,(1:Int))) (some (Hz L x&&gv x 0==0,0))) (some (false,1)) (some (Hz L x&&gv x 0==0,0)) (fun j=>?_) (fun i a hi ha o=>?_) (fun o=>?_)) ?_
 ·rw[ø (by simp[ige])]
 ·try dsimp only
  unfold mw;have r:=hb a (List.mem_of_getElem? ha);unfold fA at r;rw[Ø hi,Í ha,á (by simp[ilt]; omega),á (by simp[igt]; omega),Ô hi (by omega)];simp
 ·try dsimp only
  unfold mw;rw[ï];exact d
 ·simp
end
section
variable {b:à}
def rO (b:à) (g:ß):(Ö b g).Pairwise (·<·):=qZ _
def FW (h:Ĉ b) {g:ß} (j:g∈b.2.1):∃t,Ö b g=g.2.1::t:=by
 have f:=rO b g;have h2:=gI (b:=b) g;have i:∀d∈Ö b g,g.2.1<=d:=fun d hd=>(h.day j hd).1
 cases hd:Ö b g with
 |nil=>rw[hd] at h2; cases h2
 |cons a t =>
  rw[hd] at f h2 i;rw[b7] at f;rcases bC.1 h2 with e|e
  ·exact⟨t,by rw[e]⟩
  ·have:=f.1 _ e;have:=i a (by simp);omega
def off (b:à) (i:Nat):Nat:=((b.2.1.take i).flatMap fun g=>(Ö b g).map fun d=>((g.1,d):Int×Int)).length
def rn {i:Nat} {g:ß} (a:b.2.1[i]?=some g):Î b=((b.2.1.take i).flatMap fun g=>(Ö b g).map fun d=>((g.1,d):Int×Int))++(((Ö b g).map fun d=>((g.1,d):Int×Int))++((b.2.1.drop (i+1)).flatMap fun g=>(Ö b g).map fun d=>((g.1,d):Int×Int))):=by
 obtain⟨hi,rfl⟩:=bB.1 a
 have e:b.2.1=b.2.1.take i++(b.2.1[i]::b.2.1.drop (i+1)):=by
  rw[<-cI hi,List.take_append_drop]
 unfold Î
 conv=>lhs; rw[e]
 rw[eM,cn]
def Ha (h:Ĉ b) {i:Nat} {g:ß} (r:b.2.1[i]?=some g) {k:Nat} {d:Int} (s:(Ö b g)[k]?=some d):ii (Î b) g.1 d=some (off b i+k):=by
 obtain⟨hi,m⟩:=List.getElem?_eq_some_iff.1 r;obtain⟨a,e⟩:=List.getElem?_eq_some_iff.1 s;unfold ii;rw[rn r,List.findIdx?_append,List.findIdx?_append]
 have u:List.findIdx? (fun n:Int×Int=>decide (g.1=n.1)&&decide (d=n.2)) ((b.2.1.take i).flatMap fun g=>(Ö b g).map fun d=>((g.1,d):Int×Int))=none:=by
  rw[cH];intro x f;obtain⟨g',o,f⟩:=bP.1 f;obtain⟨v,_,rfl⟩:=cD.1 f;obtain⟨j,l,rfl⟩:=bK.1 o;rw[bU] at l;rw[dQ];have:=(b5.1 h.ids) j i (by omega) hi (by omega);rw[m] at this;simp only[fc,decide_eq_false_iff_not];exact .inl (by omega)
 have h2:List.findIdx? (fun n:Int×Int=>decide (g.1=n.1)&&decide (d=n.2)) ((Ö b g).map fun d=>((g.1,d):Int×Int))=some k:=by
  rw[cq];refine⟨by simpa using a,by simp[e],fun j l=>?_⟩;have:=(b5.1 (rO b g)) j k (by omega) a l;rw[e] at this;simp only[eF,bu,decide_eq_true_eq,not_and];intro _;omega
 rw[u,h2];simp only[Option.map_some,Option.some_or,Option.none_or];unfold off;congr 1;omega
def Pj {i:Nat} {g:ß} (h:b.2.1[i]?=some g) {k:Nat} {d:Int} (a:(Ö b g)[k]?=some d):(Î b)[off b i+k]?=some (g.1,d):=by
 obtain⟨e,f⟩:=List.getElem?_eq_some_iff.1 a;rw[rn h,List.getElem?_append_right (by unfold off; omega),List.getElem?_append_left (by unfold off; simp; omega)];unfold off;simp[a]
def Qa (h:Ĉ b) {i:Nat} {g:ß} (a:b.2.1[i]?=some g):atP (Î b) [g.1] g.2.1=(off b i:Int)+1:=by
 obtain⟨t,e⟩:=FW h (List.mem_of_getElem? a);have:=Ha h a (k:=0) (d:=g.2.1) (by rw[e]; rfl);unfold atP;simp only[this];rfl
def Rj (h:Ĉ b) {i:Nat} {g:ß} (a:b.2.1[i]?=some g):off b i+(Ö b g).length<=(Î b).length:=by
 rw[rn a];unfold off;simp only[List.length_append,List.length_map];omega
def Pg {i:Nat} {g:ß} (a:b.2.1[i]?=some g):off b (i+1)=off b i+(Ö b g).length:=by
 unfold off;rw[take_succ a,List.flatMap_append];simp
def EN (h:Ĉ b) {c:Cmp} (s:c∈b.2.2.2.2.1) {x:Int} (r:(x∈c.2.2.1/\x∉c.2.2.2.1)\/(x∈c.2.2.2.1/\x∉c.2.2.1)):∃j,ii (Î b) x c.2.1=some j:=by
 have u:x∈c.2.2.1++c.2.2.2.1:=by rw[bw]; exact r.imp (·.1) (·.1)
 obtain⟨⟨g,y,_⟩,_⟩:=h.pile s u;obtain⟨f,a⟩:=g8 y;obtain⟨i,hi,l⟩:=bK.1 f
 have hd:c.2.1∈Ö b g:=g9.2 (.inr (.inl ⟨c,s,by
  rw[a];rcases r with⟨m,h2⟩|⟨m,h2⟩
  ·have o:c.2.2.1.contains x=true:=by simpa using m
   have n:c.2.2.2.1.contains x=false:=by simpa using h2
   rw[o,n]; simp
  ·have o:c.2.2.2.1.contains x=true:=by simpa using m
   have n:c.2.2.1.contains x=false:=by simpa using h2
   rw[o,n]; simp,rfl⟩))
 obtain⟨k,v,e⟩:=bK.1 hd;have:=Ha h (g:=g) (i:=i) (by rw[br hi,l]) (k:=k) (d:=c.2.1) (by rw[br v,e]);rw[a] at this;exact⟨_,this⟩
inductive La (b:à) (p:List Int) (d:Int) (n:Int):Prop
 |none:p=[]->n=0->La b p d n
 |one (x:Int) (j:Nat):p=[x]->ii (Î b) x d=some j->n=(j:Int)+1->La b p d n
def Dx (h:Ĉ b) {c:Cmp} (f:c∈b.2.2.2.2.1):La b (å c.2.2.1 c.2.2.2.1) c.2.1 (cx b c):=by
 have d:=(h.lefts f).1
 cases a:å c.2.2.1 c.2.2.2.1 with
 |nil=>exact .none rfl (by unfold cx atP; rw[a])
 |cons x t =>
  rw[a] at d
  have:t=[]:=by cases t with|nil=>rfl|cons=>simp at d
  subst this;obtain⟨j,e⟩:=EN h f (x:=x) (.inl (gW.1 (by rw[a]; simp)));exact .one x j rfl e (by unfold cx atP; rw[a]; simp only[e])
def zF (h:Ĉ b) {c:Cmp} (f:c∈b.2.2.2.2.1):La b (å c.2.2.2.1 c.2.2.1) c.2.1 (cy b c):=by
 have d:=(h.lefts f).2.1
 cases a:å c.2.2.2.1 c.2.2.1 with
 |nil=>exact .none rfl (by unfold cy atP; rw[a])
 |cons x t =>
  rw[a] at d
  have:t=[]:=by cases t with|nil=>rfl|cons=>simp at d
  subst this;obtain⟨j,e⟩:=EN h f (x:=x) (.inr (gW.1 (by rw[a]; simp)));exact .one x j rfl e (by unfold cy atP; rw[a]; simp only[e])
def La.rng {p:AS Int} {d n:Int} (h:La b p d n):0<=n/\n<((Î b).length+1:Nat):=by
 rcases h with⟨_,h⟩|⟨x,j,_,a,h2⟩
 ·omega
 ·have:=(lz a).1;omega
def PT (h:Ĉ b) {c:Cmp} (d:c∈b.2.2.2.2.1):cx b c≠cy b c:=by
 have l:=(h.lefts d).2.2;rcases Dx h d with⟨g,h2⟩|⟨x,j,g,h2,r⟩
 ·rcases zF h d with⟨a,f⟩|⟨y,k,a,f,n⟩
  ·rw[g,a] at l; simp at l
  ·omega
 ·rcases zF h d with⟨a,f⟩|⟨y,k,a,f,n⟩
  ·omega
  ·intro e
   have:j=k:=by omega
   subst this;have o:=(lz h2).2;have i:=(lz f).2;rw[o] at i;simp only[Option.some.injEq,Prod.mk.injEq] at i
   have m1:x∈å c.2.2.1 c.2.2.2.1:=by rw[g]; simp
   have m:y∈å c.2.2.2.1 c.2.2.1:=by rw[a]; simp
   rw[i.1] at m1;exact(gW.1 m1).2 (gW.1 m).1
def FA (h:Ĉ b):(ĕ b).length=2*(Î b).length+2*b.2.2.2.2.1.length:=by
 have i:∀l:AS ß,(∀g∈l,g∈b.2.1)->(l.flatMap (ą b)).length=2*(l.flatMap fun g=>(Ö b g).map fun d=>((g.1,d):Int×Int)).length:=by
  intro l
  induction l with
  |nil=>intro _; rfl
  |cons g t a =>
   intro e;have:=a fun g f=>e g (by simp[f]);have j:=List.length_pos_of_mem (gI (b:=b) g);simp only[List.flatMap_cons,List.length_append,List.length_map,this];unfold ą;rw[List.length_append,je _ _ (fun _=>rfl)];simp only[List.length_cons,List.length_nil];omega
 have h2:∀l:AS Cmp,(l.flatMap (Ą b)).length=2*l.length:=by
  intro l
  induction l with
  |nil=>rfl
  |cons c t a =>
   simp only[cn,bz,a,Ą,bJ,bZ];omega
 unfold ĕ;rw[List.length_append,i _ fun _ h=>h,h2];rfl
def č (h:Ĉ b) {i:Nat} {g:ß} (n:b.2.1[i]?=some g) {l:Lk}:l∈ą b g ↔
 l=(0,(off b i:Int)+1,g.2.2.1+g.2.2.2.1.2)\/l=((off b i:Int)+1,0,-(g.2.2.1+g.2.2.2.1.1)) \/
 ∃(k:Nat) (d e:Int),(Ö b g)[k]?=some d/\(Ö b g)[k+1]?=some e/\(l=((off b i:Int)+k+1,(off b i:Int)+k+2,0)\/l=((off b i:Int)+k+2,(off b i:Int)+k+1,ű b g d e)):=by
 unfold ą;rw[Qa h n];simp only[List.mem_append,List.mem_cons,List.not_mem_nil,or_false,List.mem_flatMap,List.mem_range];constructor
 ·rintro((a|a)|⟨k,o,a⟩)
  ·exact .inl a
  ·exact .inr (.inl a)
  ·refine .inr (.inr ⟨k,(Ö b g)[k],(Ö b g)[k+1],br (by omega),br (by omega),?_⟩);rw[br (show k<(Ö b g).length by omega),br (show k+1<(Ö b g).length by omega)] at a;simp only[dI] at a
   have j:(off b i:Int)+1+k=(off b i:Int)+k+1:=by omega
   have f:(off b i:Int)+k+1+1=(off b i:Int)+k+2:=by omega
   rw[j,f] at a;exact a
 ·rintro(a|a|⟨k,d,e,hd,m,a⟩)
  ·exact .inl (.inl a)
  ·exact .inl (.inr a)
  ·obtain⟨h2,rfl⟩:=bB.1 hd;obtain⟨r,rfl⟩:=bB.1 m;refine .inr ⟨k,by omega,?_⟩;rw[hd,m];simp only[dI]
   have j:(off b i:Int)+1+k=(off b i:Int)+k+1:=by omega
   have f:(off b i:Int)+k+1+1=(off b i:Int)+k+2:=by omega
   rw[j,f];exact a
def i6 {l:Lk}:l∈ĕ b↔(∃(i:Nat) (g:ß),b.2.1[i]?=some g/\l∈ą b g)\/∃c∈b.2.2.2.2.1,l=(cy b c,cx b c,(ū b c).2)\/l=(cx b c,cy b c,-(ū b c).1):=by
 unfold ĕ;simp only[List.mem_append,List.mem_flatMap,Ą,List.mem_cons,List.not_mem_nil,or_false];constructor
 ·rintro(⟨g,a,h⟩|h)
  ·obtain⟨i,hi,rfl⟩:=bK.1 a;exact .inl ⟨i,_,br hi,h⟩
  ·exact .inr h
 ·rintro(⟨i,g,a,h⟩|h)
  ·exact .inl ⟨g,bI a,h⟩
  ·exact .inr h
def Ĉ.sys (h:Ĉ b):jJ (ĕ b) ((Î b).length+1):=by
 have F:=h.nodes;have G:=h.links
 have j:∀l∈ĕ b,((0<=l.1/\l.1<((Î b).length+1:Nat))/\(0<=l.2.1/\l.2.1<((Î b).length+1:Nat)))/\l.1≠l.2.1/\(-4503599627370496<=l.2.2/\l.2.2<=4503599627370496):=by
  intro l f;rcases i6.1 f with⟨i,g,o,f⟩|⟨c,n,f⟩
  ·have m:=bI o;have r:=h.gaugeR m;have E:=Rj h o;have D:=List.length_pos_of_mem (gI (b:=b) g);have r1:=r.2.2.2.2.2.1;have r2:=r.2.2.2.2.2.2.1;rcases(č h o).1 f with rfl|rfl|⟨k,d,e,hd,s,u⟩
   ·dsimp only; omega
   ·dsimp only; omega
   ·obtain⟨h2,_⟩:=bB.1 s;have v:=h.day m (bI hd);have C:=mN h m (t:=e) v.2.1;rcases u with rfl|rfl
    ·dsimp only; omega
    ·dsimp only; omega
  ·have a:=(Dx h n).rng;have H:=(zF h n).rng;have z:=PT h n;have y:=xN h n;rcases f with rfl|rfl
   ·dsimp only; omega
   ·dsimp only; omega
 exact⟨by omega,by omega,by rw[FA h]; omega,fun l f=>(j l f).1,fun l f=>(j l f).2.1,fun l f=>(j l f).2.2⟩
end
def kr (b:à) (x:AS Int):Bool:=decide (x.length=(Î b).length)&&x.all fun n=>inP n (-4503599627370496) 4503599627370496
def KC {m:Maker} {x:AS Int} (f:m.2.1.length<=1000000):Ž m x=some (if decide (x.length=m.2.1.length)&&x.all fun n=>inP n (-4503599627370496) 4503599627370496 then 0 else 1):=by
 unfold Ž lO
 by_cases d:x.length=m.2.1.length
 ·rw[á (by rw[Þ,Þ,d]; simp[ine])];refine dg (ζ x (fun n=>!inP n (-4503599627370496) 4503599627370496) (fun z=>ifb (ige z 0) (some 1) (some 0)) (some 1) (some 0) (fun j=>?_) (fun i a hi ha e=>?_) (fun e=>?_)) ?_
  ·rw[ø (by simp[ige])]
  ·try dsimp only
   unfold ň;rw[Ø hi,Í ha,Ļ,À,Ô hi (by omega),Ė]
  ·try dsimp only
   unfold ň;rw[ï]
  ·rw[show(x.any fun n=>!inP n (-4503599627370496) 4503599627370496)=!(x.all fun n=>inP n (-4503599627370496) 4503599627370496) from by rw[List.all_eq_not_any_not]; simp]
   cases(x.all fun n=>inP n (-4503599627370496) 4503599627370496)<;>simp[d]
 ·rw[ø (by rw[Þ,Þ]; simp[ine]; omega)];simp[d]
def KK (b:à) (x:AS Int):Bool:=Hz (ĕ b) (0::x)
def H4 (b:à) (x:AS Int):Bool×Int:=if â b≠0 then(false,â b) else if kr b x then(KK b x,0) else(false,1)
def EW {b:à} (h:Ĉ b) {x:AS Int} (f:kr b x=true) (d:AS (Int×Int)):gH (b,Î b,(((Î b).length:Int)+1,ĕ b),d) x=some (KK b x):=by
 simp only[kr,Bool.and_eq_true,decide_eq_true_eq,List.all_eq_true,inP] at f;have g:=h.nodes;unfold gH qI;rw[lV (Ó (by simp only[List.length_singleton]; omega))]
 have:=Gs h.sys (x:=[0]++x) (by simp; omega) (fun a ha=>by
  unfold fA;rcases List.mem_append.1 ha with ha|ha
  ·simp at ha; omega
  ·have:=f.2 a ha; omega)
 rw[show(((Î b).length:Int)+1)=(((Î b).length+1:Nat):Int) by push_cast; rfl]
 try dsimp only
 rw[this,À];unfold KK;have e:gv ([0]++x) 0=0:=rfl;rw[e];simp
def DU {b:à} (d:fU b) (e:∀g∈b.2.1,I64 g.2.2.2.2.1.1) (x:AS Int):mW b x=some (H4 b x):=by
 unfold mW IZ H4;rw[kF d e,À]
 by_cases a:â b=0
 ·have h:=(ñ b).1 a;have i:=h.nodes;rw[á (by simp[ine,a]),CY h,À,KC (by dsimp only; omega),À,if_neg (show ¬(â b≠0) from fun h=>h a)];rw[show(decide (x.length=(b,Î b,(((Î b).length:Int)+1,ĕ b),Cr b).2.1.length)&&x.all fun n=>inP n (-4503599627370496) 4503599627370496)=kr b x from rfl]
  cases f:kr b x with
  |false=>rfl
  |true =>
   rw[if_pos rfl,á (by rfl),EW h f,À,if_pos rfl]
 ·rw[ø (by simp[ine,a]),if_pos a]
def N1 {ρ:Type}:@mu ρ=@Ō ρ:=rfl
def N0 {ρ:Type}:@mr ρ=@ġ ρ:=rfl
def NZ {ρ:Type}:@mq ρ=@Ć ρ:=rfl
def FJ {ρ:Type} {N:Nat} (a:N<=1000) (x:AN ρ):ì ((ile (0:Int) (N:Int))&&(ã N)) x=x:=by
 have:=tT a x
 rwa [bN] at this
section
variable {L:AS Lk} {N:Nat} {M:Int}
def Lw {s:Int} (d:0<=s/\s<N):(List.replicate N fA).set s.toNat 0=start (L9 s) N:=by
 refine Ja (by simp[í]) fun v h0 e=>?_
 have a:v<N:=by simpa using e
 rw[Ŧ _ h0 a,oI d.1 h0 (by simp; omega)];unfold L9
 by_cases h:v=s
 ·simp[h]
 ·simp only[h,if_false,beq_iff_eq];unfold gv;rw[List.getElem?_replicate]
  have:v.toNat<N:=by omega
  simp[this]
def NY (d:Ś L N M) (G:1<=N) (n:N<=200) (F:Œ L N=true) {s:Int} (e:0<=s/\s<N):pC ((N:Int),L) [] s=some (kS L N s):=by
 obtain⟨p,o⟩:=(ŝ d n).1 F;unfold pC uV;rw[N1,N0,NZ];dsimp only;rw[tT (by omega),Int.toNat_natCast];refine η (List.replicate N (0:Int)) (fun i=>List.replicate i fA++List.replicate (N-i) 0) _ (by simp) (fun i a hi ha y=>?_) (fun y=>?_)
 ·dsimp only;unfold iG
  have m:i<N:=by simpa using hi
  have r:i<(List.replicate i fA++List.replicate (N-i) (0:Int)).length:=by simp; omega
  rw[Ø hi,fP r,Ţ (br r),Ô m (by omega),bN];congr 2;rw[List.set_append_right _ _ (by simp)]
  have:N-i=(N-(i+1))+1:=by omega
  rw[this,dL,Nat.sub_self,List.replicate_succ,List.set_cons_zero,List.replicate_succ'];simp
 ·try dsimp only
  unfold iG;rw[ï];dsimp only
  have H:List.replicate (List.replicate N (0:Int)).length fA++List.replicate (N-(List.replicate N (0:Int)).length) 0=List.replicate N fA:=by simp
  rw[H]
  have f:s.toNat<(List.replicate N fA).length:=by simp; omega
  rw[show Č (List.replicate N fA)=((N:Nat):Int) by simp[Č],im e.1 e.2,jk f,FJ (by omega),FJ (by omega),Lw e];refine dg (I6 d _) ?_
  have u:∀v,L9 s v=true->0<=v/\v<N:=fun v h=>by simp[L9] at h; subst h; exact e
  refine Lx (í _ _) (by omega) _ fun w q C E D g l=>?_;have j:=A9 d G u C E D g l;refine Eb d (Pl d n) o u _ (fun x w t q z hd=>?_) j
  have:x=kS L N s:=by
   refine Ja (by rw[z]; unfold kS; rw[ĩ,í]) fun v a b=>?_;exact hd.uniq (gD d n o e) a (by omega)
  dsimp only;rw[this]
def jE (L:AS Lk) (N:Nat) (s t:Int):Int×Int :=
 if !Œ L N then(0,9) else if gv (kS L N s) t=fA then(0,5) else(gv (kS L N s) t,0)
def Qd (h:jJ L N) {d:AS Int} (j:∀n∈d,0<=n/\n<N) (l:d.length<=1000):t8 ((N:Int),L) d=some (if Œ L N then 0 else 9):=by
 have h2:=h.n60;unfold t8 E1;rw[uA h,À];dsimp only;rw[á (by rfl)];refine Eq.trans (fO d (fun _=>false) (fun _=>some 1) (some (if Œ L N then 0 else 9)) (fun i n hi f g=>?_) (fun g=>?_)) ?_
 ·try dsimp only
  unfold jX;have a:=j n (List.mem_of_getElem? f)
  have e:(decide (0<=n)&&decide (n<(N:Int)))=true:=by simp[a.1,a.2]
  rw[Ø hi,Í f,G9,À,e,Ô hi (by omega)];simp
 ·try dsimp only
  unfold jX;rw[ï,GK h.links h.n1 (by omega),À]
  cases Œ L N<;>rfl
 ·rw[cH.2 (by simp)]
def JR (h:jJ L N) {s t:Int} (g:0<=s/\s<N) (f:0<=t/\t<N):oN ((N:Int),L) s t=some (jE L N s t):=by
 have h2:=h.n60;unfold oN E3 jE
 rw[Qd h (fun n e=>by simp at e; rcases e with rfl|rfl<;>assumption) (by simp),À]
 by_cases a:Œ L N=true
 ·rw[if_pos a,á (by rfl),NY h.links h.n1 (by omega) a g,À,Dk f.1 (by unfold kS; rw[ĩ,í]; omega),Ė,if_neg (show ¬(!Œ L N)=true by simp[a])]
  by_cases d:gv (kS L N s) t=fA
  ·rw[if_pos (by simpa[ieq] using d),if_pos d]
  ·rw[if_neg (by simpa[ieq] using d),if_neg d]
 ·rw[if_neg a,ø (by rfl),if_pos (show(!Œ L N)=true by simpa using a)]
end
def è (b:à) (c:Cmp):à:=(b.1,b.2.1,b.2.2.1,b.2.2.2.1,b.2.2.2.2.1++[c],b.2.2.2.2.2)
def book0:à:=((0,0),[],[],[],[],[])
def vO (b:à) (c:Cmp):à×Int:=if â b≠0 then(book0,â b) else if â (è b c)≠0 then(book0,â (è b c)) else(è b c,0)
def Ml {b:à} (h:Ĉ b) {c:Cmp} (f:c.2.2.1.length<=1000) (e:c.2.2.2.1.length<=1000):fU (è b c):=by
 have a:=h.size;have:=h.nC;refine⟨a.gauges,a.uses,a.loans,by simp[è]; omega,a.looks,fun d hd=>?_⟩;rcases bw.1 (show d∈b.2.2.2.2.1++[c] from hd) with hd|hd
 ·exact a.piles d hd
 ·simp at hd; subst hd; exact⟨f,e⟩
def Sg {b:à} (e:fU b) (j:∀g∈b.2.1,I64 g.2.2.2.2.1.1) {c:Cmp} (o:c.2.2.1.length<=1000) (n:c.2.2.2.1.length<=1000):pE b c=some (vO b c):=by
 unfold pE IW vO;have z:=e.gauges; have h2:=e.uses; have y:=e.loans; have v:=e.compares; have u:=e.looks;rw[Ó (by omega),Am.iff_true,Ó (by omega),Am.iff_true,kF e j,À]
 by_cases f:â b=0
 ·have h:=(ñ b).1 f;rw[á (by simp[ine,f]),Ó (by omega),Am.iff_true,Ó (by omega),Am.iff_true,Ó (by omega),Am.iff_true,Ó (by omega),Am.iff_true,Ó (by omega),Am.iff_true,if_neg (show ¬(â b≠0) from fun h=>h f)];refine η b.2.2.2.2.1 (fun _=>b.2.2.2.2.1) _ rfl (fun i d hi hd m=>?_) (fun m=>?_)
  ·dsimp only;unfold mM;obtain⟨s,r⟩:=e.piles d (List.mem_of_getElem? hd)
   have l:b.2.2.2.2.1.set i d=b.2.2.2.2.1:=by
    obtain⟨h,rfl⟩:=bB.1 hd;exact List.set_getElem_self h
   rw[Ø hi,fP hi,Ţ hd,Ó (by omega),Am.iff_true,Ó (by omega),Am.iff_true,fP hi,Ţ hd,bN];rw[show(d.1,d.2.1,d.2.2.1,d.2.2.2)=d from rfl,l,fP hi,pk hd,Ô hi (by omega)];rw[show(d.1,d.2.1,d.2.2.1,d.2.2.2.1,d.2.2.2.2)=d from rfl,l]
  ·try dsimp only
   unfold mM;rw[ï];dsimp only;rw[Ó (by simp only[List.length_singleton]; omega),Am.iff_true];rw[show đ (b.1,b.2.1,b.2.2.1,b.2.2.2.1,b.2.2.2.2.1++[c],b.2.2.2.2.2)=đ (è b c) from rfl,kF (Ml h o n) j,À]
   by_cases a:â (è b c)=0
   ·rw[á (by simp[ine,a]),if_neg (show ¬(â (è b c)≠0) from fun h=>h a)];rfl
   ·rw[ø (by simp[ine,a]),if_pos a];rfl
 ·rw[ø (by simp[ine,f]),if_pos f];rfl
def Å (c:Cmp):Cmp:=(c.1,c.2.1,c.2.2.1,c.2.2.2.1,0,c.2.2.2.2.2)
def lowP (b:à) (c:Cmp):Int:=zL (Ā b c).1+(ũ b c).1-c.2.2.2.2.2.1
def PI (b:à) (c:Cmp):Int:=(Ā b c).2.1 / (Ā b c).2.2+(ũ b c).2+c.2.2.2.2.2.1
def Eh (b:à) (c:Cmp) (s:Int×Int):(Int×Int)×Int:=if PI b c<lowP b c then((0,0),5) else((s.1+lowP b c,s.2+PI b c),0)
structure Qp (b:à) (c:Cmp):Prop where
 nums:rm c=true
 r1:l9 (pT (ĉ b) (å c.2.2.1 c.2.2.2.1)) 1000 100
 r2:l9 (pT (ĉ b) (å c.2.2.2.1 c.2.2.1)) 1000 100
def Ĉ.cmp {b:à} (h:Ĉ b) {c:Cmp} (a:c∈b.2.2.2.2.1):Qp b c:=⟨h.nums a,(h.rates a).1,(h.rates a).2⟩
def Eg {b:à} (i:0<=b.1.1/\b.1.1<=b.1.2/\b.1.2<=1000000) {c:Cmp} (h:Qp b c):l9 (Ā b c).1 2000000000 10000/\l9 (Ā b c).2 2000000000 10000/\(-3000000000<=zL (Ā b c).1+(ũ b c).1/\zL (Ā b c).1+(ũ b c).1<=3000000000) /\
 (-3000000000<=(Ā b c).2.1 / (Ā b c).2.2+(ũ b c).2/\(Ā b c).2.1 / (Ā b c).2.2+(ũ b c).2<=3000000000)/\(0<=c.2.2.2.2.2.1/\c.2.2.2.2.2.1<=1073741824):=by
 have a:=(gL c).1 h.nums;have ha:=Ĩ a.2.2.2.2.2.1;have hb:=Ĩ a.2.2.2.2.2.2;obtain⟨g,f⟩:=CP (xH h.r1 h.r2) a.2.2.2.2.1;have j:=rN (b:=b) (c:=c) (by omega) (by omega) (by omega) (by omega) (by omega) (by omega);have e:l9 (Ā b c).1 2000000000 10000:=g;have d:l9 (Ā b c).2 2000000000 10000:=f;have m:=vF e;have l:=rK d;exact⟨e,d,by omega,by omega,a.2.2.2.1⟩
def O0 {b:à} (g:fU b) (i:0<=b.1.1/\b.1.1<=b.1.2/\b.1.2<=1000000) {c:Cmp} (h:Qp b c) {s:Int×Int} (j : -2305843009213693952<=s.1/\s.1<=2305843009213693952) (h2 : -2305843009213693952<=s.2/\s.2<=2305843009213693952):lZ b c s=some (Eh b c s):=by
 have d:=(gL c).1 h.nums;have ha:=Ĩ d.2.2.2.2.2.1;have hb:=Ĩ d.2.2.2.2.2.2;obtain⟨f,e,m,l,b3⟩:=Eg i h;unfold lZ Fg Eh lowP PI;rw[FM g (by omega) (by omega) h.r1 h.r2 d.2.2.2.2.1,À,Jj (by omega) (by omega) (by omega) (by omega) (by omega) (by omega),À,Oz f.rat,À,JP e.rat,À];dsimp only;rw[ë (by omega) (by omega),ë (by omega) (by omega),ë (by omega) (by omega),ë (by omega) (by omega),Ė]
 by_cases a:(Ā b c).2.1 / (Ā b c).2.2+(ũ b c).2+c.2.2.2.2.2.1<zL (Ā b c).1+(ũ b c).1-c.2.2.2.2.2.1
 ·rw[if_pos (by simpa[igt] using a),if_pos a]
 ·rw[if_neg (by simpa[igt] using a),if_neg a,ë (by omega) (by omega),ë (by omega) (by omega)]
def ò (b:à):AS Lk:=(ĕ b).take ((ĕ b).length-2)
def iT (b:à) (c:Cmp):(Int×Int)×Int :=
 if (vO b (Å c)).2≠0 then((0,0),(vO b (Å c)).2) else
 if (jE (ò (è b (Å c))) ((Î (è b (Å c))).length+1) (cy (è b (Å c)) (Å c)) (cx (è b (Å c)) (Å c))).2≠0 then
  ((0,0),(jE (ò (è b (Å c))) ((Î (è b (Å c))).length+1) (cy (è b (Å c)) (Å c)) (cx (è b (Å c)) (Å c))).2) else
 if (jE (ò (è b (Å c))) ((Î (è b (Å c))).length+1) (cx (è b (Å c)) (Å c)) (cy (è b (Å c)) (Å c))).2≠0 then
  ((0,0),(jE (ò (è b (Å c))) ((Î (è b (Å c))).length+1) (cx (è b (Å c)) (Å c)) (cy (è b (Å c)) (Å c))).2) else
 Eh b (Å c) (-(jE (ò (è b (Å c))) ((Î (è b (Å c))).length+1) (cx (è b (Å c)) (Å c)) (cy (è b (Å c)) (Å c))).1,
  (jE (ò (è b (Å c))) ((Î (è b (Å c))).length+1) (cy (è b (Å c)) (Å c)) (cx (è b (Å c)) (Å c))).1)
def Gt {L:AS Lk} {N:Nat} (h:jJ L N) {s t:Int} (i:0<=s/\s<N) (a:0<=t/\t<N) : -2305843009213693952<=(jE L N s t).1/\(jE L N s t).1<=2305843009213693952:=by
 unfold jE;have h2:=h.n60
 split
 ·simp
 ·rename_i j
  have d:Œ L N=true:=by simpa using j
  obtain⟨p,f⟩:=(ŝ h.links (by omega)).1 d;have hd:=gD h.links (by omega) f i
  split
  ·simp
  ·rename_i e;dsimp only;have hb:=hd.bd t a.1 a.2;obtain⟨vs,g⟩:=hd.att t a.1 a.2 e;have r:=g.low' f;have o:=CV (L:=L) (fun l m=>(h.most l m).1) (M:=4503599627370496) (by omega);have n:=h.len;unfold fA at hb
   constructor<;>omega
def vP {b:à} (s:fU b) (u:∀g∈b.2.1,I64 g.2.2.2.2.1.1) {c:Cmp} (r:c.2.2.1.length<=1000) (G:c.2.2.2.1.length<=1000):χ b c=some (iT b c):=by
 unfold χ yR iT;rw[show pE b (c.1,c.2.1,c.2.2.1,c.2.2.2.1,0,c.2.2.2.2.2)=pE b (Å c) from rfl,Sg s u (c:=Å c) r G,À]
 by_cases e:(vO b (Å c)).2=0
 ·rw[á (by simp[ine,e]),if_neg (show ¬((vO b (Å c)).2≠0) from fun h=>h e)]
  -- the book is valid, and so is the greater one
  have hb:â b=0:=by
   unfold vO at e
   split at e
   ·rename_i h; exact(h e).elim
   ·rename_i h; simpa using h
  have o:â (è b (Å c))=0:=by
   unfold vO at e;rw[if_neg (by simp[hb])] at e
   split at e
   ·rename_i h; exact(h e).elim
   ·rename_i h; simpa using h
  have C:vO b (Å c)=(è b (Å c),0):=by
   unfold vO;rw[if_neg (by simp[hb]),if_neg (by simp[o])]
  have g:=(ñ b).1 hb;have f:=(ñ _).1 o
  have a:Å c∈(è b (Å c)).2.2.2.2.1:=by simp[è]
  have Q:=f.nodes;have v:=FA f
  have D:(è b (Å c)).2.2.2.2.1.length=b.2.2.2.2.1.length+1:=by simp[è]
  have y:=f.links;have d:jJ (ò (è b (Å c))) ((Î (è b (Å c))).length+1):=f.sys.sub (fun l z=>List.mem_of_mem_take z) (by unfold ò; rw[List.length_take]; omega);have j:=(Dx f a).rng;have i:=(zF f a).rng;have P:c.2.2.1.length<=1000:=r;rw[C];dsimp only;rw[CY f,À];dsimp only;rw[Þ,ë (by omega) (by omega)]
  have J:((ile (0:Int) (((ĕ (è b (Å c))).length:Int)-2))&&(ile (((ĕ (è b (Å c))).length:Int)-2) (Č (ĕ (è b (Å c))))))=true:=by
   simp[ile,Č]; omega
  have I:(((ĕ (è b (Å c))).length:Int)-2).toNat=(ĕ (è b (Å c))).length-2:=by omega
  rw[lV J,kM (by omega) (by omega),À,Od _ _ _ (by dsimp only; omega),À,kM (by omega) (by omega),À,Od _ _ _ (by dsimp only; omega),À,I]
  have H:(((Î (è b (Å c))).length:Int)+1)=(((Î (è b (Å c))).length+1:Nat):Int):=by push_cast; rfl
  rw[H];rw[show List.take ((ĕ (è b (Å c))).length-2) (ĕ (è b (Å c)))=ò (è b (Å c)) from rfl];dsimp only;rw[show atP (Î (è b (Å c))) (å c.2.2.1 c.2.2.2.1) c.2.1=cx (è b (Å c)) (Å c) from rfl,show atP (Î (è b (Å c))) (å c.2.2.2.1 c.2.2.1) c.2.1=cy (è b (Å c)) (Å c) from rfl];rw[JR d i j,À,JR d j i];have O:=Gt d i j;have K:=Gt d j i;generalize F:jE (ò (è b (Å c))) ((Î (è b (Å c))).length+1) (cy (è b (Å c)) (Å c)) (cx (è b (Å c)) (Å c))=B1 at O ⊢;generalize E:jE (ò (è b (Å c))) ((Î (è b (Å c))).length+1) (cx (è b (Å c)) (Å c)) (cy (è b (Å c)) (Å c))=B2 at K ⊢
  by_cases m:B1.2=0
  ·rw[á (by simp[ine,m]),if_neg (show ¬(B1.2≠0) from fun h=>h m),À]
   by_cases h2:B2.2=0
   ·rw[á (by simp[ine,h2]),if_neg (show ¬(B2.2≠0) from fun h=>h h2),ë (by omega) (by omega)];have n:Qp b (Å c):=⟨(f.cmp a).nums,(f.cmp a).r1,(f.cmp a).r2⟩;rw[show lZ b (c.1,c.2.1,c.2.2.1,c.2.2.2.1,0,c.2.2.2.2.2) (0-B2.1,B1.1)=lZ b (Å c) (0-B2.1,B1.1) from rfl,O0 g.size g.film n (by dsimp only; omega) (by dsimp only; omega),À,Int.zero_sub]
   ·rw[ø (by simp[ine,h2]),if_pos h2]
  ·rw[ø (by simp[ine,m]),if_pos m]
 ·rw[ø (by simp[ine,e]),if_pos e]
structure In (b:à):Prop where
 size:fU b
 num:∀g∈b.2.1,I64 g.2.2.2.2.1.1
def Oq (b:à):AS (Int×Int)×Int:=if â b≠0 then([],â b) else(Î b,0)
def Ql {b:à} (h:In b):uh b=some (Oq b):=by
 unfold uh Ft Oq;rw[kF h.size h.num,À]
 by_cases a:â b=0
 ·rw[á (by simp[ine,a]),CT h.size,À,if_neg (show ¬(â b≠0) from fun h=>h a)]
 ·rw[ø (by simp[ine,a]),if_pos a]
def rV (b:à):Sys×AS (Int×Int)×Int:=if â b≠0 then((0,[]),[],â b) else((((Î b).length:Int)+1,ĕ b),Cr b,0)
def Om {b:à} (h:In b):pF b=some (rV b):=by
 unfold pF BK rV;rw[kF h.size h.num,À]
 by_cases a:â b=0
 ·rw[á (by simp[ine,a]),CY ((ñ b).1 a),À,if_neg (show ¬(â b≠0) from fun h=>h a)]
 ·rw[ø (by simp[ine,a]),if_pos a]
def cmp0:Cmp:=(0,0,[],[],0,0,0,0)
def ip (b:à) (i:Int):Cmp×Int:=if â b≠0 then(cmp0,â b) else if i<0\/(b.2.2.2.2.1.length:Int)<=i then(cmp0,1) else(b.2.2.2.2.1[i.toNat]?.getD cmp0,0)
def H8 {b:à} (h:In b) (i:Int):oQ b i=some (ip b i):=by
 unfold oQ Ff ip;rw[kF h.size h.num,À]
 by_cases a:â b=0
 ·rw[á (by simp[ine,a]),if_neg (show ¬(â b≠0) from fun h=>h a),Þ]
  by_cases e:i<0
  ·rw[ø (by simp[ilt,e]),if_pos (.inl e)]; rfl
  ·rw[á (by simp[ilt]; omega)]
   by_cases h2:(b.2.2.2.2.1.length:Int)<=i
   ·rw[ø (by simp[ige,h2]),if_pos (.inr h2)]; rfl
   ·rw[á (by simp[ige]; omega),if_neg (by omega)];obtain⟨j,rfl⟩:=dG (show 0<=i by omega)
    have d:j<b.2.2.2.2.1.length:=by omega
    rw[Í (br d),bN,br d];rfl
 ·rw[ø (by simp[ine,a]),if_pos a]; rfl
def xF {b:à} {i:Int} (h:(ip b i).2=0):Ĉ b/\(ip b i).1∈b.2.2.2.2.1/\b.2.2.2.2.1[i.toNat]?=some (ip b i).1/\0<=i:=by
 unfold ip at h ⊢
 split at h
 ·rename_i a; exact(a h).elim
 ·rename_i a
  have d:â b=0:=by simpa using a
  split at h
  ·simp at h
  ·rename_i hi
   have e:i.toNat<b.2.2.2.2.1.length:=by omega
   rw[if_neg a,if_neg hi,br e];exact⟨(ñ b).1 d,dJ e,rfl,by omega⟩
def HZ (b:à) (i:Int):((Int×Int)×(Int×Int))×Int:=if (ip b i).2≠0 then(((0,0),(0,0)),(ip b i).2) else(Ā b (ip b i).1,0)
def Ox {b:à} (h:In b) (i:Int):pH b i=some (HZ b i):=by
 unfold pH BM HZ;rw[H8 h,À]
 by_cases a:(ip b i).2=0
 ·obtain⟨g,d,_,_⟩:=xF a;rw[á (by simp[ine,a]),g.growth d,À,if_neg (show ¬((ip b i).2≠0) from fun h=>h a)]
 ·rw[ø (by simp[ine,a]),if_pos a]
def Sj (b:à) (i:Int):(Int×Int)×Int:=if (ip b i).2≠0 then((0,0),(ip b i).2) else(ū b (ip b i).1,0)
def Si {b:à} (h:In b) (i:Int):xy b i=some (Sj b i):=by
 unfold xy IX Sj;rw[H8 h,À]
 by_cases a:(ip b i).2=0
 ·obtain⟨g,d,_,_⟩:=xF a;rw[á (by simp[ine,a]),g.says d,À,if_neg (show ¬((ip b i).2≠0) from fun h=>h a)]
 ·rw[ø (by simp[ine,a]),if_pos a]
def oW (b:à) (g:Int) (a:AS Int):Int:=if â b≠0 then â b else if a.any (fun d=>!Gz d) then 1 else if (ro (k:=tI) (v:=Ñ) g (ĉ b)).isNone then 5 else 0
def Og {b:à} (h:In b) (g:Int) {a:AS Int} (hd:a.length<=1000):ug b g a=some (oW b g a):=by
 unfold ug Fq oW;rw[kF h.size h.num,À]
 by_cases e:â b=0
 ·rw[á (by simp[ine,e]),if_neg (show ¬(â b≠0) from fun h=>h e)]
  have last:(Â (Ă b) fun n=>Gx (k:=tI) (v:=Ñ) g n (fun m=>some (0:Int)) (some (5:Int)))=some (if (ro (k:=tI) (v:=Ñ) g (ĉ b)).isNone then 5 else 0):=by
   rw[kZ h.size.gauges,À];unfold Gx
   cases ro (k:=tI) (v:=Ñ) g (ĉ b)<;>rfl
  refine dg (ζ a (fun d=>!Gz d) (fun l=>ifb (ige l (0:Int)) (some (1:Int)) (Â (Ă b) fun o=>Gx (k:=tI) (v:=Ñ) g o (fun s=>some (0:Int)) (some (5:Int)))) (some 1) (some (if (ro (k:=tI) (v:=Ñ) g (ĉ b)).isNone then 5 else 0)) (fun j=>?_) (fun i d hi f r=>?_) (fun r=>?_)) ?_
  ·rw[ø (by simp[ige])]
  ·try dsimp only
   unfold kf;rw[Ø hi,Í f,tQ,À,Ô hi (by omega),Ė]
  ·try dsimp only
   unfold kf;rw[ï,last]
  ·cases a.any (fun d=>!Gz d)<;>rfl
 ·rw[ø (by simp[ine,e]),if_pos e]
def HS {b:à} {g:Int} {l:AS Int} (h:oW b g l=0):Ĉ b/\(∀d∈l,0<=d/\d<=20000)/\∃x,ų b g=some x/\ro (k:=tI) (v:=Ñ) g (ĉ b)=some x:=by
 unfold oW at h
 split at h
 ·rename_i i; exact(i h).elim
 ·rename_i i
  have f:â b=0:=by simpa using i
  have j:=(ñ b).1 f
  split at h
  ·omega
  ·rename_i hd
   split at h
   ·omega
   ·rename_i a;refine⟨j,fun d e=>?_,?_⟩
    ·have:=cN.1 (di.2 hd) d e;simpa[Gz,inP] using this
    ·rw[uS j.ids] at a ⊢
     cases m:ų b g with
     |none=>rw[m] at a; simp at a
     |some x=>exact⟨x,rfl,rfl⟩
def K9 (b:à) (g f t:Int):Int×Int :=
 if oW b g [f,t]≠0 then(0,oW b g [f,t]) else
 match ro (k:=tI) (v:=Ñ) g (ĉ b) with
 |some x=>if t<f then(0,3) else if f<x.2.1 then(0,3) else(ű b x f t,0)
 |none=>(0,0)
def HX {b:à} (h:In b) (g f t:Int):pG b g f t=some (K9 b g f t):=by
 unfold pG IY K9;rw[Og h g (by simp),À]
 by_cases ha:oW b g [f,t]=0
 ·obtain⟨d,hd,x,e,j⟩:=HS ha;have m:=hd f (by simp);have l:=hd t (by simp);have i:=d.gaugeR (g8 e).1;rw[á (by simp[ine,ha]),if_neg (show ¬(oW b g [f,t]≠0) from fun h=>h ha),kZ h.size.gauges,À];simp only[Gx,j];rw[Ė]
  by_cases a:t<f
  ·rw[if_pos (by simpa[igt] using a),if_pos a]
  ·rw[if_neg (by simpa[igt] using a),if_neg a,Ė]
   by_cases h2:f<x.2.1
   ·rw[if_pos (by simpa[ilt] using h2),if_pos h2]
   ·rw[if_neg (by simpa[ilt] using h2),if_neg h2,MA d i.2.2.2.2.2.2.2 ⟨by omega,by omega⟩ ⟨by omega,by omega⟩,À]
 ·rw[ø (by simp[ine,ha]),if_pos ha]
def CanP (b:à) (a:Int) (x y:AS Int):Bool×Int :=
 if â b≠0 then(false,â b) else if !Gz a then(false,1) else if !nX x then(false,1) else if !nX y then(false,1) else
 if (x++y).any (fun id=>(kT b id a).isSome||ft (ĉ b) id a != 0) then(false,0) else
 (decide ((å x y).length<=1)&&(decide ((å y x).length<=1)&&decide (0<(å x y).length+(å y x).length)),0)
def Can_ok {b:à} (h:In b) (d:Int) {x y:AS Int} (u:x.length<=100000) (s:y.length<=100000):Ds b d x y=some (CanP b d x y):=by
 unfold Ds Mz CanP;rw[kF h.size h.num,À]
 by_cases e:â b=0
 ·rw[á (by simp[ine,e]),if_neg (show ¬(â b≠0) from fun h=>h e),tQ,À]
  cases Gz d with
  |false=>rfl
  |true =>
  rw[tP (by omega),À]
  cases nX x with
  |false=>rfl
  |true =>
  rw[tP (by omega),À]
  cases nX y with
  |false=>rfl
  |true =>
  simp only[cO,õ,bO,if_false];rw[kZ h.size.gauges,À,Gq (by omega) (by omega),À]
  have n:(x++y).length<=200000:=by simp; omega
  have r:=tN x y;have o:=tN y x;refine dg (ζ (x++y) (fun id=>(kT b id d).isSome||ft (ĉ b) id d != 0) (fun _=>some (false,0)) (some (false,0)) (some (decide ((å x y).length<=1)&&(decide ((å y x).length<=1)&&decide (0<(å x y).length+(å y x).length)),0)) (fun _=>rfl) (fun i a hi ha m=>?_) (fun m=>?_)) ?_
  ·try dsimp only
   unfold po;rw[Ø hi,Í ha,show iQ ((b.1.1,b.1.2),b.2.1,b.2.2.1,b.2.2.2.1,b.2.2.2.2.1,b.2.2.2.2.2) a d=iQ b a d from rfl,N9 h.size.loans,À,CZ,À,Ô hi (by omega)]
   cases kT b a d with
   |some l=>simp
   |none =>
    cases f:(ft (ĉ b) a d != 0) with
    |true =>
     have:ine (ft (ĉ b) a d) 0=true:=f;simp[this]
    |false =>
     have:ine (ft (ĉ b) a d) 0=false:=f;simp[this]
  ·try dsimp only
   unfold po;rw[ï,kM (by omega) (by omega),À,kM (by omega) (by omega),À,Þ,Þ,ë (by omega) (by omega),Ė]
   by_cases j:(å x y).length<=1
   ·rw[if_pos (by simp[ile]; omega),Ė]
    by_cases g:(å y x).length<=1
    ·rw[if_pos (by simp[ile]; omega)];simp[j,g,igt];omega
    ·rw[if_neg (by simp[ile]; omega)];simp[g]
   ·rw[if_neg (by simp[ile]; omega)];simp[j]
  ·cases List.any (x++y) (fun id=>(kT b id d).isSome||ft (ĉ b) id d != 0)<;>rfl
 ·rw[ø (by simp[ine,e]),if_pos e]
def exB:à:=((0,2),[(1,0,1000,(-5,5),(1,10),1),(2,0,1000,(-50,50),(1,4),0)],[(1,10)],[(1,(20,29),3)],[(7,10,[1],[2],-20,1,100,200)],[])
def nt:In exB:=⟨⟨by decide,by decide,by decide,by decide,by decide,by decide⟩,by
 intro g a;simp[exB] at a
 rcases a with rfl|rfl<;>exact⟨by decide,by decide⟩⟩
def exC:Cmp:=(8,10,[1],[2],0,0,0,0)
def x1:HZ exB 0=(((-30,1),(-15,1)),0):=by decide +kernel
def x2:Sj exB 0=((-6,11),0):=by decide +kernel
def x3:Oq exB=([(1,0),(1,10),(2,0),(2,10)],0):=by decide +kernel
def x4:(rV exB).1.1=5/\(rV exB).1.2.length=10/\(rV exB).2.1.length=10/\(rV exB).2.1[9]?=some (3,0)/\(rV exB).2.2=0:=by decide +kernel
def x5:K9 exB 1 0 25=(16,0):=by decide +kernel
def x6:H4 exB [1000,1000,990,990]=(true,0):=by decide +kernel
def x7:H4 exB [1000,999,990,990]=(false,0):=by decide +kernel
def x8:iT exB exC=((-6,11),0):=by decide +kernel
def x9:CanP exB 25 [1] [2]=(false,0):=by decide +kernel
def LA:ń=some true:=by
 unfold ń rt oL wg;obtain⟨f,e,a3,d,a⟩:=x4;rw[À];rw[show((((0:Int),(2:Int)),[((1:Int),(0:Int),(1000:Int),((-5:Int),(5:Int)),((1:Int),(10:Int)),(1:Int)),((2:Int),(0:Int),(1000:Int),((-50:Int),(50:Int)),((1:Int),(4:Int)),(0:Int))],[((1:Int),(10:Int))],[((1:Int),((20:Int),(29:Int)),(3:Int))],[((7:Int),(10:Int),[(1:Int)],[(2:Int)],(-20:Int),(1:Int),(100:Int),(200:Int))],([]:AS (Int×Int))):à)=exB from rfl]
 rw[Ox nt,À,Si nt,À,Ql nt,À,Om nt,À,HX nt,À,DU nt.size nt.num,À,DU nt.size nt.num,À,
  show χ exB ((8:Int),(10:Int),[(1:Int)],[(2:Int)],(0:Int),(0:Int),(0:Int),(0:Int))=some (iT exB exC) from vP nt.size nt.num (c:=exC) (by decide) (by decide),À,Can_ok nt _ (by decide) (by decide),À,x1,x2,x3,x5,x6,x7,x8,x9]
 rw[f,a,Þ,Þ,Þ,e,a3];rw[show((9:Int))=((9:Nat):Int) from rfl,Í d];rfl
def Ee (b:à):Bool :=
 !((b.2.2.2.2.1.take 60).any fun c=>decide (9<c.2.2.1.length)||decide (9<c.2.2.2.1.length))&&(decide (b.2.1.length<=14)&&(decide (b.2.2.1.length<=42)&&(decide (b.2.2.2.1.length<=14)&&(decide (b.2.2.2.2.1.length<=42)&&decide (b.2.2.2.2.2.length<=12)))))
def OY (b:à):pz b=some (Ee b):=by
 unfold pz BA
 have last:(ifb (ile (Û b.2.1) (14:Int)) (ifb (ile (Û b.2.2.1) (42:Int)) (ifb (ile (Û b.2.2.2.1) (14:Int)) (ifb (ile (Û b.2.2.2.2.1) (42:Int)) (some (ile (Û b.2.2.2.2.2) (12:Int))) (some false)) (some false)) (some false)) (some false)) =
  some (decide (b.2.1.length<=14)&&(decide (b.2.2.1.length<=42)&&(decide (b.2.2.2.1.length<=14)&&(decide (b.2.2.2.2.1.length<=42)&&decide (b.2.2.2.2.2.length<=12))))):=by
  have e:∀(n m:Nat),ile (n:Int) (m:Int)=decide (n<=m):=fun n m=>by simp[ile]
  rw[Þ,Þ,Þ,Þ,Þ,show(14:Int)=((14:Nat):Int) from rfl,show(42:Int)=((42:Nat):Int) from rfl,show(12:Int)=((12:Nat):Int) from rfl,e,e,e,e,e];generalize decide (b.2.1.length<=14)=x1;generalize decide (b.2.2.1.length<=42)=x2;generalize decide (b.2.2.2.1.length<=14)=x3;generalize decide (b.2.2.2.2.1.length<=42)=x4
  cases x1<;>cases x2<;>cases x3<;>cases x4<;>rfl
 refine dg (ζ (b.2.2.2.2.1.take 60) (fun c=>decide (9<c.2.2.1.length)||decide (9<c.2.2.2.1.length)) (fun _=>some false) (some false) (some (decide (b.2.1.length<=14)&&(decide (b.2.2.1.length<=42)&&(decide (b.2.2.2.1.length<=14)&&(decide (b.2.2.2.2.1.length<=42)&&decide (b.2.2.2.2.2.length<=12)))))) (fun _=>rfl) (fun i c hi d g=>?_) (fun g=>?_)) ?_
 ·try dsimp only
  unfold iF;rw[List.length_take] at hi
  have a:b.2.2.2.2.1[i]?=some c:=by rw[cr] at d; split at d<;>simp_all
  rw[Ø (show i<b.2.2.2.2.1.length by omega),ø (by simp[ilt]; omega),Í a,Í a,ë (by omega) (by omega),Ė,Þ,Þ]
  by_cases f:9<c.2.2.1.length
  ·rw[if_pos (by simp[igt]; omega),if_pos (by simp[f])]
  ·rw[if_neg (by simp[igt]; omega),Ė]
   by_cases h2:9<c.2.2.2.1.length
   ·rw[if_pos (by simp[igt]; omega),if_pos (by simp[h2])]
   ·rw[if_neg (by simp[igt]; omega),if_neg (by simp[f,h2])]
 ·try dsimp only
  unfold iF;rw[last,List.length_take,Ė]
  split
  ·rename_i h
   have h':60<b.2.2.2.2.1.length:=by rw[Þ] at h; simp[ilt] at h; omega
   rw[á (by simp[ilt]; omega)]
  ·rfl
 ·unfold Ee
  cases List.any (List.take 60 b.2.2.2.2.1) (fun c=>decide (9<c.2.2.1.length)||decide (9<c.2.2.2.1.length))<;>rfl
def J2 {b:à} (h:Ee b=true):fU b/\b.2.2.2.2.1.length<=42/\∀c∈b.2.2.2.2.1,c.2.2.1.length<=9/\c.2.2.2.1.length<=9:=by
 simp only[Ee,bu,cg,decide_eq_true_eq] at h;obtain⟨h0,i,h2,g,e,f⟩:=h
 have d:∀c∈b.2.2.2.2.1,c.2.2.1.length<=9/\c.2.2.2.1.length<=9:=by
  intro c a;rw[cG (by omega)] at h0;have:=cN.1 h0 c a;simp at this;omega
 exact⟨⟨by omega,by omega,by omega,by omega,by omega,fun c a=>by have:=d c a; omega⟩,e,d⟩
section
variable {b:à}
def Rk:off b b.2.1.length=(Î b).length:=by unfold off Î; rw[List.take_length]
def Ph:∀n,n<=b.2.1.length->∀j,j<off b n->∃(i:Nat) (g:ß) (k:Nat),b.2.1[i]?=some g/\k<(Ö b g).length/\j=off b i+k:=by
 intro n
 induction n with
 |zero=>intro _ j a; simp[off] at a
 |succ n e =>
  intro f j a;have d:b.2.1[n]?=some b.2.1[n]:=br (by omega);rw[Pg d] at a
  by_cases h:j<off b n
  ·exact e (by omega) j h
  ·exact⟨n,_,j-off b n,d,by omega,by omega⟩
def Bu {v:Int} (h0:1<=v) (e:v<((Î b).length+1:Nat)):∃(i:Nat) (g:ß) (k:Nat),b.2.1[i]?=some g/\k<(Ö b g).length/\v=(off b i:Int)+k+1:=by
 obtain⟨i,g,k,h2,a,d⟩:=Ph (b:=b) b.2.1.length (bt _) (v-1).toNat (by rw[Rk]; omega);exact⟨i,g,k,h2,a,by omega⟩
def GL (b:à) (L:AS Lk):Prop:=∀(i:Nat) (g:ß),b.2.1[i]?=some g->∀l∈ą b g,l∈L
def Q4 {L:AS Lk} (h:Ĉ b) (o:GL b L) {v:Int} (h0:0<=v) (y:v<((Î b).length+1:Nat)):∃vs d,Wl L (fun u=>u=0) vs v d/\d<=4503599627370496:=by
 by_cases s:v=0
 ·exact⟨[],0,.nil s,by omega⟩
 obtain⟨i,g,k,j,m,rfl⟩:=Bu (by omega) y;have n:=h.gaugeR (bI j);have r1:=n.2.2.2.2.2.1;have r2:=n.2.2.2.2.2.2.1
 have l:∀k:Nat,k<(Ö b g).length->∃vs,Wl L (fun u=>u=0) vs ((off b i:Int)+k+1) (g.2.2.1+g.2.2.2.1.2):=by
  intro k
  induction k with
  |zero =>
   intro _;have a:Wl L (fun u=>u=0) [0] ((off b i:Int)+1) (0+(g.2.2.1+g.2.2.2.1.2)):=Wl.step (.nil rfl) (o i g j _ ((č h j).2 (.inl rfl)));rw[Int.zero_add] at a;exact⟨[0],by simpa using a⟩
  |succ k r =>
   intro m;obtain⟨vs,a⟩:=r (by omega);have f:=Wl.step a (o i g j _ ((č h j).2 (.inr (.inr ⟨k,_,_,br (show k<_ by omega),br m,.inl rfl⟩))));rw[fe] at f
   have e:(off b i:Int)+((k+1:Nat):Int)+1=(off b i:Int)+k+2:=by push_cast; omega
   exact⟨_,by rw[e]; exact f⟩
 obtain⟨vs,a⟩:=l k m;exact⟨vs,_,a,by omega⟩
def Lt {L:AS Lk} (h:Ĉ b) (s:GL b L) {v:Int} (h0:0<=v) (E:v<((Î b).length+1:Nat)):∃vs d,Wl L (fun u=>u=v) vs 0 d/\d<=4503599627370496:=by
 by_cases z:v=0
 ·exact⟨[],0,.nil z.symm,by omega⟩
 obtain⟨i,g,k,l,H,rfl⟩:=Bu (by omega) E;have a:=bI l;have r:=h.gaugeR a;have r1:=r.2.2.2.2.2.1;have r2:=r.2.2.2.2.2.2.1;have hd:=Dv h a
 have n:∀m:Nat,m<=k->∃vs d,Wl L (fun u=>u=(off b i:Int)+k+1) vs ((off b i:Int)+(k-m:Nat)+1) d/\d<=m*(12*(20001*1048576)+40*1048576):=by
  intro m
  induction m with
  |zero=>intro _; exact⟨[],0,.nil (by simp),by simp⟩
  |succ m y =>
   intro G;obtain⟨vs,d,j,hd⟩:=y (by omega)
   have I:((k-m:Nat):Int)=((k-(m+1):Nat):Int)+1:=by omega
   have C:(((off b i:Int)+(k-(m+1):Nat)+2,(off b i:Int)+(k-(m+1):Nat)+1,ű b g ((Ö b g)[k-(m+1)]'(by omega)) ((Ö b g)[k-(m+1)+1]'(by omega))):Lk)∈L :=
    s i g l _ ((č h l).2 (.inr (.inr ⟨k-(m+1),_,_,br (by omega),br (by omega),.inr rfl⟩)))
   have hb:=mN h a (f:=(Ö b g)[k-(m+1)]'(by omega)) (t:=(Ö b g)[k-(m+1)+1]'(by omega)) (h.day a (dJ _)).2.1
   have F:(off b i:Int)+(k-m:Nat)+1=(off b i:Int)+(k-(m+1):Nat)+2:=by omega
   rw[F] at j;exact⟨_,_,.step j C,by push_cast; omega⟩
 obtain⟨vs,d,j,D⟩:=n k (bt _)
 have e:(off b i:Int)+(k-k:Nat)+1=(off b i:Int)+1:=by omega
 rw[e] at j;have o:=Wl.step j (s i g l _ ((č h l).2 (.inr (.inl rfl))));exact⟨_,_,o,by omega⟩
end
structure DS (L:AS Lk) (N:Nat):Prop where
 to:∀v:Int,0<=v->v<N->∃vs d,Wl L (fun u=>u=0) vs v d/\d<=4503599627370496
 from':∀v:Int,0<=v->v<N->∃vs d,Wl L (fun u=>u=v) vs 0 d/\d<=4503599627370496
def Ĉ.tiedL {b:à} {L:AS Lk} (h:Ĉ b) (d:GL b L):DS L ((Î b).length+1):=⟨fun v h0 a=>Q4 h d h0 a,fun v h0 a=>Lt h d h0 a⟩
section
variable {L:AS Lk} {N:Nat}
def L8 {L:AS Lk} {s:Int} {vs:AS Int} {v d:Int}:Wl L (fun v=>L9 s v=true) vs v d↔Wl L (fun u=>u=s) vs v d :=
 ⟨fun h=>h.mono fun u a=>by simpa[L9] using a,fun h=>h.mono fun u a=>by simpa[L9] using a⟩
def HO (h:jJ L N) (g:Œ L N=true) {v:Int} (h0:0<=v) (d:v<N):gv (kS L N v) v=0:=by
 have h2:=h.n60;obtain⟨p,a⟩:=(ŝ h.links (by omega)).1 g;have hd:=gD h.links (by omega) a (s:=v) ⟨h0,d⟩;have j:=hd.low v [] 0 (.nil (by simp[L9]));obtain⟨vs,e⟩:=hd.att v h0 d (by unfold fA; omega);obtain⟨s,f,i⟩:=(L8.1 e).pot a;subst f;omega
end
def GD (b:à) (id a:Int):Bool:=b.2.2.1.any fun u=>u.1==id&&u.2==a
def NA (b:à) (g:ß) (d:Int):Int:=match kT b g.1 d with|some l=>l.2.2|none=>if GD b g.1 d then g.2.2.2.2.2 else 0
def MJ (l:uC) (id:Int) {f t:Int} (n:f<=t):(if l.1=id/\0<ô l f (t+1) then ô l f (t+1)*l.2.2 else 0)=(if l.1=id/\0<ô l f t then ô l f t*l.2.2 else 0)+(if l.1=id/\l.2.1.1<=t/\t<=l.2.1.2 then l.2.2 else 0):=by
 by_cases a:l.1=id
 ·by_cases g:l.2.1.1<=t/\t<=l.2.1.2
  ·have e:ô l f (t+1)=ô l f t+1:=by unfold ô; omega
   have p:0<=ô l f t:=by unfold ô; omega
   rw[e,if_pos ⟨a,by omega⟩,if_pos (show l.1=id/\l.2.1.1<=t/\t<=l.2.1.2 from⟨a,g⟩),eJ,eS]
   by_cases d:0<ô l f t
   ·rw[if_pos ⟨a,d⟩]
   ·rw[if_neg (fun h=>d h.2)]
    have:ô l f t=0:=by omega
    rw[this];omega
  ·rw[if_neg (show ¬(l.1=id/\l.2.1.1<=t/\t<=l.2.1.2) from fun h=>g h.2),fe]
   by_cases m:l.2.1.1<=t
   ·have e:ô l f (t+1)=ô l f t:=by unfold ô; omega
    rw[e]
   ·have j:¬0<ô l f (t+1):=by unfold ô; omega
    have i:¬0<ô l f t:=by unfold ô; omega
    rw[if_neg (fun h=>j h.2),if_neg (fun h=>i h.2)]
 ·rw[if_neg (fun h=>a h.1),if_neg (fun h=>a h.1),if_neg (fun h=>a h.1)];rfl
def BN (id:Int) {f t:Int} (g:f<=t):∀{x:AS uC},x.Pairwise (fun a c=>¬(a.1=c.1/\a.2.1.1<=c.2.1.2/\c.2.1.1<=a.2.1.2)) ->
 û id f (t+1) x=û id f t x+(match x.find? (fun l=>l.1==id&&inP t l.2.1.1 l.2.1.2) with|some l=>l.2.2|none=>0)
 |[],_=>rfl
 |l::r,j=>by
  rw[b7] at j;have m:=BN id g j.2;simp only[û];rw[m,MJ l id g,eN]
  by_cases d:l.1=id/\l.2.1.1<=t/\t<=l.2.1.2
  ·have e:(l.1==id&&inP t l.2.1.1 l.2.1.2)=true:=by simp[inP,d.1,d.2.1,d.2.2]
   have n:r.find? (fun l=>l.1==id&&inP t l.2.1.1 l.2.1.2)=none:=by
    rw[ci];intro c o i;simp only[inP,bu,beq_iff_eq,decide_eq_true_eq] at i;exact j.1 c o ⟨by rw[d.1,i.1],by omega,by omega⟩
   rw[if_pos d,e,n];simp only;omega
  ·have e:(l.1==id&&inP t l.2.1.1 l.2.1.2)=false:=by
    rw[di];intro h;simp only[inP,bu,beq_iff_eq,decide_eq_true_eq] at h;exact d h
   rw[if_neg d,e];simp only;omega
section
variable {b:à}
def Ĉ.apart (h:Ĉ b):b.2.2.2.1.Pairwise (fun a c=>¬(a.1=c.1/\a.2.1.1<=c.2.1.2/\c.2.1.1<=a.2.1.2)):=by
 rw[List.pairwise_iff_getElem];intro i j hi f g ⟨m,h2,l⟩;have e:=h.loans j _ (List.getElem?_eq_getElem f);unfold tM at e
 have d:(b.2.2.2.1.take j).any (fun x=>x.1==b.2.2.2.1[j].1&&(decide (x.2.1.1<=b.2.2.2.1[j].2.1.2)&&decide (b.2.2.2.1[j].2.1.1<=x.2.1.2)))=true:=by
  rw[dW];exact⟨b.2.2.2.1[i],bK.2 ⟨i,by rw[bU]; omega,by rw[dQ]⟩,by simp[m,h2,l]⟩
 rw[d] at e
 (repeat' split at e)<;>first|omega|simp_all
def Ĉ.notUsed (h:Ĉ b) {id d:Int} {l:uC} (m:kT b id d=some l):GD b id d=false:=by
 have n:=List.mem_of_find?_eq_some m;have i:=List.find?_some m;simp only[inP,bu,beq_iff_eq,decide_eq_true_eq] at i;obtain⟨j,o,rfl⟩:=bK.1 n;have f:=h.loans j _ (br o);rw[di];intro g;obtain⟨u,g,a⟩:=dW.1 g;simp only[bu,beq_iff_eq] at a
 have e:b.2.2.1.any (fun u=>u.1==b.2.2.2.1[j].1&&inP u.2 b.2.2.2.1[j].2.1.1 b.2.2.2.1[j].2.1.2)=true:=by
  rw[dW];exact⟨u,g,by simp only[inP,bu,beq_iff_eq,decide_eq_true_eq]; exact⟨by rw[a.1,i.1],by omega,by omega⟩⟩
 unfold tM at f;rw[e] at f
 (repeat' split at f)<;>first|omega|simp_all
def DZ {id f t:Int} (j:f<=t):Be (Ŋ b id f (t+1))=Be (Ŋ b id f t)++if GD b id t then[t] else[]:=by
 have i:∀t x,x∈Ŋ b id f t↔GD b id x=true/\f<=x/\x<t:=by
  intro t x;unfold Ŋ GD;simp only[List.mem_map,List.mem_filter,List.any_eq_true,inP,Bool.and_eq_true,beq_iff_eq,decide_eq_true_eq];constructor
  ·rintro⟨u,⟨d,h2,e,n⟩,rfl⟩;exact⟨⟨u,d,h2,rfl⟩,e,by omega⟩
  ·rintro⟨⟨u,d,h2,rfl⟩,e,n⟩;exact⟨u,⟨d,h2,e,by omega⟩,rfl⟩
 refine Sf (qZ _) ?_ fun x=>?_
 ·rw[List.pairwise_append]
  refine⟨qZ _,by split<;>simp,fun a ha c m=>?_⟩
  rw[pd,i] at ha
  split at m
  ·rw[bE] at m; omega
  ·cases m
 ·rw[pd,i,bw,pd,i]
  by_cases g:GD b id t=true
  ·rw[if_pos g,bE];constructor
   ·rintro⟨d,h2,e⟩
    by_cases l:x=t
    ·exact .inr l
    ·exact .inl ⟨d,h2,by omega⟩
   ·rintro(⟨d,h2,e⟩|rfl)
    ·exact⟨d,h2,by omega⟩
    ·exact⟨g,j,by omega⟩
  ·rw[if_neg g];constructor
   ·rintro⟨d,h2,e⟩;refine .inl ⟨d,h2,?_⟩
    by_cases l:x=t
    ·rw[l] at d; exact absurd d g
    ·omega
   ·rintro(⟨d,h2,e⟩|h)
    ·exact⟨d,h2,by omega⟩
    ·cases h
def Fw (h:Ĉ b) (g:ß) {f t:Int} (a:f<=t):ű b g f (t+1)=ű b g f t+NA b g t:=by
 unfold ű NA;rw[BN g.1 a h.apart,DZ a];show û g.1 f t b.2.2.2.1+(match kT b g.1 t with|some l=>l.2.2|none=>0)+_=_
 cases ha:kT b g.1 t with
 |some l =>
  rw[h.notUsed ha];simp only[bO,if_false,bW];omega
 |none =>
  simp only
  cases GD b g.1 t with
  |true=>simp only[if_true,bz,cj,Int.natCast_add,eJ]; omega
  |false=>simp only[bO,if_false,bW]; omega
def Fx (g:ß) {f t:Int} (d:t<=f):ű b g f t=0:=by
 unfold ű
 have i:∀x:AS uC,û g.1 f t x=0:=by
  intro x
  induction x with
  |nil=>rfl
  |cons l r a =>
   simp only[û];rw[a,if_neg (by unfold ô; omega)];rfl
 have h2:Ŋ b g.1 f t=[]:=by
  unfold Ŋ
  rw[List.filter_eq_nil_iff.2 fun u j e=>by
   simp only[inP,bu,beq_iff_eq,decide_eq_true_eq] at e
   omega]
  rfl
 rw[i,h2];have h:Be ([]:AS Int)=[]:=rfl;rw[h];simp
end
section
variable {b:à}
def xp (h:Ĉ b) (g:ß) {f t u:Int} (d:f<=t) (h2:t<=u):ű b g f u=ű b g f t+ű b g t u:=by
 obtain⟨n,rfl⟩:∃n:Nat,u=t+n:=⟨(u-t).toNat,by omega⟩;clear h2
 induction n with
 |zero=>simp[Fx]
 |succ n a =>
  have e:t+((n+1:Nat):Int)=(t+n)+1:=by omega
  rw[e,Fw h g (show f<=t+(n:Int) by omega),Fw h g (show t<=t+(n:Int) by omega),a];omega
def rE (h:Ĉ b) {g:ß} (a:g∈b.2.1) {f t:Int} (d:0<=f):0<=ű b g f t:=(mN h a d).1
def ķ (b:à) (id d:Int):Int:=match ii (Î b) id d with|some j=>(j:Int)+1|none=>0
def jO (h:Ĉ b) {i:Nat} {g:ß} (e:b.2.1[i]?=some g) {k:Nat} {d:Int} (a:(Ö b g)[k]?=some d):ķ b g.1 d=(off b i:Int)+k+1:=by
 unfold ķ;rw[Ha h e a];simp only;omega
structure jC (b:à) (p:Int->Int) (g:ß):Prop where
 hi:p (ķ b g.1 g.2.1)<=p 0+(g.2.2.1+g.2.2.2.1.2)
 lo:p 0+(g.2.2.1+g.2.2.2.1.1)<=p (ķ b g.1 g.2.1)
 down:∀d e,d∈Ö b g->e∈Ö b g->d<=e->p (ķ b g.1 e)<=p (ķ b g.1 d)
 loss:∀d e,d∈Ö b g->e∈Ö b g->d<=e->p (ķ b g.1 d)<=p (ķ b g.1 e)+ű b g d e
def iM (h:Ĉ b) {i:Nat} {g:ß} (j:b.2.1[i]?=some g) {p:Int->Int}:(∀l∈ą b g,p l.2.1<=p l.1+l.2.2)↔jC b p g:=by
 have G:=bI j;obtain⟨V,E⟩:=FW h G
 have h0:ķ b g.1 g.2.1=(off b i:Int)+1:=by
  have:=jO h j (k:=0) (d:=g.2.1) (by rw[E]; rfl);rw[this];omega
 constructor
 ·intro r;have U:=r _ ((č h j).2 (.inl rfl));have T:=r _ ((č h j).2 (.inr (.inl rfl)));simp only at U T
  have step:∀(k:Nat) (d e:Int),(Ö b g)[k]?=some d->(Ö b g)[k+1]?=some e->p (ķ b g.1 e)<=p (ķ b g.1 d)/\p (ķ b g.1 d)<=p (ķ b g.1 e)+ű b g d e:=by
   intro k d e hd a;have s:=r _ ((č h j).2 (.inr (.inr ⟨k,d,e,hd,a,.inl rfl⟩)));have o:=r _ ((č h j).2 (.inr (.inr ⟨k,d,e,hd,a,.inr rfl⟩)));simp only at s o;rw[jO h j hd,jO h j a]
   have z:(off b i:Int)+((k+1:Nat):Int)+1=(off b i:Int)+k+2:=by omega
   rw[z];exact⟨by omega,o⟩
  have pair:∀(n k:Nat) (d e:Int),(Ö b g)[k]?=some d->(Ö b g)[k+n]?=some e->p (ķ b g.1 e)<=p (ķ b g.1 d)/\p (ķ b g.1 d)<=p (ķ b g.1 e)+ű b g d e:=by
   intro n
   induction n with
   |zero =>
    intro k d e hd a;rw[dD,hd] at a;cases a;rw[Fx g (cF _)];omega
   |succ n Q =>
    intro k d e hd a;have v:=(bB.1 a).1;have u:(Ö b g)[k+n]?=some ((Ö b g)[k+n]'(by omega)):=br (by omega);obtain⟨s,o⟩:=Q k d _ hd u;obtain⟨a3,D⟩:=step (k+n) _ e u a
    have P:d<=(Ö b g)[k+n]'(by omega):=by
     obtain⟨F,y⟩:=bB.1 hd;rcases ez n with rfl|W
     ·rw[<-y]; exact Int.le_of_eq (by congr 1)
     ·have:=(b5.1 (rO b g)) k (k+n) F (by omega) (by omega);rw[y] at this; omega
    have O:(Ö b g)[k+n]'(by omega)<=e:=by
     obtain⟨I,J⟩:=bB.1 a;have:=(b5.1 (rO b g)) (k+n) (k+(n+1)) (by omega) I (by omega);rw[J] at this; omega
    have:=xp h g P O;omega
  have any:∀d e,d∈Ö b g->e∈Ö b g->d<=e->p (ķ b g.1 e)<=p (ķ b g.1 d)/\p (ķ b g.1 d)<=p (ķ b g.1 e)+ű b g d e:=by
   intro d e hd a f;obtain⟨k,K,rfl⟩:=bK.1 hd;obtain⟨m,u,rfl⟩:=bK.1 a
   have R:k<=m:=by
    rcases cd m k with v|H
    ·have:=(b5.1 (rO b g)) m k u K v; omega
    ·exact H
   exact pair (m-k) k _ _ (br K) (by rw[show k+(m-k)=m by omega]; exact br u)
  exact⟨by rw[h0]; omega,by rw[h0]; omega,fun d e hd a f=>(any d e hd a f).1,fun d e hd a f=>(any d e hd a f).2⟩
 ·intro C l r;rcases(č h j).1 r with rfl|rfl|⟨k,d,e,hd,a,rfl|rfl⟩
  ·have:=C.hi; rw[h0] at this; simp only; omega
  ·have:=C.lo; rw[h0] at this; simp only; omega
  ·have f:d<=e:=by
    obtain⟨s,o⟩:=bB.1 hd;obtain⟨a3,D⟩:=bB.1 a;have:=(b5.1 (rO b g)) k (k+1) s a3 (by omega);rw[o,D] at this; omega
   have:=C.down d e (bI hd) (bI a) f;rw[jO h j hd,jO h j a] at this
   have z:(off b i:Int)+((k+1:Nat):Int)+1=(off b i:Int)+k+2:=by omega
   rw[z] at this;simp only;omega
  ·have f:d<=e:=by
    obtain⟨s,o⟩:=bB.1 hd;obtain⟨a3,D⟩:=bB.1 a;have:=(b5.1 (rO b g)) k (k+1) s a3 (by omega);rw[o,D] at this; omega
   have:=C.loss d e (bI hd) (bI a) f;rw[jO h j hd,jO h j a] at this
   have z:(off b i:Int)+((k+1:Nat):Int)+1=(off b i:Int)+k+2:=by omega
   rw[z] at this;simp only;exact this
def CD (h:Ĉ b) {p:Int->Int}:Pot (ĕ b) p↔(∀g∈b.2.1,jC b p g)/\∀c∈b.2.2.2.2.1,p (cx b c)<=p (cy b c)+(ū b c).2/\p (cy b c)+(ū b c).1<=p (cx b c):=by
 constructor
 ·intro f;refine⟨fun g j=>?_,fun c e=>?_⟩
  ·obtain⟨i,hi,rfl⟩:=bK.1 j;exact(iM h (br hi)).1 fun l a=>f l.1 l.2.1 l.2.2 (i6.2 (.inl ⟨i,_,br hi,a⟩))
  ·have o:=f _ _ _ (i6.2 (.inr ⟨c,e,.inl rfl⟩));have r:=f _ _ _ (i6.2 (.inr ⟨c,e,.inr rfl⟩));omega
 ·rintro⟨j,e⟩ u v m a;rcases i6.1 a with⟨i,g,d,a⟩|⟨c,n,a⟩
  ·exact(iM h d).2 (j g (bI d)) (u,v,m) a
  ·obtain⟨o,r⟩:=e c n;rcases a with a|a
   ·obtain⟨rfl,rfl,rfl⟩:u=cy b c/\v=cx b c/\m=(ū b c).2:=by simpa using a
    exact o
   ·obtain⟨rfl,rfl,rfl⟩:u=cx b c/\v=cy b c/\m = -(ū b c).1:=by simpa using a
    omega
end
def Qz:AS Int->Int
 |[]=>0
 |[a]=>a
 |a::b::t=>max a (Qz (b::t))
def ES:∀{l:AS Int},l≠[]->(∀a∈l,a<=Qz l)/\Qz l∈l
 |[],h=>absurd rfl h
 |[a],_=>⟨fun x d=>by rw[bE] at d; rw[d]; exact cF _,by simp[Qz]⟩
 |a::b::t,_=>by
  obtain⟨f,h2⟩:=ES (l:=b::t) (by simp);have e:Qz (a::b::t)=max a (Qz (b::t)):=rfl;rw[e];constructor
  ·intro x d;rcases bC.1 d with rfl|d
   ·omega
   ·have:=f x d; omega
  ·rcases Int.le_total a (Qz (b::t)) with h|h
   ·rw[Int.max_eq_right h]; exact dR _ h2
   ·rw[Int.max_eq_left h]; exact List.mem_cons_self
section
variable {b:à}
def Bm (b:à) (f:Int->Int->Int) (z:Int) (v:Int):Int:=if v=0 then z else match (Î b)[(v-1).toNat]? with|some n=>f n.1 n.2|none=>0
def jj (f:Int->Int->Int) (z:Int):Bm b f z 0=z:=by unfold Bm; rw[if_pos rfl]
def sf (h:Ĉ b) (f:Int->Int->Int) (z:Int) {g:ß} (m:g∈b.2.1) {d:Int} (hd:d∈Ö b g):Bm b f z (ķ b g.1 d)=f g.1 d:=by
 obtain⟨i,hi,rfl⟩:=List.mem_iff_getElem.1 m;obtain⟨k,l,rfl⟩:=List.mem_iff_getElem.1 hd;have a:=List.getElem?_eq_getElem hi;have j:=List.getElem?_eq_getElem l;rw[jO h a j];unfold Bm
 have e:((off b i:Int)+k+1-1).toNat=off b i+k:=by omega
 rw[if_neg (by omega),e,Pj a j]
def xa (b:à) (l:AS Int) (d:Int):Int:=match l with|[]=>0|x::_=>ķ b x d
def JJ (l:AS Int) (d:Int):atP (Î b) l d=xa b l d:=by
 unfold atP xa ķ
 cases l<;>rfl
def vB (c:Cmp):cx b c=xa b (å c.2.2.1 c.2.2.2.1) c.2.1:=JJ _ _
def vA (c:Cmp):cy b c=xa b (å c.2.2.2.1 c.2.2.1) c.2.1:=JJ _ _
def iJ (h:Ĉ b) {c:Cmp} (m:c∈b.2.2.2.2.1) {x:Int} (f:x∈å c.2.2.1 c.2.2.2.1\/x∈å c.2.2.2.1 c.2.2.1):∃g∈b.2.1,g.1=x/\c.2.1∈Ö b g:=by
 have d:(x∈c.2.2.1/\x∉c.2.2.2.1)\/(x∈c.2.2.2.1/\x∉c.2.2.1):=by
  rcases f with f|f
  ·exact .inl (gW.1 f)
  ·exact .inr (gW.1 f)
 have n:x∈c.2.2.1++c.2.2.2.1:=by rw[bw]; exact d.imp (·.1) (·.1)
 obtain⟨⟨g,o,_⟩,_⟩:=h.pile m n;obtain⟨j,i⟩:=g8 o;refine⟨g,j,i,g9.2 (.inr (.inl ⟨c,m,?_,rfl⟩))⟩;rw[i];intro l;rw[dj,List.contains_iff_mem,List.contains_iff_mem] at l;rcases d with⟨a,e⟩|⟨a,e⟩
 ·exact e (l.1 a)
 ·exact e (l.2 a)
def fill (b:à) (p:Int->Int) (g:ß) (d:Int):Int:=Qz ((Ö b g).map fun e=>if d<=e then p (ķ b g.1 e) else p (ķ b g.1 e)-ű b g e d)
def zp {p:Int->Int} {g:ß} (d:Int):(∀e∈Ö b g,(if d<=e then p (ķ b g.1 e) else p (ķ b g.1 e)-ű b g e d)<=fill b p g d)/\∃e∈Ö b g,fill b p g d=if d<=e then p (ķ b g.1 e) else p (ķ b g.1 e)-ű b g e d:=by
 have a:((Ö b g).map fun e=>if d<=e then p (ķ b g.1 e) else p (ķ b g.1 e)-ű b g e d)≠[]:=by
  intro h;have:=List.map_eq_nil_iff.1 h;have h2:=gI (b:=b) g;rw[this] at h2;cases h2
 obtain⟨j,h2⟩:=ES a;refine⟨fun e f=>j _ (cD.2 ⟨e,f,rfl⟩),?_⟩;obtain⟨e,f,i⟩:=cD.1 h2;exact⟨e,f,i.symm⟩
def xw (h:Ĉ b) {p:Int->Int} {g:ß} (m:g∈b.2.1) (f:jC b p g) {d:Int} (hd:d∈Ö b g):fill b p g d=p (ķ b g.1 d):=by
 obtain⟨l,e,i,h2⟩:=zp (b:=b) (p:=p) (g:=g) d;have j:=l d hd;rw[if_pos (cF _)] at j
 have n:fill b p g d<=p (ķ b g.1 d):=by
  rw[h2]
  split
  ·rename_i a;exact f.down d e hd i a
  ·rename_i a;have:=f.loss e d i hd (by omega);omega
 omega
def tZ (h:Ĉ b) {p:Int->Int} {g:ß} (a:g∈b.2.1) (E:jC b p g) {d e:Int} (h0:g.2.1<=d) (j:d<=e):fill b p g e<=fill b p g d/\fill b p g d<=fill b p g e+ű b g d e:=by
 obtain⟨z,x,n,v⟩:=zp (b:=b) (p:=p) (g:=g) d;obtain⟨s,y,m,r⟩:=zp (b:=b) (p:=p) (g:=g) e;have C:=(h.gaugeR a).2.2.2.2.1;have D:=rE h a (f:=d) (t:=e) (by omega);have F:=h.day a n;have o:=h.day a m;constructor
 ·have q:=z y m;rw[r]
  by_cases i:e<=y
  ·rw[if_pos i];rw[if_pos (by omega)] at q;exact q
  ·rw[if_neg i]
   by_cases l:d<=y
   ·rw[if_pos l] at q;have:=rE h a (f:=y) (t:=e) o.2.1;omega
   ·rw[if_neg l] at q;have:=xp h g (f:=y) (t:=d) (u:=e) (by omega) j;omega
 ·have q:=s x n;rw[v]
  by_cases i:d<=x
  ·rw[if_pos i]
   by_cases l:e<=x
   ·rw[if_pos l] at q;omega
   ·rw[if_neg l] at q;have:=xp h g (f:=d) (t:=x) (u:=e) i (by omega);have:=rE h a (f:=d) (t:=x) (by omega);omega
  ·rw[if_neg i];rw[if_neg (by omega)] at q;have:=xp h g (f:=x) (t:=d) (u:=e) (by omega) j;omega
end
section
variable {b:à} {c:Cmp}
def M9:ò (è b c)=(è b c).2.1.flatMap (ą (è b c))++b.2.2.2.2.1.flatMap (Ą (è b c)):=by
 unfold ò
 have e:ĕ (è b c)=((è b c).2.1.flatMap (ą (è b c))++b.2.2.2.2.1.flatMap (Ą (è b c)))++Ą (è b c) c:=by
  unfold ĕ;rw[show(è b c).2.2.2.2.1=b.2.2.2.2.1++[c] from rfl,List.flatMap_append,List.append_assoc];simp
 rw[e,bz,show(Ą (è b c) c).length=2 from rfl,eO,List.take_left]
def xr (h':Ĉ (è b c)) {p:Int->Int}:Pot (ò (è b c)) p↔(∀g∈b.2.1,jC (è b c) p g)/\∀d∈b.2.2.2.2.1,p (cx (è b c) d)<=p (cy (è b c) d)+(ū b d).2/\p (cy (è b c) d)+(ū b d).1<=p (cx (è b c) d):=by
 rw[M9];constructor
 ·intro h;refine⟨fun g j=>?_,fun d hd=>?_⟩
  ·obtain⟨i,hi,rfl⟩:=bK.1 j;exact(iM h' (i:=i) (br hi)).1 fun l a=>h l.1 l.2.1 l.2.2 (bw.2 (.inl (bP.2 ⟨_,dJ hi,a⟩)))
  ·have n:=h (cy (è b c) d) (cx (è b c) d) (ū (è b c) d).2 (bw.2 (.inr (bP.2 ⟨d,hd,by simp[Ą]⟩)));have o:=h (cx (è b c) d) (cy (è b c) d) (-(ū (è b c) d).1) (bw.2 (.inr (bP.2 ⟨d,hd,by simp[Ą]⟩)));have e:ū (è b c) d=ū b d:=rfl;rw[e] at n o;omega
 ·rintro⟨j,r⟩ u v m a;rcases bw.1 a with a|a
  ·obtain⟨g,f,a⟩:=bP.1 a;obtain⟨i,hi,rfl⟩:=bK.1 f;exact(iM h' (i:=i) (br hi)).2 (j _ f) (u,v,m) a
  ·obtain⟨d,hd,a⟩:=bP.1 a;obtain⟨n,o⟩:=r d hd;have e:ū (è b c) d=ū b d:=rfl;simp only[Ą,bC,cR,or_false,e] at a;rcases a with a|a
   ·obtain⟨rfl,rfl,rfl⟩:u=cy (è b c) d/\v=cx (è b c) d/\m=(ū b d).2:=by simpa using a
    exact n
   ·obtain⟨rfl,rfl,rfl⟩:u=cx (è b c) d/\v=cy (è b c) d/\m = -(ū b d).1:=by simpa using a
    omega
def l7 {g:ß} {d:Int} (hd:d∈Ö b g):d∈Ö (è b c) g:=by
 rcases g9.1 hd with e|⟨x,a,h,h2⟩|f
 ·exact g9.2 (.inl e)
 ·exact g9.2 (.inr (.inl ⟨x,bw.2 (.inl a),h,h2⟩))
 ·exact g9.2 (.inr (.inr f))
def MB (g:ß) (f t:Int):ű (è b c) g f t=ű b g f t:=rfl
def vJ {d:à} (h':Ĉ d) {l:AS Int} {a:Int} (f:Int->Int->Int) (z:Int) (e:∀x∈l,∃g∈d.2.1,g.1=x/\a∈Ö d g):Bm d f z (xa d l a)=match l with|[]=>z|x::_=>f x a:=by
 unfold xa
 cases l with
 |nil=>exact jj f z
 |cons x t =>
  obtain⟨g,h,rfl,hd⟩:=e x (by simp);exact sf h' f z h hd
def L6 (h:Ĉ b) (h':Ĉ (è b c)):(∃p,Pot (ĕ b) p)↔∃p,Pot (ò (è b c)) p:=by
 constructor
 ·rintro⟨p,E⟩;obtain⟨C,F⟩:=(CD h).1 E
  let f:Int->Int->Int:=fun id d=>match ų b id with|some g=>fill b p g d|none=>0
  have v:∀g∈b.2.1,∀d,f g.1 d=fill b p g d:=fun g a d=>by
   show(match ų b g.1 with|some g=>fill b p g d|none=>0)=_;rw[rI h.ids a]
  have m:∀g∈b.2.1,∀d∈Ö (è b c) g,Bm (è b c) f (p 0) (ķ (è b c) g.1 d)=fill b p g d:=fun g a d hd=>by
   rw[sf h' f (p 0) a hd,v g a d]
  refine⟨Bm (è b c) f (p 0),(xr h').2 ⟨fun g a=>?_,fun d hd=>?_⟩⟩
  ·have n:=C g a;have r:g.2.1∈Ö b g:=gI g;have s:=m g a g.2.1 (gI g);rw[xw h a n r] at s;refine⟨?_,?_,fun x y e o i=>?_,fun x y e o i=>?_⟩
   ·rw[s,jj]; exact n.hi
   ·rw[s,jj]; exact n.lo
   ·rw[m g a x e,m g a y o];exact(tZ h a n (h'.day a e).1 i).1
   ·rw[m g a x e,m g a y o,MB];exact(tZ h a n (h'.day a e).1 i).2
  ·have j:∀l:AS Int,(∀x∈l,∃g∈b.2.1,g.1=x/\d.2.1∈Ö b g)->Bm (è b c) f (p 0) (xa (è b c) l d.2.1)=p (xa b l d.2.1):=by
    intro l z;rw[vJ h' f (p 0) (fun x e=>by obtain⟨g,u,G,D⟩:=z x e; exact⟨g,u,G,l7 D⟩)]
    cases l with
    |nil=>rfl
    |cons x t =>
     obtain⟨g,u,rfl,D⟩:=z x (by simp);show f g.1 d.2.1=p (ķ b g.1 d.2.1);rw[v g u,xw h u (C g u) D]
   rw[vB,vA,j _ (fun x e=>iJ h hd (.inl e)),j _ (fun x e=>iJ h hd (.inr e)),<-vB,<-vA];exact F d hd
 ·rintro⟨p,E⟩;obtain⟨C,F⟩:=(xr h').1 E
  let f:Int->Int->Int:=fun id d=>p (ķ (è b c) id d)
  have m:∀g∈b.2.1,∀d∈Ö b g,Bm b f (p 0) (ķ b g.1 d)=p (ķ (è b c) g.1 d):=fun g a d hd=>sf h f (p 0) a hd;refine⟨Bm b f (p 0),(CD h).2 ⟨fun g a=>?_,fun d hd=>?_⟩⟩
  ·have n:=C g a;have s:=m g a g.2.1 (gI g);refine⟨?_,?_,fun x y e o i=>?_,fun x y e o i=>?_⟩
   ·rw[s,jj]; exact n.hi
   ·rw[s,jj]; exact n.lo
   ·rw[m g a x e,m g a y o];exact n.down x y (l7 e) (l7 o) i
   ·rw[m g a x e,m g a y o];exact n.loss x y (l7 e) (l7 o) i
  ·have j:∀l:AS Int,(∀x∈l,∃g∈b.2.1,g.1=x/\d.2.1∈Ö b g)->Bm b f (p 0) (xa b l d.2.1)=p (xa (è b c) l d.2.1):=by
    intro l z;rw[vJ h f (p 0) z]
    cases l<;>rfl
   rw[vB,vA,j _ (fun x e=>iJ h hd (.inl e)),j _ (fun x e=>iJ h hd (.inr e)),<-vB,<-vA];exact F d hd
end
end Go.Proofs.ZzM
end
