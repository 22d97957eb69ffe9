/- lemmas -/
import Derived.Test.YtenljaeklhlanaaGreatAmF
import Derived.Test.YtenljaeklhlanaaGreatMdTA
set_option linter.all false
noncomputable section
namespace Go.Am
section
variable {ρ:Type}
def ė {α β:Type} (e:Nat->α->BY β):Nat->CK α->BY β
 |_,[]=>none
 |i,a::t=>match e i a with
  |some b=>some b
  |none=>ė e (i+1) t
def iQ {α β:Type} (l:CK α) (e:Nat->α->BY β) (k0:β->BY ρ) (k1:BY ρ) {f:Int->(Int->BY ρ)->BY ρ}
 (h:∀(i:Nat) (a:α),i<l.length->l[i]?=some a->∀c,f i c=match e i a with|some b=>k0 b|none=>c ((i:Int)+1))
 (d:∀c,f l.length c=k1):Ë f 0=match ė e 0 l with|some b=>k0 b|none=>k1:=by
 refine ais l (fun i t=>match ė e i t with|some b=>k0 b|none=>k1) d fun i a t hd hi ha c g=>?_;rw[h i a hi ha c,g,ė]
 cases e i a<;>rfl
def ð {α σ:Type} (l:CK α) (g:Nat->σ) (r:BY ρ) {f:Int×σ->(Int×σ->BY ρ)->BY ρ} {d:σ} (h0:g 0=d)
 (h:∀(i:Nat) (a:α),i<l.length->l[i]?=some a->∀b,f (i,g i) b=b ((i:Int)+1,g (i+1)))
 (j:∀b,f (l.length,g l.length) b=r):Ë f (0,d)=r:=by
 subst h0
 have c:∀s,(s=g 0)->Ë f (0,s)=r:=fun s e=>WD l (fun _ _ _=>r) (fun i s=>s=g i) (fun s c b=>by rw[c]; exact j b) (fun i a t s hd hi ha m b k=>by
  rw[m,h i a hi ha b]; exact k _ rfl) e
 exact c _ rfl
def Ig {α σ:Type} (l:CK α) (g:Nat->σ) (r:BY ρ) {f:Int×σ->(Int×σ->BY ρ)->BY ρ} {k:σ} (P:Nat->Prop) (h0:g 0=k) (o:P 0)
 (h:∀(i:Nat) (a:α),i<l.length->l[i]?=some a->P i->∀b,f (i,g i) b=r\/(P (i+1)/\f (i,g i) b=b ((i:Int)+1,g (i+1))))
 (m:P l.length->∀b,f (l.length,g l.length) b=r):Ë f (0,k)=r:=by
 subst h0
 have c:∀s,(s=g 0/\P 0)->Ë f (0,s)=r:=fun s e=>WD l (fun _ _ _=>r) (fun i s=>s=g i/\P i) (fun s c b=>by rw[c.1]; exact m c.2 b) (fun i a t s hd hi ha d b n=>by
  rcases h i a hi ha d.2 b with j|⟨j,h2⟩
  ·rw[d.1,j]
  ·rw[d.1,h2]; exact n _ ⟨rfl,j⟩) e
 exact c _ ⟨rfl,o⟩
def È {i n:Nat} (h:i<n) (a:n<=1000000000) (f:Int->BY ρ):ck ((i:Int)+1) f=f ((i:Int)+1):=Ï (by omega) (by omega) f
def amR {i n:Nat} (h:i<n) (x y:BY ρ):ifb (ilt (i:Int) (ah2 n)) x y=x:=by simp[é,NX,h]
def Ô (n:Nat) (x y:BY ρ):ifb (ilt (n:Int) (ah2 n)) x y=y:=by simp[é,NX]
def Í {α:Type} {l:CK α} {i:Nat} (h:i<l.length) (x y:BY ρ):ifb (ilt (i:Int) (Õ l)) x y=x:=amR h x y
def Qt {α:Type} (p:α->Bool):∀(i:Nat) (l:CK α),ė (fun i a=>bif p a then some (i:Int) else none) i l=(l.findIdx? p).map fun j=>((i+j:Nat):Int)
 |_,[]=>rfl
 |i,a::t=>by
  simp only[ė,List.findIdx?_cons]
  cases b:p a with
  |true=>simp
  |false =>
   simp only[cond_false,dp,if_false];rw[Qt p (i+1) t]
   cases t.findIdx? p with
   |none=>rfl
   |some j=>simp only[dZ]; congr 1; omega
def Lb {α β:Type} (e:α->BY β):∀(i:Nat) (l:CK α),ė (fun _ a=>e a) i l=l.findSome? e
 |_,[]=>rfl
 |i,a::t=>by
  simp only[ė,gP]
  cases e a with
  |some b=>rfl
  |none=>exact Lb e (i+1) t
def ŕ {α β:Type} {e:Nat->α->BY β}:∀{i:Nat} {l:CK α},ė e i l=none↔∀j a,l[j]?=some a->e (i+j) a=none
 |_,[]=>by simp[ė]
 |i,a::t=>by
  simp only[ė];constructor
  ·intro h j b hb
   cases d:e i a with
   |some c=>rw[d] at h; cases h
   |none =>
    rw[d] at h
    cases j with
    |zero=>simp at hb; subst hb; simpa using d
    |succ j=>have:=(ŕ.1 h) j b (by simpa using hb); rw[<-this]; congr 1; omega
  ·intro h;have h0:=h 0 a (by simp);simp only[f6] at h0;rw[h0]
   exact ŕ.2 fun j b hb=>by have:=h (j+1) b (by simpa using hb); rw[<-this]; congr 1; omega
def take_succ {α:Type} {l:CK α} {i:Nat} {a:α} (h:l[i]?=some a):l.take (i+1)=l.take i++[a]:=by rw[List.take_succ,h]; rfl
end
end Go.Am
end

noncomputable section
namespace Go.Proofs.ZzM
open Go Go.Am
section
variable {ρ:Type}
def ï {τ:Type} {f:τ->(τ->BY ρ)->BY ρ} {r:BY ρ} (I:τ->Prop) (μ:τ->Nat)
 (h:∀x,I x->(∀a,f x a=r)\/∃y,I y/\μ y<μ x/\∀a,f x a=a y) {x:τ} (b:I x):Ë f x=r :=
 sm (F:=fun _=>r) I μ (fun x b a d=>by
  rcases h x b with c|⟨y,c,h2,e⟩
  ·exact c a
  ·rw[e,d y c h2]) b
def iR {α:Type} (l:CK α) (p:α->Bool) (k0:Int->BY ρ) (k1:BY ρ) {f:Int->(Int->BY ρ)->BY ρ}
 (h:∀(i:Nat) (a:α),i<l.length->l[i]?=some a->∀b,f i b=if p a then k0 i else b ((i:Int)+1))
 (c:∀b,f l.length b=k1):Ë f 0=match l.findIdx? p with|some j=>k0 j|none=>k1:=by
 rw[iQ l (fun i a=>bif p a then some (i:Int) else none) k0 k1 (fun i a hi ha b=>by rw[h i a hi ha b]; cases p a<;>rfl) c,Qt]
 cases l.findIdx? p with
 |none=>rfl
 |some j=>simp
def ù {α:Type} (l:CK α) (p:α->Bool) (k0:Int->BY ρ) (K k1:BY ρ) {f:Int->(Int->BY ρ)->BY ρ} (m:∀j:Nat,k0 j=K)
 (h:∀(i:Nat) (a:α),i<l.length->l[i]?=some a->∀b,f i b=if p a then k0 i else b ((i:Int)+1))
 (g:∀b,f l.length b=k1):Ë f 0=if l.any p then K else k1:=by
 rw[iR l p k0 k1 h g]
 cases c:l.findIdx? p with
 |none =>
  have:l.any p=false:=by
   rw[dI];intro x d;have:=dX.1 c x d;simp[this]
  simp[this]
 |some j =>
  have:l.any p=true:=by
   have:=dM.1 c;obtain⟨k,e,_⟩:=this;exact dv.2 ⟨_,fC k,e⟩
  simp[this,m]
end
abbrev è:Type:=Int×Int×Int×(Int×Int)×((Int×Int)×Int)
abbrev Jb:Type:=Int×((Int×Int)×Int)
abbrev Cmp:Type:=Int×Int×CK Int×CK Int×Int×(Int×(Int×Int))
abbrev ò:Type:=(Int×Int)×CK è×CK (Int×Int)×CK Jb×CK Cmp×CK (Int×Int)
abbrev Sys:Type:=Int×CK (Int×Int×Int)
abbrev Maker:Type:=ò×CK (Int×Int)×Sys×CK (Int×Int)
section
variable {ρ:Type}
def Ð {b:Bool} (h:b=true) (x y:BY ρ):ifb b x y=x:=by rw[h]; rfl
def Ì {b:Bool} (h:b=false) (x y:BY ρ):ifb b x y=y:=by rw[h]; rfl
end
def I64 (n:Int):Prop:=-9223372036854775808<=n/\n<=9223372036854775807
def inP (n lo hi:Int):Bool:=decide (lo<=n)&&decide (n<=hi)
def Da (n:Int):Bool:=inP n 0 20000
def ks (s:Int×Int) (lo hi:Int):Bool:=decide (lo<=s.1)&&(decide (s.1<=s.2)&&decide (s.2<=hi))
def Λ (n lo hi:Int):ĝ n lo hi=some (inP n lo hi):=by
 unfold ĝ Un inP ile
 cases decide (lo<=n)<;>rfl
def MH (n:Int):np n=some (Da n):=by
 unfold np ZT;rw[Λ]; rfl
def Im (s:Int×Int) (lo hi:Int):Κ s lo hi=some (ks s lo hi):=by
 unfold Κ Up ks ile
 cases decide (lo<=s.1)<;>cases decide (s.1<=s.2)<;>rfl
def Vj {n:Int} (h:I64 n):uV n=some (n.natAbs:Int):=by
 obtain⟨b,h2⟩:=h;unfold uV adS
 by_cases a:n<0
 ·have:ilt n 0=true:=by simpa using a
  rw[Ð this];congr 1;simp only[IntKind.wrap,IntKind.bits,IntKind.signed];simp;omega
 ·have:ilt n 0=false:=by simpa using a
  rw[Ì this];congr 1;simp only[IntKind.wrap,IntKind.bits,IntKind.signed];simp;omega
def amT (a b:Nat):QA a b=some ((Nat.gcd a b:Nat):Int):=by
 unfold QA aii;refine ï (fun x:Int×Int=>∃c d:Nat,x=((c:Int),(d:Int))/\Nat.gcd c d=Nat.gcd a b) (fun x=>x.2.toNat) ?_ ⟨a,b,rfl,rfl⟩;rintro x ⟨c,d,rfl,e⟩
 cases d with
 |zero =>
  refine .inl fun f=>?_;rw[Nat.gcd_zero_right] at e;unfold Ce;simp[e,ine]
 |succ d =>
  refine .inr ⟨(((d+1:Nat):Int),((c % (d+1):Nat):Int)),⟨d+1,c % (d+1),rfl,?_⟩,?_,fun f=>?_⟩
  ·rw[<-e,iv c (d+1),Nat.gcd_rec (d+1) c,iv]
  ·have:=g9 c (gX d);simp only[dj];omega
  ·unfold Ce
   have g:ine ((d+1:Nat):Int) 0=true:=by simp[ine]; omega
   have h2:oQ ((d+1:Nat):Int) 0=false:=by simp[oQ]; omega
   simp only[g,Ð Ì h2];congr 1
def KC (r:Int×Int):Bool :=
 decide (1<=r.2)&&(decide (r.2<=2147483647)&&(decide ((r.1.natAbs:Int)<=2147483647)&&decide (Nat.gcd r.1.natAbs r.2.natAbs=1)))
def Xz {r:Int×Int} (h:I64 r.1):wZ r=some (KC r):=by
 unfold wZ ZN KC
 by_cases b:1<=r.2
 ·by_cases h2:r.2<=2147483647
  ·have f:I64 r.2:=⟨by omega,by omega⟩
   have a:ige r.2 1=true:=by simp[ige,b]
   have e:ile r.2 2147483647=true:=by simp[ile,h2]
   rw[Ð a,Ð e,Vj h,À]
   by_cases c:(r.1.natAbs:Int)<=2147483647
   ·have d:ile (r.1.natAbs:Int) 2147483647=true:=by simp[ile,c]
    rw[Ð d,À,Vj f,À,amT,À];congr 1;rw[eI];simp only[ieq,beq_iff_eq,b,h2,c,decide_true,eD,decide_eq_true_eq];omega
   ·have d:ile (r.1.natAbs:Int) 2147483647=false:=by simp[ile]; omega
    rw[Ì d];simp[c]
  ·have a:ige r.2 1=true:=by simp[ige,b]
   have e:ile r.2 2147483647=false:=by simp[ile]; omega
   rw[Ð a,Ì e];simp[h2]
 ·have a:ige r.2 1=false:=by simp[ige]; omega
  rw[Ì a];simp[b]
def sw (g:è):Bool :=
 KC g.2.2.2.2.1&&inP g.2.2.2.2.1.1 (-1000) 1000&&decide (g.2.2.2.2.1.2<=100)&&inP g.1 1 1099511627776&&Da g.2.1&&inP g.2.2.1 1 1125899906842624&&ks g.2.2.2.1 (-1073741824) 1073741824&&inP g.2.2.2.2.2 0 1048576
def afO {g:è} (h:I64 g.2.2.2.2.1.1):yE g=some (sw g):=by
 unfold yE FA sw;rw[Xz h,Λ,Λ,MH,Λ,Im,Λ];generalize KC g.2.2.2.2.1=i;generalize inP g.2.2.2.2.1.1 (-1000) 1000=f;generalize inP g.1 1 1099511627776=e;generalize Da g.2.1=d;generalize inP g.2.2.1 1 1125899906842624=c;generalize ks g.2.2.2.1 (-1073741824) 1073741824=b;generalize inP g.2.2.2.2.2 0 1048576=j;unfold ile;generalize decide (g.2.2.2.2.1.2<=100)=a
 cases i<;>cases f<;>cases e<;>cases d<;>cases c<;>cases b<;>cases a<;>rfl
section
variable {ρ:Type}
def Iq {α:Type} {l:CK α} {i:Nat} {a:α} (h0:0<i) (h:l[i-1]?=some a) (f:α->BY ρ):â l ((i:Int)-1) f=f a:=by
 have:((i:Int)-1)=((i-1:Nat):Int):=by omega
 rw[this,Ã h]
def QJ {i:Nat} (h:0<i) (a:i<=1000000000) (f:Int->BY ρ):ck ((i:Int)-1) f=f ((i:Int)-1):=Ï (by omega) (by omega) f
def Š {i n:Nat} (h:i<n) (x:BY ρ):à ((ile 0 (i:Int))&&(ilt (i:Int) (n:Int))) x=x:=by
 have:((ile 0 (i:Int))&&(ilt (i:Int) (n:Int)))=true:=by simp[ile,ilt,h]
 rw[this,Am.iff_true]
def Ą {α:Type} {l:CK α} {i:Nat} {a:α} (h:l[i]?=some a) (f:α->BY ρ):Į l (Int.toNat (i:Int)) f=f a:=by
 rw[dj]; exact ž h f
end
def mi {α:Type} (key:α->Int) (l:CK α) (i:Nat) (a:α):Bool :=
 decide (0<i)&&(l[i-1]?).any fun q=>decide (key a<=key q)
def vB {α:Type} {l:CK α} {i:Nat} (hi:i<l.length) (h0:0<i):∃q,l[i-1]?=some q :=
 ⟨l[i-1],cV (by omega)⟩
def I5 {α:Type} (key:α->Int) (l:CK α):(∀i a,l[i]?=some a->mi key l i a=false)↔l.Pairwise (fun a b=>key a<key b):=by
 rw[dL];constructor
 ·intro h
  have step:∀i (d:i+1<l.length),key l[i]<key l[i+1]:=by
   intro i d;have:=h (i+1) l[i+1] (cV d);simp only[mi,Nat.add_sub_cancel,gX,decide_true,eD,cV (show i<l.length by omega),Option.any_some,decide_eq_false_iff_not] at this;omega
  intro i j hi f g
  induction j with
  |zero=>omega
  |succ j e =>
   have:=step j f;rcases dl i j with c|k
   ·have:=e (by omega) c; omega
   ·have:i=j:=by omega
    subst this; assumption
 ·intro h i a ha;obtain⟨hi,rfl⟩:=List.getElem?_eq_some_iff.1 ha;unfold mi
  cases i with
  |zero=>rfl
  |succ i =>
   have:=h i (i+1) (by omega) hi (by omega);simp only[Nat.add_sub_cancel,gX,decide_true,eD,cV (show i<l.length by omega),Option.any_some,decide_eq_false_iff_not];omega
def qk (l:CK è) (i:Nat) (g:è):BY Int :=
 if !sw g then some 1 else if mi (fun g=>g.1) l i g then some 6 else none
def ke (b:ò):Int:=(ė (qk b.2.1) 0 b.2.1).getD 0
def SW {b:ò} (e:∀g∈b.2.1,I64 g.2.2.2.2.1.1) (h:b.2.1.length<=1000):Ż b=some (ke b):=by
 unfold Ż Bm;refine Eq.trans (iQ b.2.1 (qk b.2.1) some (some 0) (fun i a hi ha d=>?_) (fun d=>?_)) ?_
 ·try dsimp only
  unfold jP;rw[Í hi,Ã ha,afO (e a (List.mem_of_getElem? ha)),À];unfold qk
  cases j:sw a with
  |false=>simp
  |true =>
   simp only[dP,æ,dp,if_false];rcases fD i with h0|h0
   ·subst h0
    have:igt ((0:Nat):Int) 0=false:=by simp[igt]
    rw[Ì this,È hi (by omega)];simp[mi]
   ·obtain⟨q,c⟩:=vB hi h0
    have f:igt (i:Int) 0=true:=by simp[igt]; omega
    rw[Ð f,QJ h0 (by omega),Iq h0 c];simp only[mi,h0,decide_true,Bool.true_and,c,Option.any_some];unfold ile
    cases h2:decide (a.1<=q.1) with
    |true=>simp
    |false =>
     rw[æ,È hi (by omega)];simp
 ·try dsimp only
  unfold jP;rw[Ô]
 ·unfold ke
  cases ė (qk b.2.1) 0 b.2.1<;>rfl
def X0 (l:CK è):CK (Int×è):=l.foldl (fun m g=>TM (k:=tI) (v:=Ú) g.1 g m) []
def ś (b:ò):CK (Int×è):=X0 b.2.1
def Ji {b:ò} (d:b.2.1.length<=1000):Ņ b=some (ś b):=by
 unfold Ņ PU;refine ð b.2.1 (fun i=>X0 (b.2.1.take i)) _ rfl (fun i a hi ha c=>?_) (fun c=>?_)
 ·try dsimp only
  unfold oL;rw[Í hi,Ã ha,È hi (by omega),take_succ ha];simp only[X0,List.foldl_append,List.foldl_cons,List.foldl_nil]
 ·try dsimp only
  unfold oL;rw[Ô,List.take_length];rfl
def YR (x y:Int) (g:è):∀m:CK (Int×è),tv (k:=tI) (v:=Ú) x (TM (k:=tI) (v:=Ú) y g m)=if x=y then some g else tv (k:=tI) (v:=Ú) x m
 |[]=>by
  unfold TM tv kP tv
  by_cases h:x=y<;>simp[h]
 |e::m=>by
  unfold TM
  by_cases h:y=e.1
  ·have:kP tI y e.1=true:=by simp[kP,h]
   rw[this]
   try dsimp only
   unfold tv kP
   by_cases h2:x=y
   ·simp[h2]
   ·have:¬x=e.1:=fun a=>h2 (a.trans h.symm);simp[h2,this]
  ·have:kP tI y e.1=false:=by simp[kP,h]
   rw[this]
   try dsimp only
   have b:=YR x y g m;unfold tv
   by_cases h2:x=e.1
   ·have:kP tI x e.1=true:=by simp[kP,h2]
    rw[this];have:¬x=y:=fun a=>h (a.symm.trans h2);simp[this]
   ·have:kP tI x e.1=false:=by simp[kP,h2]
    rw[this];exact b
def í (b:ò) (id:Int):BY è:=b.2.1.find? fun g=>g.1==id
def abz (x:Int) (l:CK è):tv (k:=tI) (v:=Ú) x (X0 l)=l.reverse.find? fun g=>g.1==x:=by
 unfold X0;rw[<-List.foldr_reverse]
 induction l.reverse with
 |nil=>rfl
 |cons g t a =>
  rw[List.foldr_cons,YR,a,f9]
  by_cases h:x=g.1
  ·simp[h]
  ·have:(g.1==x)=false:=by simp; exact fun h2=>h h2.symm
   simp[h,this]
def Lc {l:CK è} (h:l.Pairwise fun a b=>a.1<b.1) (x:Int):l.reverse.find? (fun g=>g.1==x)=l.find? fun g=>g.1==x:=by
 induction l with
 |nil=>rfl
 |cons g t d =>
  rw[dG] at h;rw[List.reverse_cons,List.find?_append,d h.2,f9]
  by_cases c:g.1=x
  ·have:t.find? (fun g=>g.1==x)=none:=ee.2 fun y e=>by have:g.1<y.1:=h.1 y e; simp; omega
   rw[this]; simp[c]
  ·have:(g.1==x)=false:=by simp[c]
   simp[this]
def vM {b:ò} (h:b.2.1.Pairwise fun a b=>a.1<b.1) (x:Int):tv (k:=tI) (v:=Ú) x (ś b)=í b x:=by
 unfold ś í;rw[abz,Lc h]
def mM (s:CK (Int×è)) (id day:Int):Int :=
 match tv (k:=tI) (v:=Ú) id s with
 |some g=>if day<g.2.1 then 4 else 0
 |none=>5
def abA (s:CK (Int×è)) (id day:Int):jI s id day=some (mM s id day):=by
 unfold jI Es mM
 cases h:tv (k:=tI) (v:=Ú) id s with
 |none=>simp only[Rh,h]
 |some g =>
  simp only[Rh,h];rw[é]
  by_cases h2:day<g.2.1<;>simp[h2]
def aba (s:CK (Int×è)) (id day:Int):Int:=if !Da day then 1 else mM s id day
def Yk (s:CK (Int×è)) (id day:Int):ņ id day s=some (aba s id day):=by
 unfold ņ PX aba;rw[MH,À,abA,À]
 cases Da day<;>rfl
def Mh (b:ò) (s:CK (Int×è)) (i:Nat) (l:Jb):Int :=
 if !ks l.2.1 0 20000 then 1 else if !inP l.2.2 0 1048576 then 1 else if mM s l.1 l.2.1.1 != 0 then mM s l.1 l.2.1.1 else
 if (b.2.2.2.1.take i).any (fun x=>x.1==l.1&&(decide (x.2.1.1<=l.2.1.2)&&decide (l.2.1.1<=x.2.1.2))) then 9 else
 if b.2.2.1.any (fun u=>u.1==l.1&&inP u.2 l.2.1.1 l.2.1.2) then 9 else 0
def aav {b:ò} (t:b.2.2.2.1.length<=1000) (r:b.2.2.1.length<=1000) (s:CK (Int×è)) {i:Nat} {l:Jb} (m:b.2.2.2.1[i]?=some l):ε b s i=some (Mh b s i l):=by
 unfold ε yk Mh;have hi:i<b.2.2.2.1.length:=(List.getElem?_eq_some_iff.1 m).1;rw[Ã m,Im,À,Λ,À,abA,À]
 cases ks l.2.1 0 20000 with
 |false=>rfl
 |true =>
 cases inP l.2.2 0 1048576 with
 |false=>rfl
 |true =>
 cases h:(mM s l.1 l.2.1.1 != 0) with
 |true =>
  have:ine (mM s l.1 l.2.1.1) 0=true:=h;simp[this]
 |false =>
 have g:ine (mM s l.1 l.2.1.1) 0=false:=h
 have p:((ile (0:Int) (i:Int))&&(ile (i:Int) (î b.2.2.2.1)))=true:=by simp[ile,î]; omega
 simp only[dP,æ,g,dp,if_false];rw[å p,dj]
 have c:∀(k:Int->BY Int),Ë (fun(v:Int) n=>Ι b.2.2.1 (Õ b.2.2.1) l.1 l.2.1.1 l.2.1.2 v (fun u=>n u) (fun z=>ifb (ige z 0) (k 9) (k 0)) (fun _=>k 0)) (0:Int)=if b.2.2.1.any (fun u=>u.1==l.1&&inP u.2 l.2.1.1 l.2.1.2) then k 9 else k 0:=by
  intro k;refine ù b.2.2.1 _ (fun z=>ifb (ige z 0) (k 9) (k 0)) (k 9) (k 0) (fun j=>?_) (fun j a d ha f=>?_) (fun f=>?_)
  ·have:ige (j:Int) 0=true:=by simp[ige]
   rw[Ð this]
  ·try dsimp only
   unfold Ι;rw[Í d,Ã ha,Λ,À,È d (by omega)]
   cases e:(a.1==l.1) with
   |false =>
    have:ieq a.1 l.1=false:=e;simp[this]
   |true =>
    have:ieq a.1 l.1=true:=e;rw[this]
    cases inP a.2 l.2.1.1 l.2.1.2<;>simp
  ·try dsimp only
   unfold Ι;rw[Ô]
 rw[c];refine dJ (ù (b.2.2.2.1.take i) (fun x=>x.1==l.1&&(decide (x.2.1.1<=l.2.1.2)&&decide (l.2.1.1<=x.2.1.2))) (fun z=>ifb (ige z 0) (some 9) (if b.2.2.1.any (fun u=>u.1==l.1&&inP u.2 l.2.1.1 l.2.1.2) then some 9 else some 0)) (some 9) (if b.2.2.1.any (fun u=>u.1==l.1&&inP u.2 l.2.1.1 l.2.1.2) then some 9 else some 0) (fun j=>?_) (fun j a d ha f=>?_) (fun f=>?_)) ?_
 ·have:ige (j:Int) 0=true:=by simp[ige]
  rw[Ð this]
 ·try dsimp only
  unfold l8
  have o:j<=1000:=by rw[dk] at d; omega
  rw[Í d,Ã ha,È d (by rw[dk]; omega)]
  cases e:(a.1==l.1) with
  |false =>
   have:ieq a.1 l.1=false:=e;simp[this]
  |true =>
   have:ieq a.1 l.1=true:=e;rw[this]
   cases h2:decide (a.2.1.1<=l.2.1.2)<;>cases q:decide (l.2.1.1<=a.2.1.2)<;>simp[ile,h2,q,é]<;>simp_all
 ·try dsimp only
  unfold l8;rw[Ô]
 ·cases List.any (b.2.2.2.1.take i) _<;>cases b.2.2.1.any _<;>rfl
def aa0 {l:CK Int} (c:l.length<=1000000) (x:Int):iT l x=some (match l.findIdx? (·==x) with|some j=>(j:Int)|none=>-1):=by
 unfold iT wo;refine Eq.trans (iR l (·==x) some (some (-1)) (fun i a hi ha b=>?_) (fun b=>?_)) ?_
 ·try dsimp only
  unfold ψ;rw[Í hi,Ã ha,È hi (by omega),é]
  by_cases h:x=a
  ·subst h; simp[ieq]
  ·have h2:¬a=x:=fun e=>h e.symm;simp[ieq,h,h2]
 ·try dsimp only
  unfold ψ;rw[Ô]
 ·cases l.findIdx? (·==x)<;>rfl
def Ţ {l:CK Int} (b:l.length<=1000000) (x:Int):ç l x=some (l.contains x):=by
 unfold ç qf;rw[aa0 b,À];congr 1
 cases h:l.findIdx? (·==x) with
 |none =>
  have:l.contains x=false:=by
   rw[eE];intro c;have:=dX.1 h x (by simpa using c);simp at this
  rw[this]; rfl
 |some j =>
  obtain⟨d,a,_⟩:=dM.1 h
  have:l.contains x=true:=by
   have h2:l[j]=x:=by simpa using a
   rw[<-h2]; simp
  rw[this];simp[ige]
def Þ (a b:CK Int):CK Int:=a.filter fun x=>!b.contains x
def Bq {a b:CK Int} (ha:a.length<=1000000) (hb:b.length<=1000000):δ a b=some (Þ a b):=by
 unfold δ adX;rw[Ñ (by omega),Am.iff_true]
 have g:∀z:Nat,z<a.length->Þ (a.take z) b=a.take z->b.contains (a[z]?.getD 0)=true ->
  Ë (fun(d:(Val (.pair tI (.pair tI (.slice tI))))) f=>mg b d.1 d.2.1 d.2.2 (fun n m l=>f (n,m,l)) (fun c=>à ((ile (0:Int) c.1)&&(ile c.1 (î c.2))) (à ((ile (0:Int) c.1)&&(ile c.1 (î (List.take (Int.toNat c.1) c.2++List.replicate (List.length c.2-(Int.toNat c.1)) (0:Int)++List.drop ((Int.toNat c.1)+(List.length c.2-(Int.toNat c.1))) c.2)))) (some (List.take (Int.toNat c.1) (List.drop 0 (List.take (Int.toNat c.1) c.2++List.replicate (List.length c.2-(Int.toNat c.1)) (0:Int)++List.drop ((Int.toNat c.1)+(List.length c.2-(Int.toNat c.1))) c.2))))))) ((z:Int),((z:Int)+1),a)=some (Þ a b):=by
  intro z p H v
  refine ï (fun x:Int×Int×CK Int=>∃i j:Nat,x.1=i/\x.2.1=j/\i<j/\j<=a.length/\x.2.2.length=a.length/\x.2.2.take i=Þ (a.take j) b/\x.2.2.drop j=a.drop j) (fun x=>a.length-x.2.1.toNat) ?_
   ⟨z,z+1,rfl,by simp,by omega,by omega,rfl,?_,rfl⟩
  ·rintro⟨N,M,s⟩ ⟨i,j,A,h2,J,I,D,y,hd⟩;simp only at A h2 D y hd;subst A h2;rcases dl j a.length with u|u
   ·refine .inr ?_
    have t:s[j]?=some a[j]:=by
     have F:(s.drop j)[0]?=(a.drop j)[0]?:=by rw[hd]
     rw[eR,eR] at F;simpa[cV u] using F
    have e:j<s.length:=by omega
    have r:Þ (a.take (j+1)) b=Þ (a.take j) b++if b.contains a[j] then[] else[a[j]]:=by
     rw[take_succ (cV u),Þ,Þ,eZ];congr 1
     cases h:b.contains a[j] with
     |true=>simp only[eM,h,dP,dp,if_false,eY,if_true]
     |false=>simp only[eM,h,fF,dp,if_false,eY,if_true]
    cases h:b.contains a[j] with
    |true =>
     refine⟨(i,(j:Int)+1,s),⟨i,j+1,rfl,by simp,by omega,by omega,D,?_,?_⟩,by simp; omega,fun w=>?_⟩
     ·rw[r,h]; simpa using y
     ·have:=congrArg (List.drop 1) hd;simpa[gg,Nat.add_comm] using this
     ·try dsimp only
      unfold mg;rw[Í e,Š e,Ą t,Ţ hb,À,h];simp only[Bool.not_true,æ];rw[È e (by omega)]
    |false =>
     have k:i<s.length:=by omega
     refine⟨((i:Int)+1,(j:Int)+1,s.set i a[j]),⟨i+1,j+1,by simp,by simp,by omega,by omega,by simpa using D,?_,?_⟩,by simp; omega,fun w=>?_⟩
     ·show List.take (i+1) (s.set i a[j])=_;rw[r,h,List.take_succ,ii,List.take_set_of_le (cX i),y];simp[k]
     ·show List.drop (j+1) (s.set i a[j])=_;rw[List.drop_set_of_lt (by omega)];have:=congrArg (List.drop 1) hd;simpa[gg,Nat.add_comm] using this
     ·try dsimp only
      unfold mg;rw[Í e,Š e,Ą t,Ţ hb,À,h];simp only[Bool.not_false,kQ];rw[Š k,Ą (List.getElem?_eq_getElem k),È k (by omega),È e (by omega),Int.toNat_natCast]
   ·refine .inl fun w=>?_
    have E:j=s.length:=by omega
    try dsimp only
    unfold mg;rw[E,Ô];dsimp only
    have L:((ile (0:Int) (i:Int))&&(ile (i:Int) (î s)))=true:=by simp[ile,î]; omega
    rw[å L]
    have K:((ile (0:Int) (i:Int))&&(ile (i:Int) (î (List.take (Int.toNat (i:Int)) s++List.replicate (List.length s-(Int.toNat (i:Int))) (0:Int)++List.drop ((Int.toNat (i:Int))+(List.length s-(Int.toNat (i:Int)))) s))))=true:=by
     simp[ile,î]; omega
    rw[å K,dj,g8,dg,fR (by simp; omega),List.take_take,Nat.min_self,y];rw[dY (by omega)]
  ·show List.take z a=Þ (a.take (z+1)) b;have o:a[z]?=some a[z]:=cV p;rw[take_succ o,Þ,eZ];rw[o] at v;simp only[fc] at v
   have:List.filter (fun x=>!b.contains x) [a[z]]=[]:=by simp only[eM,v,dP,dp,if_false,eY]
   rw[this,dt];exact H.symm
 refine dJ (iR a (fun x=>b.contains x) (fun B=>ifb (ieq B (-1:Int)) (some a) (ck (B+(1:Int)) fun G=>Ë (fun(d:(Val (.pair tI (.pair tI (.slice tI))))) f=>mg b d.1 d.2.1 d.2.2 (fun n m l=>f (n,m,l)) (fun c=>à ((ile (0:Int) c.1)&&(ile c.1 (î c.2))) (à ((ile (0:Int) c.1)&&(ile c.1 (î (List.take (Int.toNat c.1) c.2++List.replicate (List.length c.2-(Int.toNat c.1)) (0:Int)++List.drop ((Int.toNat c.1)+(List.length c.2-(Int.toNat c.1))) c.2)))) (some (List.take (Int.toNat c.1) (List.drop 0 (List.take (Int.toNat c.1) c.2++List.replicate (List.length c.2-(Int.toNat c.1)) (0:Int)++List.drop ((Int.toNat c.1)+(List.length c.2-(Int.toNat c.1))) c.2))))))) (B,G,a))) (some a) (fun i x hi q w=>?_) (fun w=>?_)) ?_
 ·try dsimp only
  unfold yh;rw[Í hi,Š hi,Ą q,Ţ hb,À,È hi (by omega),é]
 ·try dsimp only
  unfold yh;rw[Ô]
 ·cases h:a.findIdx? (fun x=>b.contains x) with
  |none =>
   have:Þ a b=a:=by
    rw[Þ,gO];intro x q;have:=dX.1 h x q;simpa using this
   rw[this]
  |some z =>
   obtain⟨p,v,C⟩:=dM.1 h
   have A:ieq (z:Int) (-1)=false:=by simp[ieq]
   try dsimp only
   rw[Ì A,È p (by omega)];refine g z p ?_ ?_
   ·rw[Þ,gO];intro x q;obtain⟨j,u,rfl⟩:=dm.1 q;rw[dk] at u;rw[fg];have:=C j (by omega);simpa using this
   ·rw[cV p]; exact v
def zi (l:CK Int) (i:Nat) (a:Int):BY Bool:=if !inP a 1 1099511627776 then some false else if mi (fun x=>x) l i a then some false else none
def vc (l:CK Int):Bool:=match ė (zi l) 0 l with|some _=>false|none=>decide (l.length<=6)
def Ik {l:CK Int} (g:l.length<=1000000):ow l=some (vc l):=by
 unfold ow Uo;refine Eq.trans (iQ l (zi l) some (some (decide (l.length<=6))) (fun i a hi ha d=>?_) (fun d=>?_)) ?_
 ·try dsimp only
  unfold qK;rw[Í hi,Ã ha,Λ,À];unfold zi
  cases inP a 1 1099511627776 with
  |false=>rfl
  |true =>
   simp only[dP,æ,dp,if_false];rcases fD i with h0|h0
   ·subst h0
    have:igt ((0:Nat):Int) 0=false:=by simp[igt]
    rw[Ì this,È hi (by omega)];simp[mi]
   ·obtain⟨q,c⟩:=vB hi h0
    have f:igt (i:Int) 0=true:=by simp[igt]; omega
    rw[Ð f,QJ h0 (by omega),Iq h0 c];simp only[mi,h0,decide_true,Bool.true_and,c,Option.any_some];unfold ile
    cases h2:decide (a<=q) with
    |true=>rfl
    |false =>
     rw[æ,È hi (by omega)];rfl
 ·try dsimp only
  unfold qK;rw[Ô,Î];simp[ile];omega
 ·have hb:∀x,ė (zi l) 0 l=some x->x=false:=by
   have:∀(m:CK Int) (j:Nat) (x:Bool),ė (zi l) j m=some x->x=false:=by
    intro m
    induction m with
    |nil=>intro j x h; cases h
    |cons a m e =>
     intro j x h;unfold ė at h
     cases b:zi l j a with
     |none=>rw[b] at h; exact e _ _ h
     |some y =>
      rw[b] at h;cases h;unfold zi at b
      split at b
      ·cases b; rfl
      ·split at b
       ·cases b; rfl
       ·cases b
   exact this l 0
  unfold vc
  cases h:ė (zi l) 0 l with
  |none=>rfl
  |some x=>rw[hb x h]
def zJ (l:CK Int):vc l=true↔(∀x∈l,1<=x/\x<=1099511627776)/\l.Pairwise (·<·)/\l.length<=6:=by
 have h0:ė (zi l) 0 l=none↔(∀x∈l,1<=x/\x<=1099511627776)/\l.Pairwise (·<·):=by
  rw[ŕ,<-I5 (fun x=>x) l];constructor
  ·intro h
   have b:∀(j:Nat) (a:Int),l[j]?=some a->inP a 1 1099511627776=true/\mi (fun x=>x) l j a=false:=by
    intro j a ha;have:=h j a ha;rw[Nat.zero_add] at this;unfold zi at this
    split at this
    ·cases this
    ·split at this
     ·cases this
     ·rename_i b h2;exact⟨by simpa using b,by simpa using h2⟩
   refine⟨fun x d=>?_,fun i a ha=>(b i a ha).2⟩;obtain⟨j,e,rfl⟩:=dm.1 d;have:=(b j l[j] (cV e)).1;simpa[inP] using this
  ·rintro⟨b,h2⟩ j a ha;rw[dH];have c:=b a (dc ha)
   have:inP a 1 1099511627776=true:=by simpa[inP] using c
   simp[zi,this,h2 j a ha]
 unfold vc
 cases h:ė (zi l) 0 l with
 |none =>
  obtain⟨b,h2⟩:=h0.1 h;simp only[decide_eq_true_eq];exact⟨fun c=>⟨b,h2,c⟩,fun c=>c.2.2⟩
 |some x =>
  constructor
  ·intro h2; cases h2
  ·rintro⟨b,h2,c⟩;rw[h0.2 ⟨b,h2⟩] at h; cases h
def Rg {a b:CK Int} (ha:a.length<=1000000) (hb:b.length<=1000000):Ĭ [a,b]=some (a++b):=by
 have q:∀n:Nat,n<=4000000->∀(f:Int->BY (CK Int)),ck (n:Int) f=f n:=fun n h f=>Ï (by omega) (by omega) f
 have c:Ë (fun(l:nn) d=>Ħ [a,b] (Õ [a,b]) l.1 l.2 (fun g e=>d (g,e)) (fun m=>some m)) ((0:Int),([]:CK Int))=some (a++b):=by
  refine ð [a,b] (fun i=>([a,b].take i).flatten) (some (a++b)) (f:=fun(l:nn) d=>Ħ [a,b] (Õ [a,b]) l.1 l.2 (fun g e=>d (g,e)) (fun m=>some m)) rfl (fun i x hi j o=>?_) (fun o=>?_)
  ·try dsimp only
   unfold Ħ;rw[Í hi,Ã j,È hi (by simp),take_succ j,List.flatten_append]
   have:ä ((List.take i [a,b]).flatten.length+x.length)=true:=by
    refine Ñ ?_
    have u:x.length<=1000000:=by
     have:=dc j;simp at this
     rcases this with rfl|rfl<;>assumption
    have h2:(List.take i [a,b]).flatten.length<=2000000:=by
     have:i=0\/i=1:=by simp at hi; omega
     rcases this with rfl|rfl<;>simp<;>omega
    omega
   rw[å this];simp
  ·try dsimp only
   unfold Ħ;rw[Ô];simp
 unfold Ĭ tX;refine ï (fun x:Int×Int=>∃i:Nat,i<=2/\x=((([a,b].take i).flatten.length:Int),(i:Int))) (fun x=>2-x.2.toNat) ?_ ⟨0,by omega,rfl⟩;rintro x ⟨i,hi,rfl⟩;rcases Nat.lt_or_ge i 2 with h2|h2
 ·refine .inr ⟨((([a,b].take (i+1)).flatten.length:Int),(i:Int)+1),⟨i+1,h2,by simp⟩,by simp; omega,fun o=>?_⟩;have k:i<[a,b].length:=h2;obtain⟨x,j⟩:∃x,[a,b][i]?=some x:=⟨_,cV k⟩
  have r:x.length<=1000000:=by
   have:=dc j;simp at this
   rcases this with rfl|rfl<;>assumption
  have t:(List.take i [a,b]).flatten.length<=2000000:=by
   have:i=0\/i=1:=by omega
   rcases this with rfl|rfl<;>simp<;>omega
  try dsimp only
  unfold Τ;rw[Í k,Ã j,Î]
  have p:(((List.take i [a,b]).flatten.length:Int)+(x.length:Int))=((List.take i [a,b]).flatten.length+x.length:Nat):=by omega
  rw[p,q _ (by omega)]
  have:ilt ((((List.take i [a,b]).flatten.length+x.length:Nat)):Int) 0=false:=by simp[ilt]; omega
  rw[Ì this,È k (by simp),take_succ j];simp
 ·refine .inl fun o=>?_
  obtain rfl:i=2:=by omega
  try dsimp only
  unfold Τ;rw[show((2:Nat):Int)=(([a,b].length:Nat):Int) from rfl,Ô]
  have p:((List.take 2 [a,b]).flatten.length:Int)=((a.length+b.length:Nat):Int):=by simp
  have s:ilt (((a.length+b.length:Nat)):Int) 0=false:=by simp[ilt]; omega
  rw[p];dsimp only;rw[Ì s,Int.sub_zero,q _ (by omega)];rcases Nat.eq_zero_or_pos (a.length+b.length) with h0|h0
  ·have:igt (((a.length+b.length:Nat)):Int) 0=false:=by simp[igt]; omega
   rw[Ì this];exact c
  ·have:igt (((a.length+b.length:Nat)):Int) 0=true:=by simp[igt]; omega
   rw[Ð this]
   have:((ilt (0:Int) (((a.length+b.length:Nat)):Int))&&(ä (Int.toNat (((a.length+b.length:Nat)):Int))))=true:=by
    rw[dj,Ñ (by omega)];simp[ilt]; omega
   rw[å this]
   have:ile 0 (î (List.replicate (Int.toNat (((a.length+b.length:Nat)):Int)) (0:Int)))=true:=by simp[ile]
   rw[å this];exact c
def ŗ (b:ò) (id day:Int):BY Jb:=b.2.2.2.1.find? fun l=>l.1==id&&inP day l.2.1.1 l.2.1.2
def ML {α:Type} (p:α->Bool):∀l:CK α,l.find? p=(match l.findIdx? p with|some j=>l[j]?|none=>none)
 |[]=>rfl
 |a::l=>by
  rw[f9,List.findIdx?_cons]
  cases h:p a with
  |true=>simp
  |false =>
   simp only[dp,if_false];rw[ML p l]
   cases l.findIdx? p<;>simp
def akc {b:ò} (k:b.2.2.2.1.length<=1000) (id day:Int):yF b id day=some (match ŗ b id day with|some l=>(l,true)|none=>((0,(0,0),0),false)):=by
 unfold yF adZ;refine Eq.trans (iR b.2.2.2.1 (fun l=>l.1==id&&inP day l.2.1.1 l.2.1.2) (fun c=>ifb (ilt c (0:Int)) (some (((0:Int),((0:Int),(0:Int)),(0:Int)),false)) (â b.2.2.2.1 c fun g=>some (g,true))) (some ((0,(0,0),0),false)) (fun i a hi ha f=>?_) (fun f=>?_)) ?_
 ·try dsimp only
  unfold yl;rw[Í hi,Ã ha,Λ,À,È hi (by omega)]
  cases e:(a.1==id) with
  |false =>
   have:ieq a.1 id=false:=e;simp[this]
  |true =>
   have:ieq a.1 id=true:=e;rw[this]
   cases inP day a.2.1.1 a.2.1.2<;>simp
 ·try dsimp only
  unfold yl;rw[Ô]
 ·unfold ŗ;rw[ML]
  cases h:b.2.2.2.1.findIdx? (fun l=>l.1==id&&inP day l.2.1.1 l.2.1.2) with
  |none=>rfl
  |some j =>
   obtain⟨d,_,_⟩:=dM.1 h
   have:ilt (j:Int) 0=false:=by simp[ilt]
   try dsimp only
   rw[Ì this,Ã (cV d),cV d]
section
variable {ρ:Type}
def agS {α:Type} {all l:CK α} (k:BY ρ) (h:l <+: all):yg all l k=k:=by unfold yg; rw[if_pos h]
def WV {α β:Type} {f:CK α->β->(CK α->BY ρ)->BY ρ} {g:β->CK α} {al:CK α}:∀{xs:CK β} {v:CK α} {K:CK α->BY ρ},
 (∀v y a,y∈xs->(v++g y) <+: al->f v y a=a (v++g y))->(v++xs.flatMap g) <+: al->Bu f xs v K=K (v++xs.flatMap g)
 |[],v,K,_,_=>by simp[Bu]
 |x::xs,v,K,h,b=>by
  rw[dz,<-dg] at b ⊢;rw[Bu,h v x _ (by simp) ((eh _ _).trans b),WV (fun v y a c=>h v y a (dS _ c)) b]
end
def ag2 {b:CK Int->BY (CK Int)} {l xs:CK Int} (h:Ci l=some xs):lE xs b l some=some (xs,l):=by
 unfold Ci at h
 have c:ä l.length=true:=by cases e:ä l.length with|true=>rfl|false=>rw[e] at h; cases h
 rw[å c] at h;cases h
 have f:l.length<=4294967296:=by simpa[ä] using c
 unfold lE
 refine ð l (fun i=>l.take i) _ rfl (fun i a hi ha d=>?_) (fun d=>?_)<;>(try dsimp only)<;>unfold jk
 ·rw[Í hi,Ã ha,<-take_succ ha,agS _ (List.take_prefix _ _),Ï (by omega) (by omega)]
 ·rw[Ô,fB]
def acJ:∀(n:Nat) {l y:CK Int},l.length=n->y∈vI n l->y.length=n
 |0,l,y,_,h=>by simp[vI] at h; simp[h]
 |n+1,l,y,c,h=>by
  have a:¬l.length=0:=by omega
  simp only[vI,if_neg a,dA,ff,dw] at h;obtain⟨i,hi,z,b,rfl⟩:=h;have:=acJ n (l:=l.take i++l.drop (i+1)) (by simp; omega) b;simp[this]
def XG:∀{l:CK (Int×CK Int)} {y:CK (CK Int)},y∈χ l->y.length=l.length
 |[],y,h=>by simp[χ] at h; simp[h]
 |m::r,y,h=>by
  simp only[χ,dA,dw] at h;obtain⟨x,_,z,a,rfl⟩:=h;simp[XG a]
def anz {α:Type} {n i:Nat} (h:i<n) (g:Nat->CK α):((List.range i).flatMap g++g i) <+: (List.range n).flatMap g:=by
 have:List.range n=List.range i++i::(List.range (n-i-1)).map (i+1+·):=by
  rw[show n=(i+1)+(n-i-1) by omega,List.range_add,ft,dg];simp[show i+1+(n-i-1)-i-1=n-i-1 by omega]
 rw[this,eO,dz,<-dg];exact eh _ _
def aa6 (n:Nat) (l:CK Int):BY (CK (CK Int)):=à (decide (l.length<n)&&decide (l.length<=9)) (some (vI l.length l))
def ahs {n:Nat} {l:CK Int} (h:l.length<n) (a:l.length<=9):aa6 n l=some (vI l.length l):=by unfold aa6; rw[å (by simp[h,a])]
def ac6 {n:Nat} {l:CK Int} {xs:CK (CK Int)} (h:aa6 n l=some xs):l.length<n/\l.length<=9/\xs=vI l.length l:=by
 unfold aa6 at h
 cases hb:(decide (l.length<n)&&decide (l.length<=9)) with
 |false=>rw[hb] at h; cases h
 |true =>
  rw[hb] at h; cases h;simp only[cW,decide_eq_true_eq] at hb;exact⟨hb.1,hb.2,rfl⟩
def ahJ {n:Nat} {l:CK Int} {xs:CK (CK Int)} (h:aa6 (n+1) l=some xs):Ai xs (aa6 n) l some=some (xs,l):=by
 obtain⟨t,h2,rfl⟩:=ac6 h;unfold Ai
 by_cases h0:l.length=0
 ·obtain rfl:l=[]:=List.eq_nil_of_length_eq_zero h0;rw[show ifb (ieq (Õ ([]:CK Int)) (0:Int))=fun(x y:BY (CK (CK Int)×CK Int))=>x from by funext x y; simp[Î,ieq,é]];exact agS _ (by simp[vI])
 ·obtain⟨k,m⟩:∃k,l.length=k+1:=⟨l.length-1,by omega⟩
  have s:vI l.length l=(List.range l.length).flatMap fun i=>(vI k (l.take i++l.drop (i+1))).map (l.getD i 0::·):=by
   rw[m];show(if l.length=0 then[[]] else _)=_;rw[if_neg h0,m]
  have b:ieq (Õ l) (0:Int)=false:=by rw[Î]; exact decide_eq_false (by omega)
  rw[Ì b];rw[s]
  refine ð l (fun i=>(List.range i).flatMap fun i=>(vI k (l.take i++l.drop (i+1))).map (l.getD i 0::·)) _ rfl (fun i a hi ha d=>?_) (fun d=>?_)<;>(try dsimp only)<;>unfold rK
  ·have e:(l.take i++l.drop (i+1)).length=k:=by simp; omega
   rw[Í hi,Ã ha,å (by simp[ile,î]; omega),Ï (by omega) (by omega),å (by simp[ile,î]; omega),dj,show Int.toNat ((i:Int)+1)=i+1 by omega,
    Rg (by simp; omega) (by simp; omega),À,ahs (by omega) (by omega),À,e]
   have c:l.getD i 0=a:=by rw[ej,ha]; rfl
   have j:∀xs:CK (CK Int),xs.map (l.getD i 0::·)=xs.flatMap fun y=>[a::y]:=fun xs=>by
    rw[c]; induction xs with|nil=>rfl|cons x xs o=>simp[o]
   have f:=anz hi fun i=>(vI k (l.take i++l.drop (i+1))).map (l.getD i 0::·)
   have r:(List.range (i+1)).flatMap (fun i=>(vI k (l.take i++l.drop (i+1))).map (l.getD i 0::·))=(List.range i).flatMap (fun i=>(vI k (l.take i++l.drop (i+1))).map (l.getD i 0::·))++(vI k (l.take i++l.drop (i+1))).flatMap fun y=>[a::y]:=by
    rw[ft,eO,dz,gj,dt,j]
   rw[r];rw[j] at f;refine(WV (g:=fun y=>[a::y]) (fun v y d p q=>?_) f).trans ?_
   ·unfold rJ;have:=acJ k e p;rw[å (Ñ (by simp; omega))];exact agS _ q
   ·dsimp only;rw[Ï (by omega) (by omega)]
  ·rw[Ô]
def aa7 (n:Nat) (l:CK (Int×CK Int)):BY (CK (CK (CK Int))):=à (decide (l.length<n)&&(decide (l.length<=9)&&l.all fun m=>decide (m.2.length<=9))) (some (χ l))
def ac7 {n:Nat} {l:CK (Int×CK Int)} {xs:CK (CK (CK Int))} (h:aa7 n l=some xs):l.length<n/\l.length<=9/\(∀m∈l,m.2.length<=9)/\xs=χ l:=by
 unfold aa7 at h
 cases hb:(decide (l.length<n)&&(decide (l.length<=9)&&l.all fun m=>decide (m.2.length<=9))) with
 |false=>rw[hb] at h; cases h
 |true =>
  rw[hb] at h; cases h;simp only[cW,decide_eq_true_eq,dC] at hb;exact⟨hb.1,hb.2.1,hb.2.2,rfl⟩
def aht {n:Nat} {l:CK (Int×CK Int)} (h:l.length<n) (a:l.length<=9) (ha:∀m∈l,m.2.length<=9):aa7 n l=some (χ l):=by
 unfold aa7; rw[å (by simp only[Bool.and_eq_true,decide_eq_true_eq,List.all_eq_true]; exact⟨h,a,ha⟩)]
def acj {n:Nat} {l:CK (Int×CK Int)} {xs:CK (CK (CK Int))} (h:aa7 (n+1) l=some xs):vg xs (aa7 n) l some=some (xs,l):=by
 obtain⟨q,h2,i,rfl⟩:=ac7 h;unfold vg
 cases l with
 |nil =>
  rw[show ifb (ieq (Õ ([]:CK (Int×CK Int))) (0:Int))=fun(x y:BY (CK (CK (CK Int))×CK (Int×CK Int)))=>x from by funext x y; simp[Î,ieq,é]];exact agS _ (by simp[χ])
 |cons e r =>
  have b:ieq (Õ (e::r)) (0:Int)=false:=by rw[Î]; exact decide_eq_false (by simp only[di]; omega)
  rw[Ì b];have p:=i e (by simp);rw[show â (e::r) (0:Int)=fun f=>f e from by funext f; rfl];dsimp only;rw[show Cj e.2=some (vI e.2.length e.2) from by unfold Cj; rw[å (by simp[p])],À];have d:χ (e::r)=(vI e.2.length e.2).flatMap fun x=>(χ r).map (x::·):=rfl
  have c:∀(x:CK Int),(χ r).map (x::·)=(χ r).flatMap fun y=>[x::y]:=fun x=>by
   generalize χ r=ys
   induction ys with|nil=>rfl|cons y ys k=>simp[k]
  refine(WV (g:=fun x=>(χ r).map (x::·)) (al:=χ (e::r)) (fun v x j s a=>?_) (by rw[d8,<-d]; exact eG)).trans ?_
  ·unfold od;simp only[List.length_cons] at q h2;rw[å (by simp[ile,î]; omega),show List.drop 1 (e::r)=r from rfl,aht (by omega) (by omega) (fun m c=>i m (by simp[c])),À];rw[c] at a ⊢;refine WV (g:=fun y=>[x::y]) (fun v y j o a=>?_) a;unfold oc;have:=XG o;rw[å (Ñ (by simp; omega))];exact agS _ a
  ·rw[d8,<-d]
def afk {l:CK Int} {xs:CK (CK Int)} (h:Cj l=some xs):aa6 10 l=some xs:=by
 unfold Cj at h
 cases hb:decide (l.length<=9) with
 |false=>rw[hb] at h; cases h
 |true =>
  rw[hb] at h; cases h;have:=of_decide_eq_true hb;exact ahs (by omega) this
def aas {l:CK (Int×CK Int)} {xs:CK (CK (CK Int))} (h:om l=some xs):aa7 10 l=some xs:=by
 unfold om at h
 cases hb:(decide (l.length<=9)&&l.all fun m=>decide (m.2.length<=9)) with
 |false=>rw[hb] at h; cases h
 |true =>
  rw[hb] at h; cases h;simp only[cW,decide_eq_true_eq,dC] at hb;exact aht (by omega) hb.1 hb.2
end Go.Proofs.ZzM
end
