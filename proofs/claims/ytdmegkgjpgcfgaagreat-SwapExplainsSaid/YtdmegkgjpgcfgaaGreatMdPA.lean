/- lemmas -/
import Derived.Test.YtdmegkgjpgcfgaaGreatAmF
import Derived.Test.YtdmegkgjpgcfgaaGreatMdTA
set_option linter.all false
noncomputable section
namespace Go.Am
section
variable {ρ:Type}
def Ĝ {α β:Type} (e:Nat->α->BE β):Nat->BY α->BE β
 |_,[]=>none
 |i,a::t=>match e i a with
  |some b=>some b
  |none=>Ĝ e (i+1) t
def jv {α β:Type} (l:BY α) (e:Nat->α->BE β) (k0:β->BE ρ) (k1:BE ρ) {f:Int->(Int->BE ρ)->BE ρ}
 (h:∀(i:Nat) (a:α),i<l.length->l[i]?=some a->∀c,f i c=match e i a with|some b=>k0 b|none=>c ((i:Int)+1))
 (d:∀c,f l.length c=k1):Ë f 0=match Ĝ e 0 l with|some b=>k0 b|none=>k1:=by
 refine aiF l (fun i t=>match Ĝ e i t with|some b=>k0 b|none=>k1) d fun i a t hd hi ha c g=>?_;rw[h i a hi ha c,g,Ĝ]
 cases e i a<;>rfl
def ï {α σ:Type} (l:BY α) (g:Nat->σ) (r:BE ρ) {f:Int×σ->(Int×σ->BE ρ)->BE ρ} {d:σ} (h0:g 0=d)
 (h:∀(i:Nat) (a:α),i<l.length->l[i]?=some a->∀b,f (i,g i) b=b ((i:Int)+1,g (i+1)))
 (j:∀b,f (l.length,g l.length) b=r):Ë f (0,d)=r:=by
 subst h0
 have c:∀s,(s=g 0)->Ë f (0,s)=r:=fun s e=>Yh l (fun _ _ _=>r) (fun i s=>s=g i) (fun s c b=>by rw[c]; exact j b) (fun i a t s hd hi ha m b k=>by
  rw[m,h i a hi ha b]; exact k _ rfl) e
 exact c _ rfl
def Ik {α σ:Type} (l:BY α) (g:Nat->σ) (r:BE ρ) {f:Int×σ->(Int×σ->BE ρ)->BE ρ} {k:σ} (P:Nat->Prop) (h0:g 0=k) (o:P 0)
 (h:∀(i:Nat) (a:α),i<l.length->l[i]?=some a->P i->∀b,f (i,g i) b=r\/(P (i+1)/\f (i,g i) b=b ((i:Int)+1,g (i+1))))
 (m:P l.length->∀b,f (l.length,g l.length) b=r):Ë f (0,k)=r:=by
 subst h0
 have c:∀s,(s=g 0/\P 0)->Ë f (0,s)=r:=fun s e=>Yh l (fun _ _ _=>r) (fun i s=>s=g i/\P i) (fun s c b=>by rw[c.1]; exact m c.2 b) (fun i a t s hd hi ha d b n=>by
  rcases h i a hi ha d.2 b with j|⟨j,h2⟩
  ·rw[d.1,j]
  ·rw[d.1,h2]; exact n _ ⟨rfl,j⟩) e
 exact c _ ⟨rfl,o⟩
def Ê {i n:Nat} (h:i<n) (a:n<=1000000000) (f:Int->BE ρ):ck ((i:Int)+1) f=f ((i:Int)+1):=Ï (by omega) (by omega) f
def am6 {i n:Nat} (h:i<n) (x y:BE ρ):ifb (ilt (i:Int) (aix n)) x y=x:=by simp[ô,OA,h]
def Ó (n:Nat) (x y:BE ρ):ifb (ilt (n:Int) (aix n)) x y=y:=by simp[ô,OA]
def Ì {α:Type} {l:BY α} {i:Nat} (h:i<l.length) (x y:BE ρ):ifb (ilt (i:Int) (Õ l)) x y=x:=am6 h x y
def Rm {α:Type} (p:α->Bool):∀(i:Nat) (l:BY α),Ĝ (fun i a=>bif p a then some (i:Int) else none) i l=(l.findIdx? p).map fun j=>((i+j:Nat):Int)
 |_,[]=>rfl
 |i,a::t=>by
  simp only[Ĝ,List.findIdx?_cons]
  cases b:p a with
  |true=>simp
  |false =>
   simp only[cond_false,dA,if_false];rw[Rm p (i+1) t]
   cases t.findIdx? p with
   |none=>rfl
   |some j=>simp only[eA]; congr 1; omega
def LY {α β:Type} (e:α->BE β):∀(i:Nat) (l:BY α),Ĝ (fun _ a=>e a) i l=l.findSome? e
 |_,[]=>rfl
 |i,a::t=>by
  simp only[Ĝ,gR]
  cases e a with
  |some b=>rfl
  |none=>exact LY e (i+1) t
def ź {α β:Type} {e:Nat->α->BE β}:∀{i:Nat} {l:BY α},Ĝ e i l=none↔∀j a,l[j]?=some a->e (i+j) a=none
 |_,[]=>by simp[Ĝ]
 |i,a::t=>by
  simp only[Ĝ];constructor
  ·intro h j b hb
   cases d:e i a with
   |some c=>rw[d] at h; cases h
   |none =>
    rw[d] at h
    cases j with
    |zero=>simp at hb; subst hb; simpa using d
    |succ j=>have:=(ź.1 h) j b (by simpa using hb); rw[<-this]; congr 1; omega
  ·intro h;have h0:=h 0 a (by simp);simp only[gJ] at h0;rw[h0]
   exact ź.2 fun j b hb=>by have:=h (j+1) b (by simpa using hb); rw[<-this]; congr 1; omega
def take_succ {α:Type} {l:BY α} {i:Nat} {a:α} (h:l[i]?=some a):l.take (i+1)=l.take i++[a]:=by rw[List.take_succ,h]; rfl
end
end Go.Am
end

noncomputable section
namespace Go.Proofs.ZzM
open Go Go.Am
section
variable {ρ:Type}
def ð {τ:Type} {f:τ->(τ->BE ρ)->BE ρ} {r:BE ρ} (I:τ->Prop) (μ:τ->Nat)
 (h:∀x,I x->(∀a,f x a=r)\/∃y,I y/\μ y<μ x/\∀a,f x a=a y) {x:τ} (b:I x):Ë f x=r :=
 wo (F:=fun _=>r) I μ (fun x b a d=>by
  rcases h x b with c|⟨y,c,h2,e⟩
  ·exact c a
  ·rw[e,d y c h2]) b
def jn {α:Type} (l:BY α) (p:α->Bool) (k0:Int->BE ρ) (k1:BE ρ) {f:Int->(Int->BE ρ)->BE ρ}
 (h:∀(i:Nat) (a:α),i<l.length->l[i]?=some a->∀b,f i b=if p a then k0 i else b ((i:Int)+1))
 (c:∀b,f l.length b=k1):Ë f 0=match l.findIdx? p with|some j=>k0 j|none=>k1:=by
 rw[jv l (fun i a=>bif p a then some (i:Int) else none) k0 k1 (fun i a hi ha b=>by rw[h i a hi ha b]; cases p a<;>rfl) c,Rm]
 cases l.findIdx? p with
 |none=>rfl
 |some j=>simp
def ē {α:Type} (l:BY α) (p:α->Bool) (k0:Int->BE ρ) (K k1:BE ρ) {f:Int->(Int->BE ρ)->BE ρ} (m:∀j:Nat,k0 j=K)
 (h:∀(i:Nat) (a:α),i<l.length->l[i]?=some a->∀b,f i b=if p a then k0 i else b ((i:Int)+1))
 (g:∀b,f l.length b=k1):Ë f 0=if l.any p then K else k1:=by
 rw[jn l p k0 k1 h g]
 cases c:l.findIdx? p with
 |none =>
  have:l.any p=false:=by
   rw[ee];intro x d;have:=eJ.1 c x d;simp[this]
  simp[this]
 |some j =>
  have:l.any p=true:=by
   have:=dR.1 c;obtain⟨k,e,_⟩:=this;exact dD.2 ⟨_,fH k,e⟩
  simp[this,m]
end
abbrev è:Type:=Int×Int×Int×(Int×Int)×((Int×Int)×Int)
abbrev Jm:Type:=Int×((Int×Int)×Int)
abbrev Cmp:Type:=Int×Int×BY Int×BY Int×Int×(Int×(Int×Int))
abbrev ø:Type:=(Int×Int)×BY è×BY (Int×Int)×BY Jm×BY Cmp×BY (Int×Int)
abbrev Sys:Type:=Int×BY (Int×Int×Int)
abbrev Maker:Type:=ø×BY (Int×Int)×Sys×BY (Int×Int)
section
variable {ρ:Type}
def Ñ {b:Bool} (h:b=true) (x y:BE ρ):ifb b x y=x:=by rw[h]; rfl
def Í {b:Bool} (h:b=false) (x y:BE ρ):ifb b x y=y:=by rw[h]; rfl
end
def I64 (n:Int):Prop:=-9223372036854775808<=n/\n<=9223372036854775807
def inP (n lo hi:Int):Bool:=decide (lo<=n)&&decide (n<=hi)
def C6 (n:Int):Bool:=inP n 0 20000
def j8 (s:Int×Int) (lo hi:Int):Bool:=decide (lo<=s.1)&&(decide (s.1<=s.2)&&decide (s.2<=hi))
def ψ (n lo hi:Int):ġ n lo hi=some (inP n lo hi):=by
 unfold ġ Kr inP ile
 cases decide (lo<=n)<;>rfl
def Nq (n:Int):mU n=some (C6 n):=by
 unfold mU QO;rw[ψ]; rfl
def Ir (s:Int×Int) (lo hi:Int):Κ s lo hi=some (j8 s lo hi):=by
 unfold Κ Kw j8 ile
 cases decide (lo<=s.1)<;>cases decide (s.1<=s.2)<;>rfl
def V5 {n:Int} (h:I64 n):uB n=some (n.natAbs:Int):=by
 obtain⟨b,h2⟩:=h;unfold uB XQ
 by_cases a:n<0
 ·have:ilt n 0=true:=by simpa using a
  rw[Ñ this];congr 1;simp only[IntKind.wrap,IntKind.bits,IntKind.signed];simp;omega
 ·have:ilt n 0=false:=by simpa using a
  rw[Í this];congr 1;simp only[IntKind.wrap,IntKind.bits,IntKind.signed];simp;omega
def am8 (a b:Nat):Rv a b=some ((Nat.gcd a b:Nat):Int):=by
 unfold Rv ac4;refine ð (fun x:Int×Int=>∃c d:Nat,x=((c:Int),(d:Int))/\Nat.gcd c d=Nat.gcd a b) (fun x=>x.2.toNat) ?_ ⟨a,b,rfl,rfl⟩;rintro x ⟨c,d,rfl,e⟩
 cases d with
 |zero =>
  refine .inl fun f=>?_;rw[Nat.gcd_zero_right] at e;unfold B0;simp[e,ine]
 |succ d =>
  refine .inr ⟨(((d+1:Nat):Int),((c % (d+1):Nat):Int)),⟨d+1,c % (d+1),rfl,?_⟩,?_,fun f=>?_⟩
  ·rw[<-e,iw c (d+1),Nat.gcd_rec (d+1) c,iw]
  ·have:=ig c (g8 d);simp only[dt];omega
  ·unfold B0
   have g:ine ((d+1:Nat):Int) 0=true:=by simp[ine]; omega
   have h2:oy ((d+1:Nat):Int) 0=false:=by simp[oy]; omega
   simp only[g,Ñ Í h2];congr 1
def Lj (r:Int×Int):Bool :=
 decide (1<=r.2)&&(decide (r.2<=2147483647)&&(decide ((r.1.natAbs:Int)<=2147483647)&&decide (Nat.gcd r.1.natAbs r.2.natAbs=1)))
def Y7 {r:Int×Int} (h:I64 r.1):wG r=some (Lj r):=by
 unfold wG QC Lj
 by_cases b:1<=r.2
 ·by_cases h2:r.2<=2147483647
  ·have f:I64 r.2:=⟨by omega,by omega⟩
   have a:ige r.2 1=true:=by simp[ige,b]
   have e:ile r.2 2147483647=true:=by simp[ile,h2]
   rw[Ñ a,Ñ e,V5 h,À]
   by_cases c:(r.1.natAbs:Int)<=2147483647
   ·have d:ile (r.1.natAbs:Int) 2147483647=true:=by simp[ile,c]
    rw[Ñ d,À,V5 f,À,am8,À];congr 1;rw[eQ];simp only[ieq,beq_iff_eq,b,h2,c,decide_true,eR,decide_eq_true_eq];omega
   ·have d:ile (r.1.natAbs:Int) 2147483647=false:=by simp[ile]; omega
    rw[Í d];simp[c]
  ·have a:ige r.2 1=true:=by simp[ige,b]
   have e:ile r.2 2147483647=false:=by simp[ile]; omega
   rw[Ñ a,Í e];simp[h2]
 ·have a:ige r.2 1=false:=by simp[ige]; omega
  rw[Í a];simp[b]
def rZ (g:è):Bool :=
 Lj g.2.2.2.2.1&&inP g.2.2.2.2.1.1 (-1000) 1000&&decide (g.2.2.2.2.1.2<=100)&&inP g.1 1 1099511627776&&C6 g.2.1&&inP g.2.2.1 1 1125899906842624&&j8 g.2.2.2.1 (-1073741824) 1073741824&&inP g.2.2.2.2.2 0 1048576
def agk {g:è} (h:I64 g.2.2.2.2.1.1):yy g=some (rZ g):=by
 unfold yy FH rZ;rw[Y7 h,ψ,ψ,Nq,ψ,Ir,ψ];generalize Lj g.2.2.2.2.1=i;generalize inP g.2.2.2.2.1.1 (-1000) 1000=f;generalize inP g.1 1 1099511627776=e;generalize C6 g.2.1=d;generalize inP g.2.2.1 1 1125899906842624=c;generalize j8 g.2.2.2.1 (-1073741824) 1073741824=b;generalize inP g.2.2.2.2.2 0 1048576=j;unfold ile;generalize decide (g.2.2.2.2.1.2<=100)=a
 cases i<;>cases f<;>cases e<;>cases d<;>cases c<;>cases b<;>cases a<;>rfl
section
variable {ρ:Type}
def Iw {α:Type} {l:BY α} {i:Nat} {a:α} (h0:0<i) (h:l[i-1]?=some a) (f:α->BE ρ):é l ((i:Int)-1) f=f a:=by
 have:((i:Int)-1)=((i-1:Nat):Int):=by omega
 rw[this,Ä h]
def RE {i:Nat} (h:0<i) (a:i<=1000000000) (f:Int->BE ρ):ck ((i:Int)-1) f=f ((i:Int)-1):=Ï (by omega) (by omega) f
def ś {i n:Nat} (h:i<n) (x:BE ρ):à ((ile 0 (i:Int))&&(ilt (i:Int) (n:Int))) x=x:=by
 have:((ile 0 (i:Int))&&(ilt (i:Int) (n:Int)))=true:=by simp[ile,ilt,h]
 rw[this,Am.iff_true]
def Ă {α:Type} {l:BY α} {i:Nat} {a:α} (h:l[i]?=some a) (f:α->BE ρ):ī l (Int.toNat (i:Int)) f=f a:=by
 rw[dt]; exact Ž h f
end
def lZ {α:Type} (key:α->Int) (l:BY α) (i:Nat) (a:α):Bool :=
 decide (0<i)&&(l[i-1]?).any fun q=>decide (key a<=key q)
def vk {α:Type} {l:BY α} {i:Nat} (hi:i<l.length) (h0:0<i):∃q,l[i-1]?=some q :=
 ⟨l[i-1],df (by omega)⟩
def Jd {α:Type} (key:α->Int) (l:BY α):(∀i a,l[i]?=some a->lZ key l i a=false)↔l.Pairwise (fun a b=>key a<key b):=by
 rw[dP];constructor
 ·intro h
  have step:∀i (d:i+1<l.length),key l[i]<key l[i+1]:=by
   intro i d;have:=h (i+1) l[i+1] (df d);simp only[lZ,Nat.add_sub_cancel,g8,decide_true,eR,df (show i<l.length by omega),Option.any_some,decide_eq_false_iff_not] at this;omega
  intro i j hi f g
  induction j with
  |zero=>omega
  |succ j e =>
   have:=step j f;rcases dv i j with c|k
   ·have:=e (by omega) c; omega
   ·have:i=j:=by omega
    subst this; assumption
 ·intro h i a ha;obtain⟨hi,rfl⟩:=List.getElem?_eq_some_iff.1 ha;unfold lZ
  cases i with
  |zero=>rfl
  |succ i =>
   have:=h i (i+1) (by omega) hi (by omega);simp only[Nat.add_sub_cancel,g8,decide_true,eR,df (show i<l.length by omega),Option.any_some,decide_eq_false_iff_not];omega
def pQ (l:BY è) (i:Nat) (g:è):BE Int :=
 if !rZ g then some 1 else if lZ (fun g=>g.1) l i g then some 6 else none
def jU (b:ø):Int:=(Ĝ (pQ b.2.1) 0 b.2.1).getD 0
def Uc {b:ø} (e:∀g∈b.2.1,I64 g.2.2.2.2.1.1) (h:b.2.1.length<=1000):Ż b=some (jU b):=by
 unfold Ż rR;refine Eq.trans (jv b.2.1 (pQ b.2.1) some (some 0) (fun i a hi ha d=>?_) (fun d=>?_)) ?_
 ·try dsimp only
  unfold jF;rw[Ì hi,Ä ha,agk (e a (List.mem_of_getElem? ha)),À];unfold pQ
  cases j:rZ a with
  |false=>simp
  |true =>
   simp only[dU,æ,dA,if_false];rcases fM i with h0|h0
   ·subst h0
    have:igt ((0:Nat):Int) 0=false:=by simp[igt]
    rw[Í this,Ê hi (by omega)];simp[lZ]
   ·obtain⟨q,c⟩:=vk hi h0
    have f:igt (i:Int) 0=true:=by simp[igt]; omega
    rw[Ñ f,RE h0 (by omega),Iw h0 c];simp only[lZ,h0,decide_true,Bool.true_and,c,Option.any_some];unfold ile
    cases h2:decide (a.1<=q.1) with
    |true=>simp
    |false =>
     rw[æ,Ê hi (by omega)];simp
 ·try dsimp only
  unfold jF;rw[Ó]
 ·unfold jU
  cases Ĝ (pQ b.2.1) 0 b.2.1<;>rfl
def ZA (l:BY è):BY (Int×è):=l.foldl (fun m g=>UW (k:=tI) (v:=Ö) g.1 g m) []
def ŗ (b:ø):BY (Int×è):=ZA b.2.1
def Jt {b:ø} (d:b.2.1.length<=1000):Ń b=some (ŗ b):=by
 unfold Ń FF;refine ï b.2.1 (fun i=>ZA (b.2.1.take i)) _ rfl (fun i a hi ha c=>?_) (fun c=>?_)
 ·try dsimp only
  unfold ot;rw[Ì hi,Ä ha,Ê hi (by omega),take_succ ha];simp only[ZA,List.foldl_append,List.foldl_cons,List.foldl_nil]
 ·try dsimp only
  unfold ot;rw[Ó,List.take_length];rfl
def aas (x y:Int) (g:è):∀m:BY (Int×è),sS (k:=tI) (v:=Ö) x (UW (k:=tI) (v:=Ö) y g m)=if x=y then some g else sS (k:=tI) (v:=Ö) x m
 |[]=>by
  unfold UW sS ks sS
  by_cases h:x=y<;>simp[h]
 |e::m=>by
  unfold UW
  by_cases h:y=e.1
  ·have:ks tI y e.1=true:=by simp[ks,h]
   rw[this]
   try dsimp only
   unfold sS ks
   by_cases h2:x=y
   ·simp[h2]
   ·have:¬x=e.1:=fun a=>h2 (a.trans h.symm);simp[h2,this]
  ·have:ks tI y e.1=false:=by simp[ks,h]
   rw[this]
   try dsimp only
   have b:=aas x y g m;unfold sS
   by_cases h2:x=e.1
   ·have:ks tI x e.1=true:=by simp[ks,h2]
    rw[this];have:¬x=y:=fun a=>h (a.symm.trans h2);simp[this]
   ·have:ks tI x e.1=false:=by simp[ks,h2]
    rw[this];exact b
def î (b:ø) (id:Int):BE è:=b.2.1.find? fun g=>g.1==id
def acJ (x:Int) (l:BY è):sS (k:=tI) (v:=Ö) x (ZA l)=l.reverse.find? fun g=>g.1==x:=by
 unfold ZA;rw[<-List.foldr_reverse]
 induction l.reverse with
 |nil=>rfl
 |cons g t a =>
  rw[List.foldr_cons,aas,a,gh]
  by_cases h:x=g.1
  ·simp[h]
  ·have:(g.1==x)=false:=by simp; exact fun h2=>h h2.symm
   simp[h,this]
def LZ {l:BY è} (h:l.Pairwise fun a b=>a.1<b.1) (x:Int):l.reverse.find? (fun g=>g.1==x)=l.find? fun g=>g.1==x:=by
 induction l with
 |nil=>rfl
 |cons g t d =>
  rw[dN] at h;rw[List.reverse_cons,List.find?_append,d h.2,gh]
  by_cases c:g.1=x
  ·have:t.find? (fun g=>g.1==x)=none:=eD.2 fun y e=>by have:g.1<y.1:=h.1 y e; simp; omega
   rw[this]; simp[c]
  ·have:(g.1==x)=false:=by simp[c]
   simp[this]
def vx {b:ø} (h:b.2.1.Pairwise fun a b=>a.1<b.1) (x:Int):sS (k:=tI) (v:=Ö) x (ŗ b)=î b x:=by
 unfold ŗ î;rw[acJ,LZ h]
def mz (s:BY (Int×è)) (id day:Int):Int :=
 match sS (k:=tI) (v:=Ö) id s with
 |some g=>if day<g.2.1 then 4 else 0
 |none=>5
def acK (s:BY (Int×è)) (id day:Int):jy s id day=some (mz s id day):=by
 unfold jy uS mz
 cases h:sS (k:=tI) (v:=Ö) id s with
 |none=>simp only[Sk,h]
 |some g =>
  simp only[Sk,h];rw[ô]
  by_cases h2:day<g.2.1<;>simp[h2]
def ack (s:BY (Int×è)) (id day:Int):Int:=if !C6 day then 1 else mz s id day
def ZT (s:BY (Int×è)) (id day:Int):ń id day s=some (ack s id day):=by
 unfold ń FG ack;rw[Nq,À,acK,À]
 cases C6 day<;>rfl
def MZ (b:ø) (s:BY (Int×è)) (i:Nat) (l:Jm):Int :=
 if !j8 l.2.1 0 20000 then 1 else if !inP l.2.2 0 1048576 then 1 else if mz s l.1 l.2.1.1 != 0 then mz s l.1 l.2.1.1 else
 if (b.2.2.2.1.take i).any (fun x=>x.1==l.1&&(decide (x.2.1.1<=l.2.1.2)&&decide (l.2.1.1<=x.2.1.2))) then 9 else
 if b.2.2.1.any (fun u=>u.1==l.1&&inP u.2 l.2.1.1 l.2.1.2) then 9 else 0
def abM {b:ø} (t:b.2.2.2.1.length<=1000) (r:b.2.2.1.length<=1000) (s:BY (Int×è)) {i:Nat} {l:Jm} (m:b.2.2.2.1[i]?=some l):Χ b s i=some (MZ b s i l):=by
 unfold Χ xZ MZ;have hi:i<b.2.2.2.1.length:=(List.getElem?_eq_some_iff.1 m).1;rw[Ä m,Ir,À,ψ,À,acK,À]
 cases j8 l.2.1 0 20000 with
 |false=>rfl
 |true =>
 cases inP l.2.2 0 1048576 with
 |false=>rfl
 |true =>
 cases h:(mz s l.1 l.2.1.1 != 0) with
 |true =>
  have:ine (mz s l.1 l.2.1.1) 0=true:=h;simp[this]
 |false =>
 have g:ine (mz s l.1 l.2.1.1) 0=false:=h
 have p:((ile (0:Int) (i:Int))&&(ile (i:Int) (í b.2.2.2.1)))=true:=by simp[ile,í]; omega
 simp only[dU,æ,g,dA,if_false];rw[ä p,dt]
 have c:∀(k:Int->BE Int),Ë (fun(v:Int) n=>Ι b.2.2.1 (Õ b.2.2.1) l.1 l.2.1.1 l.2.1.2 v (fun u=>n u) (fun z=>ifb (ige z 0) (k 9) (k 0)) (fun _=>k 0)) (0:Int)=if b.2.2.1.any (fun u=>u.1==l.1&&inP u.2 l.2.1.1 l.2.1.2) then k 9 else k 0:=by
  intro k;refine ē b.2.2.1 _ (fun z=>ifb (ige z 0) (k 9) (k 0)) (k 9) (k 0) (fun j=>?_) (fun j a d ha f=>?_) (fun f=>?_)
  ·have:ige (j:Int) 0=true:=by simp[ige]
   rw[Ñ this]
  ·try dsimp only
   unfold Ι;rw[Ì d,Ä ha,ψ,À,Ê d (by omega)]
   cases e:(a.1==l.1) with
   |false =>
    have:ieq a.1 l.1=false:=e;simp[this]
   |true =>
    have:ieq a.1 l.1=true:=e;rw[this]
    cases inP a.2 l.2.1.1 l.2.1.2<;>simp
  ·try dsimp only
   unfold Ι;rw[Ó]
 rw[c];refine ej (ē (b.2.2.2.1.take i) (fun x=>x.1==l.1&&(decide (x.2.1.1<=l.2.1.2)&&decide (l.2.1.1<=x.2.1.2))) (fun z=>ifb (ige z 0) (some 9) (if b.2.2.1.any (fun u=>u.1==l.1&&inP u.2 l.2.1.1 l.2.1.2) then some 9 else some 0)) (some 9) (if b.2.2.1.any (fun u=>u.1==l.1&&inP u.2 l.2.1.1 l.2.1.2) then some 9 else some 0) (fun j=>?_) (fun j a d ha f=>?_) (fun f=>?_)) ?_
 ·have:ige (j:Int) 0=true:=by simp[ige]
  rw[Ñ this]
 ·try dsimp only
  unfold lN
  have o:j<=1000:=by rw[du] at d; omega
  rw[Ì d,Ä ha,Ê d (by rw[du]; omega)]
  cases e:(a.1==l.1) with
  |false =>
   have:ieq a.1 l.1=false:=e;simp[this]
  |true =>
   have:ieq a.1 l.1=true:=e;rw[this]
   cases h2:decide (a.2.1.1<=l.2.1.2)<;>cases q:decide (l.2.1.1<=a.2.1.2)<;>simp[ile,h2,q,ô]<;>simp_all
 ·try dsimp only
  unfold lN;rw[Ó]
 ·cases List.any (b.2.2.2.1.take i) _<;>cases b.2.2.1.any _<;>rfl
def acd {l:BY Int} (c:l.length<=1000000) (x:Int):iN l x=some (match l.findIdx? (·==x) with|some j=>(j:Int)|none=>-1):=by
 unfold iN nN;refine Eq.trans (jn l (·==x) some (some (-1)) (fun i a hi ha b=>?_) (fun b=>?_)) ?_
 ·try dsimp only
  unfold ο;rw[Ì hi,Ä ha,Ê hi (by omega),ô]
  by_cases h:x=a
  ·subst h; simp[ieq]
  ·have h2:¬a=x:=fun e=>h e.symm;simp[ieq,h,h2]
 ·try dsimp only
  unfold ο;rw[Ó]
 ·cases l.findIdx? (·==x)<;>rfl
def ŝ {l:BY Int} (b:l.length<=1000000) (x:Int):å l x=some (l.contains x):=by
 unfold å kT;rw[acd b,À];congr 1
 cases h:l.findIdx? (·==x) with
 |none =>
  have:l.contains x=false:=by
   rw[eP];intro c;have:=eJ.1 h x (by simpa using c);simp at this
  rw[this]; rfl
 |some j =>
  obtain⟨d,a,_⟩:=dR.1 h
  have:l.contains x=true:=by
   have h2:l[j]=x:=by simpa using a
   rw[<-h2]; simp
  rw[this];simp[ige]
def Þ (a b:BY Int):BY Int:=a.filter fun x=>!b.contains x
def Bi {a b:BY Int} (ha:a.length<=1000000) (hb:b.length<=1000000):Φ a b=some (Þ a b):=by
 unfold Φ X5;rw[Ò (by omega),Am.iff_true]
 have g:∀z:Nat,z<a.length->Þ (a.take z) b=a.take z->b.contains (a[z]?.getD 0)=true ->
  Ë (fun(d:(Val (.pair tI (.pair tI (.slice tI))))) f=>lW b d.1 d.2.1 d.2.2 (fun n m l=>f (n,m,l)) (fun c=>à ((ile (0:Int) c.1)&&(ile c.1 (í c.2))) (à ((ile (0:Int) c.1)&&(ile c.1 (í (List.take (Int.toNat c.1) c.2++List.replicate (List.length c.2-(Int.toNat c.1)) (0:Int)++List.drop ((Int.toNat c.1)+(List.length c.2-(Int.toNat c.1))) c.2)))) (some (List.take (Int.toNat c.1) (List.drop 0 (List.take (Int.toNat c.1) c.2++List.replicate (List.length c.2-(Int.toNat c.1)) (0:Int)++List.drop ((Int.toNat c.1)+(List.length c.2-(Int.toNat c.1))) c.2))))))) ((z:Int),((z:Int)+1),a)=some (Þ a b):=by
  intro z p H v
  refine ð (fun x:Int×Int×BY Int=>∃i j:Nat,x.1=i/\x.2.1=j/\i<j/\j<=a.length/\x.2.2.length=a.length/\x.2.2.take i=Þ (a.take j) b/\x.2.2.drop j=a.drop j) (fun x=>a.length-x.2.1.toNat) ?_
   ⟨z,z+1,rfl,by simp,by omega,by omega,rfl,?_,rfl⟩
  ·rintro⟨N,M,s⟩ ⟨i,j,A,h2,J,I,D,y,hd⟩;simp only at A h2 D y hd;subst A h2;rcases dv j a.length with u|u
   ·refine .inr ?_
    have t:s[j]?=some a[j]:=by
     have F:(s.drop j)[0]?=(a.drop j)[0]?:=by rw[hd]
     rw[eX,eX] at F;simpa[df u] using F
    have e:j<s.length:=by omega
    have r:Þ (a.take (j+1)) b=Þ (a.take j) b++if b.contains a[j] then[] else[a[j]]:=by
     rw[take_succ (df u),Þ,Þ,fg];congr 1
     cases h:b.contains a[j] with
     |true=>simp only[eT,h,dU,dA,if_false,eS,if_true]
     |false=>simp only[eT,h,fK,dA,if_false,eS,if_true]
    cases h:b.contains a[j] with
    |true =>
     refine⟨(i,(j:Int)+1,s),⟨i,j+1,rfl,by simp,by omega,by omega,D,?_,?_⟩,by simp; omega,fun w=>?_⟩
     ·rw[r,h]; simpa using y
     ·have:=congrArg (List.drop 1) hd;simpa[gk,Nat.add_comm] using this
     ·try dsimp only
      unfold lW;rw[Ì e,ś e,Ă t,ŝ hb,À,h];simp only[Bool.not_true,æ];rw[Ê e (by omega)]
    |false =>
     have k:i<s.length:=by omega
     refine⟨((i:Int)+1,(j:Int)+1,s.set i a[j]),⟨i+1,j+1,by simp,by simp,by omega,by omega,by simpa using D,?_,?_⟩,by simp; omega,fun w=>?_⟩
     ·show List.take (i+1) (s.set i a[j])=_;rw[r,h,List.take_succ,ij,List.take_set_of_le (dh i),y];simp[k]
     ·show List.drop (j+1) (s.set i a[j])=_;rw[List.drop_set_of_lt (by omega)];have:=congrArg (List.drop 1) hd;simpa[gk,Nat.add_comm] using this
     ·try dsimp only
      unfold lW;rw[Ì e,ś e,Ă t,ŝ hb,À,h];simp only[Bool.not_false,ku];rw[ś k,Ă (List.getElem?_eq_getElem k),Ê k (by omega),Ê e (by omega),Int.toNat_natCast]
   ·refine .inl fun w=>?_
    have E:j=s.length:=by omega
    try dsimp only
    unfold lW;rw[E,Ó];dsimp only
    have L:((ile (0:Int) (i:Int))&&(ile (i:Int) (í s)))=true:=by simp[ile,í]; omega
    rw[ä L]
    have K:((ile (0:Int) (i:Int))&&(ile (i:Int) (í (List.take (Int.toNat (i:Int)) s++List.replicate (List.length s-(Int.toNat (i:Int))) (0:Int)++List.drop ((Int.toNat (i:Int))+(List.length s-(Int.toNat (i:Int)))) s))))=true:=by
     simp[ile,í]; omega
    rw[ä K,dt,ic,dp,fW (by simp; omega),List.take_take,Nat.min_self,y];rw[eo (by omega)]
  ·show List.take z a=Þ (a.take (z+1)) b;have o:a[z]?=some a[z]:=df p;rw[take_succ o,Þ,fg];rw[o] at v;simp only[f5] at v
   have:List.filter (fun x=>!b.contains x) [a[z]]=[]:=by simp only[eT,v,dU,dA,if_false,eS]
   rw[this,dB];exact H.symm
 refine ej (jn a (fun x=>b.contains x) (fun B=>ifb (ieq B (-1:Int)) (some a) (ck (B+(1:Int)) fun G=>Ë (fun(d:(Val (.pair tI (.pair tI (.slice tI))))) f=>lW b d.1 d.2.1 d.2.2 (fun n m l=>f (n,m,l)) (fun c=>à ((ile (0:Int) c.1)&&(ile c.1 (í c.2))) (à ((ile (0:Int) c.1)&&(ile c.1 (í (List.take (Int.toNat c.1) c.2++List.replicate (List.length c.2-(Int.toNat c.1)) (0:Int)++List.drop ((Int.toNat c.1)+(List.length c.2-(Int.toNat c.1))) c.2)))) (some (List.take (Int.toNat c.1) (List.drop 0 (List.take (Int.toNat c.1) c.2++List.replicate (List.length c.2-(Int.toNat c.1)) (0:Int)++List.drop ((Int.toNat c.1)+(List.length c.2-(Int.toNat c.1))) c.2))))))) (B,G,a))) (some a) (fun i x hi q w=>?_) (fun w=>?_)) ?_
 ·try dsimp only
  unfold xW;rw[Ì hi,ś hi,Ă q,ŝ hb,À,Ê hi (by omega),ô]
 ·try dsimp only
  unfold xW;rw[Ó]
 ·cases h:a.findIdx? (fun x=>b.contains x) with
  |none =>
   have:Þ a b=a:=by
    rw[Þ,gQ];intro x q;have:=eJ.1 h x q;simpa using this
   rw[this]
  |some z =>
   obtain⟨p,v,C⟩:=dR.1 h
   have A:ieq (z:Int) (-1)=false:=by simp[ieq]
   try dsimp only
   rw[Í A,Ê p (by omega)];refine g z p ?_ ?_
   ·rw[Þ,gQ];intro x q;obtain⟨j,u,rfl⟩:=dw.1 q;rw[du] at u;rw[fk];have:=C j (by omega);simpa using this
   ·rw[df p]; exact v
def yW (l:BY Int) (i:Nat) (a:Int):BE Bool:=if !inP a 1 1099511627776 then some false else if lZ (fun x=>x) l i a then some false else none
def uH (l:BY Int):Bool:=match Ĝ (yW l) 0 l with|some _=>false|none=>decide (l.length<=6)
def Ip {l:BY Int} (g:l.length<=1000000):oa l=some (uH l):=by
 unfold oa Kv;refine Eq.trans (jv l (yW l) some (some (decide (l.length<=6))) (fun i a hi ha d=>?_) (fun d=>?_)) ?_
 ·try dsimp only
  unfold qq;rw[Ì hi,Ä ha,ψ,À];unfold yW
  cases inP a 1 1099511627776 with
  |false=>rfl
  |true =>
   simp only[dU,æ,dA,if_false];rcases fM i with h0|h0
   ·subst h0
    have:igt ((0:Nat):Int) 0=false:=by simp[igt]
    rw[Í this,Ê hi (by omega)];simp[lZ]
   ·obtain⟨q,c⟩:=vk hi h0
    have f:igt (i:Int) 0=true:=by simp[igt]; omega
    rw[Ñ f,RE h0 (by omega),Iw h0 c];simp only[lZ,h0,decide_true,Bool.true_and,c,Option.any_some];unfold ile
    cases h2:decide (a<=q) with
    |true=>rfl
    |false =>
     rw[æ,Ê hi (by omega)];rfl
 ·try dsimp only
  unfold qq;rw[Ó,Î];simp[ile];omega
 ·have hb:∀x,Ĝ (yW l) 0 l=some x->x=false:=by
   have:∀(m:BY Int) (j:Nat) (x:Bool),Ĝ (yW l) j m=some x->x=false:=by
    intro m
    induction m with
    |nil=>intro j x h; cases h
    |cons a m e =>
     intro j x h;unfold Ĝ at h
     cases b:yW l j a with
     |none=>rw[b] at h; exact e _ _ h
     |some y =>
      rw[b] at h;cases h;unfold yW at b
      split at b
      ·cases b; rfl
      ·split at b
       ·cases b; rfl
       ·cases b
   exact this l 0
  unfold uH
  cases h:Ĝ (yW l) 0 l with
  |none=>rfl
  |some x=>rw[hb x h]
def zx (l:BY Int):uH l=true↔(∀x∈l,1<=x/\x<=1099511627776)/\l.Pairwise (·<·)/\l.length<=6:=by
 have h0:Ĝ (yW l) 0 l=none↔(∀x∈l,1<=x/\x<=1099511627776)/\l.Pairwise (·<·):=by
  rw[ź,<-Jd (fun x=>x) l];constructor
  ·intro h
   have b:∀(j:Nat) (a:Int),l[j]?=some a->inP a 1 1099511627776=true/\lZ (fun x=>x) l j a=false:=by
    intro j a ha;have:=h j a ha;rw[Nat.zero_add] at this;unfold yW at this
    split at this
    ·cases this
    ·split at this
     ·cases this
     ·rename_i b h2;exact⟨by simpa using b,by simpa using h2⟩
   refine⟨fun x d=>?_,fun i a ha=>(b i a ha).2⟩;obtain⟨j,e,rfl⟩:=dw.1 d;have:=(b j l[j] (df e)).1;simpa[inP] using this
  ·rintro⟨b,h2⟩ j a ha;rw[dQ];have c:=b a (dk ha)
   have:inP a 1 1099511627776=true:=by simpa[inP] using c
   simp[yW,this,h2 j a ha]
 unfold uH
 cases h:Ĝ (yW l) 0 l with
 |none =>
  obtain⟨b,h2⟩:=h0.1 h;simp only[decide_eq_true_eq];exact⟨fun c=>⟨b,h2,c⟩,fun c=>c.2.2⟩
 |some x =>
  constructor
  ·intro h2; cases h2
  ·rintro⟨b,h2,c⟩;rw[h0.2 ⟨b,h2⟩] at h; cases h
def Sj {a b:BY Int} (ha:a.length<=1000000) (hb:b.length<=1000000):ĩ [a,b]=some (a++b):=by
 have q:∀n:Nat,n<=4000000->∀(f:Int->BE (BY Int)),ck (n:Int) f=f n:=fun n h f=>Ï (by omega) (by omega) f
 have c:Ë (fun(l:pc) d=>Ĥ [a,b] (Õ [a,b]) l.1 l.2 (fun g e=>d (g,e)) (fun m=>some m)) ((0:Int),([]:BY Int))=some (a++b):=by
  refine ï [a,b] (fun i=>([a,b].take i).flatten) (some (a++b)) (f:=fun(l:pc) d=>Ĥ [a,b] (Õ [a,b]) l.1 l.2 (fun g e=>d (g,e)) (fun m=>some m)) rfl (fun i x hi j o=>?_) (fun o=>?_)
  ·try dsimp only
   unfold Ĥ;rw[Ì hi,Ä j,Ê hi (by simp),take_succ j,List.flatten_append]
   have:ã ((List.take i [a,b]).flatten.length+x.length)=true:=by
    refine Ò ?_
    have u:x.length<=1000000:=by
     have:=dk j;simp at this
     rcases this with rfl|rfl<;>assumption
    have h2:(List.take i [a,b]).flatten.length<=2000000:=by
     have:i=0\/i=1:=by simp at hi; omega
     rcases this with rfl|rfl<;>simp<;>omega
    omega
   rw[ä this];simp
  ·try dsimp only
   unfold Ĥ;rw[Ó];simp
 unfold ĩ mK;refine ð (fun x:Int×Int=>∃i:Nat,i<=2/\x=((([a,b].take i).flatten.length:Int),(i:Int))) (fun x=>2-x.2.toNat) ?_ ⟨0,by omega,rfl⟩;rintro x ⟨i,hi,rfl⟩;rcases Nat.lt_or_ge i 2 with h2|h2
 ·refine .inr ⟨((([a,b].take (i+1)).flatten.length:Int),(i:Int)+1),⟨i+1,h2,by simp⟩,by simp; omega,fun o=>?_⟩;have k:i<[a,b].length:=h2;obtain⟨x,j⟩:∃x,[a,b][i]?=some x:=⟨_,df k⟩
  have r:x.length<=1000000:=by
   have:=dk j;simp at this
   rcases this with rfl|rfl<;>assumption
  have t:(List.take i [a,b]).flatten.length<=2000000:=by
   have:i=0\/i=1:=by omega
   rcases this with rfl|rfl<;>simp<;>omega
  try dsimp only
  unfold Ρ;rw[Ì k,Ä j,Î]
  have p:(((List.take i [a,b]).flatten.length:Int)+(x.length:Int))=((List.take i [a,b]).flatten.length+x.length:Nat):=by omega
  rw[p,q _ (by omega)]
  have:ilt ((((List.take i [a,b]).flatten.length+x.length:Nat)):Int) 0=false:=by simp[ilt]; omega
  rw[Í this,Ê k (by simp),take_succ j];simp
 ·refine .inl fun o=>?_
  obtain rfl:i=2:=by omega
  try dsimp only
  unfold Ρ;rw[show((2:Nat):Int)=(([a,b].length:Nat):Int) from rfl,Ó]
  have p:((List.take 2 [a,b]).flatten.length:Int)=((a.length+b.length:Nat):Int):=by simp
  have s:ilt (((a.length+b.length:Nat)):Int) 0=false:=by simp[ilt]; omega
  rw[p];dsimp only;rw[Í s,Int.sub_zero,q _ (by omega)];rcases Nat.eq_zero_or_pos (a.length+b.length) with h0|h0
  ·have:igt (((a.length+b.length:Nat)):Int) 0=false:=by simp[igt]; omega
   rw[Í this];exact c
  ·have:igt (((a.length+b.length:Nat)):Int) 0=true:=by simp[igt]; omega
   rw[Ñ this]
   have:((ilt (0:Int) (((a.length+b.length:Nat)):Int))&&(ã (Int.toNat (((a.length+b.length:Nat)):Int))))=true:=by
    rw[dt,Ò (by omega)];simp[ilt]; omega
   rw[ä this]
   have:ile 0 (í (List.replicate (Int.toNat (((a.length+b.length:Nat)):Int)) (0:Int)))=true:=by simp[ile]
   rw[ä this];exact c
def Ŕ (b:ø) (id day:Int):BE Jm:=b.2.2.2.1.find? fun l=>l.1==id&&inP day l.2.1.1 l.2.1.2
def Nv {α:Type} (p:α->Bool):∀l:BY α,l.find? p=(match l.findIdx? p with|some j=>l[j]?|none=>none)
 |[]=>rfl
 |a::l=>by
  rw[gh,List.findIdx?_cons]
  cases h:p a with
  |true=>simp
  |false =>
   simp only[dA,if_false];rw[Nv p l]
   cases l.findIdx? p<;>simp
def akp {b:ø} (k:b.2.2.2.1.length<=1000) (id day:Int):yz b id day=some (match Ŕ b id day with|some l=>(l,true)|none=>((0,(0,0),0),false)):=by
 unfold yz Yb;refine Eq.trans (jn b.2.2.2.1 (fun l=>l.1==id&&inP day l.2.1.1 l.2.1.2) (fun c=>ifb (ilt c (0:Int)) (some (((0:Int),((0:Int),(0:Int)),(0:Int)),false)) (é b.2.2.2.1 c fun g=>some (g,true))) (some ((0,(0,0),0),false)) (fun i a hi ha f=>?_) (fun f=>?_)) ?_
 ·try dsimp only
  unfold ya;rw[Ì hi,Ä ha,ψ,À,Ê hi (by omega)]
  cases e:(a.1==id) with
  |false =>
   have:ieq a.1 id=false:=e;simp[this]
  |true =>
   have:ieq a.1 id=true:=e;rw[this]
   cases inP day a.2.1.1 a.2.1.2<;>simp
 ·try dsimp only
  unfold ya;rw[Ó]
 ·unfold Ŕ;rw[Nv]
  cases h:b.2.2.2.1.findIdx? (fun l=>l.1==id&&inP day l.2.1.1 l.2.1.2) with
  |none=>rfl
  |some j =>
   obtain⟨d,_,_⟩:=dR.1 h
   have:ilt (j:Int) 0=false:=by simp[ilt]
   try dsimp only
   rw[Í this,Ä (df d),df d]
section
variable {ρ:Type}
def ahn {α:Type} {all l:BY α} (k:BE ρ) (h:l <+: all):yg all l k=k:=by unfold yg; rw[if_pos h]
def Yw {α β:Type} {f:BY α->β->(BY α->BE ρ)->BE ρ} {g:β->BY α} {al:BY α}:∀{xs:BY β} {v:BY α} {K:BY α->BE ρ},
 (∀v y a,y∈xs->(v++g y) <+: al->f v y a=a (v++g y))->(v++xs.flatMap g) <+: al->Bm f xs v K=K (v++xs.flatMap g)
 |[],v,K,_,_=>by simp[Bm]
 |x::xs,v,K,h,b=>by
  rw[dF,<-dp] at b ⊢;rw[Bm,h v x _ (by simp) ((eE _ _).trans b),Yw (fun v y a c=>h v y a (dW _ c)) b]
end
def ahx {b:BY Int->BE (BY Int)} {l xs:BY Int} (h:B9 l=some xs):kS xs b l some=some (xs,l):=by
 unfold B9 at h
 have c:ã l.length=true:=by cases e:ã l.length with|true=>rfl|false=>rw[e] at h; cases h
 rw[ä c] at h;cases h
 have f:l.length<=4294967296:=by simpa[ã] using c
 unfold kS
 refine ï l (fun i=>l.take i) _ rfl (fun i a hi ha d=>?_) (fun d=>?_)<;>(try dsimp only)<;>unfold jd
 ·rw[Ì hi,Ä ha,<-take_succ ha,ahn _ (List.take_prefix _ _),Ï (by omega) (by omega)]
 ·rw[Ó,fI]
def adX:∀(n:Nat) {l y:BY Int},l.length=n->y∈vu n l->y.length=n
 |0,l,y,_,h=>by simp[vu] at h; simp[h]
 |n+1,l,y,c,h=>by
  have a:¬l.length=0:=by omega
  simp only[vu,if_neg a,dG,fj,dH] at h;obtain⟨i,hi,z,b,rfl⟩:=h;have:=adX n (l:=l.take i++l.drop (i+1)) (by simp; omega) b;simp[this]
def Ze:∀{l:BY (Int×BY Int)} {y:BY (BY Int)},y∈ξ l->y.length=l.length
 |[],y,h=>by simp[ξ] at h; simp[h]
 |m::r,y,h=>by
  simp only[ξ,dG,dH] at h;obtain⟨x,_,z,a,rfl⟩:=h;simp[Ze a]
def anP {α:Type} {n i:Nat} (h:i<n) (g:Nat->BY α):((List.range i).flatMap g++g i) <+: (List.range n).flatMap g:=by
 have:List.range n=List.range i++i::(List.range (n-i-1)).map (i+1+·):=by
  rw[show n=(i+1)+(n-i-1) by omega,List.range_add,fE,dp];simp[show i+1+(n-i-1)-i-1=n-i-1 by omega]
 rw[this,eW,dF,<-dp];exact eE _ _
def acg (n:Nat) (l:BY Int):BE (BY (BY Int)):=à (decide (l.length<n)&&decide (l.length<=9)) (some (vu l.length l))
def ahX {n:Nat} {l:BY Int} (h:l.length<n) (a:l.length<=9):acg n l=some (vu l.length l):=by unfold acg; rw[ä (by simp[h,a])]
def ael {n:Nat} {l:BY Int} {xs:BY (BY Int)} (h:acg n l=some xs):l.length<n/\l.length<=9/\xs=vu l.length l:=by
 unfold acg at h
 cases hb:(decide (l.length<n)&&decide (l.length<=9)) with
 |false=>rw[hb] at h; cases h
 |true =>
  rw[hb] at h; cases h;simp only[dg,decide_eq_true_eq] at hb;exact⟨hb.1,hb.2,rfl⟩
def aie {n:Nat} {l:BY Int} {xs:BY (BY Int)} (h:acg (n+1) l=some xs):zV xs (acg n) l some=some (xs,l):=by
 obtain⟨t,h2,rfl⟩:=ael h;unfold zV
 by_cases h0:l.length=0
 ·obtain rfl:l=[]:=List.eq_nil_of_length_eq_zero h0;rw[show ifb (ieq (Õ ([]:BY Int)) (0:Int))=fun(x y:BE (BY (BY Int)×BY Int))=>x from by funext x y; simp[Î,ieq,ô]];exact ahn _ (by simp[vu])
 ·obtain⟨k,m⟩:∃k,l.length=k+1:=⟨l.length-1,by omega⟩
  have s:vu l.length l=(List.range l.length).flatMap fun i=>(vu k (l.take i++l.drop (i+1))).map (l.getD i 0::·):=by
   rw[m];show(if l.length=0 then[[]] else _)=_;rw[if_neg h0,m]
  have b:ieq (Õ l) (0:Int)=false:=by rw[Î]; exact decide_eq_false (by omega)
  rw[Í b];rw[s]
  refine ï l (fun i=>(List.range i).flatMap fun i=>(vu k (l.take i++l.drop (i+1))).map (l.getD i 0::·)) _ rfl (fun i a hi ha d=>?_) (fun d=>?_)<;>(try dsimp only)<;>unfold rg
  ·have e:(l.take i++l.drop (i+1)).length=k:=by simp; omega
   rw[Ì hi,Ä ha,ä (by simp[ile,í]; omega),Ï (by omega) (by omega),ä (by simp[ile,í]; omega),dt,show Int.toNat ((i:Int)+1)=i+1 by omega,
    Sj (by simp; omega) (by simp; omega),À,ahX (by omega) (by omega),À,e]
   have c:l.getD i 0=a:=by rw[eG,ha]; rfl
   have j:∀xs:BY (BY Int),xs.map (l.getD i 0::·)=xs.flatMap fun y=>[a::y]:=fun xs=>by
    rw[c]; induction xs with|nil=>rfl|cons x xs o=>simp[o]
   have f:=anP hi fun i=>(vu k (l.take i++l.drop (i+1))).map (l.getD i 0::·)
   have r:(List.range (i+1)).flatMap (fun i=>(vu k (l.take i++l.drop (i+1))).map (l.getD i 0::·))=(List.range i).flatMap (fun i=>(vu k (l.take i++l.drop (i+1))).map (l.getD i 0::·))++(vu k (l.take i++l.drop (i+1))).flatMap fun y=>[a::y]:=by
    rw[fE,eW,dF,gq,dB,j]
   rw[r];rw[j] at f;refine(Yw (g:=fun y=>[a::y]) (fun v y d p q=>?_) f).trans ?_
   ·unfold rc;have:=adX k e p;rw[ä (Ò (by simp; omega))];exact ahn _ q
   ·dsimp only;rw[Ï (by omega) (by omega)]
  ·rw[Ó]
def ach (n:Nat) (l:BY (Int×BY Int)):BE (BY (BY (BY Int))):=à (decide (l.length<n)&&(decide (l.length<=9)&&l.all fun m=>decide (m.2.length<=9))) (some (ξ l))
def aem {n:Nat} {l:BY (Int×BY Int)} {xs:BY (BY (BY Int))} (h:ach n l=some xs):l.length<n/\l.length<=9/\(∀m∈l,m.2.length<=9)/\xs=ξ l:=by
 unfold ach at h
 cases hb:(decide (l.length<n)&&(decide (l.length<=9)&&l.all fun m=>decide (m.2.length<=9))) with
 |false=>rw[hb] at h; cases h
 |true =>
  rw[hb] at h; cases h;simp only[dg,decide_eq_true_eq,dM] at hb;exact⟨hb.1,hb.2.1,hb.2.2,rfl⟩
def ahY {n:Nat} {l:BY (Int×BY Int)} (h:l.length<n) (a:l.length<=9) (ha:∀m∈l,m.2.length<=9):ach n l=some (ξ l):=by
 unfold ach; rw[ä (by simp only[Bool.and_eq_true,decide_eq_true_eq,List.all_eq_true]; exact⟨h,a,ha⟩)]
def ady {n:Nat} {l:BY (Int×BY Int)} {xs:BY (BY (BY Int))} (h:ach (n+1) l=some xs):uJ xs (ach n) l some=some (xs,l):=by
 obtain⟨q,h2,i,rfl⟩:=aem h;unfold uJ
 cases l with
 |nil =>
  rw[show ifb (ieq (Õ ([]:BY (Int×BY Int))) (0:Int))=fun(x y:BE (BY (BY (BY Int))×BY (Int×BY Int)))=>x from by funext x y; simp[Î,ieq,ô]];exact ahn _ (by simp[ξ])
 |cons e r =>
  have b:ieq (Õ (e::r)) (0:Int)=false:=by rw[Î]; exact decide_eq_false (by simp only[dr]; omega)
  rw[Í b];have p:=i e (by simp);rw[show é (e::r) (0:Int)=fun f=>f e from by funext f; rfl];dsimp only;rw[show Ca e.2=some (vu e.2.length e.2) from by unfold Ca; rw[ä (by simp[p])],À];have d:ξ (e::r)=(vu e.2.length e.2).flatMap fun x=>(ξ r).map (x::·):=rfl
  have c:∀(x:BY Int),(ξ r).map (x::·)=(ξ r).flatMap fun y=>[x::y]:=fun x=>by
   generalize ξ r=ys
   induction ys with|nil=>rfl|cons y ys k=>simp[k]
  refine(Yw (g:=fun x=>(ξ r).map (x::·)) (al:=ξ (e::r)) (fun v x j s a=>?_) (by rw[ew,<-d]; exact eN)).trans ?_
  ·unfold nM;simp only[List.length_cons] at q h2;rw[ä (by simp[ile,í]; omega),show List.drop 1 (e::r)=r from rfl,ahY (by omega) (by omega) (fun m c=>i m (by simp[c])),À];rw[c] at a ⊢;refine Yw (g:=fun y=>[x::y]) (fun v y j o a=>?_) a;unfold nJ;have:=Ze o;rw[ä (Ò (by simp; omega))];exact ahn _ a
  ·rw[ew,<-d]
def af4 {l:BY Int} {xs:BY (BY Int)} (h:Ca l=some xs):acg 10 l=some xs:=by
 unfold Ca at h
 cases hb:decide (l.length<=9) with
 |false=>rw[hb] at h; cases h
 |true =>
  rw[hb] at h; cases h;have:=of_decide_eq_true hb;exact ahX (by omega) this
def abI {l:BY (Int×BY Int)} {xs:BY (BY (BY Int))} (h:nW l=some xs):ach 10 l=some xs:=by
 unfold nW at h
 cases hb:(decide (l.length<=9)&&l.all fun m=>decide (m.2.length<=9)) with
 |false=>rw[hb] at h; cases h
 |true =>
  rw[hb] at h; cases h;simp only[dg,decide_eq_true_eq,dM] at hb;exact ahY (by omega) hb.1 hb.2
end Go.Proofs.ZzM
end
