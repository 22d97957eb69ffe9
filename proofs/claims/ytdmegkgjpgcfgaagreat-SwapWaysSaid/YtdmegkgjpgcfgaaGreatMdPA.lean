/- lemmas -/
import Derived.Test.YtdmegkgjpgcfgaaGreatAmF
import Derived.Test.YtdmegkgjpgcfgaaGreatMdTA
set_option linter.all false
noncomputable section
namespace Go.Am
section
variable {ρ:Type}
def Ě {α β:Type} (e:Nat->α->CK β):Nat->Do α->CK β
 |_,[]=>none
 |i,a::t=>match e i a with
  |some b=>some b
  |none=>Ě e (i+1) t
def iP {α β:Type} (l:Do α) (e:Nat->α->CK β) (k0:β->CK ρ) (k1:CK ρ) {f:Int->(Int->CK ρ)->CK ρ}
 (h:∀(i:Nat) (a:α),i<l.length->l[i]?=some a->∀c,f i c=match e i a with|some b=>k0 b|none=>c ((i:Int)+1))
 (d:∀c,f l.length c=k1):Ë f 0=match Ě e 0 l with|some b=>k0 b|none=>k1:=by
 refine ajj l (fun i t=>match Ě e i t with|some b=>k0 b|none=>k1) d fun i a t hd hi ha c g=>?_;rw[h i a hi ha c,g,Ě]
 cases e i a<;>rfl
def î {α σ:Type} (l:Do α) (g:Nat->σ) (r:CK ρ) {f:Int×σ->(Int×σ->CK ρ)->CK ρ} {d:σ} (h0:g 0=d)
 (h:∀(i:Nat) (a:α),i<l.length->l[i]?=some a->∀b,f (i,g i) b=b ((i:Int)+1,g (i+1)))
 (j:∀b,f (l.length,g l.length) b=r):Ë f (0,d)=r:=by
 subst h0
 have c:∀s,(s=g 0)->Ë f (0,s)=r:=fun s e=>Y9 l (fun _ _ _=>r) (fun i s=>s=g i) (fun s c b=>by rw[c]; exact j b) (fun i a t s hd hi ha m b k=>by
  rw[m,h i a hi ha b]; exact k _ rfl) e
 exact c _ rfl
def IH {α σ:Type} (l:Do α) (g:Nat->σ) (r:CK ρ) {f:Int×σ->(Int×σ->CK ρ)->CK ρ} {k:σ} (P:Nat->Prop) (h0:g 0=k) (o:P 0)
 (h:∀(i:Nat) (a:α),i<l.length->l[i]?=some a->P i->∀b,f (i,g i) b=r\/(P (i+1)/\f (i,g i) b=b ((i:Int)+1,g (i+1))))
 (m:P l.length->∀b,f (l.length,g l.length) b=r):Ë f (0,k)=r:=by
 subst h0
 have c:∀s,(s=g 0/\P 0)->Ë f (0,s)=r:=fun s e=>Y9 l (fun _ _ _=>r) (fun i s=>s=g i/\P i) (fun s c b=>by rw[c.1]; exact m c.2 b) (fun i a t s hd hi ha d b n=>by
  rcases h i a hi ha d.2 b with j|⟨j,h2⟩
  ·rw[d.1,j]
  ·rw[d.1,h2]; exact n _ ⟨rfl,j⟩) e
 exact c _ ⟨rfl,o⟩
def É {i n:Nat} (h:i<n) (a:n<=1000000000) (f:Int->CK ρ):ck ((i:Int)+1) f=f ((i:Int)+1):=Ï (by omega) (by omega) f
def anQ {i n:Nat} (h:i<n) (x y:CK ρ):ifb (ilt (i:Int) (ajb n)) x y=x:=by simp[ó,O7,h]
def Ó (n:Nat) (x y:CK ρ):ifb (ilt (n:Int) (ajb n)) x y=y:=by simp[ó,O7]
def Ì {α:Type} {l:Do α} {i:Nat} (h:i<l.length) (x y:CK ρ):ifb (ilt (i:Int) (Õ l)) x y=x:=anQ h x y
def RX {α:Type} (p:α->Bool):∀(i:Nat) (l:Do α),Ě (fun i a=>bif p a then some (i:Int) else none) i l=(l.findIdx? p).map fun j=>((i+j:Nat):Int)
 |_,[]=>rfl
 |i,a::t=>by
  simp only[Ě,List.findIdx?_cons]
  cases b:p a with
  |true=>simp
  |false =>
   simp only[cond_false,dz,if_false];rw[RX p (i+1) t]
   cases t.findIdx? p with
   |none=>rfl
   |some j=>simp only[eo]; congr 1; omega
def Mv {α β:Type} (e:α->CK β):∀(i:Nat) (l:Do α),Ě (fun _ a=>e a) i l=l.findSome? e
 |_,[]=>rfl
 |i,a::t=>by
  simp only[Ě,gW]
  cases e a with
  |some b=>rfl
  |none=>exact Mv e (i+1) t
def ź {α β:Type} {e:Nat->α->CK β}:∀{i:Nat} {l:Do α},Ě e i l=none↔∀j a,l[j]?=some a->e (i+j) a=none
 |_,[]=>by simp[Ě]
 |i,a::t=>by
  simp only[Ě];constructor
  ·intro h j b hb
   cases d:e i a with
   |some c=>rw[d] at h; cases h
   |none =>
    rw[d] at h
    cases j with
    |zero=>simp at hb; subst hb; simpa using d
    |succ j=>have:=(ź.1 h) j b (by simpa using hb); rw[<-this]; congr 1; omega
  ·intro h;have h0:=h 0 a (by simp);simp only[gI] at h0;rw[h0]
   exact ź.2 fun j b hb=>by have:=h (j+1) b (by simpa using hb); rw[<-this]; congr 1; omega
def take_succ {α:Type} {l:Do α} {i:Nat} {a:α} (h:l[i]?=some a):l.take (i+1)=l.take i++[a]:=by rw[List.take_succ,h]; rfl
end
end Go.Am
end

noncomputable section
namespace Go.Proofs.ZzM
open Go Go.Am
section
variable {ρ:Type}
def õ {τ:Type} {f:τ->(τ->CK ρ)->CK ρ} {r:CK ρ} (I:τ->Prop) (μ:τ->Nat)
 (h:∀x,I x->(∀a,f x a=r)\/∃y,I y/\μ y<μ x/\∀a,f x a=a y) {x:τ} (b:I x):Ë f x=r :=
 wD (F:=fun _=>r) I μ (fun x b a d=>by
  rcases h x b with c|⟨y,c,h2,e⟩
  ·exact c a
  ·rw[e,d y c h2]) b
def iQ {α:Type} (l:Do α) (p:α->Bool) (k0:Int->CK ρ) (k1:CK ρ) {f:Int->(Int->CK ρ)->CK ρ}
 (h:∀(i:Nat) (a:α),i<l.length->l[i]?=some a->∀b,f i b=if p a then k0 i else b ((i:Int)+1))
 (c:∀b,f l.length b=k1):Ë f 0=match l.findIdx? p with|some j=>k0 j|none=>k1:=by
 rw[iP l (fun i a=>bif p a then some (i:Int) else none) k0 k1 (fun i a hi ha b=>by rw[h i a hi ha b]; cases p a<;>rfl) c,RX]
 cases l.findIdx? p with
 |none=>rfl
 |some j=>simp
def Ē {α:Type} (l:Do α) (p:α->Bool) (k0:Int->CK ρ) (K k1:CK ρ) {f:Int->(Int->CK ρ)->CK ρ} (m:∀j:Nat,k0 j=K)
 (h:∀(i:Nat) (a:α),i<l.length->l[i]?=some a->∀b,f i b=if p a then k0 i else b ((i:Int)+1))
 (g:∀b,f l.length b=k1):Ë f 0=if l.any p then K else k1:=by
 rw[iQ l p k0 k1 h g]
 cases c:l.findIdx? p with
 |none =>
  have:l.any p=false:=by
   rw[ej];intro x d;have:=eA.1 c x d;simp[this]
  simp[this]
 |some j =>
  have:l.any p=true:=by
   have:=dN.1 c;obtain⟨k,e,_⟩:=this;exact dD.2 ⟨_,fI k,e⟩
  simp[this,m]
end
abbrev æ:Type:=Int×Int×Int×(Int×Int)×((Int×Int)×Int)
abbrev JK:Type:=Int×((Int×Int)×Int)
abbrev Cmp:Type:=Int×Int×Do Int×Do Int×Int×(Int×(Int×Int))
abbrev ö:Type:=(Int×Int)×Do æ×Do (Int×Int)×Do JK×Do Cmp×Do (Int×Int)
abbrev Sys:Type:=Int×Do (Int×Int×Int)
abbrev Maker:Type:=ö×Do (Int×Int)×Sys×Do (Int×Int)
section
variable {ρ:Type}
def Ñ {b:Bool} (h:b=true) (x y:CK ρ):ifb b x y=x:=by rw[h]; rfl
def Í {b:Bool} (h:b=false) (x y:CK ρ):ifb b x y=y:=by rw[h]; rfl
end
def I64 (n:Int):Prop:=-9223372036854775808<=n/\n<=9223372036854775807
def inP (n lo hi:Int):Bool:=decide (lo<=n)&&decide (n<=hi)
def zn (n:Int):Bool:=inP n 0 20000
def j7 (s:Int×Int) (lo hi:Int):Bool:=decide (lo<=s.1)&&(decide (s.1<=s.2)&&decide (s.2<=hi))
def iD (n lo hi:Int):Ġ n lo hi=some (inP n lo hi):=by
 unfold Ġ KY inP ile
 cases decide (lo<=n)<;>rfl
def N3 (n:Int):mT n=some (zn n):=by
 unfold mT Rp;rw[iD]; rfl
def IP (s:Int×Int) (lo hi:Int):Λ s lo hi=some (j7 s lo hi):=by
 unfold Λ K6 j7 ile
 cases decide (lo<=s.1)<;>cases decide (s.1<=s.2)<;>rfl
def W5 {n:Int} (h:I64 n):uM n=some (n.natAbs:Int):=by
 obtain⟨b,h2⟩:=h;unfold uM YI
 by_cases a:n<0
 ·have:ilt n 0=true:=by simpa using a
  rw[Ñ this];congr 1;simp only[IntKind.wrap,IntKind.bits,IntKind.signed];simp;omega
 ·have:ilt n 0=false:=by simpa using a
  rw[Í this];congr 1;simp only[IntKind.wrap,IntKind.bits,IntKind.signed];simp;omega
def anS (a b:Nat):Sf a b=some ((Nat.gcd a b:Nat):Int):=by
 unfold Sf adQ;refine õ (fun x:Int×Int=>∃c d:Nat,x=((c:Int),(d:Int))/\Nat.gcd c d=Nat.gcd a b) (fun x=>x.2.toNat) ?_ ⟨a,b,rfl,rfl⟩;rintro x ⟨c,d,rfl,e⟩
 cases d with
 |zero =>
  refine .inl fun f=>?_;rw[Nat.gcd_zero_right] at e;unfold Cd;simp[e,ine]
 |succ d =>
  refine .inr ⟨(((d+1:Nat):Int),((c % (d+1):Nat):Int)),⟨d+1,c % (d+1),rfl,?_⟩,?_,fun f=>?_⟩
  ·rw[<-e,iw c (d+1),Nat.gcd_rec (d+1) c,iw]
  ·have:=ii c (ig d);simp only[du];omega
  ·unfold Cd
   have g:ine ((d+1:Nat):Int) 0=true:=by simp[ine]; omega
   have h2:iW ((d+1:Nat):Int) 0=false:=by simp[iW]; omega
   simp only[g,Ñ Í h2];congr 1
def LU (r:Int×Int):Bool :=
 decide (1<=r.2)&&(decide (r.2<=2147483647)&&(decide ((r.1.natAbs:Int)<=2147483647)&&decide (Nat.gcd r.1.natAbs r.2.natAbs=1)))
def ZX {r:Int×Int} (h:I64 r.1):wS r=some (LU r):=by
 unfold wS Rc LU
 by_cases b:1<=r.2
 ·by_cases h2:r.2<=2147483647
  ·have f:I64 r.2:=⟨by omega,by omega⟩
   have a:ige r.2 1=true:=by simp[ige,b]
   have e:ile r.2 2147483647=true:=by simp[ile,h2]
   rw[Ñ a,Ñ e,W5 h,À]
   by_cases c:(r.1.natAbs:Int)<=2147483647
   ·have d:ile (r.1.natAbs:Int) 2147483647=true:=by simp[ile,c]
    rw[Ñ d,À,W5 f,À,anS,À];congr 1;rw[eP];simp only[ieq,beq_iff_eq,b,h2,c,decide_true,eR,decide_eq_true_eq];omega
   ·have d:ile (r.1.natAbs:Int) 2147483647=false:=by simp[ile]; omega
    rw[Í d];simp[c]
  ·have a:ige r.2 1=true:=by simp[ige,b]
   have e:ile r.2 2147483647=false:=by simp[ile]; omega
   rw[Ñ a,Í e];simp[h2]
 ·have a:ige r.2 1=false:=by simp[ige]; omega
  rw[Í a];simp[b]
def se (g:æ):Bool :=
 LU g.2.2.2.2.1&&inP g.2.2.2.2.1.1 (-1000) 1000&&decide (g.2.2.2.2.1.2<=100)&&inP g.1 1 1099511627776&&zn g.2.1&&inP g.2.2.1 1 1125899906842624&&j7 g.2.2.2.1 (-1073741824) 1073741824&&inP g.2.2.2.2.2 0 1048576
def ag3 {g:æ} (h:I64 g.2.2.2.2.1.1):yE g=some (se g):=by
 unfold yE FY se;rw[ZX h,iD,iD,N3,iD,IP,iD];generalize LU g.2.2.2.2.1=i;generalize inP g.2.2.2.2.1.1 (-1000) 1000=f;generalize inP g.1 1 1099511627776=e;generalize zn g.2.1=d;generalize inP g.2.2.1 1 1125899906842624=c;generalize j7 g.2.2.2.1 (-1073741824) 1073741824=b;generalize inP g.2.2.2.2.2 0 1048576=j;unfold ile;generalize decide (g.2.2.2.2.1.2<=100)=a
 cases i<;>cases f<;>cases e<;>cases d<;>cases c<;>cases b<;>cases a<;>rfl
section
variable {ρ:Type}
def IU {α:Type} {l:Do α} {i:Nat} {a:α} (h0:0<i) (h:l[i-1]?=some a) (f:α->CK ρ):ç l ((i:Int)-1) f=f a:=by
 have:((i:Int)-1)=((i-1:Nat):Int):=by omega
 rw[this,Ä h]
def Sr {i:Nat} (h:0<i) (a:i<=1000000000) (f:Int->CK ρ):ck ((i:Int)-1) f=f ((i:Int)-1):=Ï (by omega) (by omega) f
def ř {i n:Nat} (h:i<n) (x:CK ρ):à ((ile 0 (i:Int))&&(ilt (i:Int) (n:Int))) x=x:=by
 have:((ile 0 (i:Int))&&(ilt (i:Int) (n:Int)))=true:=by simp[ile,ilt,h]
 rw[this,Am.iff_true]
def ā {α:Type} {l:Do α} {i:Nat} {a:α} (h:l[i]?=some a) (f:α->CK ρ):Ĵ l (Int.toNat (i:Int)) f=f a:=by
 rw[du]; exact Ž h f
end
def lW {α:Type} (key:α->Int) (l:Do α) (i:Nat) (a:α):Bool :=
 decide (0<i)&&(l[i-1]?).any fun q=>decide (key a<=key q)
def vz {α:Type} {l:Do α} {i:Nat} (hi:i<l.length) (h0:0<i):∃q,l[i-1]?=some q :=
 ⟨l[i-1],df (by omega)⟩
def JB {α:Type} (key:α->Int) (l:Do α):(∀i a,l[i]?=some a->lW key l i a=false)↔l.Pairwise (fun a b=>key a<key b):=by
 rw[dP];constructor
 ·intro h
  have step:∀i (d:i+1<l.length),key l[i]<key l[i+1]:=by
   intro i d;have:=h (i+1) l[i+1] (df d);simp only[lW,Nat.add_sub_cancel,ig,decide_true,eR,df (show i<l.length by omega),Option.any_some,decide_eq_false_iff_not] at this;omega
  intro i j hi f g
  induction j with
  |zero=>omega
  |succ j e =>
   have:=step j f;rcases dw i j with c|k
   ·have:=e (by omega) c; omega
   ·have:i=j:=by omega
    subst this; assumption
 ·intro h i a ha;obtain⟨hi,rfl⟩:=List.getElem?_eq_some_iff.1 ha;unfold lW
  cases i with
  |zero=>rfl
  |succ i =>
   have:=h i (i+1) (by omega) hi (by omega);simp only[Nat.add_sub_cancel,ig,decide_true,eR,df (show i<l.length by omega),Option.any_some,decide_eq_false_iff_not];omega
def pN (l:Do æ) (i:Nat) (g:æ):CK Int :=
 if !se g then some 1 else if lW (fun g=>g.1) l i g then some 6 else none
def jS (b:ö):Int:=(Ě (pN b.2.1) 0 b.2.1).getD 0
def UU {b:ö} (e:∀g∈b.2.1,I64 g.2.2.2.2.1.1) (h:b.2.1.length<=1000):Ż b=some (jS b):=by
 unfold Ż rW;refine Eq.trans (iP b.2.1 (pN b.2.1) some (some 0) (fun i a hi ha d=>?_) (fun d=>?_)) ?_
 ·try dsimp only
  unfold jE;rw[Ì hi,Ä ha,ag3 (e a (List.mem_of_getElem? ha)),À];unfold pN
  cases j:se a with
  |false=>simp
  |true =>
   simp only[dV,é,dz,if_false];rcases fM i with h0|h0
   ·subst h0
    have:igt ((0:Nat):Int) 0=false:=by simp[igt]
    rw[Í this,É hi (by omega)];simp[lW]
   ·obtain⟨q,c⟩:=vz hi h0
    have f:igt (i:Int) 0=true:=by simp[igt]; omega
    rw[Ñ f,Sr h0 (by omega),IU h0 c];simp only[lW,h0,decide_true,Bool.true_and,c,Option.any_some];unfold ile
    cases h2:decide (a.1<=q.1) with
    |true=>simp
    |false =>
     rw[é,É hi (by omega)];simp
 ·try dsimp only
  unfold jE;rw[Ó]
 ·unfold jS
  cases Ě (pN b.2.1) 0 b.2.1<;>rfl
def aao (l:Do æ):Do (Int×æ):=l.foldl (fun m g=>Ta (k:=tI) (v:=Ö) g.1 g m) []
def ŕ (b:ö):Do (Int×æ):=aao b.2.1
def JR {b:ö} (d:b.2.1.length<=1000):Ł b=some (ŕ b):=by
 unfold Ł FW;refine î b.2.1 (fun i=>aao (b.2.1.take i)) _ rfl (fun i a hi ha c=>?_) (fun c=>?_)
 ·try dsimp only
  unfold oo;rw[Ì hi,Ä ha,É hi (by omega),take_succ ha];simp only[aao,List.foldl_append,List.foldl_cons,List.foldl_nil]
 ·try dsimp only
  unfold oo;rw[Ó,List.take_length];rfl
def abg (x y:Int) (g:æ):∀m:Do (Int×æ),rc (k:=tI) (v:=Ö) x (Ta (k:=tI) (v:=Ö) y g m)=if x=y then some g else rc (k:=tI) (v:=Ö) x m
 |[]=>by
  unfold Ta rc ks rc
  by_cases h:x=y<;>simp[h]
 |e::m=>by
  unfold Ta
  by_cases h:y=e.1
  ·have:ks tI y e.1=true:=by simp[ks,h]
   rw[this]
   try dsimp only
   unfold rc ks
   by_cases h2:x=y
   ·simp[h2]
   ·have:¬x=e.1:=fun a=>h2 (a.trans h.symm);simp[h2,this]
  ·have:ks tI y e.1=false:=by simp[ks,h]
   rw[this]
   try dsimp only
   have b:=abg x y g m;unfold rc
   by_cases h2:x=e.1
   ·have:ks tI x e.1=true:=by simp[ks,h2]
    rw[this];have:¬x=y:=fun a=>h (a.symm.trans h2);simp[this]
   ·have:ks tI x e.1=false:=by simp[ks,h2]
    rw[this];exact b
def ì (b:ö) (id:Int):CK æ:=b.2.1.find? fun g=>g.1==id
def adv (x:Int) (l:Do æ):rc (k:=tI) (v:=Ö) x (aao l)=l.reverse.find? fun g=>g.1==x:=by
 unfold aao;rw[<-List.foldr_reverse]
 induction l.reverse with
 |nil=>rfl
 |cons g t a =>
  rw[List.foldr_cons,abg,a,fP]
  by_cases h:x=g.1
  ·simp[h]
  ·have:(g.1==x)=false:=by simp; exact fun h2=>h h2.symm
   simp[h,this]
def Mw {l:Do æ} (h:l.Pairwise fun a b=>a.1<b.1) (x:Int):l.reverse.find? (fun g=>g.1==x)=l.find? fun g=>g.1==x:=by
 induction l with
 |nil=>rfl
 |cons g t d =>
  rw[dO] at h;rw[List.reverse_cons,List.find?_append,d h.2,fP]
  by_cases c:g.1=x
  ·have:t.find? (fun g=>g.1==x)=none:=ew.2 fun y e=>by have:g.1<y.1:=h.1 y e; simp; omega
   rw[this]; simp[c]
  ·have:(g.1==x)=false:=by simp[c]
   simp[this]
def vI {b:ö} (h:b.2.1.Pairwise fun a b=>a.1<b.1) (x:Int):rc (k:=tI) (v:=Ö) x (ŕ b)=ì b x:=by
 unfold ŕ ì;rw[adv,Mw h]
def mw (s:Do (Int×æ)) (id day:Int):Int :=
 match rc (k:=tI) (v:=Ö) id s with
 |some g=>if day<g.2.1 then 4 else 0
 |none=>5
def adw (s:Do (Int×æ)) (id day:Int):jv s id day=some (mw s id day):=by
 unfold jv vk mw
 cases h:rc (k:=tI) (v:=Ö) id s with
 |none=>simp only[N1,h]
 |some g =>
  simp only[N1,h];rw[ó]
  by_cases h2:day<g.2.1<;>simp[h2]
def ac5 (s:Do (Int×æ)) (id day:Int):Int:=if !zn day then 1 else mw s id day
def aaE (s:Do (Int×æ)) (id day:Int):ł id day s=some (ac5 s id day):=by
 unfold ł FX ac5;rw[N3,À,adw,À]
 cases zn day<;>rfl
def NA (b:ö) (s:Do (Int×æ)) (i:Nat) (l:JK):Int :=
 if !j7 l.2.1 0 20000 then 1 else if !inP l.2.2 0 1048576 then 1 else if mw s l.1 l.2.1.1 != 0 then mw s l.1 l.2.1.1 else
 if (b.2.2.2.1.take i).any (fun x=>x.1==l.1&&(decide (x.2.1.1<=l.2.1.2)&&decide (l.2.1.1<=x.2.1.2))) then 9 else
 if b.2.2.1.any (fun u=>u.1==l.1&&inP u.2 l.2.1.1 l.2.1.2) then 9 else 0
def acy {b:ö} (t:b.2.2.2.1.length<=1000) (r:b.2.2.1.length<=1000) (s:Do (Int×æ)) {i:Nat} {l:JK} (m:b.2.2.2.1[i]?=some l):ζ b s i=some (NA b s i l):=by
 unfold ζ yl NA;have hi:i<b.2.2.2.1.length:=(List.getElem?_eq_some_iff.1 m).1;rw[Ä m,IP,À,iD,À,adw,À]
 cases j7 l.2.1 0 20000 with
 |false=>rfl
 |true =>
 cases inP l.2.2 0 1048576 with
 |false=>rfl
 |true =>
 cases h:(mw s l.1 l.2.1.1 != 0) with
 |true =>
  have:ine (mw s l.1 l.2.1.1) 0=true:=h;simp[this]
 |false =>
 have g:ine (mw s l.1 l.2.1.1) 0=false:=h
 have p:((ile (0:Int) (i:Int))&&(ile (i:Int) (ï b.2.2.2.1)))=true:=by simp[ile,ï]; omega
 simp only[dV,é,g,dz,if_false];rw[ä p,du]
 have c:∀(k:Int->CK Int),Ë (fun(v:Int) n=>Κ b.2.2.1 (Õ b.2.2.1) l.1 l.2.1.1 l.2.1.2 v (fun u=>n u) (fun z=>ifb (ige z 0) (k 9) (k 0)) (fun _=>k 0)) (0:Int)=if b.2.2.1.any (fun u=>u.1==l.1&&inP u.2 l.2.1.1 l.2.1.2) then k 9 else k 0:=by
  intro k;refine Ē b.2.2.1 _ (fun z=>ifb (ige z 0) (k 9) (k 0)) (k 9) (k 0) (fun j=>?_) (fun j a d ha f=>?_) (fun f=>?_)
  ·have:ige (j:Int) 0=true:=by simp[ige]
   rw[Ñ this]
  ·try dsimp only
   unfold Κ;rw[Ì d,Ä ha,iD,À,É d (by omega)]
   cases e:(a.1==l.1) with
   |false =>
    have:ieq a.1 l.1=false:=e;simp[this]
   |true =>
    have:ieq a.1 l.1=true:=e;rw[this]
    cases inP a.2 l.2.1.1 l.2.1.2<;>simp
  ·try dsimp only
   unfold Κ;rw[Ó]
 rw[c];refine ee (Ē (b.2.2.2.1.take i) (fun x=>x.1==l.1&&(decide (x.2.1.1<=l.2.1.2)&&decide (l.2.1.1<=x.2.1.2))) (fun z=>ifb (ige z 0) (some 9) (if b.2.2.1.any (fun u=>u.1==l.1&&inP u.2 l.2.1.1 l.2.1.2) then some 9 else some 0)) (some 9) (if b.2.2.1.any (fun u=>u.1==l.1&&inP u.2 l.2.1.1 l.2.1.2) then some 9 else some 0) (fun j=>?_) (fun j a d ha f=>?_) (fun f=>?_)) ?_
 ·have:ige (j:Int) 0=true:=by simp[ige]
  rw[Ñ this]
 ·try dsimp only
  unfold lH
  have o:j<=1000:=by rw[dt] at d; omega
  rw[Ì d,Ä ha,É d (by rw[dt]; omega)]
  cases e:(a.1==l.1) with
  |false =>
   have:ieq a.1 l.1=false:=e;simp[this]
  |true =>
   have:ieq a.1 l.1=true:=e;rw[this]
   cases h2:decide (a.2.1.1<=l.2.1.2)<;>cases q:decide (l.2.1.1<=a.2.1.2)<;>simp[ile,h2,q,ó]<;>simp_all
 ·try dsimp only
  unfold lH;rw[Ó]
 ·cases List.any (b.2.2.2.1.take i) _<;>cases b.2.2.1.any _<;>rfl
def acY {l:Do Int} (c:l.length<=1000000) (x:Int):iT l x=some (match l.findIdx? (·==x) with|some j=>(j:Int)|none=>-1):=by
 unfold iT nJ;refine Eq.trans (iQ l (·==x) some (some (-1)) (fun i a hi ha b=>?_) (fun b=>?_)) ?_
 ·try dsimp only
  unfold χ;rw[Ì hi,Ä ha,É hi (by omega),ó]
  by_cases h:x=a
  ·subst h; simp[ieq]
  ·have h2:¬a=x:=fun e=>h e.symm;simp[ieq,h,h2]
 ·try dsimp only
  unfold χ;rw[Ó]
 ·cases l.findIdx? (·==x)<;>rfl
def ś {l:Do Int} (b:l.length<=1000000) (x:Int):å l x=some (l.contains x):=by
 unfold å kO;rw[acY b,À];congr 1
 cases h:l.findIdx? (·==x) with
 |none =>
  have:l.contains x=false:=by
   rw[eQ];intro c;have:=eA.1 h x (by simpa using c);simp at this
  rw[this]; rfl
 |some j =>
  obtain⟨d,a,_⟩:=dN.1 h
  have:l.contains x=true:=by
   have h2:l[j]=x:=by simpa using a
   rw[<-h2]; simp
  rw[this];simp[ige]
def Þ (a b:Do Int):Do Int:=a.filter fun x=>!b.contains x
def Bv {a b:Do Int} (ha:a.length<=1000000) (hb:b.length<=1000000):ε a b=some (Þ a b):=by
 unfold ε YV;rw[Ò (by omega),Am.iff_true]
 have g:∀z:Nat,z<a.length->Þ (a.take z) b=a.take z->b.contains (a[z]?.getD 0)=true ->
  Ë (fun(d:(Val (.pair tI (.pair tI (.slice tI))))) f=>lT b d.1 d.2.1 d.2.2 (fun n m l=>f (n,m,l)) (fun c=>à ((ile (0:Int) c.1)&&(ile c.1 (ï c.2))) (à ((ile (0:Int) c.1)&&(ile c.1 (ï (List.take (Int.toNat c.1) c.2++List.replicate (List.length c.2-(Int.toNat c.1)) (0:Int)++List.drop ((Int.toNat c.1)+(List.length c.2-(Int.toNat c.1))) c.2)))) (some (List.take (Int.toNat c.1) (List.drop 0 (List.take (Int.toNat c.1) c.2++List.replicate (List.length c.2-(Int.toNat c.1)) (0:Int)++List.drop ((Int.toNat c.1)+(List.length c.2-(Int.toNat c.1))) c.2))))))) ((z:Int),((z:Int)+1),a)=some (Þ a b):=by
  intro z p H v
  refine õ (fun x:Int×Int×Do Int=>∃i j:Nat,x.1=i/\x.2.1=j/\i<j/\j<=a.length/\x.2.2.length=a.length/\x.2.2.take i=Þ (a.take j) b/\x.2.2.drop j=a.drop j) (fun x=>a.length-x.2.1.toNat) ?_
   ⟨z,z+1,rfl,by simp,by omega,by omega,rfl,?_,rfl⟩
  ·rintro⟨N,M,s⟩ ⟨i,j,A,h2,J,I,D,y,hd⟩;simp only at A h2 D y hd;subst A h2;rcases dw j a.length with u|u
   ·refine .inr ?_
    have t:s[j]?=some a[j]:=by
     have F:(s.drop j)[0]?=(a.drop j)[0]?:=by rw[hd]
     rw[eW,eW] at F;simpa[df u] using F
    have e:j<s.length:=by omega
    have r:Þ (a.take (j+1)) b=Þ (a.take j) b++if b.contains a[j] then[] else[a[j]]:=by
     rw[take_succ (df u),Þ,Þ,fg];congr 1
     cases h:b.contains a[j] with
     |true=>simp only[eS,h,dV,dz,if_false,ff,if_true]
     |false=>simp only[eS,h,fA,dz,if_false,ff,if_true]
    cases h:b.contains a[j] with
    |true =>
     refine⟨(i,(j:Int)+1,s),⟨i,j+1,rfl,by simp,by omega,by omega,D,?_,?_⟩,by simp; omega,fun w=>?_⟩
     ·rw[r,h]; simpa using y
     ·have:=congrArg (List.drop 1) hd;simpa[gi,Nat.add_comm] using this
     ·try dsimp only
      unfold lT;rw[Ì e,ř e,ā t,ś hb,À,h];simp only[Bool.not_true,é];rw[É e (by omega)]
    |false =>
     have k:i<s.length:=by omega
     refine⟨((i:Int)+1,(j:Int)+1,s.set i a[j]),⟨i+1,j+1,by simp,by simp,by omega,by omega,by simpa using D,?_,?_⟩,by simp; omega,fun w=>?_⟩
     ·show List.take (i+1) (s.set i a[j])=_;rw[r,h,List.take_succ,il,List.take_set_of_le (dh i),y];simp[k]
     ·show List.drop (j+1) (s.set i a[j])=_;rw[List.drop_set_of_lt (by omega)];have:=congrArg (List.drop 1) hd;simpa[gi,Nat.add_comm] using this
     ·try dsimp only
      unfold lT;rw[Ì e,ř e,ā t,ś hb,À,h];simp only[Bool.not_false,ot];rw[ř k,ā (List.getElem?_eq_getElem k),É k (by omega),É e (by omega),Int.toNat_natCast]
   ·refine .inl fun w=>?_
    have E:j=s.length:=by omega
    try dsimp only
    unfold lT;rw[E,Ó];dsimp only
    have L:((ile (0:Int) (i:Int))&&(ile (i:Int) (ï s)))=true:=by simp[ile,ï]; omega
    rw[ä L]
    have K:((ile (0:Int) (i:Int))&&(ile (i:Int) (ï (List.take (Int.toNat (i:Int)) s++List.replicate (List.length s-(Int.toNat (i:Int))) (0:Int)++List.drop ((Int.toNat (i:Int))+(List.length s-(Int.toNat (i:Int)))) s))))=true:=by
     simp[ile,ï]; omega
    rw[ä K,du,ij,dp,fT (by simp; omega),List.take_take,Nat.min_self,y];rw[eD (by omega)]
  ·show List.take z a=Þ (a.take (z+1)) b;have o:a[z]?=some a[z]:=df p;rw[take_succ o,Þ,fg];rw[o] at v;simp only[fZ] at v
   have:List.filter (fun x=>!b.contains x) [a[z]]=[]:=by simp only[eS,v,dV,dz,if_false,ff]
   rw[this,dC];exact H.symm
 refine ee (iQ a (fun x=>b.contains x) (fun B=>ifb (ieq B (-1:Int)) (some a) (ck (B+(1:Int)) fun G=>Ë (fun(d:(Val (.pair tI (.pair tI (.slice tI))))) f=>lT b d.1 d.2.1 d.2.2 (fun n m l=>f (n,m,l)) (fun c=>à ((ile (0:Int) c.1)&&(ile c.1 (ï c.2))) (à ((ile (0:Int) c.1)&&(ile c.1 (ï (List.take (Int.toNat c.1) c.2++List.replicate (List.length c.2-(Int.toNat c.1)) (0:Int)++List.drop ((Int.toNat c.1)+(List.length c.2-(Int.toNat c.1))) c.2)))) (some (List.take (Int.toNat c.1) (List.drop 0 (List.take (Int.toNat c.1) c.2++List.replicate (List.length c.2-(Int.toNat c.1)) (0:Int)++List.drop ((Int.toNat c.1)+(List.length c.2-(Int.toNat c.1))) c.2))))))) (B,G,a))) (some a) (fun i x hi q w=>?_) (fun w=>?_)) ?_
 ·try dsimp only
  unfold yi;rw[Ì hi,ř hi,ā q,ś hb,À,É hi (by omega),ó]
 ·try dsimp only
  unfold yi;rw[Ó]
 ·cases h:a.findIdx? (fun x=>b.contains x) with
  |none =>
   have:Þ a b=a:=by
    rw[Þ,gS];intro x q;have:=eA.1 h x q;simpa using this
   rw[this]
  |some z =>
   obtain⟨p,v,C⟩:=dN.1 h
   have A:ieq (z:Int) (-1)=false:=by simp[ieq]
   try dsimp only
   rw[Í A,É p (by omega)];refine g z p ?_ ?_
   ·rw[Þ,gS];intro x q;obtain⟨j,u,rfl⟩:=dv.1 q;rw[dt] at u;rw[fi];have:=C j (by omega);simpa using this
   ·rw[df p]; exact v
def ze (l:Do Int) (i:Nat) (a:Int):CK Bool:=if !inP a 1 1099511627776 then some false else if lW (fun x=>x) l i a then some false else none
def uT (l:Do Int):Bool:=match Ě (ze l) 0 l with|some _=>false|none=>decide (l.length<=6)
def IL {l:Do Int} (g:l.length<=1000000):nY l=some (uT l):=by
 unfold nY K5;refine Eq.trans (iP l (ze l) some (some (decide (l.length<=6))) (fun i a hi ha d=>?_) (fun d=>?_)) ?_
 ·try dsimp only
  unfold qt;rw[Ì hi,Ä ha,iD,À];unfold ze
  cases inP a 1 1099511627776 with
  |false=>rfl
  |true =>
   simp only[dV,é,dz,if_false];rcases fM i with h0|h0
   ·subst h0
    have:igt ((0:Nat):Int) 0=false:=by simp[igt]
    rw[Í this,É hi (by omega)];simp[lW]
   ·obtain⟨q,c⟩:=vz hi h0
    have f:igt (i:Int) 0=true:=by simp[igt]; omega
    rw[Ñ f,Sr h0 (by omega),IU h0 c];simp only[lW,h0,decide_true,Bool.true_and,c,Option.any_some];unfold ile
    cases h2:decide (a<=q) with
    |true=>rfl
    |false =>
     rw[é,É hi (by omega)];rfl
 ·try dsimp only
  unfold qt;rw[Ó,Î];simp[ile];omega
 ·have hb:∀x,Ě (ze l) 0 l=some x->x=false:=by
   have:∀(m:Do Int) (j:Nat) (x:Bool),Ě (ze l) j m=some x->x=false:=by
    intro m
    induction m with
    |nil=>intro j x h; cases h
    |cons a m e =>
     intro j x h;unfold Ě at h
     cases b:ze l j a with
     |none=>rw[b] at h; exact e _ _ h
     |some y =>
      rw[b] at h;cases h;unfold ze at b
      split at b
      ·cases b; rfl
      ·split at b
       ·cases b; rfl
       ·cases b
   exact this l 0
  unfold uT
  cases h:Ě (ze l) 0 l with
  |none=>rfl
  |some x=>rw[hb x h]
def zG (l:Do Int):uT l=true↔(∀x∈l,1<=x/\x<=1099511627776)/\l.Pairwise (·<·)/\l.length<=6:=by
 have h0:Ě (ze l) 0 l=none↔(∀x∈l,1<=x/\x<=1099511627776)/\l.Pairwise (·<·):=by
  rw[ź,<-JB (fun x=>x) l];constructor
  ·intro h
   have b:∀(j:Nat) (a:Int),l[j]?=some a->inP a 1 1099511627776=true/\lW (fun x=>x) l j a=false:=by
    intro j a ha;have:=h j a ha;rw[Nat.zero_add] at this;unfold ze at this
    split at this
    ·cases this
    ·split at this
     ·cases this
     ·rename_i b h2;exact⟨by simpa using b,by simpa using h2⟩
   refine⟨fun x d=>?_,fun i a ha=>(b i a ha).2⟩;obtain⟨j,e,rfl⟩:=dv.1 d;have:=(b j l[j] (df e)).1;simpa[inP] using this
  ·rintro⟨b,h2⟩ j a ha;rw[dQ];have c:=b a (dk ha)
   have:inP a 1 1099511627776=true:=by simpa[inP] using c
   simp[ze,this,h2 j a ha]
 unfold uT
 cases h:Ě (ze l) 0 l with
 |none =>
  obtain⟨b,h2⟩:=h0.1 h;simp only[decide_eq_true_eq];exact⟨fun c=>⟨b,h2,c⟩,fun c=>c.2.2⟩
 |some x =>
  constructor
  ·intro h2; cases h2
  ·rintro⟨b,h2,c⟩;rw[h0.2 ⟨b,h2⟩] at h; cases h
def S9 {a b:Do Int} (ha:a.length<=1000000) (hb:b.length<=1000000):ĩ [a,b]=some (a++b):=by
 have q:∀n:Nat,n<=4000000->∀(f:Int->CK (Do Int)),ck (n:Int) f=f n:=fun n h f=>Ï (by omega) (by omega) f
 have c:Ë (fun(l:pi) d=>Ĥ [a,b] (Õ [a,b]) l.1 l.2 (fun g e=>d (g,e)) (fun m=>some m)) ((0:Int),([]:Do Int))=some (a++b):=by
  refine î [a,b] (fun i=>([a,b].take i).flatten) (some (a++b)) (f:=fun(l:pi) d=>Ĥ [a,b] (Õ [a,b]) l.1 l.2 (fun g e=>d (g,e)) (fun m=>some m)) rfl (fun i x hi j o=>?_) (fun o=>?_)
  ·try dsimp only
   unfold Ĥ;rw[Ì hi,Ä j,É hi (by simp),take_succ j,List.flatten_append]
   have:ã ((List.take i [a,b]).flatten.length+x.length)=true:=by
    refine Ò ?_
    have u:x.length<=1000000:=by
     have:=dk j;simp at this
     rcases this with rfl|rfl<;>assumption
    have h2:(List.take i [a,b]).flatten.length<=2000000:=by
     have:i=0\/i=1:=by simp at hi; omega
     rcases this with rfl|rfl<;>simp<;>omega
    omega
   rw[ä this];simp
  ·try dsimp only
   unfold Ĥ;rw[Ó];simp
 unfold ĩ mI;refine õ (fun x:Int×Int=>∃i:Nat,i<=2/\x=((([a,b].take i).flatten.length:Int),(i:Int))) (fun x=>2-x.2.toNat) ?_ ⟨0,by omega,rfl⟩;rintro x ⟨i,hi,rfl⟩;rcases Nat.lt_or_ge i 2 with h2|h2
 ·refine .inr ⟨((([a,b].take (i+1)).flatten.length:Int),(i:Int)+1),⟨i+1,h2,by simp⟩,by simp; omega,fun o=>?_⟩;have k:i<[a,b].length:=h2;obtain⟨x,j⟩:∃x,[a,b][i]?=some x:=⟨_,df k⟩
  have r:x.length<=1000000:=by
   have:=dk j;simp at this
   rcases this with rfl|rfl<;>assumption
  have t:(List.take i [a,b]).flatten.length<=2000000:=by
   have:i=0\/i=1:=by omega
   rcases this with rfl|rfl<;>simp<;>omega
  try dsimp only
  unfold Τ;rw[Ì k,Ä j,Î]
  have p:(((List.take i [a,b]).flatten.length:Int)+(x.length:Int))=((List.take i [a,b]).flatten.length+x.length:Nat):=by omega
  rw[p,q _ (by omega)]
  have:ilt ((((List.take i [a,b]).flatten.length+x.length:Nat)):Int) 0=false:=by simp[ilt]; omega
  rw[Í this,É k (by simp),take_succ j];simp
 ·refine .inl fun o=>?_
  obtain rfl:i=2:=by omega
  try dsimp only
  unfold Τ;rw[show((2:Nat):Int)=(([a,b].length:Nat):Int) from rfl,Ó]
  have p:((List.take 2 [a,b]).flatten.length:Int)=((a.length+b.length:Nat):Int):=by simp
  have s:ilt (((a.length+b.length:Nat)):Int) 0=false:=by simp[ilt]; omega
  rw[p];dsimp only;rw[Í s,Int.sub_zero,q _ (by omega)];rcases Nat.eq_zero_or_pos (a.length+b.length) with h0|h0
  ·have:igt (((a.length+b.length:Nat)):Int) 0=false:=by simp[igt]; omega
   rw[Í this];exact c
  ·have:igt (((a.length+b.length:Nat)):Int) 0=true:=by simp[igt]; omega
   rw[Ñ this]
   have:((ilt (0:Int) (((a.length+b.length:Nat)):Int))&&(ã (Int.toNat (((a.length+b.length:Nat)):Int))))=true:=by
    rw[du,Ò (by omega)];simp[ilt]; omega
   rw[ä this]
   have:ile 0 (ï (List.replicate (Int.toNat (((a.length+b.length:Nat)):Int)) (0:Int)))=true:=by simp[ile]
   rw[ä this];exact c
def Œ (b:ö) (id day:Int):CK JK:=b.2.2.2.1.find? fun l=>l.1==id&&inP day l.2.1.1 l.2.1.2
def N7 {α:Type} (p:α->Bool):∀l:Do α,l.find? p=(match l.findIdx? p with|some j=>l[j]?|none=>none)
 |[]=>rfl
 |a::l=>by
  rw[fP,List.findIdx?_cons]
  cases h:p a with
  |true=>simp
  |false =>
   simp only[dz,if_false];rw[N7 p l]
   cases l.findIdx? p<;>simp
def ak6 {b:ö} (k:b.2.2.2.1.length<=1000) (id day:Int):yF b id day=some (match Œ b id day with|some l=>(l,true)|none=>((0,(0,0),0),false)):=by
 unfold yF Y3;refine Eq.trans (iQ b.2.2.2.1 (fun l=>l.1==id&&inP day l.2.1.1 l.2.1.2) (fun c=>ifb (ilt c (0:Int)) (some (((0:Int),((0:Int),(0:Int)),(0:Int)),false)) (ç b.2.2.2.1 c fun g=>some (g,true))) (some ((0,(0,0),0),false)) (fun i a hi ha f=>?_) (fun f=>?_)) ?_
 ·try dsimp only
  unfold ym;rw[Ì hi,Ä ha,iD,À,É hi (by omega)]
  cases e:(a.1==id) with
  |false =>
   have:ieq a.1 id=false:=e;simp[this]
  |true =>
   have:ieq a.1 id=true:=e;rw[this]
   cases inP day a.2.1.1 a.2.1.2<;>simp
 ·try dsimp only
  unfold ym;rw[Ó]
 ·unfold Œ;rw[N7]
  cases h:b.2.2.2.1.findIdx? (fun l=>l.1==id&&inP day l.2.1.1 l.2.1.2) with
  |none=>rfl
  |some j =>
   obtain⟨d,_,_⟩:=dN.1 h
   have:ilt (j:Int) 0=false:=by simp[ilt]
   try dsimp only
   rw[Í this,Ä (df d),df d]
section
variable {ρ:Type}
def ah5 {α:Type} {all l:Do α} (k:CK ρ) (h:l <+: all):yg all l k=k:=by unfold yg; rw[if_pos h]
def Zo {α β:Type} {f:Do α->β->(Do α->CK ρ)->CK ρ} {g:β->Do α} {al:Do α}:∀{xs:Do β} {v:Do α} {K:Do α->CK ρ},
 (∀v y a,y∈xs->(v++g y) <+: al->f v y a=a (v++g y))->(v++xs.flatMap g) <+: al->By f xs v K=K (v++xs.flatMap g)
 |[],v,K,_,_=>by simp[By]
 |x::xs,v,K,h,b=>by
  rw[dH,<-dp] at b ⊢;rw[By,h v x _ (by simp) ((eG _ _).trans b),Zo (fun v y a c=>h v y a (dS _ c)) b]
end
def aig {b:Do Int->CK (Do Int)} {l xs:Do Int} (h:Ci l=some xs):kM xs b l some=some (xs,l):=by
 unfold Ci at h
 have c:ã l.length=true:=by cases e:ã l.length with|true=>rfl|false=>rw[e] at h; cases h
 rw[ä c] at h;cases h
 have f:l.length<=4294967296:=by simpa[ã] using c
 unfold kM
 refine î l (fun i=>l.take i) _ rfl (fun i a hi ha d=>?_) (fun d=>?_)<;>(try dsimp only)<;>unfold je
 ·rw[Ì hi,Ä ha,<-take_succ ha,ah5 _ (List.take_prefix _ _),Ï (by omega) (by omega)]
 ·rw[Ó,fH]
def aeH:∀(n:Nat) {l y:Do Int},l.length=n->y∈vF n l->y.length=n
 |0,l,y,_,h=>by simp[vF] at h; simp[h]
 |n+1,l,y,c,h=>by
  have a:¬l.length=0:=by omega
  simp only[vF,if_neg a,dI,fu,dF] at h;obtain⟨i,hi,z,b,rfl⟩:=h;have:=aeH n (l:=l.take i++l.drop (i+1)) (by simp; omega) b;simp[this]
def Z3:∀{l:Do (Int×Do Int)} {y:Do (Do Int)},y∈υ l->y.length=l.length
 |[],y,h=>by simp[υ] at h; simp[h]
 |m::r,y,h=>by
  simp only[υ,dI,dF] at h;obtain⟨x,_,z,a,rfl⟩:=h;simp[Z3 a]
def aow {α:Type} {n i:Nat} (h:i<n) (g:Nat->Do α):((List.range i).flatMap g++g i) <+: (List.range n).flatMap g:=by
 have:List.range n=List.range i++i::(List.range (n-i-1)).map (i+1+·):=by
  rw[show n=(i+1)+(n-i-1) by omega,List.range_add,fC,dp];simp[show i+1+(n-i-1)-i-1=n-i-1 by omega]
 rw[this,eV,dH,<-dp];exact eG _ _
def ac0 (n:Nat) (l:Do Int):CK (Do (Do Int)):=à (decide (l.length<n)&&decide (l.length<=9)) (some (vF l.length l))
def aiF {n:Nat} {l:Do Int} (h:l.length<n) (a:l.length<=9):ac0 n l=some (vF l.length l):=by unfold ac0; rw[ä (by simp[h,a])]
def ae5 {n:Nat} {l:Do Int} {xs:Do (Do Int)} (h:ac0 n l=some xs):l.length<n/\l.length<=9/\xs=vF l.length l:=by
 unfold ac0 at h
 cases hb:(decide (l.length<n)&&decide (l.length<=9)) with
 |false=>rw[hb] at h; cases h
 |true =>
  rw[hb] at h; cases h;simp only[dg,decide_eq_true_eq] at hb;exact⟨hb.1,hb.2,rfl⟩
def aiV {n:Nat} {l:Do Int} {xs:Do (Do Int)} (h:ac0 (n+1) l=some xs):Ah xs (ac0 n) l some=some (xs,l):=by
 obtain⟨t,h2,rfl⟩:=ae5 h;unfold Ah
 by_cases h0:l.length=0
 ·obtain rfl:l=[]:=List.eq_nil_of_length_eq_zero h0;rw[show ifb (ieq (Õ ([]:Do Int)) (0:Int))=fun(x y:CK (Do (Do Int)×Do Int))=>x from by funext x y; simp[Î,ieq,ó]];exact ah5 _ (by simp[vF])
 ·obtain⟨k,m⟩:∃k,l.length=k+1:=⟨l.length-1,by omega⟩
  have s:vF l.length l=(List.range l.length).flatMap fun i=>(vF k (l.take i++l.drop (i+1))).map (l.getD i 0::·):=by
   rw[m];show(if l.length=0 then[[]] else _)=_;rw[if_neg h0,m]
  have b:ieq (Õ l) (0:Int)=false:=by rw[Î]; exact decide_eq_false (by omega)
  rw[Í b];rw[s]
  refine î l (fun i=>(List.range i).flatMap fun i=>(vF k (l.take i++l.drop (i+1))).map (l.getD i 0::·)) _ rfl (fun i a hi ha d=>?_) (fun d=>?_)<;>(try dsimp only)<;>unfold rj
  ·have e:(l.take i++l.drop (i+1)).length=k:=by simp; omega
   rw[Ì hi,Ä ha,ä (by simp[ile,ï]; omega),Ï (by omega) (by omega),ä (by simp[ile,ï]; omega),du,show Int.toNat ((i:Int)+1)=i+1 by omega,
    S9 (by simp; omega) (by simp; omega),À,aiF (by omega) (by omega),À,e]
   have c:l.getD i 0=a:=by rw[eh,ha]; rfl
   have j:∀xs:Do (Do Int),xs.map (l.getD i 0::·)=xs.flatMap fun y=>[a::y]:=fun xs=>by
    rw[c]; induction xs with|nil=>rfl|cons x xs o=>simp[o]
   have f:=aow hi fun i=>(vF k (l.take i++l.drop (i+1))).map (l.getD i 0::·)
   have r:(List.range (i+1)).flatMap (fun i=>(vF k (l.take i++l.drop (i+1))).map (l.getD i 0::·))=(List.range i).flatMap (fun i=>(vF k (l.take i++l.drop (i+1))).map (l.getD i 0::·))++(vF k (l.take i++l.drop (i+1))).flatMap fun y=>[a::y]:=by
    rw[fC,eV,dH,gn,dC,j]
   rw[r];rw[j] at f;refine(Zo (g:=fun y=>[a::y]) (fun v y d p q=>?_) f).trans ?_
   ·unfold ri;have:=aeH k e p;rw[ä (Ò (by simp; omega))];exact ah5 _ q
   ·dsimp only;rw[Ï (by omega) (by omega)]
  ·rw[Ó]
def ac1 (n:Nat) (l:Do (Int×Do Int)):CK (Do (Do (Do Int))):=à (decide (l.length<n)&&(decide (l.length<=9)&&l.all fun m=>decide (m.2.length<=9))) (some (υ l))
def ae6 {n:Nat} {l:Do (Int×Do Int)} {xs:Do (Do (Do Int))} (h:ac1 n l=some xs):l.length<n/\l.length<=9/\(∀m∈l,m.2.length<=9)/\xs=υ l:=by
 unfold ac1 at h
 cases hb:(decide (l.length<n)&&(decide (l.length<=9)&&l.all fun m=>decide (m.2.length<=9))) with
 |false=>rw[hb] at h; cases h
 |true =>
  rw[hb] at h; cases h;simp only[dg,decide_eq_true_eq,dM] at hb;exact⟨hb.1,hb.2.1,hb.2.2,rfl⟩
def aiG {n:Nat} {l:Do (Int×Do Int)} (h:l.length<n) (a:l.length<=9) (ha:∀m∈l,m.2.length<=9):ac1 n l=some (υ l):=by
 unfold ac1; rw[ä (by simp only[Bool.and_eq_true,decide_eq_true_eq,List.all_eq_true]; exact⟨h,a,ha⟩)]
def aek {n:Nat} {l:Do (Int×Do Int)} {xs:Do (Do (Do Int))} (h:ac1 (n+1) l=some xs):uV xs (ac1 n) l some=some (xs,l):=by
 obtain⟨q,h2,i,rfl⟩:=ae6 h;unfold uV
 cases l with
 |nil =>
  rw[show ifb (ieq (Õ ([]:Do (Int×Do Int))) (0:Int))=fun(x y:CK (Do (Do (Do Int))×Do (Int×Do Int)))=>x from by funext x y; simp[Î,ieq,ó]];exact ah5 _ (by simp[υ])
 |cons e r =>
  have b:ieq (Õ (e::r)) (0:Int)=false:=by rw[Î]; exact decide_eq_false (by simp only[dr]; omega)
  rw[Í b];have p:=i e (by simp);rw[show ç (e::r) (0:Int)=fun f=>f e from by funext f; rfl];dsimp only;rw[show Cj e.2=some (vF e.2.length e.2) from by unfold Cj; rw[ä (by simp[p])],À];have d:υ (e::r)=(vF e.2.length e.2).flatMap fun x=>(υ r).map (x::·):=rfl
  have c:∀(x:Do Int),(υ r).map (x::·)=(υ r).flatMap fun y=>[x::y]:=fun x=>by
   generalize υ r=ys
   induction ys with|nil=>rfl|cons y ys k=>simp[k]
  refine(Zo (g:=fun x=>(υ r).map (x::·)) (al:=υ (e::r)) (fun v x j s a=>?_) (by rw[eE,<-d]; exact eO)).trans ?_
  ·unfold nI;simp only[List.length_cons] at q h2;rw[ä (by simp[ile,ï]; omega),show List.drop 1 (e::r)=r from rfl,aiG (by omega) (by omega) (fun m c=>i m (by simp[c])),À];rw[c] at a ⊢;refine Zo (g:=fun y=>[x::y]) (fun v y j o a=>?_) a;unfold nH;have:=Z3 o;rw[ä (Ò (by simp; omega))];exact ah5 _ a
  ·rw[eE,<-d]
def agO {l:Do Int} {xs:Do (Do Int)} (h:Cj l=some xs):ac0 10 l=some xs:=by
 unfold Cj at h
 cases hb:decide (l.length<=9) with
 |false=>rw[hb] at h; cases h
 |true =>
  rw[hb] at h; cases h;have:=of_decide_eq_true hb;exact aiF (by omega) this
def acu {l:Do (Int×Do Int)} {xs:Do (Do (Do Int))} (h:nV l=some xs):ac1 10 l=some xs:=by
 unfold nV at h
 cases hb:(decide (l.length<=9)&&l.all fun m=>decide (m.2.length<=9)) with
 |false=>rw[hb] at h; cases h
 |true =>
  rw[hb] at h; cases h;simp only[dg,decide_eq_true_eq,dM] at hb;exact aiG (by omega) hb.1 hb.2
end Go.Proofs.ZzM
end
