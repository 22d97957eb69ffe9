/- lemmas -/
import Derived.Test.YtjlkjopcjcbooaaGreatDoorAmH
import Derived.Test.YtjlkjopcjcbooaaGreatDoorMdTA
import Derived.Test.YtjlkjopcjcbooaaGreatDoorAmC
import Derived.Laws.Strings
import Derived.Lib.SplitLaws
import Derived.Lib.AtoiAllCases
set_option linter.all false
noncomputable section
namespace Go.Am
section
variable {ρ:Type}
def ć {α β:Type} (e:Nat->α->so β):Nat->th α->so β
 |_,[]=>none
 |i,a::t=>match e i a with
  |some b=>some b
  |none=>ć e (i+1) t
def Ų {α β:Type} (l:th α) (e:Nat->α->so β) (c:β->so ρ) (k1:so ρ) {f:Int->(Int->so ρ)->so ρ}
 (h:∀(i:Nat) (a:α),i<l.length->l[i]?=some a->∀kn,f i kn=match e i a with|some b=>c b|none=>kn ((i:Int)+1))
 (d:∀kn,f l.length kn=k1):Ü f 0=match ć e 0 l with|some b=>c b|none=>k1:=by
 refine Q4 l (fun i t=>match ć e i t with|some b=>c b|none=>k1) d fun i a t hd hi ha kn g=>?_;rw[h i a hi ha kn,g,ć]
 cases e i a<;>rfl
def ĝ {α σ:Type} (l:th α) (g:Nat->σ) (r:so ρ) {f:Int×σ->(Int×σ->so ρ)->so ρ} {s0:σ} (h0:g 0=s0)
 (h:∀(i:Nat) (a:α),i<l.length->l[i]?=some a->∀kn,f (i,g i) kn=kn ((i:Int)+1,g (i+1)))
 (d:∀kn,f (l.length,g l.length) kn=r):Ü f (0,s0)=r:=by
 subst h0
 have c:∀s,(s=g 0)->Ü f (0,s)=r:=fun s e=>M6 l (fun _ _ _=>r) (fun i s=>s=g i) (fun s c kn=>by rw[c]; exact d kn) (fun i a t s hd hi ha hI kn j=>by
  rw[hI,h i a hi ha kn]; exact j _ rfl) e
 exact c _ rfl
def Q3 {α σ:Type} (l:th α) (g:Nat->σ) (r:so ρ) {f:Int×σ->(Int×σ->so ρ)->so ρ} {s0:σ} (P:Nat->Prop) (h0:g 0=s0) (m:P 0)
 (h:∀(i:Nat) (a:α),i<l.length->l[i]?=some a->P i->∀kn,f (i,g i) kn=r\/(P (i+1)/\f (i,g i) kn=kn ((i:Int)+1,g (i+1))))
 (j:P l.length->∀kn,f (l.length,g l.length) kn=r):Ü f (0,s0)=r:=by
 subst h0
 have c:∀s,(s=g 0/\P 0)->Ü f (0,s)=r:=fun s e=>M6 l (fun _ _ _=>r) (fun i s=>s=g i/\P i) (fun s c kn=>by rw[c.1]; exact j c.2 kn) (fun i a t s hd hi ha hI kn k=>by
  rcases h i a hi ha hI.2 kn with d|⟨d,h2⟩
  ·rw[hI.1,d]
  ·rw[hI.1,h2]; exact k _ ⟨rfl,d⟩) e
 exact c _ ⟨rfl,m⟩
def Í {i n:Nat} (h:i<n) (a:n<=1000000000) (f:Int->so ρ):ck ((i:Int)+1) f=f ((i:Int)+1):=ö (by omega) (by omega) f
def ifb_lt {i n:Nat} (h:i<n) (x y:so ρ):ifb (ilt (i:Int) (yr n)) x y=x:=by simp[œ,ź,h]
def ß (n:Nat) (x y:so ρ):ifb (ilt (n:Int) (yr n)) x y=y:=by simp[œ,ź]
def Ó {α:Type} {l:th α} {i:Nat} (h:i<l.length) (x y:so ρ):ifb (ilt (i:Int) (â l)) x y=x:=ifb_lt h x y
def Ck {α:Type} (p:α->Bool):∀(i:Nat) (l:th α),ć (fun i a=>bif p a then some (i:Int) else none) i l=(l.findIdx? p).map fun j=>((i+j:Nat):Int)
 |_,[]=>rfl
 |i,a::t=>by
  simp only[ć,List.findIdx?_cons]
  cases c:p a with
  |true=>simp
  |false =>
   simp only[cond_false,bP,if_false];rw[Ck p (i+1) t]
   cases t.findIdx? p with
   |none=>rfl
   |some j=>simp only[ce]; congr 1; omega
def Ņ {α β:Type} {e:Nat->α->so β}:∀{i:Nat} {l:th α},ć e i l=none↔∀j a,l[j]?=some a->e (i+j) a=none
 |_,[]=>by simp[ć]
 |i,a::t=>by
  simp only[ć];constructor
  ·intro h j b hb
   cases d:e i a with
   |some c=>rw[d] at h; cases h
   |none =>
    rw[d] at h
    cases j with
    |zero=>simp at hb; subst hb; simpa using d
    |succ j=>have:=(Ņ.1 h) j b (by simpa using hb); rw[<-this]; congr 1; omega
  ·intro h;have h0:=h 0 a (by simp);simp only[dA] at h0;rw[h0]
   exact Ņ.2 fun j b hb=>by have:=h (j+1) b (by simpa using hb); rw[<-this]; congr 1; omega
def take_succ {α:Type} {l:th α} {i:Nat} {a:α} (h:l[i]?=some a):l.take (i+1)=l.take i++[a]:=by rw[List.take_succ,h]; rfl
end
end Go.Am
end

noncomputable section
namespace Go.Proofs.ZzM
open Go Go.Am
section
variable {ρ:Type}
def fB {τ:Type} {f:τ->(τ->so ρ)->so ρ} {r:so ρ} (I:τ->Prop) (μ:τ->Nat)
 (h:∀x,I x->(∀kn,f x kn=r)\/∃y,I y/\μ y<μ x/\∀kn,f x kn=kn y) {x:τ} (a:I x):Ü f x=r :=
 BT (F:=fun _=>r) I μ (fun x a kn d=>by
  rcases h x a with c|⟨y,c,h2,e⟩
  ·exact c kn
  ·rw[e,d y c h2]) a
def iK {α:Type} (l:th α) (p:α->Bool) (c:Int->so ρ) (k1:so ρ) {f:Int->(Int->so ρ)->so ρ}
 (h:∀(i:Nat) (a:α),i<l.length->l[i]?=some a->∀kn,f i kn=if p a then c i else kn ((i:Int)+1))
 (d:∀kn,f l.length kn=k1):Ü f 0=match l.findIdx? p with|some j=>c j|none=>k1:=by
 rw[Ų l (fun i a=>bif p a then some (i:Int) else none) c k1 (fun i a hi ha kn=>by rw[h i a hi ha kn]; cases p a<;>rfl) d,Ck]
 cases l.findIdx? p with
 |none=>rfl
 |some j=>simp
def Ő {α:Type} (l:th α) (p:α->Bool) (c:Int->so ρ) (K k1:so ρ) {f:Int->(Int->so ρ)->so ρ} (n:∀j:Nat,c j=K)
 (h:∀(i:Nat) (a:α),i<l.length->l[i]?=some a->∀kn,f i kn=if p a then c i else kn ((i:Int)+1))
 (k:∀kn,f l.length kn=k1):Ü f 0=if l.any p then K else k1:=by
 rw[iK l p c k1 h k]
 cases d:l.findIdx? p with
 |none =>
  have:l.any p=false:=by
   rw[dF];intro x e;have:=dz.1 d x e;simp[this]
  simp[this]
 |some j =>
  have:l.any p=true:=by
   have:=b9.1 d;obtain⟨m,g,_⟩:=this;exact dw.2 ⟨_,List.getElem_mem m,g⟩
  simp[this,n]
end
abbrev è:Type:=Int×Int×Int×(Int×Int)×((Int×Int)×Int)
abbrev zb:Type:=Int×((Int×Int)×Int)
abbrev Cmp:Type:=Int×Int×th Int×th Int×Int×(Int×(Int×Int))
abbrev ë:Type:=(Int×Int)×th è×th (Int×Int)×th zb×th Cmp×th (Int×Int)
section
variable {ρ:Type}
def Þ {b:Bool} (h:b=true) (x y:so ρ):ifb b x y=x:=by rw[h]; rfl
def Ö {b:Bool} (h:b=false) (x y:so ρ):ifb b x y=y:=by rw[h]; rfl
end
def I64 (n:Int):Prop:=-9223372036854775808<=n/\n<=9223372036854775807
def inP (n lo hi:Int):Bool:=decide (lo<=n)&&decide (n<=hi)
def Ct (n:Int):Bool:=inP n 0 20000
def ξ (s:Int×Int) (lo hi:Int):Bool:=decide (lo<=s.1)&&(decide (s.1<=s.2)&&decide (s.2<=hi))
def ť (n lo hi:Int):Ą n lo hi=some (inP n lo hi):=by
 unfold Ą EI inP ile
 cases decide (lo<=n)<;>rfl
def Gv (n:Int):iO n=some (Ct n):=by
 unfold iO Ja;rw[ť]; rfl
def vK (s:Int×Int) (lo hi:Int):Ļ s lo hi=some (ξ s lo hi):=by
 unfold Ļ EL ξ ile
 cases decide (lo<=s.1)<;>cases decide (s.1<=s.2)<;>rfl
def P5 {n:Int} (h:I64 n):qZ n=some (n.natAbs:Int):=by
 obtain⟨c,h2⟩:=h;unfold qZ MW
 by_cases a:n<0
 ·have:ilt n 0=true:=by simpa using a
  rw[Þ this];congr 1;simp only[IntKind.wrap,IntKind.bits,IntKind.signed];simp;omega
 ·have:ilt n 0=false:=by simpa using a
  rw[Ö this];congr 1;simp only[IntKind.wrap,IntKind.bits,IntKind.signed];simp;omega
def gcd_ok (a b:Nat):GI a b=some ((Nat.gcd a b:Nat):Int):=by
 unfold GI QX;refine fB (fun x:Int×Int=>∃c d:Nat,x=((c:Int),(d:Int))/\Nat.gcd c d=Nat.gcd a b) (fun x=>x.2.toNat) ?_ ⟨a,b,rfl,rfl⟩;rintro x ⟨c,d,rfl,e⟩
 cases d with
 |zero =>
  refine .inl fun kn=>?_;rw[Nat.gcd_zero_right] at e;unfold qC;simp[e,ine]
 |succ d =>
  refine .inr ⟨(((d+1:Nat):Int),((c % (d+1):Nat):Int)),⟨d+1,c % (d+1),rfl,?_⟩,?_,fun kn=>?_⟩
  ·rw[<-e,fi c (d+1),Nat.gcd_rec (d+1) c,fi]
  ·have:=eV c (eR d);simp only[bU];omega
  ·unfold qC
   have f:ine ((d+1:Nat):Int) 0=true:=by simp[ine]; omega
   have h2:fm ((d+1:Nat):Int) 0=false:=by simp[fm]; omega
   simp only[f,Þ Ö h2];congr 1
def Kc (r:Int×Int):Bool :=
 decide (1<=r.2)&&(decide (r.2<=2147483647)&&(decide ((r.1.natAbs:Int)<=2147483647)&&decide (Nat.gcd r.1.natAbs r.2.natAbs=1)))
def Vk {r:Int×Int} (h:I64 r.1):vY r=some (Kc r):=by
 unfold vY I6 Kc
 by_cases c:1<=r.2
 ·by_cases h2:r.2<=2147483647
  ·have g:I64 r.2:=⟨by omega,by omega⟩
   have a:ige r.2 1=true:=by simp[ige,c]
   have f:ile r.2 2147483647=true:=by simp[ile,h2]
   rw[Þ a,Þ f,P5 h,À]
   by_cases d:(r.1.natAbs:Int)<=2147483647
   ·have e:ile (r.1.natAbs:Int) 2147483647=true:=by simp[ile,d]
    rw[Þ e,À,P5 g,À,gcd_ok,À];congr 1;rw[cq];simp only[ieq,beq_iff_eq,c,h2,d,decide_true,dm,decide_eq_true_eq];omega
   ·have e:ile (r.1.natAbs:Int) 2147483647=false:=by simp[ile]; omega
    rw[Ö e];simp[d]
  ·have a:ige r.2 1=true:=by simp[ige,c]
   have f:ile r.2 2147483647=false:=by simp[ile]; omega
   rw[Þ a,Ö f];simp[h2]
 ·have a:ige r.2 1=false:=by simp[ige]; omega
  rw[Ö a];simp[c]
def iN (g:è):Bool :=
 Kc g.2.2.2.2.1&&inP g.2.2.2.2.1.1 (-1000) 1000&&decide (g.2.2.2.2.1.2<=100)&&inP g.1 1 1099511627776&&Ct g.2.1&&inP g.2.2.1 1 1125899906842624&&ξ g.2.2.2.1 (-1073741824) 1073741824&&inP g.2.2.2.2.2 0 1048576
def OP {g:è} (h:I64 g.2.2.2.2.1.1):nM g=some (iN g):=by
 unfold nM tE iN;rw[Vk h,ť,ť,Gv,ť,vK,ť];generalize Kc g.2.2.2.2.1=j;generalize inP g.2.2.2.2.1.1 (-1000) 1000=i;generalize inP g.1 1 1099511627776=f;generalize Ct g.2.1=e;generalize inP g.2.2.1 1 1125899906842624=d;generalize ξ g.2.2.2.1 (-1073741824) 1073741824=c;generalize inP g.2.2.2.2.2 0 1048576=k;unfold ile;generalize decide (g.2.2.2.2.1.2<=100)=a
 cases j<;>cases i<;>cases f<;>cases e<;>cases d<;>cases c<;>cases a<;>rfl
section
variable {ρ:Type}
def vL {α:Type} {l:th α} {i:Nat} {a:α} (h0:0<i) (h:l[i-1]?=some a) (f:α->so ρ):ø l ((i:Int)-1) f=f a:=by
 have:((i:Int)-1)=((i-1:Nat):Int):=by omega
 rw[this,Å h]
def Cx {i:Nat} (h:0<i) (a:i<=1000000000) (f:Int->so ρ):ck ((i:Int)-1) f=f ((i:Int)-1):=ö (by omega) (by omega) f
def tM {i n:Nat} (h:i<n) (x:so ρ):ð ((ile 0 (i:Int))&&(ilt (i:Int) (n:Int))) x=x:=by
 have:((ile 0 (i:Int))&&(ilt (i:Int) (n:Int)))=true:=by simp[ile,ilt,h]
 rw[this,Am.iff_true]
def ů {α:Type} {l:th α} {i:Nat} {a:α} (h:l[i]?=some a) (f:α->so ρ):Kd l (Int.toNat (i:Int)) f=f a:=by
 rw[bU]; exact MI h f
end
def tU {α:Type} (c:α->Int) (l:th α) (i:Nat) (a:α):Bool :=
 decide (0<i)&&(l[i-1]?).any fun q=>decide (c a<=c q)
def uz {α:Type} {l:th α} {i:Nat} (hi:i<l.length) (h0:0<i):∃q,l[i-1]?=some q :=
 ⟨l[i-1],bo (by omega)⟩
def G8 {α:Type} (c:α->Int) (l:th α):(∀i a,l[i]?=some a->tU c l i a=false)↔l.Pairwise (fun a b=>c a<c b):=by
 rw[dh];constructor
 ·intro h
  have step:∀i (e:i+1<l.length),c l[i]<c l[i+1]:=by
   intro i e;have:=h (i+1) l[i+1] (bo e);simp only[tU,Nat.add_sub_cancel,eR,decide_true,dm,bo (show i<l.length by omega),Option.any_some,decide_eq_false_iff_not] at this;omega
  intro i j hi g k
  induction j with
  |zero=>omega
  |succ j f =>
   have:=step j g;rcases bZ i j with d|m
   ·have:=f (by omega) d; omega
   ·have:i=j:=by omega
    subst this; assumption
 ·intro h i a ha;obtain⟨hi,rfl⟩:=List.getElem?_eq_some_iff.1 ha;unfold tU
  cases i with
  |zero=>rfl
  |succ i =>
   have:=h i (i+1) (by omega) hi (by omega);simp only[Nat.add_sub_cancel,eR,decide_true,dm,bo (show i<l.length by omega),Option.any_some,decide_eq_false_iff_not];omega
def i8 (l:th è) (i:Nat) (g:è):so Int :=
 if !iN g then some 1 else if tU (fun g=>g.1) l i g then some 6 else none
def Ž (b:ë):Int:=(ć (i8 b.2.1) 0 b.2.1).getD 0
def DK {b:ë} (d:∀g∈b.2.1,I64 g.2.2.2.2.1.1) (f:b.2.1.length<=1000):Į b=some (Ž b):=by
 unfold Į pL;refine Eq.trans (Ų b.2.1 (i8 b.2.1) some (some 0) (fun i a hi ha kn=>?_) (fun kn=>?_)) ?_
 ·try dsimp only
  unfold ŷ;rw[Ó hi,Å ha,OP (d a (List.mem_of_getElem? ha)),À];unfold i8
  cases h:iN a with
  |false=>simp
  |true =>
   simp only[b8,Ľ,bP,if_false];rcases dM i with h0|h0
   ·subst h0
    have:igt ((0:Nat):Int) 0=false:=by simp[igt]
    rw[Ö this,Í hi (by omega)];simp[tU]
   ·obtain⟨q,c⟩:=uz hi h0
    have e:igt (i:Int) 0=true:=by simp[igt]; omega
    rw[Þ e,Cx h0 (by omega),vL h0 c];simp only[tU,h0,decide_true,Bool.true_and,c,Option.any_some];unfold ile
    cases h2:decide (a.1<=q.1) with
    |true=>simp
    |false =>
     rw[Ľ,Í hi (by omega)];simp
 ·try dsimp only
  unfold ŷ;rw[ß]
 ·unfold Ž
  cases ć (i8 b.2.1) 0 b.2.1<;>rfl
def HH (l:th è):th (Int×è):=l.foldl (fun m g=>Ar (k:=tI) (v:=Ì) g.1 g m) []
def ŗ (b:ë):th (Int×è):=HH b.2.1
def N1 {b:ë} (c:b.2.1.length<=1000):Ť b=some (ŗ b):=by
 unfold Ť Bv;refine ĝ b.2.1 (fun i=>HH (b.2.1.take i)) _ rfl (fun i a hi ha kn=>?_) (fun kn=>?_)
 ·try dsimp only
  unfold iq;rw[Ó hi,Å ha,Í hi (by omega),take_succ ha];simp only[HH,List.foldl_append,List.foldl_cons,List.foldl_nil]
 ·try dsimp only
  unfold iq;rw[ß,List.take_length];rfl
def Il (x y:Int) (g:è):∀m:th (Int×è),mP (k:=tI) (v:=Ì) x (Ar (k:=tI) (v:=Ì) y g m)=if x=y then some g else mP (k:=tI) (v:=Ì) x m
 |[]=>by
  unfold Ar mP fM mP
  by_cases h:x=y<;>simp[h]
 |e::m=>by
  unfold Ar
  by_cases h:y=e.1
  ·have:fM tI y e.1=true:=by simp[fM,h]
   rw[this]
   try dsimp only
   unfold mP fM
   by_cases h2:x=y
   ·simp[h2]
   ·have:¬x=e.1:=fun a=>h2 (a.trans h.symm);simp[h2,this]
  ·have:fM tI y e.1=false:=by simp[fM,h]
   rw[this]
   try dsimp only
   have c:=Il x y g m;unfold mP
   by_cases h2:x=e.1
   ·have:fM tI x e.1=true:=by simp[fM,h2]
    rw[this];have:¬x=y:=fun a=>h (a.symm.trans h2);simp[this]
   ·have:fM tI x e.1=false:=by simp[fM,h2]
    rw[this];exact c
def Ń (b:ë) (id:Int):so è:=b.2.1.find? fun g=>g.1==id
def KX (x:Int) (l:th è):mP (k:=tI) (v:=Ì) x (HH l)=l.reverse.find? fun g=>g.1==x:=by
 unfold HH;rw[<-List.foldr_reverse]
 induction l.reverse with
 |nil=>rfl
 |cons g t a =>
  rw[List.foldr_cons,Il,a,eN]
  by_cases h:x=g.1
  ·simp[h]
  ·have:(g.1==x)=false:=by simp; exact fun h2=>h h2.symm
   simp[h,this]
def Jw {l:th è} (h:l.Pairwise fun a b=>a.1<b.1) (x:Int):l.reverse.find? (fun g=>g.1==x)=l.find? fun g=>g.1==x:=by
 induction l with
 |nil=>rfl
 |cons g t d =>
  rw[bS] at h;rw[List.reverse_cons,List.find?_append,d h.2,eN]
  by_cases c:g.1=x
  ·have:t.find? (fun g=>g.1==x)=none:=cD.2 fun y e=>by have:g.1<y.1:=h.1 y e; simp; omega
   rw[this]; simp[c]
  ·have:(g.1==x)=false:=by simp[c]
   simp[this]
def qx {b:ë} (h:b.2.1.Pairwise fun a b=>a.1<b.1) (x:Int):mP (k:=tI) (v:=Ì) x (ŗ b)=Ń b x:=by
 unfold ŗ Ń;rw[KX,Jw h]
def gT (s:th (Int×è)) (id a:Int):Int :=
 match mP (k:=tI) (v:=Ì) id s with
 |some g=>if a<g.2.1 then 4 else 0
 |none=>5
def KY (s:th (Int×è)) (id a:Int):ŵ s id a=some (gT s id a):=by
 unfold ŵ si gT
 cases h:mP (k:=tI) (v:=Ì) id s with
 |none=>simp only[VK,h]
 |some g =>
  simp only[VK,h];rw[œ]
  by_cases h2:a<g.2.1<;>simp[h2]
def NS (s:th (Int×è)) (id a:Int):Int:=if !Ct a then 1 else gT s id a
def HS (s:th (Int×è)) (id a:Int):ē id a s=some (NS s id a):=by
 unfold ē By NS;rw[Gv,À,KY,À]
 cases Ct a<;>rfl
def BU (b:ë) (s:th (Int×è)) (i:Nat) (l:zb):Int :=
 if !ξ l.2.1 0 20000 then 1 else if !inP l.2.2 0 1048576 then 1 else if gT s l.1 l.2.1.1 != 0 then gT s l.1 l.2.1.1 else
 if (b.2.2.2.1.take i).any (fun x=>x.1==l.1&&(decide (x.2.1.1<=l.2.1.2)&&decide (l.2.1.1<=x.2.1.2))) then 9 else
 if b.2.2.1.any (fun u=>u.1==l.1&&inP u.2 l.2.1.1 l.2.1.2) then 9 else 0
def JN {b:ë} (r:b.2.2.2.1.length<=1000) (q:b.2.2.1.length<=1000) (s:th (Int×è)) {i:Nat} {l:zb} (h:b.2.2.2.1[i]?=some l):ľ b s i=some (BU b s i l):=by
 unfold ľ nw BU;have hi:i<b.2.2.2.1.length:=(List.getElem?_eq_some_iff.1 h).1;rw[Å h,vK,À,ť,À,KY,À]
 cases ξ l.2.1 0 20000 with
 |false=>rfl
 |true =>
 cases inP l.2.2 0 1048576 with
 |false=>rfl
 |true =>
 cases g:(gT s l.1 l.2.1.1 != 0) with
 |true =>
  have:ine (gT s l.1 l.2.1.1) 0=true:=g;simp[this]
 |false =>
 have f:ine (gT s l.1 l.2.1.1) 0=false:=g
 have o:((ile (0:Int) (i:Int))&&(ile (i:Int) (θ b.2.2.2.1)))=true:=by simp[ile,θ]; omega
 simp only[b8,Ľ,f,bP,if_false];rw[ŋ o,bU]
 have c:∀(k:Int->so Int),Ü (fun(v:Int) m=>Ĺ b.2.2.1 (â b.2.2.1) l.1 l.2.1.1 l.2.1.2 v (fun u=>m u) (fun z=>ifb (ige z 0) (k 9) (k 0)) (fun _=>k 0)) (0:Int)=if b.2.2.1.any (fun u=>u.1==l.1&&inP u.2 l.2.1.1 l.2.1.2) then k 9 else k 0:=by
  intro k;refine Ő b.2.2.1 _ (fun z=>ifb (ige z 0) (k 9) (k 0)) (k 9) (k 0) (fun j=>?_) (fun j a d ha kn=>?_) (fun kn=>?_)
  ·have:ige (j:Int) 0=true:=by simp[ige]
   rw[Þ this]
  ·try dsimp only
   unfold Ĺ;rw[Ó d,Å ha,ť,À,Í d (by omega)]
   cases e:(a.1==l.1) with
   |false =>
    have:ieq a.1 l.1=false:=e;simp[this]
   |true =>
    have:ieq a.1 l.1=true:=e;rw[this]
    cases inP a.2 l.2.1.1 l.2.1.2<;>simp
  ·try dsimp only
   unfold Ĺ;rw[ß]
 rw[c];refine dc (Ő (b.2.2.2.1.take i) (fun x=>x.1==l.1&&(decide (x.2.1.1<=l.2.1.2)&&decide (l.2.1.1<=x.2.1.2))) (fun z=>ifb (ige z 0) (some 9) (if b.2.2.1.any (fun u=>u.1==l.1&&inP u.2 l.2.1.1 l.2.1.2) then some 9 else some 0)) (some 9) (if b.2.2.1.any (fun u=>u.1==l.1&&inP u.2 l.2.1.1 l.2.1.2) then some 9 else some 0) (fun j=>?_) (fun j a d ha kn=>?_) (fun kn=>?_)) ?_
 ·have:ige (j:Int) 0=true:=by simp[ige]
  rw[Þ this]
 ·try dsimp only
  unfold fA
  have n:j<=1000:=by rw[bN] at d; omega
  rw[Ó d,Å ha,Í d (by rw[bN]; omega)]
  cases e:(a.1==l.1) with
  |false =>
   have:ieq a.1 l.1=false:=e;simp[this]
  |true =>
   have:ieq a.1 l.1=true:=e;rw[this]
   cases h2:decide (a.2.1.1<=l.2.1.2)<;>cases p:decide (l.2.1.1<=a.2.1.2)<;>simp[ile,h2,p,œ]<;>simp_all
 ·try dsimp only
  unfold fA;rw[ß]
 ·cases List.any (b.2.2.2.1.take i) _<;>cases b.2.2.1.any _<;>rfl
def Tr {l:th Int} (c:l.length<=1000000) (x:Int):Ξ l x=some (match l.findIdx? (·==x) with|some j=>(j:Int)|none=>-1):=by
 unfold Ξ mi;refine Eq.trans (iK l (·==x) some (some (-1)) (fun i a hi ha kn=>?_) (fun kn=>?_)) ?_
 ·try dsimp only
  unfold ŏ;rw[Ó hi,Å ha,Í hi (by omega),œ]
  by_cases h:x=a
  ·subst h; simp[ieq]
  ·have h2:¬a=x:=fun e=>h e.symm;simp[ieq,h,h2]
 ·try dsimp only
  unfold ŏ;rw[ß]
 ·cases l.findIdx? (·==x)<;>rfl
def iR {l:th Int} (c:l.length<=1000000) (x:Int):Ć l x=some (l.contains x):=by
 unfold Ć iZ;rw[Tr c,À];congr 1
 cases h:l.findIdx? (·==x) with
 |none =>
  have:l.contains x=false:=by
   rw[dG];intro d;have:=dz.1 h x (by simpa using d);simp at this
  rw[this]; rfl
 |some j =>
  obtain⟨e,a,_⟩:=b9.1 h
  have:l.contains x=true:=by
   have h2:l[j]=x:=by simpa using a
   rw[<-h2]; simp
  rw[this];simp[ige]
def é (a b:th Int):th Int:=a.filter fun x=>!b.contains x
def Rl {a b:th Int} (ha:a.length<=1000000) (hb:b.length<=1000000):gC a b=some (é a b):=by
 unfold gC MY;rw[Ð (by omega),Am.iff_true]
 have f:∀z:Nat,z<a.length->é (a.take z) b=a.take z->b.contains (a[z]?.getD 0)=true ->
  Ü (fun(c:(Val (.pair tI (.pair tI (.slice tI))))) e=>fK b c.1 c.2.1 c.2.2 (fun m l k=>e (m,l,k)) (fun z12=>ð ((ile (0:Int) z12.1)&&(ile z12.1 (θ z12.2))) (ð ((ile (0:Int) z12.1)&&(ile z12.1 (θ (List.take (Int.toNat z12.1) z12.2++List.replicate (List.length z12.2-(Int.toNat z12.1)) (0:Int)++List.drop ((Int.toNat z12.1)+(List.length z12.2-(Int.toNat z12.1))) z12.2)))) (some (List.take (Int.toNat z12.1) (List.drop 0 (List.take (Int.toNat z12.1) z12.2++List.replicate (List.length z12.2-(Int.toNat z12.1)) (0:Int)++List.drop ((Int.toNat z12.1)+(List.length z12.2-(Int.toNat z12.1))) z12.2))))))) ((z:Int),((z:Int)+1),a)=some (é a b):=by
  intro z o E u
  refine fB (fun x:Int×Int×th Int=>∃i j:Nat,x.1=i/\x.2.1=j/\i<j/\j<=a.length/\x.2.2.length=a.length/\x.2.2.take i=é (a.take j) b/\x.2.2.drop j=a.drop j) (fun x=>a.length-x.2.1.toNat) ?_
   ⟨z,z+1,rfl,by simp,by omega,by omega,rfl,?_,rfl⟩
  ·rintro⟨K,J,s⟩ ⟨i,j,w,h2,G,F,A,v,hd⟩;simp only at w h2 A v hd;subst w h2;rcases bZ j a.length with t|t
   ·refine .inr ?_
    have r:s[j]?=some a[j]:=by
     have C:(s.drop j)[0]?=(a.drop j)[0]?:=by rw[hd]
     rw[dl,dl] at C;simpa[bo t] using C
    have d:j<s.length:=by omega
    have q:é (a.take (j+1)) b=é (a.take j) b++if b.contains a[j] then[] else[a[j]]:=by
     rw[take_succ (bo t),é,é,eQ];congr 1
     cases h:b.contains a[j] with
     |true=>simp only[cE,h,b8,bP,if_false,cO,if_true]
     |false=>simp only[cE,h,Bool.not_false,bP,if_false,cO,if_true]
    cases h:b.contains a[j] with
    |true =>
     refine⟨(i,(j:Int)+1,s),⟨i,j+1,rfl,by simp,by omega,by omega,A,?_,?_⟩,by simp; omega,fun kn=>?_⟩
     ·rw[q,h]; simpa using v
     ·have:=congrArg (List.drop 1) hd;simpa[dK,Nat.add_comm] using this
     ·try dsimp only
      unfold fK;rw[Ó d,tM d,ů r,iR hb,À,h];simp only[Bool.not_true,Ľ];rw[Í d (by omega)]
    |false =>
     have g:i<s.length:=by omega
     refine⟨((i:Int)+1,(j:Int)+1,s.set i a[j]),⟨i+1,j+1,by simp,by simp,by omega,by omega,by simpa using A,?_,?_⟩,by simp; omega,fun kn=>?_⟩
     ·show List.take (i+1) (s.set i a[j])=_;rw[q,h,List.take_succ,ee,List.take_set_of_le (bm i),v];simp[g]
     ·show List.drop (j+1) (s.set i a[j])=_;rw[List.drop_set_of_lt (by omega)];have:=congrArg (List.drop 1) hd;simpa[dK,Nat.add_comm] using this
     ·try dsimp only
      unfold fK;rw[Ó d,tM d,ů r,iR hb,À,h];simp only[Bool.not_false,fE];rw[tM g,ů (List.getElem?_eq_getElem g),Í g (by omega),Í d (by omega),Int.toNat_natCast]
   ·refine .inl fun kn=>?_
    have B:j=s.length:=by omega
    try dsimp only
    unfold fK;rw[B,ß];dsimp only
    have I:((ile (0:Int) (i:Int))&&(ile (i:Int) (θ s)))=true:=by simp[ile,θ]; omega
    rw[ŋ I]
    have H:((ile (0:Int) (i:Int))&&(ile (i:Int) (θ (List.take (Int.toNat (i:Int)) s++List.replicate (List.length s-(Int.toNat (i:Int))) (0:Int)++List.drop ((Int.toNat (i:Int))+(List.length s-(Int.toNat (i:Int)))) s))))=true:=by
     simp[ile,θ]; omega
    rw[ŋ H,bU,List.drop_zero,bE,dH (by simp; omega),List.take_take,Nat.min_self,v];rw[cm (by omega)]
  ·show List.take z a=é (a.take (z+1)) b;have n:a[z]?=some a[z]:=bo o;rw[take_succ n,é,eQ];rw[n] at u;simp only[eZ] at u
   have:List.filter (fun x=>!b.contains x) [a[z]]=[]:=by simp only[cE,u,b8,bP,if_false,cO]
   rw[this,bH];exact E.symm
 refine dc (iK a (fun x=>b.contains x) (fun z4=>ifb (ieq z4 (-1:Int)) (some a) (ck (z4+(1:Int)) fun D=>Ü (fun(c:(Val (.pair tI (.pair tI (.slice tI))))) e=>fK b c.1 c.2.1 c.2.2 (fun m l k=>e (m,l,k)) (fun z12=>ð ((ile (0:Int) z12.1)&&(ile z12.1 (θ z12.2))) (ð ((ile (0:Int) z12.1)&&(ile z12.1 (θ (List.take (Int.toNat z12.1) z12.2++List.replicate (List.length z12.2-(Int.toNat z12.1)) (0:Int)++List.drop ((Int.toNat z12.1)+(List.length z12.2-(Int.toNat z12.1))) z12.2)))) (some (List.take (Int.toNat z12.1) (List.drop 0 (List.take (Int.toNat z12.1) z12.2++List.replicate (List.length z12.2-(Int.toNat z12.1)) (0:Int)++List.drop ((Int.toNat z12.1)+(List.length z12.2-(Int.toNat z12.1))) z12.2))))))) (z4,D,a))) (some a) (fun i x hi p kn=>?_) (fun kn=>?_)) ?_
 ·try dsimp only
  unfold nr;rw[Ó hi,tM hi,ů p,iR hb,À,Í hi (by omega),œ]
 ·try dsimp only
  unfold nr;rw[ß]
 ·cases h:a.findIdx? (fun x=>b.contains x) with
  |none =>
   have:é a b=a:=by
    rw[é,List.filter_eq_self];intro x p;have:=dz.1 h x p;simpa using this
   rw[this]
  |some z =>
   obtain⟨o,u,y⟩:=b9.1 h
   have w:ieq (z:Int) (-1)=false:=by simp[ieq]
   try dsimp only
   rw[Ö w,Í o (by omega)];refine f z o ?_ ?_
   ·rw[é,List.filter_eq_self];intro x p;obtain⟨j,t,rfl⟩:=bV.1 p;rw[bN] at t;rw[List.getElem_take];have:=y j (by omega);simpa using this
   ·rw[bo o]; exact u
def mU (l:th Int) (i:Nat) (a:Int):so Bool:=if !inP a 1 1099511627776 then some false else if tU (fun x=>x) l i a then some false else none
def ow (l:th Int):Bool:=match ć (mU l) 0 l with|some _=>false|none=>decide (l.length<=6)
def Jj {l:th Int} (g:l.length<=1000000):mM l=some (ow l):=by
 unfold mM EK;refine Eq.trans (Ų l (mU l) some (some (decide (l.length<=6))) (fun i a hi ha kn=>?_) (fun kn=>?_)) ?_
 ·try dsimp only
  unfold jw;rw[Ó hi,Å ha,ť,À];unfold mU
  cases inP a 1 1099511627776 with
  |false=>rfl
  |true =>
   simp only[b8,Ľ,bP,if_false];rcases dM i with h0|h0
   ·subst h0
    have:igt ((0:Nat):Int) 0=false:=by simp[igt]
    rw[Ö this,Í hi (by omega)];simp[tU]
   ·obtain⟨q,d⟩:=uz hi h0
    have f:igt (i:Int) 0=true:=by simp[igt]; omega
    rw[Þ f,Cx h0 (by omega),vL h0 d];simp only[tU,h0,decide_true,Bool.true_and,d,Option.any_some];unfold ile
    cases h2:decide (a<=q) with
    |true=>rfl
    |false =>
     rw[Ľ,Í hi (by omega)];rfl
 ·try dsimp only
  unfold jw;rw[ß,ó];simp[ile];omega
 ·have hb:∀x,ć (mU l) 0 l=some x->x=false:=by
   have:∀(m:th Int) (j:Nat) (x:Bool),ć (mU l) j m=some x->x=false:=by
    intro m
    induction m with
    |nil=>intro j x h; cases h
    |cons a m e =>
     intro j x h;unfold ć at h
     cases c:mU l j a with
     |none=>rw[c] at h; exact e _ _ h
     |some y =>
      rw[c] at h;cases h;unfold mU at c
      split at c
      ·cases c; rfl
      ·split at c
       ·cases c; rfl
       ·cases c
   exact this l 0
  unfold ow
  cases h:ć (mU l) 0 l with
  |none=>rfl
  |some x=>rw[hb x h]
def HQ (l:th Int):ow l=true↔(∀x∈l,1<=x/\x<=1099511627776)/\l.Pairwise (·<·)/\l.length<=6:=by
 have h0:ć (mU l) 0 l=none↔(∀x∈l,1<=x/\x<=1099511627776)/\l.Pairwise (·<·):=by
  rw[Ņ,<-G8 (fun x=>x) l];constructor
  ·intro h
   have c:∀(j:Nat) (a:Int),l[j]?=some a->inP a 1 1099511627776=true/\tU (fun x=>x) l j a=false:=by
    intro j a ha;have:=h j a ha;rw[Nat.zero_add] at this;unfold mU at this
    split at this
    ·cases this
    ·split at this
     ·cases this
     ·rename_i c h2;exact⟨by simpa using c,by simpa using h2⟩
   refine⟨fun x e=>?_,fun i a ha=>(c i a ha).2⟩;obtain⟨j,f,rfl⟩:=bV.1 e;have:=(c j l[j] (bo f)).1;simpa[inP] using this
  ·rintro⟨c,h2⟩ j a ha;rw[bK];have d:=c a (bJ ha)
   have:inP a 1 1099511627776=true:=by simpa[inP] using d
   simp[mU,this,h2 j a ha]
 unfold ow
 cases h:ć (mU l) 0 l with
 |none =>
  obtain⟨c,h2⟩:=h0.1 h;simp only[decide_eq_true_eq];exact⟨fun d=>⟨c,h2,d⟩,fun d=>d.2.2⟩
 |some x =>
  constructor
  ·intro h2; cases h2
  ·rintro⟨c,h2,d⟩;rw[h0.2 ⟨c,h2⟩] at h; cases h
def Ts {a b:th Int} (ha:a.length<=1000000) (hb:b.length<=1000000):ü [a,b]=some (a++b):=by
 have o:∀n:Nat,n<=4000000->∀(f:Int->so (th Int)),ck (n:Int) f=f n:=fun n h f=>ö (by omega) (by omega) f
 have c:Ü (fun(l:ge) d=>ã [a,b] (â [a,b]) l.1 l.2 (fun g e=>d (g,e)) (fun z8=>some z8)) ((0:Int),([]:th Int))=some (a++b):=by
  refine ĝ [a,b] (fun i=>([a,b].take i).flatten) (some (a++b)) (f:=fun(l:ge) d=>ã [a,b] (â [a,b]) l.1 l.2 (fun g e=>d (g,e)) (fun z8=>some z8)) rfl (fun i x hi j kn=>?_) (fun kn=>?_)
  ·try dsimp only
   unfold ã;rw[Ó hi,Å j,Í hi (by simp),take_succ j,List.flatten_append]
   have:Ñ ((List.take i [a,b]).flatten.length+x.length)=true:=by
    refine Ð ?_
    have s:x.length<=1000000:=by
     have:=bJ j;simp at this
     rcases this with rfl|rfl<;>assumption
    have h2:(List.take i [a,b]).flatten.length<=2000000:=by
     have:i=0\/i=1:=by simp at hi; omega
     rcases this with rfl|rfl<;>simp<;>omega
    omega
   rw[ŋ this];simp
  ·try dsimp only
   unfold ã;rw[ß];simp
 unfold ü gj;refine fB (fun x:Int×Int=>∃i:Nat,i<=2/\x=((([a,b].take i).flatten.length:Int),(i:Int))) (fun x=>2-x.2.toNat) ?_ ⟨0,by omega,rfl⟩;rintro x ⟨i,hi,rfl⟩;rcases Nat.lt_or_ge i 2 with h2|h2
 ·refine .inr ⟨((([a,b].take (i+1)).flatten.length:Int),(i:Int)+1),⟨i+1,h2,by simp⟩,by simp; omega,fun kn=>?_⟩;have k:i<[a,b].length:=h2;obtain⟨x,j⟩:∃x,[a,b][i]?=some x:=⟨_,bo k⟩
  have p:x.length<=1000000:=by
   have:=bJ j;simp at this
   rcases this with rfl|rfl<;>assumption
  have r:(List.take i [a,b]).flatten.length<=2000000:=by
   have:i=0\/i=1:=by omega
   rcases this with rfl|rfl<;>simp<;>omega
  try dsimp only
  unfold ď;rw[Ó k,Å j,ó]
  have m:(((List.take i [a,b]).flatten.length:Int)+(x.length:Int))=((List.take i [a,b]).flatten.length+x.length:Nat):=by omega
  rw[m,o _ (by omega)]
  have:ilt ((((List.take i [a,b]).flatten.length+x.length:Nat)):Int) 0=false:=by simp[ilt]; omega
  rw[Ö this,Í k (by simp),take_succ j];simp
 ·refine .inl fun kn=>?_
  obtain rfl:i=2:=by omega
  try dsimp only
  unfold ď;rw[show((2:Nat):Int)=(([a,b].length:Nat):Int) from rfl,ß]
  have m:((List.take 2 [a,b]).flatten.length:Int)=((a.length+b.length:Nat):Int):=by simp
  have q:ilt (((a.length+b.length:Nat)):Int) 0=false:=by simp[ilt]; omega
  rw[m];dsimp only;rw[Ö q,Int.sub_zero,o _ (by omega)];rcases Nat.eq_zero_or_pos (a.length+b.length) with h0|h0
  ·have:igt (((a.length+b.length:Nat)):Int) 0=false:=by simp[igt]; omega
   rw[Ö this];exact c
  ·have:igt (((a.length+b.length:Nat)):Int) 0=true:=by simp[igt]; omega
   rw[Þ this]
   have:((ilt (0:Int) (((a.length+b.length:Nat)):Int))&&(Ñ (Int.toNat (((a.length+b.length:Nat)):Int))))=true:=by
    rw[bU,Ð (by omega)];simp[ilt]; omega
   rw[ŋ this]
   have:ile 0 (θ (List.replicate (Int.toNat (((a.length+b.length:Nat)):Int)) (0:Int)))=true:=by simp[ile]
   rw[ŋ this];exact c
def gH (b:ë) (id a:Int):so zb:=b.2.2.2.1.find? fun l=>l.1==id&&inP a l.2.1.1 l.2.1.2
def GB {α:Type} (p:α->Bool):∀l:th α,l.find? p=(match l.findIdx? p with|some j=>l[j]?|none=>none)
 |[]=>rfl
 |a::l=>by
  rw[eN,List.findIdx?_cons]
  cases h:p a with
  |true=>simp
  |false =>
   simp only[bP,if_false];rw[GB p l]
   cases l.findIdx? p<;>simp
def Xt {b:ë} (g:b.2.2.2.1.length<=1000) (id c:Int):rh b id c=some (match gH b id c with|some l=>(l,true)|none=>((0,(0,0),0),false)):=by
 unfold rh M3;refine Eq.trans (iK b.2.2.2.1 (fun l=>l.1==id&&inP c l.2.1.1 l.2.1.2) (fun z5=>ifb (ilt z5 (0:Int)) (some (((0:Int),((0:Int),(0:Int)),(0:Int)),false)) (ø b.2.2.2.1 z5 fun f=>some (f,true))) (some ((0,(0,0),0),false)) (fun i a hi ha kn=>?_) (fun kn=>?_)) ?_
 ·try dsimp only
  unfold ny;rw[Ó hi,Å ha,ť,À,Í hi (by omega)]
  cases e:(a.1==id) with
  |false =>
   have:ieq a.1 id=false:=e;simp[this]
  |true =>
   have:ieq a.1 id=true:=e;rw[this]
   cases inP c a.2.1.1 a.2.1.2<;>simp
 ·try dsimp only
  unfold ny;rw[ß]
 ·unfold gH;rw[GB]
  cases h:b.2.2.2.1.findIdx? (fun l=>l.1==id&&inP c l.2.1.1 l.2.1.2) with
  |none=>rfl
  |some j =>
   obtain⟨d,_,_⟩:=b9.1 h
   have:ilt (j:Int) 0=false:=by simp[ilt]
   try dsimp only
   rw[Ö this,Å (bo d),bo d]
def oI (p:so Int):th Int->th Int
 |[]=>[]
 |a::t=>if p=some a then oI (some a) t else a::oI (some a) t
def Mh (l:th Int):th Int:=oI none (vJ l)
def insI_perm (a:Int):∀l,(PK a l).Perm (a::l)
 |[]=>ej _
 |b::t=>by
  unfold PK
  split
  ·exact ej _
  ·exact((insI_perm a t).cons b).trans (List.Perm.swap a b t)
def isortI_perm:∀l,(vJ l).Perm l
 |[]=>ej _
 |a::t=>(insI_perm a _).trans ((isortI_perm t).cons a)
def insI_sorted (a:Int):∀{l:th Int},l.Pairwise (·<=·)->(PK a l).Pairwise (·<=·)
 |[],_=>by simp[PK]
 |b::t,h=>by
  rw[List.pairwise_cons] at h;unfold PK
  split
  ·rename_i d;refine bS.2 ⟨fun x c=>?_,bS.2 h⟩;rcases bw.1 c with rfl|c
   ·exact d
   ·have:=h.1 x c; omega
  ·rename_i d;refine bS.2 ⟨fun x c=>?_,insI_sorted a h.2⟩;rcases bw.1 ((insI_perm a t).mem_iff.1 c) with rfl|c
   ·omega
   ·exact h.1 x c
def isortI_sorted:∀l:th Int,(vJ l).Pairwise (·<=·)
 |[]=>List.Pairwise.nil
 |a::t=>insI_sorted a (isortI_sorted t)
def TR (l:th Int):HE l=vJ l:=rfl
def DR (a:Int):∀(l:th Int) (p:so Int),oI p (l++[a])=oI p l++(if (match l.getLast? with|some b=>some b|none=>p)=some a then[] else[a])
 |[],p=>by simp only[cr,oI,List.getLast?_nil]; rfl
 |b::t,p=>by
  have d:=DR a t (some b)
  have e:(match (b::t).getLast? with|some c=>some c|none=>p)=(match t.getLast? with|some c=>some c|none=>some b):=by
   cases t with
   |nil=>rfl
   |cons c t =>
    rw[List.getLast?_cons_cons]
    cases h:(c::t).getLast? with
    |none=>simp at h
    |some x=>rfl
  rw[e];simp only[cW,oI,d]
  split<;>simp
def sM (l:th Int):∀m,m<=l.length->Lib.compactUpTo l.toArray m=oI none (l.take m)
 |0,_=>by simp[Lib.compactUpTo,oI]
 |m+1,h=>by
  have d:m<l.length:=h;rw[Lib.compactUpTo_succ,sM l m (by omega),take_succ (bo d),DR];congr 1
  have e:l.toArray[m]! = l[m]:=by simp[getElem!_pos,d]
  rw[e];unfold Lib.keeps;rw[e]
  cases m with
  |zero=>simp
  |succ m =>
   have c:m<l.length:=by omega
   have g:l.toArray[m+1-1]! = l[m]:=by simp[getElem!_pos,c]
   rw[g]
   have f:(l.take (m+1)).getLast?=some l[m]:=by rw[take_succ (bo c),List.getLast?_append]; rfl
   rw[f]
   by_cases a:l[m+1]=l[m]
   ·simp[a]
   ·have:¬l[m]=l[m+1]:=fun h=>a h.symm;simp[a,this]
def Lu (l:th Int):wk l=oI none l:=by
 unfold wk Lib.compact;rw[sM l l.length (Nat.le_refl _),List.take_length]
def V9 (l:th Int):wk (HE l)=Mh l:=by rw[TR,Lu]; rfl
def Hw:∀{l:th Int} {p:so Int} {x:Int},p≠some x->(x∈oI p l↔x∈l)
 |[],_,_,_=>Iff.rfl
 |a::t,p,x,f=>by
  unfold oI
  by_cases c:x=a
  ·subst c;rw[if_neg f]; simp
  ·have d:=Hw (l:=t) (p:=some a) (x:=x) (fun e=>c (by cases e; rfl))
   split<;>simp[d,c]
def L6:∀{l:th Int} {p:so Int},l.Pairwise (·<=·)->(∀q,p=some q->∀x∈l,q<=x)->(oI p l).Pairwise (·<·)/\∀q,p=some q->∀x∈oI p l,q<x
 |[],p,_,_=>⟨List.Pairwise.nil,fun _ _ _ h=>by cases h⟩
 |a::t,p,h,i=>by
  rw[List.pairwise_cons] at h;obtain⟨g,f⟩:=L6 (l:=t) (p:=some a) h.2 (fun q d x c=>by cases d; exact h.1 x c);unfold oI
  split
  ·rename_i e;exact⟨g,fun q d x c=>by rw[e] at d; cases d; exact f _ rfl x c⟩
  ·rename_i e;refine⟨bS.2 ⟨fun x c=>f _ rfl x c,g⟩,fun q d x c=>?_⟩;have:=i q d a (by simp);have j:q≠a:=fun h=>e (by rw[d,h]);rcases bw.1 c with rfl|c
   ·omega
   ·have:=f _ rfl x c; omega
def qp {l:th Int} {x:Int}:x∈Mh l↔x∈l:=by
 unfold Mh;rw[Hw (by simp),(isortI_perm l).mem_iff]
def sU (l:th Int):(Mh l).Pairwise (·<·):=(L6 (isortI_sorted l) (fun q a=>by cases a)).1
def Hx:∀(l:th Int) (p:so Int),(oI p l).length<=l.length
 |[],_=>bm _
 |a::t,p=>by
  have:=Hx t (some a);unfold oI
  split<;>simp<;>omega
def zf (l:th Int):(Mh l).length<=l.length:=by
 unfold Mh;have:=Hx (vJ l) none
 rwa [(isortI_perm l).length_eq] at this
def LO {l m:th Int} (f:l.Pairwise (·<·)) (e:m.Pairwise (·<·)) (h:∀x,x∈l↔x∈m):l=m:=by
 induction l generalizing m with
 |nil =>
  cases m with
  |nil=>rfl
  |cons a t=>have:=(h a).2 (by simp); cases this
 |cons a t i =>
  rw[bS] at f
  cases m with
  |nil=>have:=(h a).1 (by simp); cases this
  |cons b u =>
   rw[bS] at e
   have g:a=b:=by
    rcases bw.1 ((h a).1 (by simp)) with c|c
    ·exact c
    ·rcases bw.1 ((h b).2 (by simp)) with h2|h2
     ·exact h2.symm
     ·have:=e.1 a c; have:=f.1 b h2; omega
   subst g;rw[i f.2 e.2 fun x=>?_];constructor
   ·intro d;rcases bw.1 ((h x).1 (by simp[d])) with c|c
    ·have:=f.1 x d; omega
    ·exact c
   ·intro d;rcases bw.1 ((h x).2 (by simp[d])) with c|c
    ·have:=e.1 x d; omega
    ·exact c
def rJ (b:ë) (s:th (Int×è)) (c:Cmp):Int :=
 if (c.2.2.1++c.2.2.2.1).any (fun id=>gT s id c.2.1==5) then 5 else
 if (c.2.2.1++c.2.2.2.1).any (fun id=>gT s id c.2.1==4) then 4 else
 if (c.2.2.1++c.2.2.2.1).any (fun id=>(gH b id c.2.1).isSome) then 9 else
 if 1<(é c.2.2.1 c.2.2.2.1).length then 1 else if 1<(é c.2.2.2.1 c.2.2.1).length then 1 else
 if (é c.2.2.1 c.2.2.2.1).length+(é c.2.2.2.1 c.2.2.1).length=0 then 1 else 0
def sZ (c:Cmp):Bool :=
 inP c.1 1 1099511627776&&(Ct c.2.1&&(inP c.2.2.2.2.1 (-1125899906842624) 1125899906842624&&(inP c.2.2.2.2.2.1 0 1073741824&&(ξ c.2.2.2.2.2.2 (-10000) 10000&&(ow c.2.2.1&&ow c.2.2.2.1)))))
def gF (b:ë) (s:th (Int×è)) (i:Nat) (c:Cmp):Int :=
 if !sZ c then 1 else if (b.2.2.2.2.1.take i).any (fun x=>x.1==c.1) then 6 else rJ b s c
def pO (a b:th Int):(é a b).length<=a.length:=cJ _ _
set_option maxHeartbeats 1000000 in
def Cz {b:ë} (I:b.2.2.2.2.1.length<=1000) (E:b.2.2.2.1.length<=1000) (s:th (Int×è)) {i:Nat} {c:Cmp} (K:c.2.2.1.length<=100000) (J:c.2.2.2.1.length<=100000)
 (y:b.2.2.2.2.1[i]?=some c):ĕ b s i=some (gF b s i c):=by
 have hi:i<b.2.2.2.2.1.length:=(List.getElem?_eq_some_iff.1 y).1;unfold ĕ iW gF sZ;rw[Å y,ť,À]
 cases inP c.1 1 1099511627776 with
 |false=>rfl
 |true =>
 rw[Gv,À]
 cases Ct c.2.1 with
 |false=>rfl
 |true =>
 rw[ť,À]
 cases inP c.2.2.2.2.1 (-1125899906842624) 1125899906842624 with
 |false=>rfl
 |true =>
 rw[ť,À]
 cases inP c.2.2.2.2.2.1 0 1073741824 with
 |false=>rfl
 |true =>
 rw[vK,À]
 cases ξ c.2.2.2.2.2.2 (-10000) 10000 with
 |false=>rfl
 |true =>
 rw[Jj (by omega),À]
 cases ow c.2.2.1 with
 |false=>rfl
 |true =>
 rw[Jj (by omega),À]
 cases ow c.2.2.2.1 with
 |false=>rfl
 |true =>
 have F:((ile (0:Int) (i:Int))&&(ile (i:Int) (θ b.2.2.2.2.1)))=true:=by simp[ile,θ]; omega
 simp only[b8,Ľ,Bool.and_self,bP,if_false];rw[ŋ F,bU]
 -- what comes behind the IDs
 have rest:(Â (ü ([c.2.2.1,c.2.2.2.1])) fun g=>Ü (fun(r:Int) o=>ě s g (â ([(5:Int),(4:Int)])) c.2.1 ([(5:Int),(4:Int)]) r (fun u=>o u) (fun z23=>some z23) (fun _=>Ü (fun(t:Int) p=>Ě g (â g) b.1.1 b.1.2 b.2.1 b.2.2.1 b.2.2.2.1 b.2.2.2.2.1 b.2.2.2.2.2 c.2.1 t (fun v=>p v) (fun z28=>some z28) (fun _=>Â (gC c.2.2.1 c.2.2.2.1) fun f=>Â (gC c.2.2.2.1 c.2.2.1) fun e=>ifb (igt (â f) (1:Int)) (some (1:Int)) (ifb (igt (â e) (1:Int)) (some (1:Int)) (ck ((â f)+(â e)) fun h=>ifb (ieq h (0:Int)) (some (1:Int)) (some (0:Int)))))) (0:Int))) (0:Int))=some (rJ b s c):=by
  rw[Ts (by omega) (by omega),À]
  have z:(c.2.2.1++c.2.2.2.1).length<=200000:=by simp; omega
  have n:(Â (gC c.2.2.1 c.2.2.2.1) fun f=>Â (gC c.2.2.2.1 c.2.2.1) fun e=>ifb (igt (â f) (1:Int)) (some (1:Int)) (ifb (igt (â e) (1:Int)) (some (1:Int)) (ck ((â f)+(â e)) fun h=>ifb (ieq h (0:Int)) (some (1:Int)) (some (0:Int))))) =
   some (if 1<(é c.2.2.1 c.2.2.2.1).length then 1 else if 1<(é c.2.2.2.1 c.2.2.1).length then 1 else if (é c.2.2.1 c.2.2.2.1).length+(é c.2.2.2.1 c.2.2.1).length=0 then 1 else 0):=by
   rw[Rl (by omega) (by omega),À,Rl (by omega) (by omega),À];have H:=pO c.2.2.1 c.2.2.2.1;have G:=pO c.2.2.2.1 c.2.2.1;rw[ó,ó,ö (by omega) (by omega)]
   by_cases C:1<(é c.2.2.1 c.2.2.2.1).length
   ·rw[Þ (by simp[igt]; omega),if_pos C]
   rw[Ö (by simp[igt]; omega),if_neg C]
   by_cases B:1<(é c.2.2.2.1 c.2.2.1).length
   ·rw[Þ (by simp[igt]; omega),if_pos B]
   rw[Ö (by simp[igt]; omega),if_neg B]
   by_cases A:(é c.2.2.1 c.2.2.2.1).length+(é c.2.2.2.1 c.2.2.1).length=0
   ·rw[Þ (by simp[ieq]; omega),if_pos A]
   rw[Ö (by simp[ieq]; omega),if_neg A]
  refine dc (Ų [(5:Int),4] (fun _ d=>if (c.2.2.1++c.2.2.2.1).any (fun id=>gT s id c.2.1==d) then some d else none) some (some (if (c.2.2.1++c.2.2.2.1).any (fun id=>(gH b id c.2.1).isSome) then 9 else if 1<(é c.2.2.1 c.2.2.2.1).length then 1 else if 1<(é c.2.2.2.1 c.2.2.1).length then 1 else if (é c.2.2.1 c.2.2.2.1).length+(é c.2.2.2.1 c.2.2.1).length=0 then 1 else 0)) (fun j d m D kn=>?_) (fun kn=>?_)) ?_
  ·try dsimp only
   unfold ě;rw[Ó m,tM m,ů D];refine Eq.trans (Ő (c.2.2.1++c.2.2.2.1) (fun id=>gT s id c.2.1==d) (fun _=>some d) (some d) (kn ((j:Int)+1)) (fun _=>rfl) (fun k a q ha l=>?_) (fun l=>?_)) ?_
   ·try dsimp only
    unfold ş;rw[Ó q,Å ha,KY,À,Í q (by omega),œ]
   ·try dsimp only
    unfold ş;rw[ß,Í m (by simp)]
   ·cases List.any (c.2.2.1++c.2.2.2.1) (fun id=>gT s id c.2.1==d)<;>rfl
  ·try dsimp only
   unfold ě;rw[ß];refine Eq.trans (Ő (c.2.2.1++c.2.2.2.1) (fun id=>(gH b id c.2.1).isSome) (fun _=>some 9) (some 9) (some (if 1<(é c.2.2.1 c.2.2.2.1).length then 1 else if 1<(é c.2.2.2.1 c.2.2.1).length then 1 else if (é c.2.2.1 c.2.2.2.1).length+(é c.2.2.2.1 c.2.2.1).length=0 then 1 else 0)) (fun _=>rfl) (fun k a q ha l=>?_) (fun l=>?_)) ?_
   ·try dsimp only
    unfold Ě;have w:=Xt E a c.2.1;rw[Ó q,Å ha,Í q (by omega)];rw[show rh ((b.1.1,b.1.2),b.2.1,b.2.2.1,b.2.2.2.1,b.2.2.2.2.1,b.2.2.2.2.2) a c.2.1=rh b a c.2.1 from rfl,w,À]
    cases gH b a c.2.1<;>rfl
   ·try dsimp only
    unfold Ě;rw[ß,n]
   ·cases List.any (c.2.2.1++c.2.2.2.1) (fun id=>(gH b id c.2.1).isSome)<;>rfl
  ·unfold rJ ć ć ć
   try dsimp only
   cases List.any (c.2.2.1++c.2.2.2.1) (fun id=>gT s id c.2.1==5) with
   |true=>rfl
   |false =>
   cases List.any (c.2.2.1++c.2.2.2.1) (fun id=>gT s id c.2.1==4)<;>rfl
 refine dc (Ő (b.2.2.2.2.1.take i) (fun x=>x.1==c.1) (fun z11=>ifb (ige z11 (0:Int)) (some 6) (some (rJ b s c))) (some 6) (some (rJ b s c)) (fun j=>?_) (fun j a m ha kn=>?_) (fun kn=>?_)) ?_
 ·have:ige (j:Int) 0=true:=by simp[ige]
  rw[Þ this]
 ·try dsimp only
  unfold Š;rw[rest,Ó m,Å ha,Í m (by rw[List.length_take]; omega),œ]
 ·try dsimp only
  unfold Š;rw[ß,rest]
 ·cases List.any (b.2.2.2.2.1.take i) (fun x=>x.1==c.1)<;>rfl
def Lq (b:ë) (g:è):th Int :=
 [g.2.1]++(b.2.2.2.2.1.filter fun c=>!(c.2.2.1.contains g.1==c.2.2.2.1.contains g.1)).map (fun c=>c.2.1)++(b.2.2.2.2.2.filter fun n=>n.1==g.1).map (fun n=>n.2)
def ă (b:ë) (g:è):th Int:=Mh (Lq b g)
structure Γ (b:ë):Prop where
 gauges:b.2.1.length<=1000
 uses:b.2.2.1.length<=1000
 loans:b.2.2.2.1.length<=1000
 compares:b.2.2.2.2.1.length<=1000
 looks:b.2.2.2.2.2.length<=1000
 piles:∀c∈b.2.2.2.2.1,c.2.2.1.length<=1000/\c.2.2.2.1.length<=1000
def P4 (l:th Int):(HE l).length=l.length:=(isortI_perm l).length_eq
def JF {b:ë} (a:Γ b) (g:è):(Lq b g).length<=2001:=by
 have f:=a.compares;have h2:=a.looks;have e:=cJ (fun c:Cmp=>!(c.2.2.1.contains g.1==c.2.2.2.1.contains g.1)) b.2.2.2.2.1;have d:=cJ (fun n:Int×Int=>n.1==g.1) b.2.2.2.2.2;simp only[Lq,bp,cd,bY];omega
def Xf {b:ë} (d:Γ b) (g:è):rg b g=some (ă b g):=by
 unfold rg MZ;have q:=JF d g
 have hd:(ă b g).length<=2001:=by
  unfold ă;have:=zf (Lq b g);omega
 have l:=d.compares;have k:=d.looks;refine ĝ b.2.2.2.2.1 (fun i=>[g.2.1]++((b.2.2.2.2.1.take i).filter fun c=>!(c.2.2.1.contains g.1==c.2.2.2.1.contains g.1)).map (fun c=>c.2.1)) _ rfl (fun i c hi e kn=>?_) (fun kn=>?_)
 ·try dsimp only
  unfold nu;obtain⟨p,o⟩:=d.piles c (List.mem_of_getElem? e);rw[Ó hi,Å e,iR (by omega),À,iR (by omega),À,Í hi (by omega),Í hi (by omega),take_succ e,List.filter_append,List.map_append]
  have a:([g.2.1]++((b.2.2.2.2.1.take i).filter fun c=>!(c.2.2.1.contains g.1==c.2.2.2.1.contains g.1)).map (fun c=>c.2.1)).length<=1001:=by
   have j:=cJ (fun c:Cmp=>!(c.2.2.1.contains g.1==c.2.2.2.1.contains g.1)) (b.2.2.2.2.1.take i);rw[bN] at j;simp only[bp,cd,bY];omega
  rw[Ð (by simp only[bY]; omega),Am.iff_true]
  cases h:(c.2.2.1.contains g.1==c.2.2.2.1.contains g.1) with
  |true=>simp only[b8,Ľ,cE,h,bP,if_false,cO,dR,bH]
  |false=>simp only[Bool.not_false,fE,cE,h,if_true,cO,cH,dR,bE]
 ·try dsimp only
  unfold nu;rw[ß,List.take_length];refine ĝ b.2.2.2.2.2 (fun i=>[g.2.1]++(b.2.2.2.2.1.filter fun c=>!(c.2.2.1.contains g.1==c.2.2.2.1.contains g.1)).map (fun c=>c.2.1)++((b.2.2.2.2.2.take i).filter fun n=>n.1==g.1).map (fun n=>n.2)) _ (by simp) (fun i n hi f kn=>?_) (fun kn=>?_)
  ·try dsimp only
   unfold nt;rw[Ó hi,Å f,Í hi (by omega),Í hi (by omega),take_succ f,List.filter_append,List.map_append]
   have a:([g.2.1]++(b.2.2.2.2.1.filter fun c=>!(c.2.2.1.contains g.1==c.2.2.2.1.contains g.1)).map (fun c=>c.2.1)++((b.2.2.2.2.2.take i).filter fun n=>n.1==g.1).map (fun n=>n.2)).length<=2001:=by
    have j:=cJ (fun c:Cmp=>!(c.2.2.1.contains g.1==c.2.2.2.1.contains g.1)) b.2.2.2.2.1;have m:=cJ (fun n:Int×Int=>n.1==g.1) (b.2.2.2.2.2.take i);rw[bN] at m;simp only[bp,cd,bY];omega
   rw[Ð (by simp only[bY]; omega),Am.iff_true]
   cases h:(n.1==g.1) with
   |true =>
    have:ieq n.1 g.1=true:=h;simp[h,this]
   |false =>
    have:ieq n.1 g.1=false:=h;simp[h,this]
  ·try dsimp only
   unfold nt;rw[ß,List.take_length];rw[show([g.2.1]++(b.2.2.2.2.1.filter fun c=>!(c.2.2.1.contains g.1==c.2.2.2.1.contains g.1)).map (fun c=>c.2.1)++(b.2.2.2.2.2.filter fun n=>n.1==g.1).map (fun n=>n.2))=Lq b g from rfl];dsimp only;rw[Ð (by omega),Am.iff_true,Ð (by rw[P4]; omega),Am.iff_true,V9];rfl
def û (b:ë):th (Int×Int):=b.2.1.flatMap fun g=>(ă b g).map fun d=>((g.1,d):Int×Int)
def we {b:ë} (a:Γ b) (g:è):(ă b g).length<=2001:=by
 unfold ă;have:=zf (Lq b g);have:=JF a g;omega
def nD {α β:Type} (f:α->th β) (n:Nat) (h:∀a,(f a).length<=n):∀l:th α,(l.flatMap f).length<=l.length*n
 |[]=>by simp
 |a::l=>by
  have:=nD f n h l;have:=h a;simp only[bX,bp,bz,bR,dv];omega
def Ud {b:ë} (f:Γ b):pW b=some (û b):=by
 unfold pW I9;have o:=f.gauges
 have a:∀l:th è,(l.flatMap fun g=>(ă b g).map fun d=>((g.1,d):Int×Int)).length<=l.length*2001:=fun l =>
  nD _ 2001 (fun g=>by rw[cd]; exact we f g) l
 refine ĝ b.2.1 (fun i=>(b.2.1.take i).flatMap fun g=>(ă b g).map fun d=>((g.1,d):Int×Int)) _ rfl (fun i g hi c kn=>?_) (fun kn=>?_)
 ·try dsimp only
  unfold lC;rw[Ó hi,Å c];rw[show rg ((b.1.1,b.1.2),b.2.1,b.2.2.1,b.2.2.2.1,b.2.2.2.2.1,b.2.2.2.2.2) g=rg b g from rfl,Xf f,À];have hd:=we f g;have n:=a (b.2.1.take i)
  have m:(b.2.1.take i).length<=1000:=by rw[bN]; omega
  refine ĝ (ă b g) (fun j=>((b.2.1.take i).flatMap fun g=>(ă b g).map fun d=>((g.1,d):Int×Int))++((ă b g).take j).map fun d=>((g.1,d):Int×Int)) _ (by simp) (fun j d k e h=>?_) (fun h=>?_)
  ·try dsimp only
   unfold lz;rw[Ó k,Å e,Í k (by omega),take_succ e,List.map_append];rw[Ð (by simp only[List.length_append,List.length_map,List.length_take,List.length_singleton]; omega),Am.iff_true];simp
  ·try dsimp only
   unfold lz;rw[ß,List.take_length];dsimp only;rw[Í hi (by omega),take_succ c,List.flatMap_append];simp
 ·try dsimp only
  unfold lC;rw[ß,List.take_length];rfl
def nY (b:ë) (s:th (Int×è)):th Int :=
 b.2.2.1.map (fun u=>NS s u.1 u.2)++(b.2.2.2.1.mapIdx (fun i l=>BU b s i l)++(b.2.2.2.2.1.mapIdx (fun i c=>gF b s i c)++b.2.2.2.2.2.map (fun u=>NS s u.1 u.2)))
def Iq {α:Type} {f:Int->so Int} {g:Nat->α->Int} (l:th α) (h:∀(i:Nat) (a:α),l[i]?=some a->f i=some (g i a)):Ax f (oG l.length)=some (l.mapIdx g):=by
 have j:∀i,i<l.length->f (i:Int)=some ((l.mapIdx g)[i]?.getD 0):=by
  intro i hi;rw[h i l[i] (bo hi)];simp[hi]
 have h2:∀x∈oG l.length,f x=some ((l.mapIdx g)[x.toNat]?.getD 0):=by
  intro x c;unfold oG at c;obtain⟨i,hi,rfl⟩:=List.mem_map.1 c;rw[j i (by simpa using hi)];rfl
 rw[uP h2];congr 1;refine List.ext_getElem (by simp[oG]) fun i k e=>?_
 have d:i<l.length:=by simpa using e
 simp[oG,d]
def PD (b:ë):Prop:=∀c∈b.2.2.2.2.1,c.2.2.1.length<=100000/\c.2.2.2.1.length<=100000
def Γ.w {b:ë} (h:Γ b):PD b:=fun c a=>by have:=h.piles c a; omega
def ļ {l:th Int} (h:ow l=true):l.length<=6:=by
 unfold ow at h
 split at h
 ·cases h
 ·exact of_decide_eq_true h
def Ao {c:Cmp} (h:sZ c=true):c.2.2.1.length<=6/\c.2.2.2.1.length<=6:=by
 simp only[sZ,bn] at h;exact⟨ļ h.2.2.2.2.2.1,ļ h.2.2.2.2.2.2⟩
def T5 {b:ë} (g:b.2.2.1.length<=1000) (e:b.2.2.2.1.length<=1000) (h:b.2.2.2.2.1.length<=1000) (d:PD b) (s:th (Int×è)):iL b s=some (nY b s):=by
 unfold iL nY
 rw[uP (fun u _=>HS s u.1 u.2),À,Iq b.2.2.2.1 (fun i l f=>JN e g s f),À,
  Iq b.2.2.2.2.1 (fun i c a=>Cz h e s (d c (bJ a)).1 (d c (bJ a)).2 a),À,uP (fun u _=>HS s u.1 u.2),À]
def fo (b:ë):Int :=
 if !ξ b.1 0 1000000 then 1 else
 if 12<b.2.1.length then 2 else if 40<b.2.2.1.length then 2 else if 12<b.2.2.2.1.length then 2 else if 40<b.2.2.2.2.1.length then 2 else if 10<b.2.2.2.2.2.length then 2 else
 if Ž b != 0 then Ž b else
 match (nY b (ŗ b)).find? (fun e=>e != 0) with
 |some e=>e
 |none=>if 59<(û b).length then 2 else if 300<2*b.2.1.length+2*((û b).length-b.2.1.length:Int)+2*b.2.2.2.2.1.length then 2 else 0
def Ei {b:ë} (a:Γ b):(û b).length<=2001000:=by
 have:=nD (fun g:è=>(ă b g).map fun d=>((g.1,d):Int×Int)) 2001 (fun g=>by rw[List.length_map]; exact we a g) b.2.1;have h2:=a.gauges;unfold û;omega
def J8 {b:ë} (a:PD b) (p:∀g∈b.2.1,I64 g.2.2.2.2.1.1):Ŕ b=some (fo b):=by
 unfold Ŕ BQ fo;rw[vK,À]
 cases ξ b.1 0 1000000 with
 |false=>rfl
 |true =>
 rw[Ö (show(!true)=false from rfl),if_neg (by simp)];simp only[ó]
 by_cases o:12<b.2.1.length
 ·rw[Þ (by simp[igt]; omega),if_pos o]
 rw[Ö (by simp[igt]; omega),if_neg o]
 by_cases n:40<b.2.2.1.length
 ·rw[Þ (by simp[igt]; omega),if_pos n]
 rw[Ö (by simp[igt]; omega),if_neg n]
 by_cases m:12<b.2.2.2.1.length
 ·rw[Þ (by simp[igt]; omega),if_pos m]
 rw[Ö (by simp[igt]; omega),if_neg m]
 by_cases l:40<b.2.2.2.2.1.length
 ·rw[Þ (by simp[igt]; omega),if_pos l]
 rw[Ö (by simp[igt]; omega),if_neg l]
 by_cases k:10<b.2.2.2.2.2.length
 ·rw[Þ (by simp[igt]; omega),if_pos k]
 rw[Ö (by simp[igt]; omega),if_neg k]
 have f:b.2.1.length<=1000:=by omega
 rw[DK p f,À]
 cases d:(Ž b != 0) with
 |true =>
  have:ine (Ž b) 0=true:=d;rw[Þ this,if_pos rfl]
 |false =>
 have:ine (Ž b) 0=false:=d;rw[Ö this,if_neg (by simp)];rw[N1 f,À];unfold HN;rw[T5 (by omega) (by omega) (by omega) a,À]
 cases r:(nY b (ŗ b)).find? (fun e=>e != 0) with
 |some e=>rfl
 |none =>
 dsimp only
 have a:Γ b:=⟨by omega,by omega,by omega,by omega,by omega,fun c s=>by
  obtain⟨i,hi,rfl⟩:=bV.1 s
  have:=cD.1 r (gF b (ŗ b) i b.2.2.2.2.1[i]) (by
   unfold nY
   exact bT _ (bT _ (cB _ (eM.2 ⟨i,hi,rfl⟩))))
  unfold gF at this
  split at this
  ·simp at this
  ·rename_i q;have:=Ao (by simpa using q)
   omega⟩
 have t:=Ei a;rw[Ud a,À]
 by_cases j:59<(û b).length
 ·rw[Þ (by simp[igt]; omega),if_pos j]
 rw[Ö (by simp[igt]; omega),if_neg j];rw[ö (by omega) (by omega),ö (by omega) (by omega),ö (by omega) (by omega),ö (by omega) (by omega),ö (by omega) (by omega),ö (by omega) (by omega)]
 by_cases h:300<2*b.2.1.length+2*((û b).length-b.2.1.length:Int)+2*b.2.2.2.2.1.length
 ·rw[Þ (by simp[igt]; omega),if_pos h]
 rw[Ö (by simp[igt]; omega),if_neg h]
def zI {b:ë} (a:Γ b) (c:∀g∈b.2.1,I64 g.2.2.2.2.1.1):Ŕ b=some (fo b):=J8 a.w c
def s8 (l:th (Int×Int)) (x d:Int):so Nat:=l.findIdx? fun n=>decide (x=n.1)&&decide (d=n.2)
def atP (l:th (Int×Int)) (p:th Int) (d:Int):Int :=
 match p with
 |[]=>0
 |x::_=>match s8 l x d with|some j=>(j:Int)+1|none=>0
def CY (s:th (Int×è)) (p:th Int):Int×Int :=
 match p with
 |[]=>(0,1)
 |x::_=>match mP (k:=tI) (v:=Ì) x s with
  |some g=>g.2.2.2.2.1
  |none=>(0,0)
def qs (n d:Int):Int×Int:=(n / (Nat.gcd n.natAbs d.natAbs:Nat),d / (Nat.gcd n.natAbs d.natAbs:Nat))
def uw (r:Int×Int):Kc r=true↔1<=r.2/\r.2<=2147483647/\(r.1.natAbs:Int)<=2147483647/\Nat.gcd r.1.natAbs r.2.natAbs=1:=by
 simp[Kc]
def ut {n d:Int} (hd:0<d):∃g:Nat,0<g/\g=Nat.gcd n.natAbs d.natAbs/\n=(qs n d).1*g/\d=(qs n d).2*g:=by
 have a:0<Nat.gcd n.natAbs d.natAbs:=Nat.gcd_pos_of_pos_right _ (by omega);refine⟨_,a,rfl,?_,?_⟩
 ·exact(Int.ediv_mul_cancel (Int.ofNat_dvd_left.2 (Nat.gcd_dvd_left _ _))).symm
 ·exact(Int.ediv_mul_cancel (Int.ofNat_dvd_left.2 (Nat.gcd_dvd_right _ _))).symm
def KL {n d:Int} (hd:0<d) (l:n.natAbs<=2147483647) (f:d<=2147483647):Kc (qs n d)=true:=by
 obtain⟨g,h0,e,j,h2⟩:=ut (n:=n) hd;rw[uw]
 have c:n.natAbs=(qs n d).1.natAbs*g:=by conv=>lhs; rw[j]; rw[eh,eT]
 have a:d.natAbs=(qs n d).2.natAbs*g:=by conv=>lhs; rw[h2]; rw[eh,eT]
 have k:0<(qs n d).2:=by
  rcases Int.lt_trichotomy (qs n d).2 0 with h|h|h
  ·have:=Int.mul_neg_of_neg_of_pos h (show(0:Int)<g by omega); omega
  ·rw[h] at h2; simp at h2; omega
  ·exact h
 have o:(qs n d).1.natAbs<=n.natAbs:=by rw[c]; exact dX _ h0
 have m:(qs n d).2.natAbs<=d.natAbs:=by rw[a]; exact dX _ h0
 refine⟨by omega,by omega,by omega,?_⟩;have:=Nat.gcd_mul_right (qs n d).1.natAbs g (qs n d).2.natAbs;rw[<-c,<-a,<-e] at this
 have i:(Nat.gcd (qs n d).1.natAbs (qs n d).2.natAbs)*g=1*g:=by omega
 exact Nat.eq_of_mul_eq_mul_right h0 i
structure tY (r:Int×Int) (n d:Int):Prop where
 rat:Kc r=true
 num : -n<=r.1/\r.1<=n
 den:r.2<=d
def tY.pos {r:Int×Int} {n d:Int} (h:tY r n d):1<=r.2:=((uw r).1 h.rat).1
def qw {a b m n:Int} (g : -m<=a/\a<=m) (h2 : -n<=b/\b<=n) : -(m*n)<=a*b/\a*b<=m*n:=by
 have d:0<=m:=by omega
 have c:0<=n:=by omega
 have f:(a*b).natAbs<=(m*n).natAbs:=by
  rw[eh,eh];exact eo (by omega) (by omega)
 have e:0<=m*n:=Int.mul_nonneg d c;omega
def subP (x y:Int×Int):Int×Int:=qs (x.1*y.2-y.1*x.2) (x.2*y.2)
def DW {x y:Int×Int} (c:tY x 1000 100) (a:tY y 1000 100):(x.1*y.2-y.1*x.2).natAbs<=200000/\0<x.2*y.2/\x.2*y.2<=10000:=by
 have f:=qw c.num (show -100<=y.2/\y.2<=100 from⟨by have:=a.pos; omega,a.den⟩);have h2:=qw a.num (show -100<=x.2/\x.2<=100 from⟨by have:=c.pos; omega,c.den⟩);have e:=qw (show -100<=x.2/\x.2<=100 from⟨by have:=c.pos; omega,c.den⟩) (show -100<=y.2/\y.2<=100 from⟨by have:=a.pos; omega,a.den⟩);have d:=Int.mul_pos (show 0<x.2 by have:=c.pos; omega) (show 0<y.2 by have:=a.pos; omega);refine⟨by omega,d,by omega⟩
def Qh {n d:Int} (hd:0<d):(qs n d).1.natAbs<=n.natAbs/\(qs n d).2<=d:=by
 obtain⟨g,h0,h,a,h2⟩:=ut (n:=n) hd
 have f:n.natAbs=(qs n d).1.natAbs*g:=by conv=>lhs; rw[a]; rw[eh,eT]
 have e:d.natAbs=(qs n d).2.natAbs*g:=by conv=>lhs; rw[h2]; rw[eh,eT]
 have c:(qs n d).1.natAbs<=n.natAbs:=by rw[f]; exact dX _ h0
 have i:(qs n d).2.natAbs<=d.natAbs:=by rw[e]; exact dX _ h0
 exact⟨c,by omega⟩
def Kq {x y:Int×Int} (d:tY x 1000 100) (c:tY y 1000 100):tY (subP x y) 200000 10000:=by
 obtain⟨g,a,b3⟩:=DW d c;obtain⟨f,e⟩:=Qh (n:=x.1*y.2-y.1*x.2) a;exact⟨KL a (by omega) (by omega),by unfold subP; omega,by unfold subP; omega⟩
def xQ (k:Int×Int) (n:Int):Int×Int:=qs (k.1*n) k.2
def El {k:Int×Int} (c:tY k 200000 10000) {n:Int} (a : -10000<=n/\n<=10000):(k.1*n).natAbs<=2000000000:=by
 have:=qw c.num a;omega
def QK {k:Int×Int} (a:tY k 200000 10000) {n:Int} (c : -10000<=n/\n<=10000):tY (xQ k n) 2000000000 10000:=by
 have b:=El a c;have p:=a.pos;have q:=a.den;obtain⟨e,d⟩:=Qh (n:=k.1*n) (show 0<k.2 by omega);exact⟨KL (by omega) (by omega) (by omega),by unfold xQ; omega,by unfold xQ; omega⟩
def cmpP (x y:Int×Int):Int:=if x=y then 0 else if x.1*y.2<y.1*x.2 then -1 else if y.1*x.2<x.1*y.2 then 1 else 0
def KQ (k:Int×Int) (heat:Int×Int):(Int×Int)×(Int×Int) :=
 if 0<cmpP (xQ k heat.1) (xQ k heat.2) then(xQ k heat.2,xQ k heat.1) else(xQ k heat.1,xQ k heat.2)
def rateK (s:th (Int×è)) (c:Cmp):Int×Int:=subP (CY s (é c.2.2.1 c.2.2.2.1)) (CY s (é c.2.2.2.1 c.2.2.1))
def η (b:ë) (c:Cmp):(Int×Int)×(Int×Int):=KQ (rateK (ŗ b) c) c.2.2.2.2.2.2
def mH (b:ë) (c:Cmp):Int×Int :=
 (((c.2.2.1.length-1:Nat):Int)*b.1.1-((c.2.2.2.1.length-1:Nat):Int)*b.1.2,((c.2.2.1.length-1:Nat):Int)*b.1.2-((c.2.2.2.1.length-1:Nat):Int)*b.1.1)
def OU {n d:Int} (hd:1<=d) (i : -4000000000<=n/\n<=4000000000):ifb (fm d 0) (none) (ck (Int.tdiv n d) fun a=>ifb (fm d 0) (none) (ifb (ilt (Int.tmod n d) (0:Int)) (ck (a-(1:Int)) fun c=>some c) (some a)))=some (n / d):=by
 have z:fm d 0=false:=by simp[fm]; omega
 rw[Ö z];have t:=Int.mul_tdiv_add_tmod n d
 have j : -4000000000<=Int.tdiv n d/\Int.tdiv n d<=4000000000:=by
  have:=Int.natAbs_tdiv_le_natAbs n d;omega
 rw[ö (by omega) (by omega),Ö z,œ]
 by_cases h:Int.tmod n d<0
 ·rw[if_pos (by simpa[ilt] using h),ö (by omega) (by omega)];congr 1
  have g : -d<Int.tmod n d:=by
   have f:=fj n d;have e:=eV n.natAbs (show 0<d.natAbs by omega);omega
  refine(d9 (by omega)).2 ⟨?_,?_⟩ |>.symm
  ·rw[Int.sub_mul,dN]; omega
  ·rw[Int.sub_mul,dN (Int.tdiv n d)]; omega
 ·rw[if_neg (by simpa[ilt] using h)];congr 1
  have g:Int.tmod n d<d:=by
   have f:=fj n d;have e:=eV n.natAbs (show 0<d.natAbs by omega);omega
  refine(d9 (by omega)).2 ⟨?_,?_⟩ |>.symm
  ·rw[dN]; omega
  ·rw[dN (Int.tdiv n d)]; omega
def JP (r:Int×Int):Int:=-(-r.1 / r.2)
def E9 {n d:Int} (hd:1<=d):(n / d).natAbs<=n.natAbs:=by
 exact Int.natAbs_ediv_le_natAbs n d
def FA (b:ë) (c:Cmp):Int×Int :=
 (c.2.2.2.2.1-c.2.2.2.2.2.1-(mH b c).2-(η b c).2.1 / (η b c).2.2,c.2.2.2.2.1+c.2.2.2.2.2.1-(mH b c).1-JP (η b c).1)
structure ι (b:ë):Prop where
 film:0<=b.1.1/\b.1.1<=b.1.2/\b.1.2<=1000000
 nG:b.2.1.length<=12
 nU:b.2.2.1.length<=40
 nL:b.2.2.2.1.length<=12
 nC:b.2.2.2.2.1.length<=40
 nK:b.2.2.2.2.2.length<=10
 gauge:∀g∈b.2.1,iN g=true
 ids:b.2.1.Pairwise fun a b=>a.1<b.1
 uses:∀u∈b.2.2.1,NS (ŗ b) u.1 u.2=0
 loans:∀i l,b.2.2.2.1[i]?=some l->BU b (ŗ b) i l=0
 compares:∀i c,b.2.2.2.2.1[i]?=some c->gF b (ŗ b) i c=0
 looks:∀u∈b.2.2.2.2.2,NS (ŗ b) u.1 u.2=0
 nodes:(û b).length<=59
 links:2*(û b).length+2*b.2.2.2.2.1.length<=300
def nB (b:ë):Ž b=0↔(∀g∈b.2.1,iN g=true)/\b.2.1.Pairwise fun a b=>a.1<b.1:=by
 have h0:ć (i8 b.2.1) 0 b.2.1=none↔(∀g∈b.2.1,iN g=true)/\b.2.1.Pairwise fun a b=>a.1<b.1:=by
  rw[Ņ,<-G8 (fun g:è=>g.1) b.2.1];constructor
  ·intro h
   have d:∀(j:Nat) (a:è),b.2.1[j]?=some a->iN a=true/\tU (fun g:è=>g.1) b.2.1 j a=false:=by
    intro j a ha;have:=h j a ha;rw[Nat.zero_add] at this;unfold i8 at this
    split at this
    ·cases this
    ·split at this
     ·cases this
     ·rename_i d h2;exact⟨by simpa using d,by simpa using h2⟩
   refine⟨fun x k=>?_,fun i a ha=>(d i a ha).2⟩;obtain⟨j,l,rfl⟩:=bV.1 k;exact(d j _ (bo l)).1
  ·rintro⟨d,h2⟩ j a ha;rw[bK];simp[i8,d a (bJ ha),h2 j a ha]
 rw[<-h0];unfold Ž
 cases h:ć (i8 b.2.1) 0 b.2.1 with
 |none=>simp
 |some e =>
  have:∀(m:th è) (j:Nat) (x:Int),ć (i8 b.2.1) j m=some x->x≠0:=by
   intro m
   induction m with
   |nil=>intro j x h; cases h
   |cons a m f =>
    intro j x h;unfold ć at h
    cases c:i8 b.2.1 j a with
    |none=>rw[c] at h; exact f _ _ h
    |some y =>
     rw[c] at h;cases h;unfold i8 at c
     split at c
     ·cases c; omega
     ·split at c
      ·cases c; omega
      ·cases c
  simp[this _ _ _ h]
def ii (b:ë):fo b=0↔ι b:=by
 unfold fo;constructor
 ·intro h
  split at h
  ·omega
  rename_i z
  (repeat' split at h)<;>try omega
  ·rename_i g
   have m:Ž b≠0:=by simpa using g
   exact(m h).elim
  ·rename_i n;have:=eP n;rename_i e;simp at this;exact(this h).elim
  ·rename_i v t s r q g e n p o
   have k:Ž b=0:=by simpa using g
   obtain⟨B,A⟩:=(nB b).1 k
   have a:∀x∈nY b (ŗ b),x=0:=fun x j=>by
    have:=cD.1 n x j;simpa using this
   simp only[nY,bq] at a
   have f:ξ b.1 0 1000000=true:=by simpa using z
   simp only[ξ,bn,decide_eq_true_eq] at f;refine⟨⟨f.1,f.2.1,f.2.2⟩,by omega,by omega,by omega,by omega,by omega,B,A,fun u d=>a _ (.inl (cj.2 ⟨u,d,rfl⟩)),fun i l w=>?_,fun i c y=>?_,fun u d=>a _ (.inr (.inr (.inr (cj.2 ⟨u,d,rfl⟩)))),by omega,by omega⟩
   ·obtain⟨hi,rfl⟩:=bC.1 w;exact a _ (.inr (.inl (eM.2 ⟨i,hi,rfl⟩)))
   ·obtain⟨hi,rfl⟩:=bC.1 y;exact a _ (.inr (.inr (.inl (eM.2 ⟨i,hi,rfl⟩))))
 ·intro h
  have f:ξ b.1 0 1000000=true:=by simp[ξ,h.film.1,h.film.2.1,h.film.2.2]
  have g:Ž b=0:=(nB b).2 ⟨h.gauge,h.ids⟩
  have a:(nY b (ŗ b)).find? (fun e=>e != 0)=none:=by
   rw[cD];intro x j;simp only[nY,bq,cj,eM] at j
   have:x=0:=by
    rcases j with⟨u,d,rfl⟩|⟨i,hi,rfl⟩|⟨i,hi,rfl⟩|⟨u,d,rfl⟩
    ·exact h.uses u d
    ·exact h.loans i _ (bo hi)
    ·exact h.compares i _ (bo hi)
    ·exact h.looks u d
   simp[this]
  have:=h.nG; have:=h.nU; have:=h.nL; have:=h.nC; have:=h.nK; have:=h.nodes; have:=h.links;rw[f,g,a];simp only[b8,bP,if_false,bne_self_eq_false];rw[if_neg (by omega),if_neg (by omega),if_neg (by omega),if_neg (by omega),if_neg (by omega),if_neg (by omega),if_neg (by omega)]
section
variable {b:ë}
def ι.nums (h:ι b) {c:Cmp} (a:c∈b.2.2.2.2.1):sZ c=true:=by
 obtain⟨i,hi,rfl⟩:=List.mem_iff_getElem.1 a;have:=h.compares i _ (List.getElem?_eq_getElem hi);unfold gF at this
 split at this
 ·omega
 ·rename_i h; simpa using h
def ι.pilesOf (h:ι b) {c:Cmp} (a:c∈b.2.2.2.2.1):rJ b (ŗ b) c=0:=by
 obtain⟨i,hi,rfl⟩:=List.mem_iff_getElem.1 a;have:=h.compares i _ (List.getElem?_eq_getElem hi);unfold gF at this
 split at this
 ·omega
 ·split at this
  ·omega
  ·exact this
def f9 (c:Cmp):sZ c=true↔(1<=c.1/\c.1<=1099511627776)/\(0<=c.2.1/\c.2.1<=20000)/\(-1125899906842624<=c.2.2.2.2.1/\c.2.2.2.2.1<=1125899906842624)/\(0<=c.2.2.2.2.2.1/\c.2.2.2.2.2.1<=1073741824)/\ξ c.2.2.2.2.2.2 (-10000) 10000=true/\ow c.2.2.1=true/\ow c.2.2.2.1=true:=by
 simp[sZ,inP,Ct,and_assoc]
def ι.size (h:ι b):Γ b:=by
 have i:=h.nG; have h2:=h.nU; have g:=h.nL; have f:=h.nC; have e:=h.nK;refine⟨by omega,by omega,by omega,by omega,by omega,fun c d=>?_⟩;have:=(f9 c).1 (h.nums d);have a:=ļ this.2.2.2.2.2.1;have b:=ļ this.2.2.2.2.2.2;omega
def mG (g:è):iN g=true↔Kc g.2.2.2.2.1=true/\(-1000<=g.2.2.2.2.1.1/\g.2.2.2.2.1.1<=1000)/\g.2.2.2.2.1.2<=100/\(1<=g.1/\g.1<=1099511627776)/\(0<=g.2.1/\g.2.1<=20000)/\(1<=g.2.2.1/\g.2.2.1<=1125899906842624)/\(-1073741824<=g.2.2.2.1.1/\g.2.2.2.1.1<=g.2.2.2.1.2/\g.2.2.2.1.2<=1073741824)/\(0<=g.2.2.2.2.2/\g.2.2.2.2.2<=1048576):=by
 simp[iN,inP,Ct,ξ,and_assoc]
def pP {id:Int} {g:è} (h:Ń b id=some g):g∈b.2.1/\g.1=id:=by
 unfold Ń at h;exact⟨List.mem_of_find?_eq_some h,by simpa using List.find?_some h⟩
def B8 (hi:b.2.1.Pairwise fun a b=>a.1<b.1) {g:è} (c:g∈b.2.1):Ń b g.1=some g:=by
 unfold Ń
 induction d:b.2.1 generalizing b with
 |nil=>rw[d] at c; cases c
 |cons a t e =>
  rw[d] at c hi;rw[bS] at hi;rw[eN];rcases bw.1 c with rfl|c
  ·simp
  ·have f:=hi.1 g c
   have:(a.1==g.1)=false:=by simp; omega
   rw[this];have:=e (b:=(b.1,t,b.2.2)) hi.2 c rfl;exact this
def wK (h:ι b) {id a:Int} (c:gT (ŗ b) id a=0):∃g,Ń b id=some g/\g.2.1<=a:=by
 unfold gT at c;rw[qx h.ids] at c
 split at c
 ·rename_i g d
  split at c
  ·omega
  ·exact⟨g,d,by omega⟩
 ·omega
def Ay (s:th (Int×è)) (id a:Int):gT s id a=0\/gT s id a=4\/gT s id a=5:=by
 unfold gT
 split
 ·split<;>simp
 ·simp
def ι.pile (h:ι b) {c:Cmp} (j:c∈b.2.2.2.2.1) {x:Int} (d:x∈c.2.2.1++c.2.2.2.1):(∃g,Ń b x=some g/\g.2.1<=c.2.1)/\gH b x c.2.1=none:=by
 have a:=h.pilesOf j;unfold rJ at a
 split at a
 ·omega
 rename_i l
 split at a
 ·omega
 rename_i m
 split at a
 ·omega
 rename_i k;have f:=(dF.1 (dG.2 l)) x d;have i:=(dF.1 (dG.2 m)) x d;have e:=(dF.1 (dG.2 k)) x d;simp at f i e;refine⟨wK h ?_,e⟩;rcases Ay (ŗ b) x c.2.1 with h0|h0|h0
 ·exact h0
 ·exact(i h0).elim
 ·exact(f h0).elim
def ι.lefts (h:ι b) {c:Cmp} (d:c∈b.2.2.2.2.1):(é c.2.2.1 c.2.2.2.1).length<=1/\(é c.2.2.2.1 c.2.2.1).length<=1/\(é c.2.2.1 c.2.2.2.1).length+(é c.2.2.2.1 c.2.2.1).length≠0:=by
 have a:=h.pilesOf d;unfold rJ at a
 (repeat' split at a)<;>first|omega|exact⟨by omega,by omega,by omega⟩
def vH {a c:th Int} {x:Int}:x∈é a c↔x∈a/\x∉c:=by
 simp[é]
def ι.rate (h:ι b) {p:th Int} (c:∀x∈p,∃g,Ń b x=some g):tY (CY (ŗ b) p) 1000 100:=by
 unfold CY
 cases p with
 |nil =>
  have:tY (0,1) 1000 100:=⟨by decide,by decide,by decide⟩;exact this
 |cons x t =>
  obtain⟨g,a⟩:=c x (by simp)
  try dsimp only
  rw[qx h.ids,a];have:=(mG g).1 (h.gauge g (pP a).1);exact⟨this.1,this.2.1,this.2.2.1⟩
def ι.rates (h:ι b) {c:Cmp} (e:c∈b.2.2.2.2.1):tY (CY (ŗ b) (é c.2.2.1 c.2.2.2.1)) 1000 100/\tY (CY (ŗ b) (é c.2.2.2.1 c.2.2.1)) 1000 100:=by
 constructor
 ·exact h.rate fun x a=>by
   obtain⟨⟨g,d,_⟩,_⟩:=h.pile e (cB _ (vH.1 a).1);exact⟨g,d⟩
 ·exact h.rate fun x a=>by
   obtain⟨⟨g,d,_⟩,_⟩:=h.pile e (bT _ (vH.1 a).1);exact⟨g,d⟩
def MF {k heat:Int×Int} (a:tY k 200000 10000) (c:ξ heat (-10000) 10000=true):tY (KQ k heat).1 2000000000 10000/\tY (KQ k heat).2 2000000000 10000:=by
 simp only[ξ,Bool.and_eq_true,decide_eq_true_eq] at c;have r1:=QK a (n:=heat.1) ⟨by omega,by omega⟩;have r2:=QK a (n:=heat.2) ⟨by omega,by omega⟩;unfold KQ
 split
 ·exact⟨r2,r1⟩
 ·exact⟨r1,r2⟩
def tQ {c:Cmp} (d:c.2.2.1.length<=1000) (a:c.2.2.2.1.length<=1000) (g:0<=b.1.1) (h2:b.1.1<=1000000) (f:0<=b.1.2) (e:b.1.2<=1000000) :
 (-1000000000<=(mH b c).1/\(mH b c).1<=1000000000)/\(-1000000000<=(mH b c).2/\(mH b c).2<=1000000000):=by
 have bd:∀(n:Nat) (x:Int),n<=1000->0<=x->x<=1000000->0<=((n-1:Nat):Int)*x/\((n-1:Nat):Int)*x<=1000000000:=by
  intro n x i h0 h;refine⟨Int.mul_nonneg (by omega) h0,?_⟩;have:=Int.mul_le_mul (show((n-1:Nat):Int)<=1000 by omega) h h0 (by omega);omega
 have l:=bd _ _ d g h2;have k:=bd _ _ d f e;have b3:=bd _ _ a g h2;have j:=bd _ _ a f e;unfold mH
 try dsimp only
 omega
def tO {r:Int×Int} (h:tY r 2000000000 10000) : -2000000000<=r.1 / r.2/\r.1 / r.2<=2000000000:=by
 have:=E9 (n:=r.1) h.pos;have:=h.num;omega
def xn {r:Int×Int} (h:tY r 2000000000 10000) : -2000000000<=JP r/\JP r<=2000000000:=by
 have:=E9 (n:=-r.1) h.pos;have:=h.num;unfold JP;omega
end
def ċ (l:zb) (f t:Int):Int:=min l.2.1.2 (t-1)-max l.2.1.1 f+1
def fC (id f t:Int):th zb->Int
 |[]=>0
 |l::r=>(if l.1=id/\0<ċ l f t then ċ l f t*l.2.2 else 0)+fC id f t r
def iS (b:ë) (id f t:Int):th Int:=(b.2.2.1.filter fun u=>u.1==id&&inP u.2 f (t-1)).map fun u=>u.2
def rz (b:ë) (g:è) (f t:Int):Int:=fC g.1 f t b.2.2.2.1+(Mh (iS b g.1 f t)).length*g.2.2.2.2.2
def WS (a c:Int):VL a c=min a c:=by unfold VL; split<;>omega
def OJ {b:ë} (h:ι b) {l:zb} (c:l∈b.2.2.2.1):(0<=l.2.1.1/\l.2.1.1<=l.2.1.2/\l.2.1.2<=20000)/\(0<=l.2.2/\l.2.2<=1048576):=by
 obtain⟨i,hi,rfl⟩:=List.mem_iff_getElem.1 c;have:=h.loans i _ (List.getElem?_eq_getElem hi);unfold BU at this
 split at this
 ·omega
 rename_i a
 split at this
 ·omega
 rename_i h2;simp only[ci,Bool.not_eq_false,ξ,inP,bn,decide_eq_true_eq] at a h2;exact⟨a,h2⟩
def OI {l:zb} (h:(0<=l.2.1.1/\l.2.1.1<=l.2.1.2/\l.2.1.2<=20000)/\(0<=l.2.2/\l.2.2<=1048576)) {f t:Int} (a:0<=f) (hd:0<ċ l f t):0<=ċ l f t*l.2.2/\ċ l f t*l.2.2<=20001*1048576:=by
 refine⟨Int.mul_nonneg (by omega) h.2.1,Int.mul_le_mul ?_ h.2.2 h.2.1 (by omega)⟩;unfold ċ;omega
def sI {id f t:Int} (a:0<=f):∀{x:th zb},(∀l∈x,(0<=l.2.1.1/\l.2.1.1<=l.2.1.2/\l.2.1.2<=20000)/\(0<=l.2.2/\l.2.2<=1048576))->0<=fC id f t x/\fC id f t x<=x.length*(20001*1048576)
 |[],_=>by simp[fC]
 |l::r,h=>by
  have e:=sI (id:=id) (t:=t) a (x:=r) fun l c=>h l (by simp[c]);simp only[fC,bz,Int.natCast_succ,Int.add_mul,Int.one_mul]
  split
  ·rename_i d;have:=OI (h l (by simp)) a d.2;omega
  ·omega
abbrev Lk:Type:=Int×Int×Int
def ĺ (b:ë) (g:è):th Lk :=
 [(0,atP (û b) [g.1] g.2.1,g.2.2.1+g.2.2.2.1.2),(atP (û b) [g.1] g.2.1,0,-(g.2.2.1+g.2.2.2.1.1))] ++
 (List.range ((ă b g).length-1)).flatMap fun(k:Nat)=>[(atP (û b) [g.1] g.2.1+k,atP (û b) [g.1] g.2.1+k+1,0),(atP (û b) [g.1] g.2.1+k+1,atP (û b) [g.1] g.2.1+k,rz b g ((ă b g)[k]?.getD 0) ((ă b g)[k+1]?.getD 0))]
def cx (b:ë) (c:Cmp):Int:=atP (û b) (é c.2.2.1 c.2.2.2.1) c.2.1
def cy (b:ë) (c:Cmp):Int:=atP (û b) (é c.2.2.2.1 c.2.2.1) c.2.1
def fW (b:ë) (c:Cmp):th Lk:=[(cy b c,cx b c,(FA b c).2),(cx b c,cy b c,-(FA b c).1)]
def Rf (b:ë):th Lk:=b.2.1.flatMap (ĺ b)++b.2.2.2.2.1.flatMap (fW b)
def Ħ (b:ë) (i:Nat) (g:è):th (Int×Int):=[(1,(i:Int)),(1,(i:Int))]++(List.range ((ă b g).length-1)).flatMap fun _=>[(2,(i:Int)),(2,(i:Int))]
def TQ (b:ë):th (Int×Int):=(b.2.1.mapIdx (Ħ b)).flatten++(b.2.2.2.2.1.mapIdx fun i _=>[(3,(i:Int)),(3,(i:Int))]).flatten
section
variable {b:ë}
def zK (h:ι b) {id a:Int} (c:NS (ŗ b) id a=0):(0<=a/\a<=20000)/\∃g,Ń b id=some g/\g.2.1<=a:=by
 unfold NS at c
 split at c
 ·omega
 ·rename_i hd;simp only[ci,Bool.not_eq_false,Ct,inP,bn,decide_eq_true_eq] at hd;exact⟨hd,wK h c⟩
def wd {g:è} {d:Int}:d∈ă b g↔d=g.2.1\/(∃c∈b.2.2.2.2.1,(c.2.2.1.contains g.1)≠(c.2.2.2.1.contains g.1)/\c.2.1=d)\/(∃n∈b.2.2.2.2.2,n.1=g.1/\n.2=d):=by
 unfold ă;rw[qp,Lq];simp only[List.mem_append,List.mem_singleton,List.mem_map,List.mem_filter];constructor
 ·rintro((h|⟨c,⟨e,h2⟩,a⟩)|⟨n,⟨e,h2⟩,a⟩)
  ·exact .inl h
  ·exact .inr (.inl ⟨c,e,by simpa using h2,a⟩)
  ·exact .inr (.inr ⟨n,e,by simpa using h2,a⟩)
 ·rintro(h|⟨c,e,h2,a⟩|⟨n,e,h2,a⟩)
  ·exact .inl (.inl h)
  ·exact .inl (.inr ⟨c,⟨e,by simpa using h2⟩,a⟩)
  ·exact .inr ⟨n,⟨e,by simpa using h2⟩,a⟩
def ι.gaugeR (h:ι b) {g:è} (a:g∈b.2.1):Kc g.2.2.2.2.1=true/\(-1000<=g.2.2.2.2.1.1/\g.2.2.2.2.1.1<=1000)/\g.2.2.2.2.1.2<=100/\(1<=g.1/\g.1<=1099511627776)/\(0<=g.2.1/\g.2.1<=20000)/\(1<=g.2.2.1/\g.2.2.1<=1125899906842624)/\(-1073741824<=g.2.2.2.1.1/\g.2.2.2.1.1<=g.2.2.2.1.2/\g.2.2.2.1.2<=1073741824)/\(0<=g.2.2.2.2.2/\g.2.2.2.2.2<=1048576):=(mG g).1 (h.gauge g a)
def ι.day (h:ι b) {g:è} (j:g∈b.2.1) {d:Int} (hd:d∈ă b g):g.2.1<=d/\0<=d/\d<=20000:=by
 have m:=h.gaugeR j;have a:=B8 h.ids j;rcases wd.1 hd with rfl|⟨c,k,i,rfl⟩|⟨n,f,i,rfl⟩
 ·have:=m.2.2.2.2.1; omega
 ·have f:=(f9 c).1 (h.nums k)
  have l:g.1∈c.2.2.1++c.2.2.2.1:=by
   rw[bq]
   by_cases h2:g.1∈c.2.2.1
   ·exact .inl h2
   ·refine .inr ?_
    have p:c.2.2.1.contains g.1=false:=by simpa using h2
    rw[p] at i
    have:c.2.2.2.1.contains g.1=true:=by cases q:c.2.2.2.1.contains g.1<;>simp_all
    simpa using this
  obtain⟨⟨g',e,o⟩,_⟩:=h.pile k l;rw[a] at e; cases e;have:=f.2.1;omega
 ·obtain⟨h2,g',e,o⟩:=zK h (h.looks n f);rw[i,a] at e; cases e;omega
def zz (g:è):g.2.1∈ă b g:=wd.2 (.inl rfl)
def Ns (h:ι b) {g:è} (c:g∈b.2.1):(ă b g).length<=59:=by
 have f:∀l:th è,g∈l->(ă b g).length<=(l.flatMap fun g=>(ă b g).map fun d=>((g.1,d):Int×Int)).length:=by
  intro l
  induction l with
  |nil=>intro c; cases c
  |cons a t e =>
   intro c;rw[bX,bp,cd];rcases bw.1 c with rfl|c
   ·omega
   ·have:=e c; omega
 have:=f b.2.1 c;have:=h.nodes;unfold û at this;omega
def KB (h:ι b) {c:Cmp} (d:c∈b.2.2.2.2.1):(-1125904000000000<=(FA b c).1/\(FA b c).1<=1125904000000000)/\(-1125904000000000<=(FA b c).2/\(FA b c).2<=1125904000000000):=by
 obtain⟨r1,r2⟩:=h.rates d;have a:=(f9 c).1 (h.nums d);have ha:=ļ a.2.2.2.2.2.1;have hb:=ļ a.2.2.2.2.2.2;have l:=h.film;obtain⟨i,g⟩:=MF (Kq r1 r2) a.2.2.2.2.1;have m:=tQ (b:=b) (c:=c) (by omega) (by omega) (by omega) (by omega) (by omega) (by omega);have f:tY (η b c).1 2000000000 10000:=i;have e:tY (η b c).2 2000000000 10000:=g;have o:=xn f;have n:=tO e;have k:=a.2.2.1;have j:=a.2.2.2.1;unfold FA
 try dsimp only
 omega
def tJ (h:ι b) {g:è} (d:g∈b.2.1) {f t:Int} (e:0<=f):0<=rz b g f t/\rz b g f t<=12*(20001*1048576)+40*1048576:=by
 have a:=(h.gaugeR d).2.2.2.2.2.2.2;have m:=sI (id:=g.1) (t:=t) e (x:=b.2.2.2.1) fun l c=>OJ h c;have h2:(b.2.2.2.1.length:Int)*(20001*1048576)<=12*(20001*1048576):=Int.mul_le_mul_of_nonneg_right (by have:=h.nL; omega) (by omega)
 have k:(iS b g.1 f t).length<=40:=by
  unfold iS;rw[List.length_map];exact Nat.le_trans (List.length_filter_le _ _) h.nU
 have j:=zf (iS b g.1 f t)
 have i:0<=((Mh (iS b g.1 f t)).length:Int)*g.2.2.2.2.2/\((Mh (iS b g.1 f t)).length:Int)*g.2.2.2.2.2<=40*1048576 :=
  ⟨Int.mul_nonneg (by omega) a.1,Int.mul_le_mul (by omega) a.2 a.1 (by omega)⟩
 unfold rz;omega
end
def mZ {α β:Type} (f:Nat->α->β) {l:th α} {i:Nat} {a:α} (h:l[i]?=some a):(l.take (i+1)).mapIdx f=(l.take i).mapIdx f++[f i a]:=by
 have hi:i<l.length:=(bC.1 h).1
 have:(l.take i).length=i:=by rw[bN]; omega
 rw[take_succ h,List.mapIdx_append];simp[this]
def wG {α:Type} (f:Nat->th α) (j:Nat):(List.range (j+1)).flatMap f=(List.range j).flatMap f++f j:=by
 rw[List.range_succ,dV]; simp
def jW {α:Type} (f:Nat->th α) (n:Nat) (h:∀k,(f k).length=2):((List.range n).flatMap f).length=2*n:=by
 induction n with
 |zero=>rfl
 |succ n a=>rw[wG,bp,a,h]; omega
section
variable {b:ë}
def GK (b:ë) (g:è):(ă b g).Pairwise (·<·):=sU _
def JE (h:ι b) {g:è} (i:g∈b.2.1):∃t,ă b g=g.2.1::t:=by
 have c:=GK b g;have h2:=zz (b:=b) g;have f:∀d∈ă b g,g.2.1<=d:=fun d hd=>(h.day i hd).1
 cases hd:ă b g with
 |nil=>rw[hd] at h2; cases h2
 |cons a t =>
  rw[hd] at c h2 f;rw[bS] at c;rcases bw.1 h2 with e|e
  ·exact⟨t,by rw[e]⟩
  ·have:=c.1 _ e;have:=f a (by simp);omega
def off (b:ë) (i:Nat):Nat:=((b.2.1.take i).flatMap fun g=>(ă b g).map fun d=>((g.1,d):Int×Int)).length
def s7 {i:Nat} {g:è} (a:b.2.1[i]?=some g):û b=((b.2.1.take i).flatMap fun g=>(ă b g).map fun d=>((g.1,d):Int×Int))++(((ă b g).map fun d=>((g.1,d):Int×Int))++((b.2.1.drop (i+1)).flatMap fun g=>(ă b g).map fun d=>((g.1,d):Int×Int))):=by
 obtain⟨hi,rfl⟩:=bC.1 a
 have c:b.2.1=b.2.1.take i++(b.2.1[i]::b.2.1.drop (i+1)):=by
  rw[<-dg hi,List.take_append_drop]
 unfold û
 conv=>lhs; rw[c]
 rw[dV,bX]
def WE (h:ι b) {i:Nat} {g:è} (o:b.2.1[i]?=some g) {k:Nat} {d:Int} (p:(ă b g)[k]?=some d):s8 (û b) g.1 d=some (off b i+k):=by
 obtain⟨hi,l⟩:=List.getElem?_eq_some_iff.1 o;obtain⟨a,c⟩:=List.getElem?_eq_some_iff.1 p;unfold s8;rw[s7 o,List.findIdx?_append,List.findIdx?_append]
 have q:List.findIdx? (fun n:Int×Int=>decide (g.1=n.1)&&decide (d=n.2)) ((b.2.1.take i).flatMap fun g=>(ă b g).map fun d=>((g.1,d):Int×Int))=none:=by
  rw[dz];intro x e;obtain⟨g',m,e⟩:=bW.1 e;obtain⟨r,_,rfl⟩:=cj.1 e;obtain⟨j,f,rfl⟩:=bV.1 m;rw[bN] at f;rw[List.getElem_take];have:=(dh.1 h.ids) j i (by omega) hi (by omega);rw[l] at this;simp only[Bool.and_eq_false_iff,decide_eq_false_iff_not];exact .inl (by omega)
 have h2:List.findIdx? (fun n:Int×Int=>decide (g.1=n.1)&&decide (d=n.2)) ((ă b g).map fun d=>((g.1,d):Int×Int))=some k:=by
  rw[b9];refine⟨by simpa using a,by simp[c],fun j f=>?_⟩;have:=(dh.1 (GK b g)) j k (by omega) a f;rw[c] at this;simp only[List.getElem_map,bn,decide_eq_true_eq,not_and];intro _;omega
 rw[q,h2];simp only[Option.map_some,Option.some_or,Option.none_or];unfold off;congr 1;omega
def FQ {i:Nat} {g:è} (f:b.2.1[i]?=some g) {k:Nat} {d:Int} (a:(ă b g)[k]?=some d):(û b)[off b i+k]?=some (g.1,d):=by
 obtain⟨c,e⟩:=List.getElem?_eq_some_iff.1 a;rw[s7 f,List.getElem?_append_right (by unfold off; omega),List.getElem?_append_left (by unfold off; simp; omega)];unfold off;simp[a]
def Ve (h:ι b) {i:Nat} {g:è} (a:b.2.1[i]?=some g):atP (û b) [g.1] g.2.1=(off b i:Int)+1:=by
 obtain⟨t,c⟩:=JE h (List.mem_of_getElem? a);have:=WE h a (k:=0) (d:=g.2.1) (by rw[c]; rfl);unfold atP;simp only[this];rfl
def Wq (h:ι b) {i:Nat} {g:è} (a:b.2.1[i]?=some g):off b i+(ă b g).length<=(û b).length:=by
 rw[s7 a];unfold off;simp only[List.length_append,List.length_map];omega
def T9 {i:Nat} {g:è} (a:b.2.1[i]?=some g):off b (i+1)=off b i+(ă b g).length:=by
 unfold off;rw[take_succ a,List.flatMap_append];simp
def Re (h:ι b):(Rf b).length=2*(û b).length+2*b.2.2.2.2.1.length:=by
 have i:∀l:th è,(∀g∈l,g∈b.2.1)->(l.flatMap (ĺ b)).length=2*(l.flatMap fun g=>(ă b g).map fun d=>((g.1,d):Int×Int)).length:=by
  intro l
  induction l with
  |nil=>intro _; rfl
  |cons g t a =>
   intro e;have:=a fun g f=>e g (by simp[f]);have j:=List.length_pos_of_mem (zz (b:=b) g);simp only[List.flatMap_cons,List.length_append,List.length_map,this];unfold ĺ;rw[List.length_append,jW _ _ (fun _=>rfl)];simp only[List.length_cons,List.length_nil];omega
 have h2:∀l:th Cmp,(l.flatMap (fW b)).length=2*l.length:=by
  intro l
  induction l with
  |nil=>rfl
  |cons c t a =>
   simp only[bX,bp,a,fW,bz,bD];omega
 unfold Rf;rw[List.length_append,i _ fun _ h=>h,h2];rfl
end
structure Tt (b:ë) (c:Cmp):Prop where
 nums:sZ c=true
 r1:tY (CY (ŗ b) (é c.2.2.1 c.2.2.2.1)) 1000 100
 r2:tY (CY (ŗ b) (é c.2.2.2.1 c.2.2.1)) 1000 100
def ι.cmp {b:ë} (h:ι b) {c:Cmp} (a:c∈b.2.2.2.2.1):Tt b c:=⟨h.nums a,(h.rates a).1,(h.rates a).2⟩
def HG {b:ë} (i:0<=b.1.1/\b.1.1<=b.1.2/\b.1.2<=1000000) {c:Cmp} (h:Tt b c):tY (η b c).1 2000000000 10000/\tY (η b c).2 2000000000 10000/\(-3000000000<=JP (η b c).1+(mH b c).1/\JP (η b c).1+(mH b c).1<=3000000000) /\
 (-3000000000<=(η b c).2.1 / (η b c).2.2+(mH b c).2/\(η b c).2.1 / (η b c).2.2+(mH b c).2<=3000000000)/\(0<=c.2.2.2.2.2.1/\c.2.2.2.2.2.1<=1073741824):=by
 have a:=(f9 c).1 h.nums;have ha:=ļ a.2.2.2.2.2.1;have hb:=ļ a.2.2.2.2.2.2;obtain⟨g,f⟩:=MF (Kq h.r1 h.r2) a.2.2.2.2.1;have j:=tQ (b:=b) (c:=c) (by omega) (by omega) (by omega) (by omega) (by omega) (by omega);have e:tY (η b c).1 2000000000 10000:=g;have d:tY (η b c).2 2000000000 10000:=f;have l:=xn e;have k:=tO d;exact⟨e,d,by omega,by omega,a.2.2.2.1⟩
def idxP (b:ë) (x d:Int):Int:=match s8 (û b) x d with|some j=>(j:Int)+1|none=>0
section
variable {b:ë}
def Wr:off b b.2.1.length=(û b).length:=by unfold off û; rw[List.take_length]
def Ua:∀n,n<=b.2.1.length->∀j,j<off b n->∃(i:Nat) (g:è) (k:Nat),b.2.1[i]?=some g/\k<(ă b g).length/\j=off b i+k:=by
 intro n
 induction n with
 |zero=>intro _ j a; simp[off] at a
 |succ n d =>
  intro e j a;have c:b.2.1[n]?=some b.2.1[n]:=bo (by omega);rw[T9 c] at a
  by_cases h:j<off b n
  ·exact d (by omega) j h
  ·exact⟨n,_,j-off b n,c,by omega,by omega⟩
end
def Py {b:ë}:∀i,i<=b.2.2.2.2.1.length->((b.2.2.2.2.1.take i).flatMap (fW b)).length=2*i/\(((b.2.2.2.2.1.take i).mapIdx fun i _=>[((3:Int),(i:Int)),((3:Int),(i:Int))]).flatten).length=2*i:=by
 intro i
 induction i with
 |zero=>intro _; simp
 |succ i a =>
  intro hi;have a:=a (by omega);have c:b.2.2.2.2.1[i]?=some b.2.2.2.2.1[i]:=bo hi;rw[mZ _ c,take_succ c,dV,eG,bp,bp];simp only[bX,eX,bH,List.flatten_cons,List.flatten_nil,fW,bz,bD];omega
def ym (b:ë) (id a:Int):Bool:=b.2.2.1.any fun u=>u.1==id&&u.2==a
def Lr (b:ë) (g:è) (d:Int):Int:=match gH b g.1 d with|some l=>l.2.2|none=>if ym b g.1 d then g.2.2.2.2.2 else 0
def Q6 (l:zb) (id:Int) {f t:Int} (k:f<=t):(if l.1=id/\0<ċ l f (t+1) then ċ l f (t+1)*l.2.2 else 0)=(if l.1=id/\0<ċ l f t then ċ l f t*l.2.2 else 0)+(if l.1=id/\l.2.1.1<=t/\t<=l.2.1.2 then l.2.2 else 0):=by
 by_cases a:l.1=id
 ·by_cases d:l.2.1.1<=t/\t<=l.2.1.2
  ·have e:ċ l f (t+1)=ċ l f t+1:=by unfold ċ; omega
   have p:0<=ċ l f t:=by unfold ċ; omega
   rw[e,if_pos ⟨a,by omega⟩,if_pos (show l.1=id/\l.2.1.1<=t/\t<=l.2.1.2 from⟨a,d⟩),Int.add_mul,Int.one_mul]
   by_cases c:0<ċ l f t
   ·rw[if_pos ⟨a,c⟩]
   ·rw[if_neg (fun h=>c h.2)]
    have:ċ l f t=0:=by omega
    rw[this];omega
  ·rw[if_neg (show ¬(l.1=id/\l.2.1.1<=t/\t<=l.2.1.2) from fun h=>d h.2),Int.add_zero]
   by_cases j:l.2.1.1<=t
   ·have e:ċ l f (t+1)=ċ l f t:=by unfold ċ; omega
    rw[e]
   ·have i:¬0<ċ l f (t+1):=by unfold ċ; omega
    have g:¬0<ċ l f t:=by unfold ċ; omega
    rw[if_neg (fun h=>i h.2),if_neg (fun h=>g h.2)]
 ·rw[if_neg (fun h=>a h.1),if_neg (fun h=>a h.1),if_neg (fun h=>a h.1)];rfl
def EN (id:Int) {f t:Int} (g:f<=t):∀{x:th zb},x.Pairwise (fun a c=>¬(a.1=c.1/\a.2.1.1<=c.2.1.2/\c.2.1.1<=a.2.1.2)) ->
 fC id f (t+1) x=fC id f t x+(match x.find? (fun l=>l.1==id&&inP t l.2.1.1 l.2.1.2) with|some l=>l.2.2|none=>0)
 |[],_=>rfl
 |l::r,j=>by
  rw[bS] at j;have k:=EN id g j.2;simp only[fC];rw[k,Q6 l id g,eN]
  by_cases d:l.1=id/\l.2.1.1<=t/\t<=l.2.1.2
  ·have e:(l.1==id&&inP t l.2.1.1 l.2.1.2)=true:=by simp[inP,d.1,d.2.1,d.2.2]
   have m:r.find? (fun l=>l.1==id&&inP t l.2.1.1 l.2.1.2)=none:=by
    rw[cD];intro c n i;simp only[inP,bn,beq_iff_eq,decide_eq_true_eq] at i;exact j.1 c n ⟨by rw[d.1,i.1],by omega,by omega⟩
   rw[if_pos d,e,m];simp only;omega
  ·have e:(l.1==id&&inP t l.2.1.1 l.2.1.2)=false:=by
    rw[dG];intro h;simp only[inP,bn,beq_iff_eq,decide_eq_true_eq] at h;exact d h
   rw[if_neg d,e];simp only;omega
section
variable {b:ë}
def ι.apart (h:ι b):b.2.2.2.1.Pairwise (fun a c=>¬(a.1=c.1/\a.2.1.1<=c.2.1.2/\c.2.1.1<=a.2.1.2)):=by
 rw[List.pairwise_iff_getElem];intro i j hi f g ⟨l,h2,k⟩;have e:=h.loans j _ (List.getElem?_eq_getElem f);unfold BU at e
 have d:(b.2.2.2.1.take j).any (fun x=>x.1==b.2.2.2.1[j].1&&(decide (x.2.1.1<=b.2.2.2.1[j].2.1.2)&&decide (b.2.2.2.1[j].2.1.1<=x.2.1.2)))=true:=by
  rw[dw];exact⟨b.2.2.2.1[i],bV.2 ⟨i,by rw[bN]; omega,by rw[List.getElem_take]⟩,by simp[l,h2,k]⟩
 rw[d] at e
 (repeat' split at e)<;>first|omega|simp_all
def ι.notUsed (h:ι b) {id d:Int} {l:zb} (i:gH b id d=some l):ym b id d=false:=by
 have k:=List.mem_of_find?_eq_some i;have g:=eP i;simp only[inP,bn,beq_iff_eq,decide_eq_true_eq] at g;obtain⟨j,m,rfl⟩:=bV.1 k;have e:=h.loans j _ (bo m);rw[dG];intro f;obtain⟨u,f,a⟩:=dw.1 f;simp only[bn,beq_iff_eq] at a
 have c:b.2.2.1.any (fun u=>u.1==b.2.2.2.1[j].1&&inP u.2 b.2.2.2.1[j].2.1.1 b.2.2.2.1[j].2.1.2)=true:=by
  rw[dw];exact⟨u,f,by simp only[inP,bn,beq_iff_eq,decide_eq_true_eq]; exact⟨by rw[a.1,g.1],by omega,by omega⟩⟩
 unfold BU at e;rw[c] at e
 (repeat' split at e)<;>first|omega|simp_all
def Ho {id f t:Int} (j:f<=t):Mh (iS b id f (t+1))=Mh (iS b id f t)++if ym b id t then[t] else[]:=by
 have i:∀t x,x∈iS b id f t↔ym b id x=true/\f<=x/\x<t:=by
  intro t x;unfold iS ym;simp only[List.mem_map,List.mem_filter,List.any_eq_true,inP,Bool.and_eq_true,beq_iff_eq,decide_eq_true_eq];constructor
  ·rintro⟨u,⟨d,h2,e,m⟩,rfl⟩;exact⟨⟨u,d,h2,rfl⟩,e,by omega⟩
  ·rintro⟨⟨u,d,h2,rfl⟩,e,m⟩;exact⟨u,⟨d,h2,e,by omega⟩,rfl⟩
 refine LO (sU _) ?_ fun x=>?_
 ·rw[List.pairwise_append]
  refine⟨sU _,by split<;>simp,fun a ha c l=>?_⟩
  rw[qp,i] at ha
  split at l
  ·rw[br] at l; omega
  ·cases l
 ·rw[qp,i,bq,qp,i]
  by_cases g:ym b id t=true
  ·rw[if_pos g,br];constructor
   ·rintro⟨d,h2,e⟩
    by_cases k:x=t
    ·exact .inr k
    ·exact .inl ⟨d,h2,by omega⟩
   ·rintro(⟨d,h2,e⟩|rfl)
    ·exact⟨d,h2,by omega⟩
    ·exact⟨g,j,by omega⟩
  ·rw[if_neg g];constructor
   ·rintro⟨d,h2,e⟩;refine .inl ⟨d,h2,?_⟩
    by_cases k:x=t
    ·rw[k] at d; exact absurd d g
    ·omega
   ·rintro(⟨d,h2,e⟩|h)
    ·exact⟨d,h2,by omega⟩
    ·cases h
def QY (h:ι b) (g:è) {f t:Int} (a:f<=t):rz b g f (t+1)=rz b g f t+Lr b g t:=by
 unfold rz Lr;rw[EN g.1 a h.apart,Ho a];show fC g.1 f t b.2.2.2.1+(match gH b g.1 t with|some l=>l.2.2|none=>0)+_=_
 cases ha:gH b g.1 t with
 |some l =>
  rw[h.notUsed ha];simp only[bP,if_false,bH];omega
 |none =>
  simp only
  cases ym b g.1 t with
  |true=>simp only[if_true,bp,bY,Int.natCast_add,Int.add_mul]; omega
  |false=>simp only[bP,if_false,bH]; omega
def BS (g:è) {f t:Int} (c:t<=f):rz b g f t=0:=by
 unfold rz
 have h:∀x:th zb,fC g.1 f t x=0:=by
  intro x
  induction x with
  |nil=>rfl
  |cons l r a =>
   simp only[fC];rw[a,if_neg (by unfold ċ; omega)];rfl
 have h2:iS b g.1 f t=[]:=by
  unfold iS
  rw[List.filter_eq_nil_iff.2 fun u i d=>by
   simp only[inP,bn,beq_iff_eq,decide_eq_true_eq] at d
   omega]
  rfl
 rw[h,h2];have e:Mh ([]:th Int)=[]:=rfl;rw[e];simp
end
def Jt (a:th (th Int)) (i:Nat):(a.take i).flatten.length<=a.flatten.length:=by
 conv=>rhs; rw[<-List.take_append_drop i a,eG,bp]
 omega
def PJ {a:th (th Int)} (q:a.length<=1000000) (r:a.flatten.length<=1000000):ü a=some a.flatten:=by
 have m:∀n:Nat,n<=4000000->∀(f:Int->so (th Int)),ck (n:Int) f=f n:=fun n h f=>ö (by omega) (by omega) f
 have c:Ü (fun(k:ge) d=>ã a (â a) k.1 k.2 (fun g e=>d (g,e)) (fun z8=>some z8)) ((0:Int),([]:th Int))=some a.flatten:=by
  refine ĝ a (fun i=>(a.take i).flatten) (some a.flatten) (f:=fun(k:ge) d=>ã a (â a) k.1 k.2 (fun g e=>d (g,e)) (fun z8=>some z8)) rfl (fun i x hi j kn=>?_) (fun kn=>?_)
  ·try dsimp only
   unfold ã;have l:=Jt a (i+1);rw[take_succ j,List.flatten_append,List.length_append] at l;simp only[List.flatten_cons,List.flatten_nil,List.append_nil] at l;rw[Ó hi,Å j,Í hi (by omega),take_succ j,List.flatten_append];have:Ñ ((List.take i a).flatten.length+x.length)=true:=Ð (by omega);rw[ŋ this];simp
  ·try dsimp only
   unfold ã;rw[ß];simp
 unfold ü gj;refine fB (fun x:Int×Int=>∃i:Nat,i<=a.length/\x=(((a.take i).flatten.length:Int),(i:Int))) (fun x=>a.length-x.2.toNat) ?_ ⟨0,by omega,rfl⟩;rintro x ⟨i,hi,rfl⟩;rcases Nat.lt_or_ge i a.length with h2|h2
 ·refine .inr ⟨(((a.take (i+1)).flatten.length:Int),(i:Int)+1),⟨i+1,h2,by simp⟩,by simp; omega,fun kn=>?_⟩;obtain⟨x,j⟩:∃x,a[i]?=some x:=⟨_,bo h2⟩;have l:=Jt a (i+1);rw[take_succ j,eG,bp] at l;simp only[List.flatten_cons,List.flatten_nil,bH] at l
  try dsimp only
  unfold ď;rw[Ó h2,Å j,ó]
  have p:(((List.take i a).flatten.length:Int)+(x.length:Int))=((List.take i a).flatten.length+x.length:Nat):=by omega
  rw[p,m _ (by omega)]
  have:ilt ((((List.take i a).flatten.length+x.length:Nat)):Int) 0=false:=by simp[ilt]; omega
  rw[Ö this,Í h2 (by omega),take_succ j];simp
 ·refine .inl fun kn=>?_
  obtain rfl:i=a.length:=by omega
  try dsimp only
  unfold ď;rw[ß,List.take_length];have o:ilt ((a.flatten.length:Nat):Int) 0=false:=decide_eq_false (by omega);dsimp only;rw[Ö o,Int.sub_zero,m _ (by omega)];rcases Nat.eq_zero_or_pos a.flatten.length with h0|h0
  ·have:igt (a.flatten.length:Int) 0=false:=decide_eq_false (by omega);rw[Ö this];exact c
  ·have:igt (a.flatten.length:Int) 0=true:=decide_eq_true (by omega);rw[Þ this]
   have:((ilt (0:Int) (a.flatten.length:Int))&&(Ñ (Int.toNat (a.flatten.length:Int))))=true:=by
    rw[bU,Ð (by omega),Bool.and_true];exact decide_eq_true (by omega)
   rw[ŋ this];have:ile 0 (θ (List.replicate (Int.toNat (a.flatten.length:Int)) (0:Int)))=true:=decide_eq_true (Int.natCast_nonneg _);rw[ŋ this];exact c
def pR {α:Type} (p:α->Bool) (l:th α) (i:Nat):((l.take i).filter p).length<=l.length:=by
 have a:=cJ p (l.take i);rw[bN] at a;omega
def Em (x y:Int) (g:Bool):∀m:th (Int×Bool),mP (k:=tI) (v:=.bool) x (Ar (k:=tI) (v:=.bool) y g m)=if x=y then some g else mP (k:=tI) (v:=.bool) x m
 |[]=>by
  unfold Ar mP fM mP
  by_cases h:x=y<;>simp[h]
 |e::m=>by
  unfold Ar
  by_cases h:y=e.1
  ·have:fM tI y e.1=true:=by simp[fM,h]
   rw[this]
   try dsimp only
   unfold mP fM
   by_cases h2:x=y
   ·simp[h2]
   ·have:¬x=e.1:=fun a=>h2 (a.trans h.symm);simp[h2,this]
  ·have:fM tI y e.1=false:=by simp[fM,h]
   rw[this]
   try dsimp only
   have c:=Em x y g m;unfold mP
   by_cases h2:x=e.1
   ·have:fM tI x e.1=true:=by simp[fM,h2]
    rw[this];have:¬x=y:=fun a=>h (a.symm.trans h2);simp[this]
   ·have:fM tI x e.1=false:=by simp[fM,h2]
    rw[this];exact c
def HI (l:th Int):th (Int×Bool):=l.foldl (fun m x=>Ar (k:=tI) (v:=.bool) x true m) []
def uj (l:th Int) (x:Int):HI (l++[x])=Ar (k:=tI) (v:=.bool) x true (HI l):=by unfold HI; rw[List.foldl_append]; rfl
def Im (x:Int):∀(l:th Int) (m:th (Int×Bool)),mP (k:=tI) (v:=.bool) x (l.foldl (fun m x=>Ar (k:=tI) (v:=.bool) x true m) m)=if l.contains x then some true else mP (k:=tI) (v:=.bool) x m
 |[],m=>by simp
 |y::l,m=>by
  rw[dE,Im x l,Em]
  by_cases h:x=y
  ·subst h; simp
  ·simp[h]
def Ik (l:th Int) (x:Int):mP (k:=tI) (v:=.bool) x (HI l)=if l.contains x then some true else none:=Im x l []
def ue (b:ë) (s:Int×Int):th Int:=if s.1=3 then(match b.2.2.2.2.1[s.2.toNat]? with|some c=>c.2.2.1++c.2.2.2.1|none=>[]) else(match b.2.1[s.2.toNat]? with|some g=>[g.1]|none=>[])
def Cv (b:ë) (a looks:th (Int×Int)):th Int:=a.flatMap (ue b)++looks.map fun n=>n.1
def wh (a:th (Int×Int)):th Int:=(a.filter fun s=>s.1==3).map fun s=>s.2
def yX (w:th Int):Nat->th Cmp->th Cmp
 |_,[]=>[]
 |i,c::t=>if w.contains (i:Int) then c::yX w (i+1) t else yX w (i+1) t
def cutBk (b:ë) (a looks:th (Int×Int)):ë :=
 (b.1,b.2.1.filter fun g=>(Cv b a looks).contains g.1,b.2.2.1.filter fun u=>(Cv b a looks).contains u.1,b.2.2.2.1.filter fun l=>(Cv b a looks).contains l.1,yX (wh a) 0 b.2.2.2.2.1,looks)
def SrcOk (b:ë) (s:Int×Int):Prop:=((s.1=1\/s.1=2)/\0<=s.2/\s.2<b.2.1.length)\/(s.1=3/\0<=s.2/\s.2<b.2.2.2.2.1.length)
def ER (w:th Int) (c:Cmp):∀(l:th Cmp) (i:Nat),yX w i (l++[c])=yX w i l++if w.contains ((i+l.length:Nat):Int) then[c] else[]
 |[],i=>by simp only[cr,yX,bD,dA]
 |a::l,i=>by
  have e:((i+1+l.length:Nat):Int)=((i+(l.length+1):Nat):Int):=by congr 1; omega
  simp only[cW,yX,ER w c l (i+1),bz,e]
  split<;>rfl
def Jh (w:th Int):∀(l:th Cmp) (i:Nat),(yX w i l).length<=l.length
 |[],i=>by simp[yX]
 |a::l,i=>by
  have:=Jh w l (i+1);simp only[yX]
  split<;>simp only[bz]<;>omega
def B3 {ρ:Type} (x:Int) (l:th Int) (f:Bool->so ρ) (g:so ρ):VK (k:=tI) (v:=.bool) x (HI l) f g=if l.contains x then f true else g:=by
 unfold VK;rw[Ik]
 by_cases h:l.contains x=true
 ·rw[if_pos h,if_pos h]
 ·rw[if_neg h,if_neg h]
section
variable {ρ:Type}
def cut_L3 (l:th (Int×Int)) (g:l.length<=1000) (ids:th Int) (K:th (Int×Int)->so ρ):Ü (fun(c:(Val (.pair tI (.slice Ë)))) d=>mr l (â l) (HI ids) c.1 c.2 (fun f e=>d (f,e)) K) ((0:Int),[])=K (l.filter fun u=>ids.contains u.1):=by
 refine ĝ l (fun i=>(l.take i).filter fun u=>ids.contains u.1) _ rfl (fun i a hi ha kn=>?_) (fun kn=>?_)
 ·try dsimp only
  unfold mr;have j:=pR (fun u:Int×Int=>ids.contains u.1) l i;rw[Ó hi,Å ha,B3,take_succ ha,List.filter_append]
  by_cases h:ids.contains a.1=true
  ·rw[if_pos h,fE,ŋ (Ð (by simp only[bY]; omega)),Í hi (by omega)];simp only[cE,cO,h,if_pos]
  ·rw[if_neg h,Í hi (by omega)];simp only[cE,cO,h,if_neg,bP,not_false_eq_true,bH]
 ·try dsimp only
  unfold mr;rw[ß,List.take_length]
def cut_L4 (l:th zb) (g:l.length<=1000) (ids:th Int) (K:th zb->so ρ):Ü (fun(c:(Val (.pair tI (.slice Ŧ)))) d=>mq l (â l) (HI ids) c.1 c.2 (fun f e=>d (f,e)) K) ((0:Int),[])=K (l.filter fun u=>ids.contains u.1):=by
 refine ĝ l (fun i=>(l.take i).filter fun u=>ids.contains u.1) _ rfl (fun i a hi ha kn=>?_) (fun kn=>?_)
 ·try dsimp only
  unfold mq;have j:=pR (fun u:zb=>ids.contains u.1) l i;rw[Ó hi,Å ha,B3,take_succ ha,List.filter_append]
  by_cases h:ids.contains a.1=true
  ·rw[if_pos h,fE,ŋ (Ð (by simp only[bY]; omega)),Í hi (by omega)];simp only[cE,cO,h,if_pos]
  ·rw[if_neg h,Í hi (by omega)];simp only[cE,cO,h,if_neg,bP,not_false_eq_true,bH]
 ·try dsimp only
  unfold mq;rw[ß,List.take_length]
def cut_L5 (l:th Cmp) (m:l.length<=1000) (k:∀c∈l,c.2.2.1.length<=1000/\c.2.2.2.1.length<=1000) (w:th Int) (K:th Cmp->so ρ):Ü (fun(d:(Val (.pair tI (.slice Ú)))) f=>mo l (â l) (HI w) d.1 d.2 (fun j g=>f (j,g)) K) ((0:Int),[])=K (yX w 0 l):=by
 refine ĝ l (fun i=>yX w 0 (l.take i)) _ rfl (fun i a hi ha kn=>?_) (fun kn=>?_)
 ·try dsimp only
  unfold mo;have n:=Jh w (l.take i) 0;have h2:=k a (List.mem_of_getElem? ha)
  have e:(l.take i).length=i:=by rw[bN]; omega
  rw[Ó hi,Å ha,B3,take_succ ha,ER,e,bK]
  by_cases h:w.contains (i:Int)=true
  ·rw[if_pos h,if_pos h,fE,ŋ (Ð (by omega)),ŋ (Ð (by omega)),ŋ (Ð (by simp only[bY]; omega)),Í hi (by omega)]
  ·rw[if_neg h,if_neg h,Í hi (by omega)];simp only[bH]
 ·try dsimp only
  unfold mo;rw[ß,List.take_length]
def cut_L2 (looks:th (Int×Int)) (g:looks.length<=1000) (ids:th Int) (K:th (Int×Bool)->so ρ):Ü (fun(c:(Val (.pair tI (.map tI .bool)))) d=>mu looks (â looks) c.1 c.2 (fun f e=>d (f,e)) K) ((0:Int),HI ids)=K (HI (ids++looks.map fun n=>n.1)):=by
 refine ĝ looks (fun i=>HI (ids++(looks.take i).map fun n=>n.1)) _ (by simp) (fun i a hi ha kn=>?_) (fun kn=>?_)
 ·try dsimp only
  unfold mu;rw[Ó hi,Å ha,Í hi (by omega),take_succ ha,List.map_append,<-List.append_assoc,List.map_singleton,uj]
 ·try dsimp only
  unfold mu;rw[ß,List.take_length]
def cut_L1 (xs:th Int) (g:xs.length<=10000) (ids:th Int) (K:th (Int×Bool)->so ρ):Ü (fun(c:(Val (.pair tI (.map tI .bool)))) d=>mw xs (â xs) c.1 c.2 (fun f e=>d (f,e)) K) ((0:Int),HI ids)=K (HI (ids++xs)):=by
 refine ĝ xs (fun i=>HI (ids++xs.take i)) _ (by simp) (fun i a hi ha kn=>?_) (fun kn=>?_)
 ·try dsimp only
  unfold mw;rw[Ó hi,Å ha,Í hi (by omega),take_succ ha,<-List.append_assoc,uj]
 ·try dsimp only
  unfold mw;rw[ß,List.take_length]
end
def qJ {ρ α:Type} {l:th α} {i:Int} (h0:0<=i) {a:α} (h:l[i.toNat]?=some a) (f:α->so ρ):ø l i f=f a:=by
 obtain⟨n,rfl⟩:=dI h0;exact Å (by simpa using h) f
def cut_ok {b:ë} (e:Γ b) {a looks:th (Int×Int)} (z:a.length<=1000) (h2:looks.length<=1000) (p:∀s∈a,SrcOk b s):GH b a looks=some (cutBk b a looks):=by
 have B:=e.gauges; have w:=e.uses; have u:=e.loans; have t:=e.compares; have A:=e.looks;unfold GH QW vq;refine ĝ a (fun i=>(HI ((a.take i).flatMap (ue b)),HI (wh (a.take i)))) _ rfl (fun i s hi ha kn=>?_) (fun kn=>?_)
 ·try dsimp only
  unfold qB;have l:=p s (List.mem_of_getElem? ha);rw[Ó hi,Å ha,take_succ ha,List.flatMap_append]
  have y:wh (a.take i++[s])=wh (a.take i)++if s.1=3 then[s.2] else[]:=by
   unfold wh;rw[List.filter_append,List.map_append];congr 1
   by_cases h:s.1=3<;>simp[h]
  rw[y];rcases l with⟨d,h0,r⟩|⟨d,h0,r⟩
  ·have f:b.2.1[s.2.toNat]?=some b.2.1[s.2.toNat]:=bo (by omega);generalize b.2.1[s.2.toNat]=g at f
   have o:ue b s=[g.1]:=by
    unfold ue;rw[if_neg (by omega),f]
   have m:List.flatMap (ue b) [s]=[g.1]:=by simp[o]
   rw[Ö (decide_eq_false (by omega)),if_neg (by omega),bH,m,uj];rcases d with d|d
   ·rw[Þ (decide_eq_true d),qJ h0 f,Í hi (by omega)]
   ·rw[Ö (decide_eq_false (by omega)),Þ (decide_eq_true d),qJ h0 f,Í hi (by omega)]
  ·have j:b.2.2.2.2.1[s.2.toNat]?=some b.2.2.2.2.1[s.2.toNat]:=bo (by omega);have q:=e.piles b.2.2.2.2.1[s.2.toNat] (List.getElem_mem _);generalize b.2.2.2.2.1[s.2.toNat]=c at j q
   have o:ue b s=c.2.2.1++c.2.2.2.1:=by
    unfold ue;rw[if_pos d,j]
   have m:List.flatMap (ue b) [s]=c.2.2.1++c.2.2.2.1:=by simp[o]
   rw[Ö (decide_eq_false (by omega)),Ö (decide_eq_false (by omega)),Ö (decide_eq_false (by omega)),ŋ (decide_eq_true d),if_pos d,m,qJ h0 j,qJ h0 j,PJ (by simp) (by simp; omega),À];rw[show([c.2.2.1,c.2.2.2.1]:th (th Int)).flatten=c.2.2.1++c.2.2.2.1 by simp];refine(cut_L1 (c.2.2.1++c.2.2.2.1) (by simp; omega) _ _).trans ?_;rw[uj,Í hi (by omega)]
 ·try dsimp only
  unfold qB;rw[ß];dsimp only;rw[List.take_length];refine(cut_L2 looks h2 _ _).trans ?_;rw[show(a.flatMap (ue b)++looks.map fun n=>n.1)=Cv b a looks from rfl];unfold qG
  try dsimp only
  rw[ŋ (Ð (by omega)),À]
  have x:(List.filter (fun g=>(mP (k:=tI) (v:=.bool) g.1 (HI (Cv b a looks))).getD false) b.2.1)=b.2.1.filter fun g=>(Cv b a looks).contains g.1:=by
   refine List.filter_congr fun g _=>?_;rw[Ik]
   cases(Cv b a looks).contains g.1<;>rfl
  rw[x];unfold iz;dsimp only;refine(cut_L3 b.2.2.1 w _ _).trans ?_;refine(cut_L4 b.2.2.2.1 u _ _).trans ?_;refine(cut_L5 b.2.2.2.2.1 t e.piles _ _).trans ?_;rfl
def Sg {k:Int×Int} (d:0<k.2) (m n:Int):0<cmpP (xQ k m) (xQ k n)↔k.1*n<k.1*m:=by
 obtain⟨g,q,_,p,o⟩:=ut (n:=k.1*m) d;obtain⟨h,h0,_,l,h2⟩:=ut (n:=k.1*n) d
 have a:(xQ k n).1*(xQ k m).2<(xQ k m).1*(xQ k n).2↔k.1*n<k.1*m:=by
  have i:(xQ k n).1*(xQ k m).2*((g:Int)*h)=k.1*n*k.2:=by
   show(qs (k.1*n) k.2).1*(qs (k.1*m) k.2).2*((g:Int)*h)=k.1*n*k.2
   calc _=((qs (k.1*n) k.2).1*h)*((qs (k.1*m) k.2).2*g):=by ac_rfl
    _=_:=by rw[<-l,<-o]
  have f:(xQ k m).1*(xQ k n).2*((g:Int)*h)=k.1*m*k.2:=by
   show(qs (k.1*m) k.2).1*(qs (k.1*n) k.2).2*((g:Int)*h)=k.1*m*k.2
   calc _=((qs (k.1*m) k.2).1*g)*((qs (k.1*n) k.2).2*h):=by ac_rfl
    _=_:=by rw[<-p,<-h2]
  have j:0<(g:Int)*h:=Int.mul_pos (by omega) (by omega);constructor
  ·intro c;have:=Int.mul_lt_mul_of_pos_right c j;rw[i,f] at this;exact Int.lt_of_mul_lt_mul_right this (by omega)
  ·intro c;have:=Int.mul_lt_mul_of_pos_right c d;rw[<-i,<-f] at this;exact Int.lt_of_mul_lt_mul_right this (by omega)
 rw[<-a];unfold cmpP
 by_cases e:xQ k m=xQ k n
 ·rw[if_pos e,e];omega
 ·rw[if_neg e]
  split
  ·omega
  ·split<;>omega
def Od {k:Int×Int} (c:0<k.2) {heat:Int×Int} (d:heat.1<=heat.2):KQ k heat=if k.1<0 then(xQ k heat.2,xQ k heat.1) else(xQ k heat.1,xQ k heat.2):=by
 unfold KQ
 by_cases a:k.1<0
 ·rw[if_pos a]
  by_cases e:heat.1=heat.2
  ·rw[e]
   split<;>rfl
  ·rw[if_pos ((Sg c _ _).2 (Int.mul_lt_mul_of_neg_left (by omega) a))]
 ·rw[if_neg a,if_neg (fun h=>by
   have f:=(Sg c _ _).1 h;have h2:=Int.mul_le_mul_of_nonneg_left d (show 0<=k.1 by omega)
   omega)]
def Fl (c:Cmp):Bool:=decide (c.2.2.1.length<=10)&&decide (c.2.2.2.1.length<=10)
def SM (c:Cmp):qP c=some (Fl c):=by
 unfold qP Er Fl;rw[ó,ó,œ]
 by_cases h:c.2.2.1.length<=10
 ·rw[if_pos (by simp[ile]; omega)];simp[ile,h];omega
 ·rw[if_neg (by simp[ile]; omega)];simp[h]
def fewP (b:ë):Bool :=
 !((b.2.2.2.2.1.take 50).any fun c=>!Fl c)&&(decide (b.2.1.length<=14)&&(decide (b.2.2.1.length<=45)&&(decide (b.2.2.2.1.length<=14)&&(decide (b.2.2.2.2.1.length<=42)&&decide (b.2.2.2.2.2.length<=12)))))
def few_ok (b:ë):zr b=some (fewP b):=by
 unfold zr ML
 have a:(ifb (ile (â b.2.1) (14:Int)) (ifb (ile (â b.2.2.1) (45:Int)) (ifb (ile (â b.2.2.2.1) (14:Int)) (ifb (ile (â b.2.2.2.2.1) (42:Int)) (some (ile (â b.2.2.2.2.2) (12:Int))) (some false)) (some false)) (some false)) (some false)) =
  some (decide (b.2.1.length<=14)&&(decide (b.2.2.1.length<=45)&&(decide (b.2.2.2.1.length<=14)&&(decide (b.2.2.2.2.1.length<=42)&&decide (b.2.2.2.2.2.length<=12))))):=by
  have e:∀(n m:Nat),ile (n:Int) (m:Int)=decide (n<=m):=fun n m=>by simp[ile]
  rw[ó,ó,ó,ó,ó,show(14:Int)=((14:Nat):Int) from rfl,show(45:Int)=((45:Nat):Int) from rfl,show(42:Int)=((42:Nat):Int) from rfl,show(12:Int)=((12:Nat):Int) from rfl,e,e,e,e,e];generalize decide (b.2.1.length<=14)=l;generalize decide (b.2.2.1.length<=45)=k;generalize decide (b.2.2.2.1.length<=14)=j;generalize decide (b.2.2.2.2.1.length<=42)=g
  cases l<;>cases k<;>cases j<;>cases g<;>rfl
 rw[a];refine dc (Ő (b.2.2.2.2.1.take 50) (fun c=>!Fl c) (fun _=>some false) (some false) (some (decide (b.2.1.length<=14)&&(decide (b.2.2.1.length<=45)&&(decide (b.2.2.2.1.length<=14)&&(decide (b.2.2.2.2.1.length<=42)&&decide (b.2.2.2.2.2.length<=12)))))) (fun _=>rfl) (fun i c hi f kn=>?_) (fun kn=>?_)) ?_
 ·try dsimp only
  unfold m8;rw[List.length_take] at hi
  have d:b.2.2.2.2.1[i]?=some c:=by rw[cn] at f; split at f<;>simp_all
  rw[Ó (show i<b.2.2.2.2.1.length by omega),Þ (decide_eq_true (by omega)),Å d,SM,À,ö (by omega) (by omega),œ]
 ·try dsimp only
  unfold m8;rw[List.length_take,œ]
  split
  ·rename_i h
   have h':50<b.2.2.2.2.1.length:=by rw[ó] at h; simp[ilt] at h; omega
   rw[Ö (decide_eq_false (by omega))]
  ·rfl
 ·unfold fewP
  cases List.any (List.take 50 b.2.2.2.2.1) (fun c=>!Fl c)<;>rfl
def qN {b:ë} (h:fewP b=true):Γ b:=by
 simp only[fewP,bn,ci,decide_eq_true_eq] at h;obtain⟨h0,g,h2,f,e,d⟩:=h;refine⟨by omega,by omega,by omega,by omega,by omega,fun c a=>?_⟩;rw[cm (by omega)] at h0;have:=dF.1 h0 c a;simp[Fl] at this;omega
end Go.Proofs.ZzM
end

noncomputable section
namespace Go.Proofs.ZzM
open Go Go.Am
abbrev BL:Type:=th UInt8
abbrev toL (s:ByteArray):BL:=s.data.toList
abbrev ofL (l:BL):ByteArray:=⟨l.toArray⟩
def Km {s t:ByteArray} (h:toL s=toL t):s=t:=by
 obtain⟨⟨s⟩⟩:=s; obtain⟨⟨t⟩⟩:=t; cases h; rfl
def mW (s:ByteArray):ofL (toL s)=s:=Km rfl
def ç (a b:BL):ofL a++ofL b=ofL (a++b):=Km (by rw[toL,ByteArray.toList_data_append])
def Ï (l:BL):(ofL l).size=l.length:=by rw[Lib.size_eq]
def uh (s:ByteArray):s.size=(toL s).length:=Lib.size_eq s
def Qz {a b:BL} (h:ofL a=ofL b):a=b:=by have:=congrArg toL h; simpa using this
def ś (l:BL) (i j:Nat):(ofL l).extract i j=ofL ((l.take j).drop i):=by
 apply Km;have:=Lib.extract_toList (ofL l) i j;rw[ByteArray.toList_eq] at this;rw[toL,this,List.drop_take]
def nQ (a b:BL):((ofL a).toList==(ofL b).toList)=decide (a=b):=by
 rw[ByteArray.toList_eq,ByteArray.toList_eq]
 by_cases h:a=b
 ·simp[h]
 ·simp[h]
def qq (a b:BL):KA (ofL a) (ofL b)=decide (a=b):=rfl
open Lib in
def xi {u k:Nat} (h:u<10 ^ (k+1)):(decDigits u).length<=k+1:=by
 induction k generalizing u with
 |zero=>rw[decDigits,dif_pos (by simpa using h)]; simp
 |succ k a =>
  rw[decDigits]
  split
  ·simp
  ·have:=a (u:=u / 10) (by rw[Nat.pow_succ] at h; omega);simp; omega
def Cs (u:Nat):∀c∈Lib.decDigits u,48<=c.toNat/\c.toNat<=57:=by
 induction u using Nat.strongRecOn with
 |ind u ih =>
  rw[Lib.decDigits]
  have one:∀d:Nat,d<10->48<=(UInt8.ofNat (48+d)).toNat/\(UInt8.ofNat (48+d)).toNat<=57:=fun d hd=>by
   rw[UInt8.toNat_ofNat']; omega
  split
  ·intro c a; rw[br.1 a]; exact one u (by omega)
  ·intro c a;rcases bq.1 a with a|a
   ·exact ih (u / 10) (by omega) c a
   ·rw[br.1 a]; exact one (u % 10) (by omega)
def VO (u:Nat):Lib.decDigits u≠[]:=by
 rw[Lib.decDigits]; split<;>simp
def ES (n:Int):∀c∈Lib.itoa n,c.toNat=45\/48<=c.toNat/\c.toNat<=57:=by
 unfold Lib.itoa
 split
 ·intro c a;rcases bw.1 a with rfl|a
  ·exact .inl rfl
  ·exact .inr (Cs _ c a)
 ·exact fun c a=>.inr (Cs _ c a)
def Ux {n:Int} {k:Nat} (h:n.natAbs<10 ^ (k+1)):(Lib.itoa n).length<=k+2:=by
 unfold Lib.itoa
 split
 ·have:=xi h; simp; omega
 ·have:=xi (u:=n.toNat) (k:=k) (by omega); omega
def ų {n:Int} (h:I64 n):(Lib.itoa n).length<=20:=Ux (k:=18) (by obtain⟨a,h2⟩:=h; omega)
def Tq {n:Int} (h:I64 n):Ŵ n=some (ofL (Lib.itoa n)):=by
 unfold Ŵ Rq i64B;simp[h.1,h.2,ofL]
def fp {d:Int} (h0:0<=d) (a:d<10):Β [IntKind.wrap .u8 (48+d)]=ofL [UInt8.ofNat (48+d.toNat)]:=by
 obtain⟨k,rfl⟩:=dI h0
 have:IntKind.wrap .u8 (48+(k:Int))=((48+k:Nat):Int):=by
  simp only[IntKind.wrap,IntKind.bits,IntKind.signed];simp;omega
 rw[this]; rfl
def xF (m:Nat):Int.tmod (m:Int) 10=((m % 10:Nat):Int):=(Int.ofNat_tmod m 10).symm
def Mb (m:Nat):Int.tdiv (m:Int) 10=((m / 10:Nat):Int):=(Int.ofNat_tdiv m 10).symm
def Nr {g:Int->so ByteArray} {a:Nat} (ha:a<=9223372036854775807):∀(u:Nat) (acc:BL),u<=a->acc.length<=100+(a-u)->(if u<10 then[] else Lib.decDigits (u / 10))++acc=Lib.decDigits a ->
 Ü (fun(c:Int×ByteArray) d=>gw g c.1 c.2 (fun f e=>d (f,e)) (fun z9=>(some z9:so ByteArray))) ((u:Int),ofL acc)=some (ofL (Lib.decDigits a)):=by
 intro u acc j o hd;refine fB (fun x=>∃(u:Nat) (acc:BL),x=((u:Int),ofL acc)/\u<=a/\(if u<10 then[] else Lib.decDigits (u / 10))++acc=Lib.decDigits a) (fun x=>x.1.toNat) ?_ ⟨u,acc,rfl,j,hd⟩;rintro x ⟨u,acc,rfl,j,hd⟩;unfold gw
 by_cases h:u<10
 ·refine .inl fun kn=>?_;rw[Ö (by simp[igt]; omega)];simp only[h,if_true,cr] at hd;rw[<-hd]
 ·refine .inr ⟨(((u / 10:Nat):Int),ofL (UInt8.ofNat (48+u / 10 % 10)::acc)),⟨u / 10,_,rfl,by omega,?_⟩,by simp; omega,fun kn=>?_⟩
  ·rw[if_neg h] at hd;rw[<-hd,Lib.decDigits.eq_def (u / 10)]
   split
   ·rename_i i; rw[dU i]; rfl
   ·rw[bE]; rfl
  ·have l:acc.length<=19:=by
    have i:=congrArg List.length hd;have h2:=xi (u:=a) (k:=18) (by omega);rw[bp] at i; omega
   have n:=Mb u;have m:=xF (u / 10);rw[Þ (by simp[igt]; omega),n,ö (by omega) (by omega),m,ö (by omega) (by omega),fp (by omega) (by omega),Ï,Ï,Ð (by simp; omega),Am.iff_true,ç,bU];rfl
def PI:∀(k:Nat) {n:Int},n.natAbs<10 ^ (k+1)->I64 n->iu (k+1) n=some (ofL (Lib.itoa n)):=by
 intro k
 induction k with
 |zero =>
  intro n h e;show Ř _ n some=_;unfold Ř Lib.itoa
  by_cases h0:n<0
  ·obtain⟨m,rfl⟩:∃m:Nat,n = -(m:Int):=⟨n.natAbs,by omega⟩
   have d:Int.tmod (-(m:Int)) 10 = -((m % 10:Nat):Int):=by rw[Int.neg_tmod,xF]
   have c:m<10:=by simpa using h
   rw[Þ (by simpa[ilt] using h0),if_pos h0,d,ö (by omega) (by omega),Þ (by simp[igt]; omega),ö (by omega) (by omega),show(0:Int) - -((m % 10:Nat):Int)=((m % 10:Nat):Int) by omega,fp (by omega) (by omega)];rw[show ByteArray.mk #[45]=ofL [45] from rfl,Ï,Ï,Ð (by simp),Am.iff_true,ç,Lib.decDigits,dif_pos (by omega)];simp[dU c]
  ·obtain⟨m,rfl⟩:=dI (show 0<=n by omega)
   have c:m<10:=by simpa using h
   have d:Int.tmod (m:Int) 10=((m % 10:Nat):Int):=xF m;rw[Ö (by simp[ilt]),if_neg h0,d,ö (by omega) (by omega),fp (by omega) (by omega)];refine(Nr (a:=m) (by omega) m [UInt8.ofNat (48+m % 10)] (bm _) (by simp) ?_).trans (by simp);rw[if_pos c,Lib.decDigits,dif_pos c,dU c]; rfl
 |succ k g =>
  intro n h e;show Ř (iu (k+1)) n some=_;unfold Ř Lib.itoa
  by_cases h0:n<0
  ·obtain⟨m,rfl⟩:∃m:Nat,n = -(m:Int):=⟨n.natAbs,by omega⟩;have l:=e.1
   have d:Int.tmod (-(m:Int)) 10 = -((m % 10:Nat):Int):=by rw[Int.neg_tmod,xF]
   have o:Int.tdiv (-(m:Int)) 10 = -((m / 10:Nat):Int):=by rw[Int.neg_tdiv,Mb]
   rw[Þ (by simpa[ilt] using h0),if_pos h0,d,ö (by omega) (by omega),show(0:Int) - -((m % 10:Nat):Int)=((m % 10:Nat):Int) by omega]
   by_cases c:m<10
   ·rw[Þ (by simp[igt]; omega),ö (by omega) (by omega),fp (by omega) (by omega),show ByteArray.mk #[45]=ofL [45] from rfl,Ï,Ï,Ð (by simp),Am.iff_true,ç,Lib.decDigits,dif_pos (by omega)];simp[dU c]
   ·have i:(-((m / 10:Nat):Int))<0:=by omega
    have f:=ų (n:=-((m / 10:Nat):Int)) ⟨by omega,by omega⟩;rw[Ö (by simp[igt]; omega),o,ö (by omega) (by omega),g (by rw[Nat.pow_succ] at h; omega) ⟨by omega,by omega⟩,À,ö (by omega) (by omega),fp (by omega) (by omega),Ï,Ï,Ð (by show _+1<=_; omega),Am.iff_true,ç];unfold Lib.itoa;rw[if_pos i,Lib.decDigits.eq_def (-(m:Int)).natAbs,dif_neg (by omega),show(-((m / 10:Nat):Int)).natAbs=m / 10 by omega,show(-(m:Int)).natAbs=m by omega,Int.toNat_natCast];rfl
  ·obtain⟨m,rfl⟩:=dI (show 0<=n by omega);have j:=e.2;have d:Int.tmod (m:Int) 10=((m % 10:Nat):Int):=xF m;rw[Ö (by simp[ilt]),if_neg h0,d,ö (by omega) (by omega),fp (by omega) (by omega)];refine(Nr (a:=m) (by omega) m [UInt8.ofNat (48+m % 10)] (bm _) (by simp) ?_).trans (by simp);rw[Lib.decDigits.eq_def m]
   split
   ·rename_i c; rw[dU c]; rfl
   ·rfl
def LX {n:Int} (h:I64 n):pV n=some (ofL (Lib.itoa n)):=PI 99 (by obtain⟨a,h2⟩:=h; have:(10:Nat) ^ 20<=10 ^ (99+1):=Nat.pow_le_pow_right (by omega) (by omega); omega) h
def TH (u:Nat) (a:u<18446744073709551616):∀(acc:Nat) (r:BL),acc=0->Lib.parseUint10 acc (Lib.decDigits u++r)=Lib.parseUint10 u r:=by
 induction u using Nat.strongRecOn with
 |ind u ih =>
  intro acc r ha;subst ha
  have one:∀d:Nat,d<10->(UInt8.ofNat (48+d)).toNat=48+d:=fun d hd=>by rw[UInt8.toNat_ofNat']; omega
  rw[Lib.decDigits]
  split
  ·rename_i h;simp only[cW,cr,Lib.parseUint10,one u h];rw[if_pos (by omega),if_neg (by omega),if_neg (by omega)];congr 1; omega
  ·rename_i h;rw[bE,ih (u / 10) (by omega) (by omega) 0 _ rfl];simp only[cW,cr,Lib.parseUint10,one (u % 10) (by omega)];rw[if_pos (by omega),if_neg (by omega),if_neg (by omega)];congr 1; omega
def QR {u:Nat} (a:u<18446744073709551616):Lib.parseMag (Lib.decDigits u)=.ok u:=by
 unfold Lib.parseMag;rw[if_neg (VO u)];have:=TH u a 0 [] rfl;rw[List.append_nil] at this;rw[this]; rfl
def SW {n:Int} (h:I64 n):Lib.atoiAll (Lib.itoa n)=.ok n:=by
 obtain⟨d,h2⟩:=h;unfold Lib.itoa
 split
 ·rename_i h0;rw[Lib.atoiAll_minus,QR (by omega)];unfold Lib.signed;simp only;rw[if_neg (by omega)];congr 1; omega
 ·rename_i h0
  obtain⟨c,r,a⟩:∃c r,Lib.decDigits n.toNat=c::r:=by
   cases h:Lib.decDigits n.toNat with
   |nil=>exact absurd h (VO _)
   |cons c r=>exact⟨c,r,rfl⟩
  have hd:=Cs n.toNat c (by rw[a]; simp);rw[a,Lib.atoiAll_plain c r (by omega) (by omega),<-a,QR (by omega)];unfold Lib.signless;simp only;rw[if_neg (by omega)];congr 1; omega
def f0 (w:BL):Int:=match Lib.atoiAll w with|.ok v=>v|_=>0
def qg (w:BL):I64 (f0 w):=by
 unfold f0
 split
 ·exact Lib.atoiAll_bounds (by assumption)
 ·exact⟨by omega,by omega⟩
def jS {n:Int} (h:I64 n):f0 (Lib.itoa n)=n:=by unfold f0; rw[SW h]
end Go.Proofs.ZzM
end

noncomputable section
namespace Go.Proofs.ZzM
open Go Go.Am
def JK (c:UInt8):BL->BL->th BL
 |acc,[]=>[acc]
 |acc,b::l=>if b=c then acc::JK c [] l else JK c (acc++[b]) l
abbrev JL (c:UInt8) (l:BL):th BL:=JK c [] l
def zA (c:UInt8):∀(w acc l:BL),(∀b∈w,b≠c)->JK c acc (w++l)=JK c (acc++w) l
 |[],acc,l,_=>by simp
 |b::w,acc,l,h=>by
  rw[cW,JK,if_neg (h b (by simp)),zA c w _ l fun x a=>h x (by simp[a])];simp
def zB (c:UInt8):∀(l acc:BL),(JK c acc l).length<=l.length+1
 |[],_=>by simp[JK]
 |b::l,acc=>by
  rw[JK]
  split
  ·have:=zB c l []; simp; omega
  ·have:=zB c l (acc++[b]); simp; omega
def wi (c:UInt8):∀(l acc:BL),∀w∈JK c acc l,w.length<=acc.length+l.length
 |[],acc,w,h=>by rw[br.1 h]; simp
 |b::l,acc,w,h=>by
  rw[JK] at h
  split at h
  ·rcases bw.1 h with rfl|h
   ·simp
   ·have:=wi c l [] w h; simp at this ⊢; omega
  ·have:=wi c l _ w h; simp at this ⊢; omega
def GQ (c:UInt8):∀(l acc:BL),∃w ws,JK c acc l=w::ws
 |[],acc=>⟨_,_,rfl⟩
 |b::l,acc=>by
  rw[JK]
  split
  ·exact⟨_,_,rfl⟩
  ·exact GQ c l _
def spL (c:UInt8) (ws:th BL):BL:=ws.flatMap fun w=>c::w
def Cu (c:UInt8):∀(ws:th BL) (w:BL),(∀b∈w,b≠c)->(∀v∈ws,∀b∈v,b≠c)->JL c (w++spL c ws)=w::ws
 |[],w,h,_=>by
  have:=zA c w [] [] h;rw[bH] at this;simp only[spL,eX,bH];rw[JL,this]; rfl
 |v::ws,w,h,a=>by
  rw[JL,zA c w [] _ h]
  have:spL c (v::ws)=c::(v++spL c ws):=by simp[spL]
  rw[this,JK,if_pos rfl,cr];rw[show JK c [] (v++spL c ws)=_ from Cu c ws v (a v (by simp)) fun x d=>a x (by simp[d])]
open Lib in
def Jm (c:UInt8):∀l:BL,(index l [c] = -1/\∀b∈l,b≠c)\/∃w r,l=w++c::r/\(∀b∈w,b≠c)/\index l [c]=w.length
 |[]=>.inl ⟨rfl,by simp⟩
 |b::l=>by
  by_cases h:b=c
  ·subst h;refine .inr ⟨[],l,rfl,by simp,?_⟩;unfold index; rw[if_pos (by simp[List.isPrefixOf])]; rfl
  ·have d:List.isPrefixOf [c] (b::l)=false:=by simp[List.isPrefixOf,Ne.symm h]
   rcases Jm c l with⟨f,h2⟩|⟨w,r,rfl,h2,e⟩
   ·refine .inl ⟨by unfold index; rw[d,f]; rfl,fun x a=>?_⟩;rcases List.mem_cons.1 a with rfl|a
    ·exact h
    ·exact h2 x a
   ·refine .inr ⟨b::w,r,rfl,fun x a=>?_,?_⟩
    ·rcases bw.1 a with rfl|a
     ·exact h
     ·exact h2 x a
    ·unfold index;rw[d,e]
     have:(((w.length:Nat):Int)==-1)=false:=by rw[beq_eq_false_iff_ne]; omega
     simp[this]
def DY (c:UInt8):∀(k:Nat) (l:BL),l.count c=k->Lib.splitK [c] 0 k l=JL c l
 |0,l,h=>by
  have h0:∀b∈l,b≠c:=fun b hb e=>List.count_eq_zero.1 h (e▸hb);have:=Cu c [] l h0 (by simp);rw[show spL c []=[] from rfl,bH] at this;rw[this]; rfl
 |k+1,l,h=>by
  rcases Jm c l with⟨_,h2⟩|⟨w,r,rfl,h2,g⟩
  ·exact absurd (List.count_eq_zero.2 fun a=>h2 _ a rfl) (by omega)
  ·have d:w.count c=0:=List.count_eq_zero.2 fun a=>h2 _ a rfl
   have f:r.count c=k:=by rw[List.count_append,List.count_cons,d] at h; simp at h; omega
   rw[Lib.splitK,g,if_neg (by rw[beq_iff_eq]; omega),bU,dA,List.take_left,show w.length+[c].length=w.length+1 from rfl,JL,zA c w [] _ h2,JK,if_pos rfl,cr];congr 1;rw[show(w++c::r).drop (w.length+1)=r by simp,DY c k r f]
def O9 (l:BL) (c:UInt8):Lib.countB (ofL l) (ofL [c])=l.count c:=by
 have:Lib.countB (ofL l) (ofL [c])=Lib.count l [c]:=by
  first
   |exact Lib.countB_data _ _
   |rfl
   |(unfold Lib.countB; simp)
 rw[this,Lib.count_one]
def NJ (l:BL) (c:UInt8) (a:l.length<=1000000):kv (ofL l) (ofL [c])=some ((JL c l).map ofL):=by
 unfold kv oK;rw[if_pos (by rw[Ï,Ï]; simp; omega),O9];congr 1;have h:=Lib.splitB_data (ofL [c]) 0 (l.count c) (ofL l);rw[show Lib.splitK (ofL [c]).data.toList 0 (l.count c) (ofL l).data.toList=JL c l from DY c _ l rfl] at h;rw[<-h,List.map_map];exact(List.map_id' _).symm.trans (List.map_congr_left fun s _=>(mW s).symm)
def LR (l p:BL) (a:l.length<=1000000):Ĥ (ofL l) (ofL p)=some (ofL (Lib.trimSuffix l p)):=by
 unfold Ĥ PS;rw[if_pos (by rw[Ï]; omega)]
def Kj (l p:BL):Lib.trimSuffix (l++p) p=l:=by
 unfold Lib.trimSuffix Lib.hasSuffix;rw[if_pos (by simp[List.isSuffixOf_iff_suffix])];simp
def Fu (l p:BL):(Lib.trimSuffix l p).length<=l.length:=by
 unfold Lib.trimSuffix; split<;>simp
def XB (xs:th BL) (c:UInt8) (a:xs.length<=1000000) (h2:(Lib.join xs [c]).length<=100000000):lZ (xs.map ofL) (ofL [c])=some (ofL (Lib.join xs [c])):=by
 unfold lZ Ro
 have e:(xs.map ofL).map (·.data.toList)=xs:=by rw[List.map_map]; exact(cG fun x _=>rfl).trans (List.map_id _)
 rw[e,if_pos];rw[cd];simp only[bn,decide_eq_true_eq];exact⟨by omega,by show(Lib.join xs [c]).length<=_; omega⟩
def Rp (c:UInt8) (r:BL):∀w:BL,(∀b∈w,b≠c)->Lib.indexByte (w++c::r) c=w.length
 |[],_=>by rw[List.nil_append]; unfold Lib.indexByte; rw[if_pos (by simp)]; rfl
 |b::w,h=>by
  rw[List.cons_append];unfold Lib.indexByte;rw[if_neg (by simpa using h b (by simp)),Rp c r w fun x a=>h x (by simp[a]),if_neg (by rw[beq_iff_eq]; omega)];simp
def wV:∀(n:Nat) (s:ByteArray),(i7 n s).length<=n/\∀y∈i7 n s,y.size<=s.size
 |0,s=>⟨bm _,by simp[i7]⟩
 |n+1,s=>by
  obtain⟨l,rfl⟩:∃l,s=ofL l:=⟨_,(mW s).symm⟩;rw[i7]
  split
  ·exact⟨bO _,by simp⟩
  ·split
   ·rw[ś,ś];have c:=wV n (ofL ((l.take (ofL l).size).drop (Lib.indexByte (ofL l).data.toList 10+1).toNat))
    have h2:(ofL ((l.take (ofL l).size).drop (Lib.indexByte (ofL l).data.toList 10+1).toNat)).size<=(ofL l).size:=by rw[Ï,Ï]; simp
    refine⟨by have:=c.1; rw[bz]; omega,fun y a=>?_⟩;rcases bw.1 a with rfl|a
    ·rw[Ï,Ï]; simp; omega
    ·exact bB (c.2 y a) h2
   ·exact⟨by simp,fun y a=>by rw[br.1 a]; exact bm _⟩
def Jf:∀(n:Nat) (a:th BL),(∀l∈a,∀b∈l,b≠10)->(a.flatMap fun l=>l++[10]).length<=n->i7 n (ofL (a.flatMap fun l=>l++[10]))=a.map fun l=>ofL (l++[10])
 |n,[],_,_=>by
  cases n with
  |zero=>rfl
  |succ n=>rw[i7,if_pos (by rw[Ï]; rfl)]; rfl
 |0,l::a,_,c=>by simp at c
 |n+1,l::a,h,c=>by
  have e:((l::a).flatMap fun l=>l++[10])=l++10::a.flatMap fun l=>l++[10]:=by simp
  rw[e] at c ⊢;rw[i7,if_neg (by rw[Ï]; simp)]
  have hi:Lib.indexByte (ofL (l++10::a.flatMap fun l=>l++[10])).data.toList 10=l.length:=by
   exact Rp 10 _ l (h l (by simp))
  rw[hi,if_pos (by omega),show((l.length:Int)+1).toNat=l.length+1 by omega,ś,ś,Ï,cH]
  have g:((l++10::a.flatMap fun l=>l++[10]).take (l.length+1)).drop 0=l++[10]:=by
   rw[List.drop_zero,show l++10::(a.flatMap fun l=>l++[10])=(l++[10])++a.flatMap fun l=>l++[10] by simp];rw[dH (by simp),cm (by simp)]
  have f:((l++10::a.flatMap fun l=>l++[10]).take (l++10::a.flatMap fun l=>l++[10]).length).drop (l.length+1)=a.flatMap fun l=>l++[10]:=by
   rw[ff,show l++10::(a.flatMap fun l=>l++[10])=(l++[10])++a.flatMap fun l=>l++[10] by simp];rw[List.drop_append_of_le_length (by simp),List.drop_of_length_le (by simp)]; rfl
  rw[g,f,Jf n a (fun x d=>h x (by simp[d])) (by simp at c ⊢; omega)]
end Go.Proofs.ZzM
end

noncomputable section
namespace Go.Proofs.ZzM
open Go Go.Am
def ql (n lo hi:Int):gA n lo hi=some (inP n lo hi):=by
 unfold gA QT inP ige ile
 cases h:decide (lo<=n)<;>simp_all
def Hg (n:Int):nH n=some (Ct n):=by
 unfold nH MP;rw[ql]; rfl
def nW (s:Int×Int) (lo hi:Int):ž s lo hi=some (ξ s lo hi):=by
 unfold ž xT ξ ile
 cases decide (lo<=s.1)<;>cases decide (s.1<=s.2)<;>rfl
def Xy {l:th Int} (c:l.length<=1000000) (x:Int):zu l x=some (l.contains x):=by
 unfold zu MO;refine Eq.trans (Ő l (fun a=>a==x) (fun _=>some true) (some true) (some false) (fun _=>rfl) (fun i a hi ha kn=>?_) (fun kn=>?_)) ?_
 ·try dsimp only
  unfold nk;rw[Ó hi,Å ha,Í hi (by omega),œ]
 ·try dsimp only
  unfold nk;rw[ß]
 ·have:l.any (fun a=>a==x)=l.contains x:=by
   rw[cq,dw,di];constructor
   ·rintro⟨a,ha,e⟩; rw[<-eq_of_beq e]; exact ha
   ·intro h; exact⟨x,h,by simp⟩
  rw[this]
  cases l.contains x<;>rfl
def OM {a b:th Int} {i:Nat} {x:Int} (h:a[i]?=some x):é (a.take (i+1)) b=é (a.take i) b++if b.contains x then[] else[x]:=by
 rw[take_succ h,é,é,eQ];congr 1
 cases c:b.contains x<;>simp only[cE,c,b8,Bool.not_false,bP,if_false,if_true,cO]
def Hf {a b:th Int} (ha:a.length<=1000000) (hb:b.length<=1000000):fk a b=some (é a b):=by
 unfold fk IK;refine ĝ a (fun i=>é (a.take i) b) _ rfl (fun i x hi c kn=>?_) (fun kn=>?_)
 ·try dsimp only
  unfold la
  have d:(é (a.take i) b).length<=1000000:=by
   have:=pO (a.take i) b;rw[bN] at this;omega
  rw[Ó hi,Å c,Xy hb,À,OM c]
  cases b.contains x with
  |true=>rw[Ö (by rfl),Í hi (by omega)]; simp
  |false=>rw[Þ (by rfl),Å c,Ð (by simp only[bY]; omega),Am.iff_true,Í hi (by omega)]; simp
 ·try dsimp only
  unfold la;rw[ß,List.take_length]
def yq (a b:th Int):Int:=(é a b).head?.getD 0
def xw {a b:th Int} (ha:a.length<=1000000) (hb:b.length<=1000000):jB a b=some (yq a b):=by
 unfold jB MM yq;rw[Hf ha hb,À,ó]
 cases h:é a b with
 |nil=>rfl
 |cons x t =>
  rw[Ö (by simp[ieq]; omega)];exact Å (i:=0) rfl _
def zG {b:ë} (c:b.2.1.length<=1000000) (id:Int):kw b id=some (match b.2.1.findIdx? (fun g=>g.1==id) with|some j=>(j:Int)|none=>-1):=by
 unfold kw IL;refine Eq.trans (iK b.2.1 (fun g=>g.1==id) (fun z=>some z) (some (-1)) (fun i a hi ha kn=>?_) (fun kn=>?_)) ?_
 ·try dsimp only
  unfold lf;rw[Ó hi,Å ha,Í hi (by omega),œ]
 ·try dsimp only
  unfold lf;rw[ß]
 ·cases List.findIdx? (fun g:è=>g.1==id) b.2.1<;>rfl
def qM {b:ë} {id:Int}:(∃j g,b.2.1.findIdx? (fun g=>g.1==id)=some j/\b.2.1[j]?=some g/\Ń b id=some g)\/(b.2.1.findIdx? (fun g=>g.1==id)=none/\Ń b id=none):=by
 unfold Ń;rw[GB]
 cases h:b.2.1.findIdx? (fun g=>g.1==id) with
 |none=>exact .inr ⟨rfl,rfl⟩
 |some j =>
  obtain⟨a,_,_⟩:=b9.1 h;exact .inl ⟨j,_,rfl,bo a,bo a⟩
def Ň (b:ë) (id a:Int):Int:=match Ń b id with|some g=>if a<g.2.1 then 4 else 0|none=>5
def ww {b:ë} (d:b.2.1.length<=1000000) (id a:Int):ig b id a=some (Ň b id a):=by
 unfold ig Ex Ň;rw[zG d,À];rcases qM (b:=b) (id:=id) with⟨j,g,c,h2,e⟩|⟨c,h2⟩
 ·rw[c,e]
  try dsimp only
  rw[Ö (by simp[ilt]),Å h2,œ]
  by_cases hd:a<g.2.1
  ·rw[if_pos (by simpa[ilt] using hd),if_pos hd]
  ·rw[if_neg (by simpa[ilt] using hd),if_neg hd]
 ·rw[c,h2];rfl
def sT {b:ë} (hi:b.2.1.Pairwise fun a b=>a.1<b.1) (id c:Int):Ň b id c=gT (ŗ b) id c:=by
 unfold Ň gT;rw[qx hi]
 cases Ń b id<;>rfl
def NL {b:ë} (o:b.2.2.2.1.length<=1000000) (id d:Int):pU b id d=some (match gH b id d with|some l=>(l,true)|none=>((0,(0,0),0),false)):=by
 unfold pU IJ;refine Q3 b.2.2.2.1 (fun _=>((0:Int),(0:Int),(0:Int),(0:Int))) _ (fun i=>∀l∈b.2.2.2.1.take i,(l.1==id&&inP d l.2.1.1 l.2.1.2)=false) rfl (by simp) (fun i a hi ha g kn=>?_) (fun g kn=>?_)
 ·try dsimp only
  unfold kZ;rw[Ó hi,Å ha]
  by_cases f:(a.1==id&&inP d a.2.1.1 a.2.1.2)=true
  ·refine .inl ?_;have c:=f;simp only[inP,bn,beq_iff_eq,decide_eq_true_eq] at c;rw[Þ (by simp[ieq,c.1]),Þ (by simp[ile,c.2.1]),Þ (by simp[ile,c.2.2])]
   have m:gH b id d=some a:=by
    unfold gH;obtain⟨k,rfl⟩:=List.getElem?_eq_some_iff.1 ha;rw[List.find?_eq_some_iff_getElem];refine⟨f,i,k,rfl,fun j p=>?_⟩;have:=g b.2.2.2.1[j] (List.mem_iff_getElem.2 ⟨j,by rw[List.length_take]; omega,by rw[List.getElem_take]⟩);simp[this]
   rw[m]
  ·refine .inr ⟨fun l e=>?_,?_⟩
   ·rw[take_succ ha,bq,br] at e;rcases e with e|rfl
    ·exact g l e
    ·simpa using f
   ·have c:=f;simp only[inP,bn,beq_iff_eq,decide_eq_true_eq] at c
    by_cases h:a.1=id
    ·by_cases h2:a.2.1.1<=d
     ·rw[Þ (by simp[ieq,h]),Þ (by simp[ile,h2]),Ö (by simp[ile]; exact Int.lt_of_not_ge fun n=>c ⟨h,h2,n⟩),Í hi (by omega)]
     ·rw[Þ (by simp[ieq,h]),Ö (by simp[ile]; omega),Í hi (by omega)]
    ·rw[Ö (by simp[ieq,h]),Í hi (by omega)]
 ·try dsimp only
  unfold kZ;rw[ß]
  have:gH b id d=none:=by
   unfold gH;rw[List.find?_eq_none];intro l e;have:=g l (by rw[List.take_length]; exact e);simp[this]
  rw[this]
def Vp {b:ë} (e:b.2.2.1.length<=1000000) (id c:Int):vT b id c=some (ym b id c):=by
 unfold vT IC;refine Eq.trans (Ő b.2.2.1 (fun u=>u.1==id&&u.2==c) (fun _=>some true) (some true) (some false) (fun _=>rfl) (fun i a hi ha kn=>?_) (fun kn=>?_)) ?_
 ·try dsimp only
  unfold kR;rw[Ó hi,Å ha,Å ha,Í hi (by omega)]
  cases d:(a.1==id) with
  |false=>have:ieq a.1 id=false:=d; simp[this]
  |true =>
   have:ieq a.1 id=true:=d;rw[this]
   cases h2:(a.2==c) with
   |false=>have:ieq a.2 c=false:=h2; simp[this]
   |true=>have:ieq a.2 c=true:=h2; simp[this]
 ·try dsimp only
  unfold kR;rw[ß]
 ·unfold ym
  cases b.2.2.1.any _<;>rfl
def Th (a b:Nat):qX a b=some ((Nat.gcd a b:Nat):Int):=by
 unfold qX MT;refine fB (fun x:Int×Int=>∃c d:Nat,x=((c:Int),(d:Int))/\Nat.gcd c d=Nat.gcd a b) (fun x=>x.2.toNat) ?_ ⟨a,b,rfl,rfl⟩;rintro x ⟨c,d,rfl,e⟩
 cases d with
 |zero =>
  refine .inl fun kn=>?_;rw[Nat.gcd_zero_right] at e;unfold nl;simp[e,ine]
 |succ d =>
  refine .inr ⟨(((d+1:Nat):Int),((c % (d+1):Nat):Int)),⟨d+1,c % (d+1),rfl,?_⟩,?_,fun kn=>?_⟩
  ·rw[<-e,fi c (d+1),Nat.gcd_rec (d+1) c,fi]
  ·have:=eV c (eR d);simp only[bU];omega
  ·unfold nl
   have f:ine ((d+1:Nat):Int) 0=true:=by simp[ine]; omega
   have h2:fm ((d+1:Nat):Int) 0=false:=by simp[fm]; omega
   simp only[f,Þ Ö h2];congr 1
def Tk {n:Int} (h : -9223372036854775807<=n/\n<=9223372036854775807):vX n=some (n.natAbs:Int):=by
 unfold vX MV
 by_cases a:n<0
 ·rw[Þ (by simpa[ilt] using a),ö (by omega) (by omega)];congr 1;omega
 ·rw[Ö (by simpa[ilt] using a)];congr 1;omega
def Td (r:Int×Int):qV r=some (Kc r):=by
 unfold qV ED Kc
 by_cases c:1<=r.2
 ·rw[Ö (by simp[ilt]; omega)]
  by_cases h2:r.2<=2147483647
  ·rw[Ö (by simp[igt]; omega)]
   by_cases f:r.1 < -2147483647
   ·rw[Þ (by simp[ilt]; omega)]
    have:¬((r.1.natAbs:Int)<=2147483647):=by omega
    simp[this]
   ·rw[Ö (by simp[ilt]; omega)]
    by_cases e:2147483647<r.1
    ·rw[Þ (by simp[igt]; omega)]
     have:¬((r.1.natAbs:Int)<=2147483647):=by omega
     simp[this]
    ·rw[Ö (by simp[igt]; omega),Tk ⟨by omega,by omega⟩,À]
     have a:r.2=((r.2.natAbs:Nat):Int):=by omega
     have d:((r.1.natAbs:Int)<=2147483647):=by omega
     rw[a,Th,À,<-a];congr 1;rw[cq];simp only[ieq,beq_iff_eq,c,h2,d,decide_true,dm,decide_eq_true_eq];omega
  ·rw[Þ (by simp[igt]; omega)];simp[h2]
 ·rw[Þ (by simp[ilt]; omega)];simp[c]
def Tb (g:è):qS g=some (iN g):=by
 unfold qS Ew iN;rw[Td,ql,ql,Hg,ql,nW,ql];simp only[À]
 have e:igt g.2.2.2.2.1.2 100=!decide (g.2.2.2.2.1.2<=100):=by
  rw[cq]; simp[igt]
 rw[e]
 cases Kc g.2.2.2.2.1<;>cases inP g.2.2.2.2.1.1 (-1000) 1000<;>cases decide (g.2.2.2.2.1.2<=100)<;>cases inP g.1 1 1099511627776<;>cases Ct g.2.1<;>cases inP g.2.2.1 1 1125899906842624<;>cases ξ g.2.2.2.1 (-1073741824) 1073741824<;>rfl
def KN {l:th Int}:∀(m:th Int) (j:Nat) (x:Bool),ć (mU l) j m=some x->x=false:=by
 intro m
 induction m with
 |nil=>intro j x h; cases h
 |cons a m d =>
  intro j x h;unfold ć at h
  cases c:mU l j a with
  |none=>rw[c] at h; exact d _ _ h
  |some y =>
   rw[c] at h;cases h;unfold mU at c
   split at c
   ·cases c; rfl
   ·split at c
    ·cases c; rfl
    ·cases c
def NK {l:th Int} (e:l.length<=1000000):pT l=some (ow l):=by
 unfold pT IH;refine Eq.trans (Ų l (mU l) some (some (decide (l.length<=6))) (fun i a hi ha kn=>?_) (fun kn=>?_)) ?_
 ·try dsimp only
  unfold kX;rw[Ó hi,Å ha,ql,À];unfold mU
  cases inP a 1 1099511627776 with
  |false=>rfl
  |true =>
   simp only[b8,Ľ,bP,if_false];rcases dM i with h0|h0
   ·subst h0
    have:igt ((0:Nat):Int) 0=false:=by simp[igt]
    rw[Ö this,Í hi (by omega)];simp[tU]
   ·obtain⟨q,c⟩:=uz hi h0
    have d:igt (i:Int) 0=true:=by simp[igt]; omega
    rw[Þ d,Å ha,Cx h0 (by omega),vL h0 c];simp only[tU,h0,decide_true,Bool.true_and,c,Option.any_some];unfold ile
    cases h2:decide (a<=q) with
    |true=>rfl
    |false =>
     rw[Ľ,Í hi (by omega)];rfl
 ·try dsimp only
  unfold kX;rw[ß,ó];simp[ile];omega
 ·unfold ow
  cases h:ć (mU l) 0 l with
  |none=>rfl
  |some x=>rw[KN _ _ _ h]
def S9 {c:Cmp} (d:c.2.2.1.length<=1000000) (a:c.2.2.2.1.length<=1000000):qQ c=some (sZ c):=by
 unfold qQ Es sZ;rw[NK d,NK a,ql,Hg,ql,ql,nW];simp only[À]
 cases ow c.2.2.1<;>cases ow c.2.2.2.1<;>cases inP c.1 1 1099511627776<;>cases Ct c.2.1<;>cases inP c.2.2.2.2.1 (-1125899906842624) 1125899906842624<;>cases inP c.2.2.2.2.2.1 0 1073741824<;>cases ξ c.2.2.2.2.2.2 (-10000) 10000<;>rfl
def Hn (b:ë) (u:Int×Int):Int:=if !Ct u.2 then 1 else Ň b u.1 u.2
def L4 {b:ë} (hi:b.2.1.Pairwise fun a b=>a.1<b.1) (u:Int×Int):Hn b u=NS (ŗ b) u.1 u.2:=by
 unfold Hn NS;rw[sT hi]
def No (e:Int):so Int:=if e=0 then none else some e
def xd {α:Type} (E:Nat->α->Int):∀(k:Nat) (l:th α),ć (fun i a=>No (E i a)) k l=(l.mapIdx fun i a=>E (i+k) a).find? (fun e=>e != 0)
 |_,[]=>rfl
 |k,a::t=>by
  unfold ć;rw[xd E (k+1) t,List.mapIdx_cons,List.find?_cons];unfold No
  by_cases h:E k a=0
  ·simp only[h,if_true,bK];have:((0:Int) != 0)=false:=rfl;rw[this]
   have e:(fun(i:Nat) (a:α)=>E (i+(k+1)) a)=fun i a=>E (i+1+k) a:=by
    funext i a;congr 1;omega
   rw[e]
  ·simp only[h,if_false,bK]
   have:(E k a != 0)=true:=by simpa using h
   rw[this]
def Ci {α:Type} (E:Nat->α->Int) (l:th α):ć (fun i a=>No (E i a)) 0 l=(l.mapIdx E).find? (fun e=>e != 0):=xd E 0 l
def Cj {α:Type} (E:α->Int) (l:th α):ć (fun _ a=>No (E a)) 0 l=(l.map E).find? (fun e=>e != 0):=by
 rw[xd (fun _ a=>E a) 0 l];congr 1
 exact List.ext_getElem (by simp) fun i c h2=>by simp
def Vl {b:ë} (d:b.2.1.length<=1000) (h2:b.2.2.1.length<=1000):vR b=some (((b.2.2.1.map (Hn b)).find? (fun e=>e != 0)).getD 0):=by
 unfold vR Iv;refine Eq.trans (Ų b.2.2.1 (fun _ u=>No (Hn b u)) some (some 0) (fun i a hi ha kn=>?_) (fun kn=>?_)) ?_
 ·try dsimp only
  unfold kJ;rw[Ó hi,Å ha,Hg,À];unfold Hn No
  cases Ct a.2 with
  |false=>rfl
  |true =>
   rw[Ö (by rfl),Å ha,Å ha,ww (b:=((b.1.1,b.1.2),b.2.1,b.2.2.1,b.2.2.2.1,b.2.2.2.2.1,b.2.2.2.2.2)) (by simp only; omega),À,Í hi (by omega)];have e:Ň ((b.1.1,b.1.2),b.2.1,b.2.2.1,b.2.2.2.1,b.2.2.2.2.1,b.2.2.2.2.2) a.1 a.2=Ň b a.1 a.2:=rfl;rw[e]
   by_cases c:Ň b a.1 a.2=0
   ·rw[Ö (by simp[ine,c])]; simp[c]
   ·rw[Þ (by simp[ine,c])]; simp[c]
 ·try dsimp only
  unfold kJ;rw[ß]
 ·rw[Cj]
  cases List.find? (fun e=>e != 0) (b.2.2.1.map (Hn b))<;>rfl
def DI (b:ë) (i:Nat) (l:zb):Int :=
 if !ξ l.2.1 0 20000 then 1 else if !inP l.2.2 0 1048576 then 1 else if Ň b l.1 l.2.1.1 != 0 then Ň b l.1 l.2.1.1 else
 if (b.2.2.2.1.take i).any (fun x=>x.1==l.1&&(decide (x.2.1.1<=l.2.1.2)&&decide (l.2.1.1<=x.2.1.2))) then 9 else
 if b.2.2.1.any (fun u=>u.1==l.1&&inP u.2 l.2.1.1 l.2.1.2) then 9 else 0
def Q8 {b:ë} (hi:b.2.1.Pairwise fun a b=>a.1<b.1) (i:Nat) (l:zb):DI b i l=BU b (ŗ b) i l:=by
 unfold DI BU;rw[sT hi]
def Ta {b:ë} (w:b.2.1.length<=1000) (h2:b.2.2.1.length<=1000) (v:b.2.2.2.1.length<=1000):qR b=some (((b.2.2.2.1.mapIdx (DI b)).find? (fun e=>e != 0)).getD 0):=by
 unfold qR Et;refine Eq.trans (Ų b.2.2.2.1 (fun i l=>No (DI b i l)) some (some 0) (fun i l hi r kn=>?_) (fun kn=>?_)) ?_
 ·try dsimp only
  unfold jg;rw[Ó hi,Å r,nW,À];unfold DI No
  cases ξ l.2.1 0 20000 with
  |false=>rfl
  |true =>
  rw[Ö (by rfl),ql,À]
  cases inP l.2.2 0 1048576 with
  |false=>rfl
  |true =>
  rw[Ö (by rfl),ww (b:=((b.1.1,b.1.2),b.2.1,b.2.2.1,b.2.2.2.1,b.2.2.2.2.1,b.2.2.2.2.2)) (by simp only; omega),À];have e:Ň ((b.1.1,b.1.2),b.2.1,b.2.2.1,b.2.2.2.1,b.2.2.2.2.1,b.2.2.2.2.2) l.1 l.2.1.1=Ň b l.1 l.2.1.1:=rfl;rw[e]
  by_cases n:Ň b l.1 l.2.1.1=0
  ·rw[Ö (by simp[ine,n])]
   have m:(b.2.2.2.1.take i).length=i:=by rw[bN]; omega
   have d:Ü (fun(o:Int) h=>gk b.2.2.1 l.1 l.2.1.1 l.2.1.2 o (fun p=>h p) (fun z18=>(some z18:so Int)) (fun _=>ck ((i:Int)+(1:Int)) fun q=>kn q)) (0:Int)=if b.2.2.1.any (fun u=>u.1==l.1&&inP u.2 l.2.1.1 l.2.1.2) then some 9 else kn ((i:Int)+1):=by
    refine Ő b.2.2.1 _ (fun _=>some 9) (some 9) (kn ((i:Int)+1)) (fun _=>rfl) (fun j a g ha c=>?_) (fun c=>?_)
    ·try dsimp only
     unfold gk;rw[Ó g,Å ha,Å ha,ql,À,Í g (by omega)]
     cases k:(a.1==l.1) with
     |false=>have:ieq a.1 l.1=false:=k; simp[this]
     |true =>
      have:ieq a.1 l.1=true:=k;rw[this]
      cases inP a.2 l.2.1.1 l.2.1.2<;>simp
    ·try dsimp only
     unfold gk;rw[ß];dsimp only;rw[Í hi (by omega)]
   try dsimp only
   rw[d];refine dc (Ő (b.2.2.2.1.take i) (fun x=>x.1==l.1&&(decide (x.2.1.1<=l.2.1.2)&&decide (l.2.1.1<=x.2.1.2))) (fun _=>some 9) (some 9) (if b.2.2.1.any (fun u=>u.1==l.1&&inP u.2 l.2.1.1 l.2.1.2) then some 9 else kn ((i:Int)+1)) (fun _=>rfl) (fun j a g ha c=>?_) (fun c=>?_)) ?_
   ·try dsimp only
    unfold jf;rw[m] at g
    have f:b.2.2.2.1[j]?=some a:=by rwa [eS g] at ha
    rw[Þ (show ilt (j:Int) (i:Int)=true by simp[ilt]; omega),Å f,Å f,Å f,Í g (by omega)]
    cases k:(a.1==l.1) with
    |false=>have:ieq a.1 l.1=false:=k; simp[this]
    |true =>
     have:ieq a.1 l.1=true:=k;rw[this]
     cases t:decide (a.2.1.1<=l.2.1.2)<;>cases s:decide (l.2.1.1<=a.2.1.2)<;>simp[ile,t,s,œ]<;>simp_all
   ·try dsimp only
    unfold jf;rw[m,Ö (show ilt (i:Int) (i:Int)=false by simp[ilt])]
   ·simp only[n]
    cases List.any (b.2.2.2.1.take i) _<;>cases b.2.2.1.any _<;>rfl
  ·rw[Þ (by simp[ine,n])]; simp[n]
 ·try dsimp only
  unfold jg;rw[ß]
 ·rw[Ci (DI b)]
  cases(b.2.2.2.1.mapIdx (DI b)).find? (fun e=>e != 0)<;>rfl
def rI (b:ë) (c:Cmp):Int :=
 if (c.2.2.1++c.2.2.2.1).any (fun id=>Ň b id c.2.1==5) then 5 else
 if (c.2.2.1++c.2.2.2.1).any (fun id=>Ň b id c.2.1 != 0) then 4 else
 if (c.2.2.1++c.2.2.2.1).any (fun id=>(gH b id c.2.1).isSome) then 9 else
 if 1<(é c.2.2.1 c.2.2.2.1).length then 1 else if 1<(é c.2.2.2.1 c.2.2.1).length then 1 else
 if (é c.2.2.1 c.2.2.2.1).length+(é c.2.2.2.1 c.2.2.1).length=0 then 1 else 0
def T4 {b:ë} (hi:b.2.1.Pairwise fun a b=>a.1<b.1) (c:Cmp):rI b c=rJ b (ŗ b) c:=by
 unfold rI rJ;simp only[sT hi]
 by_cases d:(c.2.2.1++c.2.2.2.1).any (fun id=>gT (ŗ b) id c.2.1==5)=true
 ·rw[if_pos d,if_pos d]
 ·rw[if_neg d,if_neg d]
  have e:(c.2.2.1++c.2.2.2.1).any (fun id=>gT (ŗ b) id c.2.1 != 0)=(c.2.2.1++c.2.2.2.1).any (fun id=>gT (ŗ b) id c.2.1==4):=by
   rw[cq,dw,dw];constructor
   ·rintro⟨x,g,h⟩;refine⟨x,g,?_⟩;rcases Ay (ŗ b) x c.2.1 with f|f|f
    ·rw[f] at h; cases h
    ·rw[f]; rfl
    ·exact absurd (dw.2 ⟨x,g,by rw[f]; rfl⟩) d
   ·rintro⟨x,g,h⟩;refine⟨x,g,?_⟩;rw[eq_of_beq h]; rfl
  rw[e]
def Kw {b:ë} {id d:Int}:(Ň b id d==5)=(b.2.1.findIdx? (fun g=>g.1==id)).isNone:=by
 unfold Ň;rcases qM (b:=b) (id:=id) with⟨j,g,a,h2,c⟩|⟨a,h2⟩
 ·rw[a,c]
  try dsimp only
  split<;>rfl
 ·rw[a,h2]; rfl
set_option maxHeartbeats 1000000 in
def J3 {b:ë} (D:b.2.1.length<=1000) (C:b.2.2.2.1.length<=1000) {c:Cmp} (B:c.2.2.1.length<=1000) (A:c.2.2.2.1.length<=1000):Ο b c=some (rI b c):=by
 unfold Ο ng rI;rw[Ð (by omega),Am.iff_true,List.nil_append,Ð (by omega),Am.iff_true]
 have w:(c.2.2.1++c.2.2.2.1).length<=2000:=by rw[bp]; omega
 generalize z:c.2.2.1++c.2.2.2.1=P at w
 have p:∀{i:Nat},i<P.length->((ile (0:Int) (i:Int))&&(ilt (i:Int) (θ P)))=true:=fun {i} hi=>by simp[ile,ilt,θ]; omega
 have n:Ü (fun(l:Int) h=>ĸ b.1.1 b.1.2 b.2.1 b.2.2.1 b.2.2.2.1 b.2.2.2.2.1 b.2.2.2.2.2 c.2.1 P l (fun m=>h m) (fun z14=>some z14) (fun _=>Â (fk c.2.2.1 c.2.2.2.1) fun f=>Â (fk c.2.2.2.1 c.2.2.1) fun d=>ifb (igt (â f) (1:Int)) (some (1:Int)) (ifb (igt (â d) (1:Int)) (some (1:Int)) (ck ((â f)+(â d)) fun o=>ifb (ieq o (0:Int)) (some (1:Int)) (some (0:Int)))))) (0:Int) =
  some (if P.any (fun id=>(gH b id c.2.1).isSome) then 9 else if 1<(é c.2.2.1 c.2.2.2.1).length then 1 else if 1<(é c.2.2.2.1 c.2.2.1).length then 1 else if (é c.2.2.1 c.2.2.2.1).length+(é c.2.2.2.1 c.2.2.1).length=0 then 1 else 0):=by
  refine dc (Ő P (fun id=>(gH b id c.2.1).isSome) (fun _=>some 9) (some 9) (some (if 1<(é c.2.2.1 c.2.2.2.1).length then 1 else if 1<(é c.2.2.2.1 c.2.2.1).length then 1 else if (é c.2.2.1 c.2.2.2.1).length+(é c.2.2.2.1 c.2.2.1).length=0 then 1 else 0)) (fun _=>rfl) (fun i a hi ha kn=>?_) (fun kn=>?_)) ?_
  ·try dsimp only
   unfold ĸ;rw[Ó hi,ŋ (p hi),ů ha,NL (b:=((b.1.1,b.1.2),b.2.1,b.2.2.1,b.2.2.2.1,b.2.2.2.2.1,b.2.2.2.2.2)) (by simp only; omega),À,Í hi (by omega)];have e:gH ((b.1.1,b.1.2),b.2.1,b.2.2.1,b.2.2.2.1,b.2.2.2.2.1,b.2.2.2.2.2) a c.2.1=gH b a c.2.1:=rfl;rw[e]
   cases gH b a c.2.1<;>rfl
  ·try dsimp only
   unfold ĸ;rw[ß];dsimp only;have y:=pO c.2.2.1 c.2.2.2.1;have x:=pO c.2.2.2.1 c.2.2.1;rw[Hf (by omega) (by omega),À,Hf (by omega) (by omega),À];simp only[ó]
   by_cases v:1<(é c.2.2.1 c.2.2.2.1).length
   ·rw[Þ (by simp[igt]; omega),if_pos v]
   ·rw[Ö (by simp[igt]; omega),if_neg v]
    by_cases u:1<(é c.2.2.2.1 c.2.2.1).length
    ·rw[Þ (by simp[igt]; omega),if_pos u]
    ·rw[Ö (by simp[igt]; omega),if_neg u,ö (by omega) (by omega)]
     by_cases t:(é c.2.2.1 c.2.2.2.1).length+(é c.2.2.2.1 c.2.2.1).length=0
     ·rw[Þ (by simp[ieq]; omega),if_pos t]
     ·rw[Ö (by simp[ieq]; omega),if_neg t]
  ·cases P.any _<;>rfl
 have k:Ü (fun(r:Int) q=>Ũ b.1.1 b.1.2 b.2.1 b.2.2.1 b.2.2.2.1 b.2.2.2.2.1 b.2.2.2.2.2 c.2.1 P r (fun s=>q s) (fun z9=>some z9) (fun _=>Ü (fun(l:Int) h=>ĸ b.1.1 b.1.2 b.2.1 b.2.2.1 b.2.2.2.1 b.2.2.2.2.1 b.2.2.2.2.2 c.2.1 P l (fun m=>h m) (fun z14=>some z14) (fun _=>Â (fk c.2.2.1 c.2.2.2.1) fun f=>Â (fk c.2.2.2.1 c.2.2.1) fun d=>ifb (igt (â f) (1:Int)) (some (1:Int)) (ifb (igt (â d) (1:Int)) (some (1:Int)) (ck ((â f)+(â d)) fun o=>ifb (ieq o (0:Int)) (some (1:Int)) (some (0:Int)))))) (0:Int))) (0:Int) =
  some (if P.any (fun id=>Ň b id c.2.1 != 0) then 4 else if P.any (fun id=>(gH b id c.2.1).isSome) then 9 else if 1<(é c.2.2.1 c.2.2.2.1).length then 1 else if 1<(é c.2.2.2.1 c.2.2.1).length then 1 else if (é c.2.2.1 c.2.2.2.1).length+(é c.2.2.2.1 c.2.2.1).length=0 then 1 else 0):=by
  rw[n];refine dc (Ő P (fun id=>Ň b id c.2.1 != 0) (fun _=>some 4) (some 4) (some (if P.any (fun id=>(gH b id c.2.1).isSome) then 9 else if 1<(é c.2.2.1 c.2.2.2.1).length then 1 else if 1<(é c.2.2.2.1 c.2.2.1).length then 1 else if (é c.2.2.1 c.2.2.2.1).length+(é c.2.2.2.1 c.2.2.1).length=0 then 1 else 0)) (fun _=>rfl) (fun i a hi ha kn=>?_) (fun kn=>?_)) ?_
  ·try dsimp only
   unfold Ũ;rw[Ó hi,ŋ (p hi),ů ha,ww (b:=((b.1.1,b.1.2),b.2.1,b.2.2.1,b.2.2.2.1,b.2.2.2.2.1,b.2.2.2.2.2)) (by simp only; omega),À,Í hi (by omega)];have e:Ň ((b.1.1,b.1.2),b.2.1,b.2.2.1,b.2.2.2.1,b.2.2.2.2.1,b.2.2.2.2.2) a c.2.1=Ň b a c.2.1:=rfl;rw[e,œ]
  ·try dsimp only
   unfold Ũ;rw[ß]
  ·cases P.any (fun id=>Ň b id c.2.1 != 0)<;>rfl
 rw[k];refine dc (Ő P (fun id=>Ň b id c.2.1==5) (fun _=>some 5) (some 5) (some (if P.any (fun id=>Ň b id c.2.1 != 0) then 4 else if P.any (fun id=>(gH b id c.2.1).isSome) then 9 else if 1<(é c.2.2.1 c.2.2.2.1).length then 1 else if 1<(é c.2.2.2.1 c.2.2.1).length then 1 else if (é c.2.2.1 c.2.2.2.1).length+(é c.2.2.2.1 c.2.2.1).length=0 then 1 else 0)) (fun _=>rfl) (fun i a hi ha kn=>?_) (fun kn=>?_)) ?_
 ·try dsimp only
  unfold ft;rw[Ó hi,ŋ (p hi),ů ha,zG (b:=((b.1.1,b.1.2),b.2.1,b.2.2.1,b.2.2.2.1,b.2.2.2.2.1,b.2.2.2.2.2)) (by simp only; omega),À,Í hi (by omega),Kw]
  try dsimp only
  cases List.findIdx? (fun g:è=>g.1==a) b.2.1 with
  |none=>rfl
  |some j =>
   have:ilt (j:Int) 0=false:=by simp[ilt]
   rw[Ö this]; rfl
 ·try dsimp only
  unfold ft;rw[ß]
 ·cases P.any (fun id=>Ň b id c.2.1==5)<;>rfl
structure Pre (b:ë):Prop where
 size:Γ b
 gauge:∀g∈b.2.1,iN g=true
 cmp:∀c∈b.2.2.2.2.1,Ct c.2.1=true/\(é c.2.2.1 c.2.2.2.1).length<=1/\(é c.2.2.2.1 c.2.2.1).length<=1
 look:∀n∈b.2.2.2.2.2,Ct n.2=true
def Ii {c:Cmp} (h:sZ c=true):Ct c.2.1=true:=by
 have:=((f9 c).1 h).2.1;simp[Ct,inP,this.1,this.2]
def ι.pre {b:ë} (h:ι b):Pre b :=
 ⟨h.size,h.gauge,fun c a=>⟨Ii (h.nums a),(h.lefts a).1,(h.lefts a).2.1⟩,fun n d=>(by have:=(zK h (h.looks n d)).1; simp[Ct,inP,this.1,this.2])⟩
def FO {a b:th Int} (h:(é a b).length<=1) {id:Int} (h0:id≠0):yq a b=id↔id∈a/\id∉b:=by
 rw[<-vH];unfold yq
 cases c:é a b with
 |nil =>
  simp only[List.head?_nil,Option.getD_none,cw,iff_false];exact fun e=>h0 e.symm
 |cons x t =>
  have:t=[]:=by
   rw[c] at h;simp only[bz] at h;exact bG.1 (by omega)
  subst this;simp only[List.head?_cons,eZ,br];exact eq_comm
def y9 (b:ë) (g:è) (d:Int):Bool :=
 g.2.1==d||b.2.2.2.2.1.any (fun c=>c.2.1==d&&(yq c.2.2.1 c.2.2.2.1==g.1||yq c.2.2.2.1 c.2.2.1==g.1))||b.2.2.2.2.2.any (fun n=>n.1==g.1&&n.2==d)
def Vo {b:ë} (l:Γ b) (g:è) (d:Int):vS b g d=some (y9 b g d):=by
 have f:=l.compares;have h2:=l.looks;unfold vS IB y9
 cases m:(g.2.1==d) with
 |true =>
  have:ieq g.2.1 d=true:=m;rw[Þ this];simp
 |false =>
  have:ieq g.2.1 d=false:=m;rw[Ö this]
  have e:Ü (fun(j:Int) h=>iy d b.2.2.2.2.2 g.1 j (fun k=>h k) (fun z12=>some z12) (fun _=>some false)) (0:Int)=some (b.2.2.2.2.2.any (fun n=>n.1==g.1&&n.2==d)):=by
   refine dc (Ő b.2.2.2.2.2 (fun n=>n.1==g.1&&n.2==d) (fun _=>some true) (some true) (some false) (fun _=>rfl) (fun i a hi ha kn=>?_) (fun kn=>?_)) ?_
   ·try dsimp only
    unfold iy;rw[Ó hi,Å ha,Å ha,Í hi (by omega)]
    cases f:(a.1==g.1) with
    |false=>have:ieq a.1 g.1=false:=f; simp[this]
    |true =>
     have:ieq a.1 g.1=true:=f;rw[this]
     cases h2:(a.2==d) with
     |false=>have:ieq a.2 d=false:=h2; simp[this]
     |true=>have:ieq a.2 d=true:=h2; simp[this]
   ·try dsimp only
    unfold iy;rw[ß]
   ·cases b.2.2.2.2.2.any _<;>rfl
  rw[e];refine dc (Ő b.2.2.2.2.1 (fun c=>c.2.1==d&&(yq c.2.2.1 c.2.2.2.1==g.1||yq c.2.2.2.1 c.2.2.1==g.1)) (fun _=>some true) (some true) (some (b.2.2.2.2.2.any (fun n=>n.1==g.1&&n.2==d))) (fun _=>rfl) (fun i a hi ha kn=>?_) (fun kn=>?_)) ?_
  ·have p:=l.piles a (bJ ha)
   try dsimp only
   unfold kQ;rw[Ó hi,Å ha,xw (by omega) (by omega),xw (by omega) (by omega),Í hi (by omega)];simp only[À]
   cases f:(a.2.1==d) with
   |false=>have:ieq a.2.1 d=false:=f; simp[this]
   |true =>
    have:ieq a.2.1 d=true:=f;rw[this]
    cases h2:(yq a.2.2.1 a.2.2.2.1==g.1) with
    |true=>have:ieq (yq a.2.2.1 a.2.2.2.1) g.1=true:=h2; simp[this]
    |false =>
     have:ieq (yq a.2.2.1 a.2.2.2.1) g.1=false:=h2;rw[this]
     cases o:(yq a.2.2.2.1 a.2.2.1==g.1) with
     |true=>have:ieq (yq a.2.2.2.1 a.2.2.1) g.1=true:=o; simp[this]
     |false=>have:ieq (yq a.2.2.2.1 a.2.2.1) g.1=false:=o; simp[this]
  ·try dsimp only
   unfold kQ;rw[ß]
  ·cases b.2.2.2.2.1.any _<;>rfl
def SX {b:ë} (h:Pre b) {g:è} (m:g∈b.2.1) {d:Int}:y9 b g d=true↔d∈ă b g:=by
 have a:g.1≠0:=by
  have:=((mG g).1 (h.gauge g m)).2.2.2.1;omega
 rw[wd];unfold y9;simp only[Bool.or_eq_true,List.any_eq_true,Bool.and_eq_true,beq_iff_eq,or_assoc];refine or_congr eq_comm (or_congr ?_ Iff.rfl);constructor
 ·rintro⟨c,f,e,i⟩;obtain⟨_,k,j⟩:=h.cmp c f;refine⟨c,f,?_,e⟩;rw[FO k a,FO j a] at i;intro l;rw[cq,di,di] at l;rcases i with⟨x,y⟩|⟨x,y⟩
  ·exact y (l.1 x)
  ·exact y (l.2 x)
 ·rintro⟨c,f,i,e⟩;obtain⟨_,k,j⟩:=h.cmp c f;refine⟨c,f,e,?_⟩;rw[FO k a,FO j a]
  by_cases ha:g.1∈c.2.2.1
  ·by_cases hb:g.1∈c.2.2.2.1
   ·exact absurd (by rw[cq,di,di]; exact⟨fun _=>hb,fun _=>ha⟩) i
   ·exact .inl ⟨ha,hb⟩
  ·by_cases hb:g.1∈c.2.2.2.1
   ·exact .inr ⟨hb,ha⟩
   ·exact absurd (by rw[cq,di,di]; exact⟨fun x=>absurd x ha,fun x=>absurd x hb⟩) i
def nx (v:Int) (D:th Int):Int:=D.foldl (fun m d=>if v<d then min m d else m) 20001
def QD (v:Int) (D:th Int) (d:Int):nx v (D++[d])=if v<d then min (nx v D) d else nx v D:=by
 unfold nx;rw[List.foldl_append];rfl
def FP (v:Int):∀D:th Int,nx v D<=20001/\(∀d∈D,v<d->nx v D<=d)/\(nx v D=20001\/(nx v D∈D/\v<nx v D)):=by
 suffices H:∀(n:Nat) (D:th Int),D.length=n->nx v D<=20001/\(∀d∈D,v<d->nx v D<=d)/\(nx v D=20001\/(nx v D∈D/\v<nx v D)) from fun D=>H _ D rfl
 intro n
 induction n with
 |zero =>
  intro D i;rw[bG.1 i];exact⟨Int.le_refl _,by simp,.inl rfl⟩
 |succ n g =>
  intro D' e
  obtain⟨D,d,rfl⟩:∃D d,D'=D++[d]:=by
   rcases List.eq_nil_or_concat D' with rfl|⟨L,b,rfl⟩
   ·simp at e
   ·exact⟨L,b,by simp⟩
  obtain⟨j,h2,a⟩:=g D (by simpa using e);rw[QD]
  by_cases hd:v<d
  ·rw[if_pos hd];refine⟨by omega,fun x c f=>?_,?_⟩
   ·rcases bq.1 c with c|c
    ·have:=h2 x c f; omega
    ·rw[br] at c; omega
   ·rcases Int.le_total (nx v D) d with h|h
    ·rw[Int.min_eq_left h];rcases a with a|a
     ·exact .inl a
     ·exact .inr ⟨by simp[a.1],a.2⟩
    ·rw[Int.min_eq_right h];exact .inr ⟨by simp,hd⟩
  ·rw[if_neg hd];refine⟨j,fun x c f=>?_,?_⟩
   ·rcases bq.1 c with c|c
    ·exact h2 x c f
    ·rw[br] at c; omega
   ·rcases a with a|a
    ·exact .inl a
    ·exact .inr ⟨by simp[a.1],a.2⟩
def WB {D:th Int} (l:D.length<=1000000) (v:Int) (K:Int->so (th (Int×Int))) :
 Ü (fun(c:Int×Int) d=>gq v D c.1 c.2 (fun f e=>d (f,e)) K) ((20001:Int),(0:Int))=K (nx v D):=by
 refine fB (fun x:Int×Int=>∃k:Nat,k<=D.length/\x=(nx v (D.take k),(k:Int))) (fun x=>D.length-x.2.toNat) ?_ ⟨0,by omega,rfl⟩;rintro x ⟨k,j,rfl⟩;rcases bZ k D.length with a|i
 ·refine .inr ⟨(nx v (D.take (k+1)),((k+1:Nat):Int)),⟨k+1,a,rfl⟩,by simp only[Int.toNat_natCast]; omega,fun kn=>?_⟩;have ha:D[k]?=some D[k]:=List.getElem?_eq_getElem a;unfold gq;have g:θ D=((D.length:Nat):Int):=rfl;rw[Ó a,g,tM a,ů ha,take_succ ha,QD]
  by_cases h:v<D[k]
  ·rw[Þ (by simpa[igt] using h),tM a,ů ha,Í a (by omega),if_pos h,WS];simp
  ·rw[Ö (by simpa[igt] using h),Í a (by omega),if_neg h];simp
 ·have:k=D.length:=by omega
  subst this;refine .inl fun kn=>?_;unfold gq;rw[ß,List.take_length]
def PA (b:ë) (g:è) (D:th Int) (v:Int):th Int:=(Mh D).filter fun d=>decide (v<d)&&y9 b g d
def CL {b:ë} {g:è} {D:th Int} (m:∀d∈D,d<=20000) (v:Int):PA b g D v=if nx v D<20001 then(if y9 b g (nx v D) then nx v D::PA b g D (nx v D) else PA b g D (nx v D)) else[]:=by
 obtain⟨n,h2,f⟩:=FP v D;refine LO ((sU D).sublist List.filter_sublist) ?_ fun x=>?_
 ·split
  ·split
   ·rw[bS];refine⟨fun a ha=>?_,(sU D).sublist List.filter_sublist⟩;have:=(dO.1 ha).2;simp at this;omega
   ·exact(sU D).sublist List.filter_sublist
  ·exact List.Pairwise.nil
 ·have i:∀v x,x∈PA b g D v↔x∈D/\v<x/\y9 b g x=true:=by
   intro v x;unfold PA;rw[List.mem_filter,qp];simp
  rw[i]
  split
  ·rename_i k
   have j:nx v D∈D/\v<nx v D:=by
    rcases f with f|f
    ·omega
    ·exact f
   split
   ·rename_i ha;rw[bw,i];constructor
    ·rintro⟨a,c,e⟩;have:=h2 x a c;rcases Int.lt_or_eq_of_le this with h|h
     ·exact .inr ⟨a,h,e⟩
     ·exact .inl h.symm
    ·rintro(rfl|⟨a,c,e⟩)
     ·exact⟨j.1,j.2,ha⟩
     ·exact⟨a,by omega,e⟩
   ·rename_i ha;rw[i];constructor
    ·rintro⟨a,c,e⟩;have:=h2 x a c;rcases Int.lt_or_eq_of_le this with h|h
     ·exact⟨a,h,e⟩
     ·rw[<-h] at e; exact absurd e ha
    ·rintro⟨a,c,e⟩;exact⟨a,by omega,e⟩
  ·rename_i l;constructor
   ·rintro⟨a,c,e⟩;have:=h2 x a c;have:=m x a;omega
   ·intro h; cases h
def Vh {b:ë} {g:è} {D:th Int} (v:Int):(PA b g D v).length<=D.length :=
 bB (cJ _ _) (zf D)
set_option maxHeartbeats 1000000 in
def UI {b:ë} (c:Γ b) {i:Nat} {g:è} (p:b.2.1[i]?=some g) {D:th Int} (t:D.length<=1000000) (j:∀d∈D,d<=20000) {out:th (Int×Int)} (y:out.length+D.length<=1000000000) (K:th (Int×Int)->so (th (Int×Int))) :
 Ü (fun(f:Int×th (Int×Int)) h=>gu (i:Int) b.1.1 b.1.2 b.2.1 b.2.2.1 b.2.2.2.1 b.2.2.2.2.1 b.2.2.2.2.2 D f.1 f.2 (fun m l=>h (m,l)) K) ((-1:Int),out)=K (out++(PA b g D (-1)).map fun d=>((g.1,d):Int×Int)):=by
 refine fB (fun x:Int×th (Int×Int)=>x.2++(PA b g D x.1).map (fun d=>((g.1,d):Int×Int))=out++(PA b g D (-1)).map fun d=>((g.1,d):Int×Int)) (fun x=>(20001-x.1).toNat) ?_ rfl;rintro⟨v,o⟩ hI;simp only at hI
 by_cases n:v<20001
 ·obtain⟨z,h2,k⟩:=FP v D
  have s:v<nx v D:=by
   rcases k with k|k
   ·omega
   ·exact k.2
  refine .inr ⟨(nx v D,if nx v D<20001/\y9 b g (nx v D)=true then o++[(g.1,nx v D)] else o),?_,by simp only; omega,fun kn=>?_⟩
  ·rw[<-hI];simp only;rw[CL j v]
   by_cases ha:nx v D<20001
   ·rw[if_pos ha]
    cases q:y9 b g (nx v D) with
    |true=>rw[if_pos ⟨ha,rfl⟩,if_pos rfl]; simp
    |false=>rw[if_neg (by simp),if_neg (by simp)]
   ·rw[if_neg (by omega),if_neg ha]
    have:PA b g D (nx v D)=[]:=by
     have e:=CL (b:=b) (g:=g) j (nx v D);rw[e,if_neg];obtain⟨w,u,a⟩:=FP (nx v D) D;rcases a with a|a
     ·omega
     ·have:=j _ a.1; omega
    rw[this]
  ·unfold gu;rw[Þ (by simpa[ilt] using n)];refine Eq.trans (WB t v _) ?_;dsimp only
   by_cases ha:nx v D<20001
   ·rw[Þ (by simpa[ilt] using ha),Å p,Vo (b:=((b.1.1,b.1.2),b.2.1,b.2.2.1,b.2.2.2.1,b.2.2.2.2.1,b.2.2.2.2.2)) ⟨c.gauges,c.uses,c.loans,c.compares,c.looks,c.piles⟩,À];have e:y9 ((b.1.1,b.1.2),b.2.1,b.2.2.1,b.2.2.2.1,b.2.2.2.2.1,b.2.2.2.2.2) g (nx v D)=y9 b g (nx v D):=rfl;rw[e]
    cases q:y9 b g (nx v D) with
    |true =>
     have r:o.length<=1000000000:=by
      have:=congrArg List.length hI;simp only[bp,cd] at this;have:=Vh (b:=b) (g:=g) (D:=D) (-1);omega
     rw[Þ rfl,Å p,Ð (by simp only[bY]; omega),Am.iff_true,if_pos ⟨ha,rfl⟩]
    |false=>rw[Ö rfl,if_neg (by simp)]
   ·rw[Ö (by simpa[ilt] using ha),if_neg (by omega)]
 ·refine .inl fun kn=>?_;unfold gu;rw[Ö (by simpa[ilt] using n)]
  have:PA b g D v=[]:=by
   rw[CL j,if_neg];obtain⟨w,u,a⟩:=FP v D;rcases a with a|a
   ·omega
   ·have:=j _ a.1; omega
  rw[this] at hI;simp only[dR,bH] at hI;rw[hI]
def qj (b:ë):th Int:=b.2.1.map (fun g=>g.2.1)++b.2.2.2.2.1.map (fun c=>c.2.1)++b.2.2.2.2.2.map fun n=>n.2
def LQ {b:ë} (a:Γ b):(qj b).length<=3000:=by
 have d:=a.gauges; have h2:=a.compares; have c:=a.looks;simp only[qj,bp,cd];omega
def Pre.days {b:ë} (h:Pre b):∀d∈qj b,0<=d/\d<=20000:=by
 intro d hd;simp only[qj,bq,cj] at hd;rcases hd with(⟨g,e,rfl⟩|⟨c,f,rfl⟩)|⟨n,a,rfl⟩
 ·have:=((mG g).1 (h.gauge g e)).2.2.2.2.1;omega
 ·have:=(h.cmp c f).1;simp only[Ct,inP,bn,decide_eq_true_eq] at this;exact this
 ·have:=h.look n a;simp only[Ct,inP,bn,decide_eq_true_eq] at this;exact this
def SY {b:ë} (h:Pre b) {g:è} (f:g∈b.2.1):PA b g (qj b) (-1)=ă b g:=by
 refine LO ((sU _).sublist List.filter_sublist) (GK b g) fun x=>?_;unfold PA;rw[List.mem_filter,qp,Bool.and_eq_true,SX h f,decide_eq_true_eq];constructor
 ·exact fun a=>a.2.2
 ·intro a
  have d:x∈qj b:=by
   simp only[qj,bq,cj];rcases wd.1 a with e|⟨c,j,_,e⟩|⟨n,i,_,e⟩
   ·exact .inl (.inl ⟨g,f,e.symm⟩)
   ·exact .inl (.inr ⟨c,j,e⟩)
   ·exact .inr ⟨n,i,e⟩
  have:=h.days x d;exact⟨d,by omega,a⟩
def FS {α:Type} (f:α->Int) (l:th α) (s:th Int) (i:Nat) {a:α} (ha:l[i]?=some a):s++(l.take (i+1)).map f=(s++(l.take i).map f)++[f a]:=by
 rw[take_succ ha,dZ,bE]; rfl
def CT {b:ë} (h:Pre b):fV b=some (û b):=by
 have l:=h.size.gauges; have h2:=h.size.compares; have k:=h.size.looks;have j:=LQ h.size;unfold fV Ez;refine ĝ b.2.1 (fun i=>(b.2.1.take i).map (fun g=>g.2.1)) _ rfl (fun i a hi ha kn=>?_) (fun kn=>?_)
 ·try dsimp only
  unfold jp;have:=FS (fun g:è=>g.2.1) b.2.1 [] i ha;simp only[List.nil_append] at this;rw[Ó hi,Å ha,Ð (by simp only[List.length_map,List.length_take,List.length_singleton]; omega),Am.iff_true,Í hi (by omega),this]
 ·try dsimp only
  unfold jp;rw[ß,List.take_length];dsimp only;refine ĝ b.2.2.2.2.1 (fun i=>b.2.1.map (fun g=>g.2.1)++(b.2.2.2.2.1.take i).map (fun c=>c.2.1)) _ (by simp) (fun i a hi ha kn=>?_) (fun kn=>?_)
  ·try dsimp only
   unfold jo;rw[Ó hi,Å ha,Ð (by simp only[List.length_append,List.length_map,List.length_take,List.length_singleton]; omega),Am.iff_true,Í hi (by omega),FS (fun c:Cmp=>c.2.1) b.2.2.2.2.1 _ i ha]
  ·try dsimp only
   unfold jo;rw[ß,List.take_length];dsimp only;refine ĝ b.2.2.2.2.2 (fun i=>b.2.1.map (fun g=>g.2.1)++b.2.2.2.2.1.map (fun c=>c.2.1)++(b.2.2.2.2.2.take i).map (fun n=>n.2)) _ (by simp) (fun i a hi ha kn=>?_) (fun kn=>?_)
   ·try dsimp only
    unfold jn;rw[Ó hi,Å ha,Ð (by simp only[List.length_append,List.length_map,List.length_take,List.length_singleton]; omega),Am.iff_true,Í hi (by omega),FS (fun n:Int×Int=>n.2) b.2.2.2.2.2 _ i ha]
   ·try dsimp only
    unfold jn;rw[ß,List.take_length];dsimp only;rw[show b.2.1.map (fun g=>g.2.1)++b.2.2.2.2.1.map (fun c=>c.2.1)++b.2.2.2.2.2.map (fun n=>n.2)=qj b from rfl];refine ĝ b.2.1 (fun i=>(b.2.1.take i).flatMap fun g=>(ă b g).map fun d=>((g.1,d):Int×Int)) _ rfl (fun i g hi e kn=>?_) (fun kn=>?_)
    ·try dsimp only
     unfold jm;rw[Ó hi]
     have f:((b.2.1.take i).flatMap fun g=>(ă b g).map fun d=>((g.1,d):Int×Int)).length<=2001000:=by
      have:=nD (fun g:è=>(ă b g).map fun d=>((g.1,d):Int×Int)) 2001 (fun g=>by rw[cd]; exact we h.size g) (b.2.1.take i);rw[bN] at this;have:min i b.2.1.length*2001<=1000*2001:=bQ _ (by omega);omega
     refine dc (UI h.size e (by omega) (fun d hd=>(h.days d hd).2) (by omega) _) ?_;rw[Í hi (by omega),SY h (bJ e),take_succ e,dV];simp
    ·try dsimp only
     unfold jm;rw[ß,List.take_length];rfl
def Ft {n d:Int} (hd:0<d) (j:n.natAbs<=2147483647) (c:d<=2147483647):ky n d=some (qs n d,0):=by
 obtain⟨g,h0,l,m,h2⟩:=ut (n:=n) hd;have r:=(uw _).1 (KL hd j c)
 have z:fm d 0=false:=by simp[fm]; omega
 have f:fm (g:Int) 0=false:=by simp[fm]; omega
 unfold ky Bm
 by_cases a:n=0
 ·subst a
  have e:qs 0 d=(0,1):=by
   unfold qs
   have:(Nat.gcd (0:Int).natAbs d.natAbs:Int)=d:=by simp; omega
   rw[this,Int.ediv_self (by omega)];simp
  rw[Ö (by rfl),Ö z,ö (by simp) (by simp),Ö z,Int.tdiv_self (by omega),ö (by omega) (by omega),Int.zero_tdiv,e];rfl
 ·rw[Þ (by simpa[ine] using a),Ö z];have q:(Int.tmod n d).natAbs=n.natAbs % d.natAbs:=fj n d;have k:=eV n.natAbs (show 0<d.natAbs by omega);rw[Tk ⟨by omega,by omega⟩,À]
  have p:d=((d.natAbs:Nat):Int):=by omega
  have o:qX ((Int.tmod n d).natAbs:Int) d=some (g:Int):=by
   have:=Th (Int.tmod n d).natAbs d.natAbs;rw[<-p] at this;rw[this,q,l];congr 2;rw[fi n.natAbs,Nat.gcd_rec d.natAbs n.natAbs]
  rw[o,À,Ö f]
  have i:Int.tdiv n (g:Int)=(qs n d).1:=by
   conv=>lhs; rw[m]
   exact Int.mul_tdiv_cancel _ (by omega)
  have h:Int.tdiv d (g:Int)=(qs n d).2:=by
   conv=>lhs; rw[h2]
   exact Int.mul_tdiv_cancel _ (by omega)
  rw[i,h,ö (by omega) (by omega),Ö f,ö (by omega) (by omega),Ö (by simp[igt]; omega),Ö (by simp[ilt]; omega),Ö (by simp[igt]; omega)]
def Xx {x y:Int×Int} (c:tY x 1000 100) (a:tY y 1000 100):zw x y=some (subP x y,0):=by
 obtain⟨i,f,b3⟩:=DW c a;have h:=qw c.num (show -100<=y.2/\y.2<=100 from⟨by have:=a.pos; omega,a.den⟩);have h2:=qw a.num (show -100<=x.2/\x.2<=100 from⟨by have:=c.pos; omega,c.den⟩);have g:=a.num;unfold zw MQ GF MR GG MU;rw[ö (by omega) (by omega),À];dsimp only
 have e:(0-y.1)*x.2 = -(y.1*x.2):=by rw[Int.zero_sub,Int.neg_mul]
 rw[ö (by omega) (by omega),e,ö (by omega) (by omega),ö (by omega) (by omega),ö (by omega) (by omega)]
 have d:x.1*y.2 + -(y.1*x.2)=x.1*y.2-y.1*x.2:=by omega
 rw[d,Ft f (by omega) (by omega),À,À];rfl
def Tg {k:Int×Int} (a:tY k 200000 10000) {n:Int} (c : -10000<=n/\n<=10000):nI (n,1) k=some (xQ k n,0):=by
 have b:=El a c;have p:=a.pos;have q:=a.den;unfold nI MS;have e:n*k.1=k.1*n:=Int.mul_comm _ _;dsimp only;rw[e,Int.one_mul,ö (by omega) (by omega),ö (by omega) (by omega),Ft (by omega) (by omega) (by omega),À];rfl
def Te {k:Int×Int} (c:tY k 200000 10000) {heat:Int×Int} (d:ξ heat (-10000) 10000=true):qW ((heat.1,1),(heat.2,1)) k=some (KQ k heat,0):=by
 simp only[ξ,Bool.and_eq_true,decide_eq_true_eq] at d;have e:=c.pos;rw[Od (by omega) d.2.1];unfold qW EE vV IQ;dsimp only;rw[Tg c ⟨by omega,by omega⟩,Tg c ⟨by omega,by omega⟩]
 by_cases a:k.1<0
 ·rw[Þ (by simpa[ilt] using a),if_pos a];rfl
 ·rw[Ö (by simpa[ilt] using a),if_neg a];rfl
def Tc {r:Int×Int} (h:Kc r=true):qY r=some (r.1 / r.2):=by
 have:=(uw r).1 h;have e:=OU (n:=r.1) (d:=r.2) (by omega) (by omega);unfold qY EG Cn IP;rw[e];rfl
def Vn {r:Int×Int} (h:Kc r=true):vW r=some (JP r):=by
 have c:=(uw r).1 h;unfold vW IV Lj QV
 have z:fm r.2 0=false:=by simp[fm]; omega
 have t:=Int.mul_tdiv_add_tmod r.1 r.2
 have g : -4000000000<=Int.tdiv r.1 r.2/\Int.tdiv r.1 r.2<=4000000000:=by
  have:=Int.natAbs_tdiv_le_natAbs r.1 r.2;omega
 have f : -r.2<Int.tmod r.1 r.2/\Int.tmod r.1 r.2<r.2:=by
  have e:=fj r.1 r.2;have d:=eV r.1.natAbs (show 0<r.2.natAbs by omega);omega
 rw[Ö z,ö (by omega) (by omega),Ö z,œ];unfold JP
 by_cases a:0<Int.tmod r.1 r.2
 ·rw[if_pos (by simpa[igt] using a),ö (by omega) (by omega),À];congr 1
  have : -r.1 / r.2 = -(Int.tdiv r.1 r.2)-1:=by
   refine(d9 (by omega)).2 ⟨?_,?_⟩
   ·rw[Int.sub_mul,Int.neg_mul,dN (Int.tdiv r.1 r.2)]; omega
   ·rw[Int.sub_mul,Int.neg_mul,dN (Int.tdiv r.1 r.2)]; omega
  omega
 ·rw[if_neg (by simpa[igt] using a),À];congr 1
  have : -r.1 / r.2 = -(Int.tdiv r.1 r.2):=by
   refine(d9 (by omega)).2 ⟨?_,?_⟩
   ·rw[Int.neg_mul,dN (Int.tdiv r.1 r.2)]; omega
   ·rw[Int.neg_mul,dN (Int.tdiv r.1 r.2)]; omega
  omega
structure XC (b:ë) (c:Cmp):Prop where
 ok:Tt b c
 ids:b.2.1.Pairwise fun a b=>a.1<b.1
 pile:∀x∈c.2.2.1++c.2.2.2.1,∃g,Ń b x=some g
def ι.cmpIn {b:ë} (h:ι b) {c:Cmp} (a:c∈b.2.2.2.2.1):XC b c:=⟨h.cmp a,h.ids,fun x d=>by obtain⟨⟨g,e,_⟩,_⟩:=h.pile a d; exact⟨g,e⟩⟩
def Tt.ne {b:ë} {c:Cmp} (h:Tt b c):∀x∈c.2.2.1++c.2.2.2.1,x≠0:=by
 intro x a;have d:=(f9 c).1 h.nums;have e:=((HQ _).1 d.2.2.2.2.2.1).1;have h2:=((HQ _).1 d.2.2.2.2.2.2).1;rcases bq.1 a with a|a
 ·have:=e x a; omega
 ·have:=h2 x a; omega
def J2 {b:ë} (i:Γ b) (hi:b.2.1.Pairwise fun a b=>a.1<b.1) {p q:th Int} (h:∀x∈p,x≠0/\∃g,Ń b x=some g):mI b (yq p q)=some (CY (ŗ b) (é p q)):=by
 have m:=i.gauges;unfold mI Eu
 cases c:é p q with
 |nil =>
  have:yq p q=0:=by unfold yq; rw[c]; rfl
  rw[this];rfl
 |cons x t =>
  have e:yq p q=x:=by unfold yq; rw[c]; rfl
  have k:x∈p:=(vH.1 (show x∈é p q by rw[c]; simp)).1;obtain⟨h0,g,f⟩:=h x k;rw[e,Ö (by simpa[ieq] using h0),zG (by omega),À];rcases qM (b:=b) (id:=x) with⟨j,g',h2,d,l⟩|⟨h2,d⟩
  ·rw[h2]
   try dsimp only
   rw[Å d];unfold CY;dsimp only;rw[qx hi,l]
  ·rw[d] at f; cases f
def PG {b:ë} (e:Γ b) {c:Cmp} (h:XC b c):nF b c=some (η b c):=by
 have d:=(f9 c).1 h.ok.nums;have ha:=ļ d.2.2.2.2.2.1;have hb:=ļ d.2.2.2.2.2.2;have i:∀x∈c.2.2.1,x≠0/\∃g,Ń b x=some g:=fun x a=>⟨h.ok.ne x (by simp[a]),h.pile x (by simp[a])⟩;have f:∀x∈c.2.2.2.1,x≠0/\∃g,Ń b x=some g:=fun x a=>⟨h.ok.ne x (by simp[a]),h.pile x (by simp[a])⟩;unfold nF Be;rw[xw (by omega) (by omega),À,J2 e h.ids i,À,xw (by omega) (by omega),À,J2 e h.ids f,À,Xx h.ok.r1 h.ok.r2,À]
 try dsimp only
 rw[Te (heat:=c.2.2.2.2.2.2) (Kq h.ok.r1 h.ok.r2) d.2.2.2.2.1,À];rfl
def Ti {b:ë} {c:Cmp} (d:c.2.2.1.length<=1000) (a:c.2.2.2.1.length<=1000) (h:0<=b.1.1) (h2:b.1.1<=1000000) (g:0<=b.1.2) (f:b.1.2<=1000000):qU b c=some (mH b c):=by
 unfold qU EC mH
 have e:∀n:Nat,Ru 0 ((n:Int)-1)=((n-1:Nat):Int):=by
  intro n;unfold Ru
  split<;>omega
 have bd:∀(n:Nat) (x:Int),n<=1000->0<=x->x<=1000000->0<=((n-1:Nat):Int)*x/\((n-1:Nat):Int)*x<=1000000000:=by
  intro n x j h0 i;refine⟨Int.mul_nonneg (by omega) h0,?_⟩;have:=Int.mul_le_mul (show((n-1:Nat):Int)<=1000 by omega) i h0 (by omega);omega
 have m:=bd _ _ d h h2;have l:=bd _ _ d g f;have b3:=bd _ _ a h h2;have k:=bd _ _ a g f;simp only[ó];rw[ö (by omega) (by omega),ö (by omega) (by omega)];simp only[e];rw[ö (by omega) (by omega),ö (by omega) (by omega),ö (by omega) (by omega),ö (by omega) (by omega),ö (by omega) (by omega),ö (by omega) (by omega)]
def Vq {b:ë} (f:Γ b) (g:0<=b.1.1/\b.1.1<=b.1.2/\b.1.2<=1000000) {c:Cmp} (h:XC b c):mJ b c=some (FA b c):=by
 have a:=(f9 c).1 h.ok.nums;have ha:=ļ a.2.2.2.2.2.1;have hb:=ļ a.2.2.2.2.2.2;obtain⟨e,d,m,l,b3⟩:=HG g h.ok;have k:=xn e;have j:=tO d;have i:=tQ (b:=b) (c:=c) (by omega) (by omega) (by omega) (by omega) (by omega) (by omega);have hd:=a.2.2.1;unfold mJ IF FA;rw[PG f h,À,Ti (by omega) (by omega) (by omega) (by omega) (by omega) (by omega),À,Tc d.rat,Vn e.rat];simp only[À];rw[ö (by omega) (by omega),ö (by omega) (by omega),ö (by omega) (by omega),ö (by omega) (by omega),ö (by omega) (by omega),ö (by omega) (by omega)]
section
variable {b:ë}
def Vr (h:ι b) {id:Int} {g:è} (i:Ń b id=some g) {f t:Int} (q:0<=f/\f<=100000) (B:t<=100000):mK b id f t=some (rz b g f t):=by
 have E:=h.nG;have C:=h.nU;have D:=h.nL;obtain⟨a,k⟩:=pP i;unfold mK II;rw[zG (by omega),À];rcases qM (b:=b) (id:=id) with⟨j,g',h2,n,r⟩|⟨h2,n⟩
 ·rw[h2]
  have:g'=g:=by rw[i] at r; exact(Option.some.inj r).symm
  subst this
  try dsimp only
  rw[Å n];refine fB (fun x:Int×Int=>f<=x.2/\(x.2<=t\/x.2=f)/\x.1=rz b g' f x.2) (fun x=>(t-x.2).toNat) ?_ ⟨Int.le_refl _,.inr rfl,(BS g' (Int.le_refl _)).symm⟩;rintro⟨s,d⟩ ⟨c,m,p⟩;simp only at c m p;subst p
  by_cases hd:d<t
  ·refine .inr ⟨(rz b g' f (d+1),d+1),⟨by simp only; omega,.inl (by simp only; omega),rfl⟩,by simp only; omega,fun kn=>?_⟩;have e:=QY h g' c;have A:=tJ h a (f:=f) (t:=d) q.1;have u:=tJ h a (f:=f) (t:=d+1) q.1;unfold kY;rw[Þ (by simpa[ilt] using hd),NL (b:=((b.1.1,b.1.2),b.2.1,b.2.2.1,b.2.2.2.1,b.2.2.2.2.1,b.2.2.2.2.2)) (by simp only; omega),À];have z:gH ((b.1.1,b.1.2),b.2.1,b.2.2.1,b.2.2.2.1,b.2.2.2.2.1,b.2.2.2.2.2) id d=gH b id d:=rfl;rw[z];unfold Lr at e;rw[k] at e
   cases ha:gH b id d with
   |some l =>
    rw[ha] at e;simp only at e;rw[Þ rfl]
    try dsimp only
    rw[<-e,ö (by omega) (by omega),ö (by omega) (by omega)]
   |none =>
    rw[ha] at e;simp only at e;rw[Ö rfl,Vp (b:=((b.1.1,b.1.2),b.2.1,b.2.2.1,b.2.2.2.1,b.2.2.2.2.1,b.2.2.2.2.2)) (by simp only; omega),À];have y:ym ((b.1.1,b.1.2),b.2.1,b.2.2.1,b.2.2.2.1,b.2.2.2.2.1,b.2.2.2.2.2) id d=ym b id d:=rfl;rw[y]
    cases o:ym b id d with
    |true =>
     rw[o,if_pos rfl] at e;rw[Þ rfl]
     try dsimp only
     rw[<-e,ö (by omega) (by omega),ö (by omega) (by omega)]
    |false =>
     rw[o,if_neg (by simp)] at e;rw[Ö rfl,ö (by omega) (by omega),e,Int.add_zero]
  ·refine .inl fun kn=>?_;unfold kY;rw[Ö (by simpa[ilt] using hd)]
   have:rz b g' f d=rz b g' f t:=by
    rcases Int.lt_or_le t f with v|w
    ·have:d=f:=by omega
     rw[this,BS g' (Int.le_refl _),BS g' (by omega)]
    ·have:d=t:=by omega
     rw[this]
   rw[this]
 ·rw[n] at i; cases i
end
def J4 {b:ë} (h:Pre b) (n:Int×Int):Τ b n=some (idxP b n.1 n.2):=by
 have c:=Ei h.size;unfold Τ EA;rw[CT h,À];refine Eq.trans (iK (û b) (fun m=>decide (n.1=m.1)&&decide (n.2=m.2)) (fun z=>some (z+1)) (some 0) (fun i a hi ha kn=>?_) (fun kn=>?_)) ?_
 ·try dsimp only
  unfold jq;rw[Ó hi,Å ha,Í hi (by omega),Í hi (by omega),œ,Bool.and_true]
  have e:(fm a.1 n.1&&fm a.2 n.2)=(decide (n.1=a.1)&&decide (n.2=a.2)):=by
   rw[cq];simp only[fm,bn,decide_eq_true_eq];exact and_congr eq_comm eq_comm
  rw[e]
 ·try dsimp only
  unfold jq;rw[ß]
 ·unfold idxP s8
  cases List.findIdx? (fun m=>decide (n.1=m.1)&&decide (n.2=m.2)) (û b)<;>rfl
def Rv {b:ë} (h:Pre b) (p q:th Int) (d:Int):idxP b (yq p q) d=atP (û b) (é p q) d:=by
 unfold idxP atP yq
 cases f:é p q with
 |nil =>
  simp only[List.head?_nil,Option.getD_none]
  have:s8 (û b) 0 d=none:=by
   unfold s8;rw[List.findIdx?_eq_none_iff];intro n a;obtain⟨g,c,a⟩:=List.mem_flatMap.1 a;obtain⟨e,_,rfl⟩:=List.mem_map.1 a;have:=((mG g).1 (h.gauge g c)).2.2.2.1
   have:¬((0:Int)=g.1):=by omega
   simp[this]
  rw[this]
 |cons x t=>rfl
section
variable {b:ë}
def Ue {k:Nat} (e:k<(û b).length):∃(i:Nat) (g:è) (j:Nat) (d:Int),b.2.1[i]?=some g/\(ă b g)[j]?=some d/\k=off b i+j/\(û b)[k]?=some (g.1,d):=by
 obtain⟨i,g,j,c,h2,a⟩:=Ua (b:=b) b.2.1.length (bm _) k (by rw[Wr]; exact e);have hd:(ă b g)[j]?=some (ă b g)[j]:=bo h2;exact⟨i,g,j,_,c,hd,a,by rw[a]; exact FQ c hd⟩
def N4 (h:ι b) {i j:Nat} {g g':è} (hi:b.2.1[i]?=some g) (e:b.2.1[j]?=some g') (f:g.1=g'.1):i=j/\g=g':=by
 obtain⟨d,rfl⟩:=bC.1 hi;obtain⟨h2,rfl⟩:=bC.1 e;have c:=dh.1 h.ids;rcases Nat.lt_trichotomy i j with a|rfl|a
 ·have:=c i j d h2 a; omega
 ·exact⟨rfl,rfl⟩
 ·have:=c j i h2 d a; omega
def ks (b:ë) (i:Nat) (g:è) (k:Nat):th Lk :=
 if k<=off b i then[] else[(0,(off b i:Int)+1,g.2.2.1+g.2.2.2.1.2),((off b i:Int)+1,0,-(g.2.2.1+g.2.2.2.1.1))] ++
  (List.range (min (k-off b i-1) ((ă b g).length-1))).flatMap fun(k:Nat)=>[((off b i:Int)+1+k,(off b i:Int)+1+k+1,0),((off b i:Int)+1+k+1,(off b i:Int)+1+k,rz b g ((ă b g)[k]?.getD 0) ((ă b g)[k+1]?.getD 0))]
def ţ (b:ë) (i:Nat) (g:è) (k:Nat):th (Int×Int) :=
 if k<=off b i then[] else[(1,(i:Int)),(1,(i:Int))]++(List.range (min (k-off b i-1) ((ă b g).length-1))).flatMap fun _=>[(2,(i:Int)),(2,(i:Int))]
def OT (h:ι b) {i:Nat} {g:è} (a:b.2.1[i]?=some g):ks b i g (û b).length=ĺ b g/\ţ b i g (û b).length=Ħ b i g:=by
 have d:=Wq h a;have c:=List.length_pos_of_mem (zz (b:=b) g)
 have e:min ((û b).length-off b i-1) ((ă b g).length-1)=(ă b g).length-1:=by omega
 unfold ks ţ ĺ Ħ;rw[if_neg (by omega),if_neg (by omega),e,Ve h a];exact⟨rfl,rfl⟩
def Jp {i:Nat} {g:è} {k:Nat} (a:k<off b i\/off b i+(ă b g).length<=k) (c:0<(ă b g).length):ks b i g (k+1)=ks b i g k/\ţ b i g (k+1)=ţ b i g k:=by
 unfold ks ţ;rcases a with a|a
 ·rw[if_pos (by omega),if_pos (by omega),if_pos (by omega),if_pos (by omega)];exact⟨rfl,rfl⟩
 ·have e:min (k+1-off b i-1) ((ă b g).length-1)=min (k-off b i-1) ((ă b g).length-1):=by omega
  rw[if_neg (by omega),if_neg (by omega),if_neg (by omega),if_neg (by omega),e];exact⟨rfl,rfl⟩
def Jq {i:Nat} {g:è}:ks b i g (off b i+1)=ks b i g (off b i)++[(0,(off b i:Int)+1,g.2.2.1+g.2.2.2.1.2),((off b i:Int)+1,0,-(g.2.2.1+g.2.2.2.1.1))]/\ţ b i g (off b i+1)=ţ b i g (off b i)++[(1,(i:Int)),(1,(i:Int))]:=by
 unfold ks ţ;rw[if_neg (by omega),if_pos (Nat.le_refl _),if_neg (by omega),if_pos (Nat.le_refl _),show off b i+1-off b i-1=0 by omega,Nat.zero_min];exact⟨by simp,by simp⟩
def Lh {i:Nat} {g:è} {j:Nat} (a:j+1<(ă b g).length):ks b i g (off b i+(j+1)+1)=ks b i g (off b i+(j+1))++[((off b i:Int)+1+j,(off b i:Int)+1+j+1,0),((off b i:Int)+1+j+1,(off b i:Int)+1+j,rz b g ((ă b g)[j]?.getD 0) ((ă b g)[j+1]?.getD 0))] /\
 ţ b i g (off b i+(j+1)+1)=ţ b i g (off b i+(j+1))++[(2,(i:Int)),(2,(i:Int))]:=by
 unfold ks ţ;rw[if_neg (by omega),if_neg (by omega),if_neg (by omega),if_neg (by omega),show min (off b i+(j+1)+1-off b i-1) ((ă b g).length-1)=j+1 by omega,show min (off b i+(j+1)-off b i-1) ((ă b g).length-1)=j by omega,wG,wG];exact⟨by simp,by simp⟩
def OS (i:Nat) (g:è) (k:Nat) (hd:(ă b g).length<=59):(ks b i g k).length<=120/\(ţ b i g k).length<=120:=by
 unfold ks ţ;constructor
 ·split
  ·simp
  ·rw[bp,jW _ _ (fun _=>rfl)];simp only[bz,bD]; omega
 ·split
  ·simp
  ·rw[bp,jW _ _ (fun _=>rfl)];simp only[bz,bD]; omega
set_option maxHeartbeats 1000000 in
def PU (h:ι b) {i:Nat} {g:è} (z:b.2.1[i]?=some g) {L:th Lk} {S:th (Int×Int)} (hL:L.length<=100000) (hS:S.length<=100000) (K:th Lk×th (Int×Int)->so (th Lk×th (Int×Int))) :
 Ü (fun(o:Int×th Lk×th (Int×Int)) r=>ki (û b) (i:Int) b.1.1 b.1.2 b.2.1 b.2.2.1 b.2.2.2.1 b.2.2.2.2.1 b.2.2.2.2.2 g.1 g.2.1 g.2.2.1 g.2.2.2.1.1 g.2.2.2.1.2 o.1 o.2.1 o.2.2 (fun C B A=>r (C,B,A)) K) ((0:Int),L,S)=K (L++ĺ b g,S++Ħ b i g):=by
 have hN:=h.nodes;have c:=bJ z;have M:=Ns h c;have V:=List.length_pos_of_mem (zz (b:=b) g);have Q:=h.gaugeR c;have r1:=Q.2.2.2.2.2.1;have r2:=Q.2.2.2.2.2.2.1;obtain⟨Y,s⟩:=JE h c;refine ĝ (û b) (fun k=>(L++ks b i g k,S++ţ b i g k)) _ (by simp[ks,ţ]) (fun k n f x kn=>?_) (fun kn=>?_)
 ·try dsimp only
  unfold ki;have gl:=OS (b:=b) i g k M;rw[Ó f,Å x];obtain⟨U,g',j,d,O,h2,T,R⟩:=Ue f
  have w:n=(g'.1,d):=by rw[x] at R; exact Option.some.inj R
  by_cases a:n.1=g.1
  ·obtain⟨I,J⟩:=N4 h O z (by rw[w] at a; exact a);subst J;have H:U=i:=I;rw[H] at T O;rw[Ö (by simp[ine,a]),Å x]
   have y:n.2=d:=by rw[w]
   rw[y]
   cases j with
   |zero =>
    have q:d=g'.2.1:=by rw[s] at h2; simpa using h2.symm
    have p:k=off b i:=by omega
    rw[Þ (by simp[ieq,q])];obtain⟨m,l⟩:=Jq (b:=b) (i:=i) (g:=g');rw[<-p] at m l;rw[Í f (by omega),ö (by omega) (by omega),Í f (by omega),ö (by omega) (by omega),ö (by omega) (by omega),Ð (by simp only[bp,bz,bD]; omega),Am.iff_true,Ð (by simp only[bp,bz,bD]; omega),Am.iff_true,Í f (by omega),m,l]
    have P:0-g'.2.2.1-g'.2.2.2.1.1 = -(g'.2.2.1+g'.2.2.2.1.1):=by omega
    rw[P];simp only[bE]
   |succ j =>
    have G:=(bC.1 h2).1
    have q:d≠g'.2.1:=by
     have u:=GK b g';rw[s] at h2 u;rw[List.getElem?_cons_succ] at h2;have:=(bS.1 u).1 d (bJ h2);omega
    rw[Ö (by simpa[ieq] using q)]
    have e:(ă b g')[j]?=some ((ă b g')[j]?.getD 0):=by rw[bo (by omega)]; rfl
    have N:d=(ă b g')[j+1]?.getD 0:=by rw[h2]; rfl
    have D:=FQ O e;have X:=h.day c (bJ e);have d2:=h.day c (bJ h2);have p:k=off b i+(j+1):=T;obtain⟨m,l⟩:=Lh (b:=b) (i:=i) (g:=g') G;rw[<-p] at m l
    have F:((k:Int)-1)=((off b i+j:Nat):Int):=by omega
    have Z:=tJ h c (t:=d) X.2.1;rw[Cx (by omega) (by omega),F,Å D,Å x,y]
    try dsimp only
    rw[show mK ((b.1.1,b.1.2),b.2.1,b.2.2.1,b.2.2.2.1,b.2.2.2.2.1,b.2.2.2.2.2) g'.1 ((ă b g')[j]?.getD 0) d=mK b g'.1 ((ă b g')[j]?.getD 0) d from rfl,Vr h (B8 h.ids c) ⟨by omega,by omega⟩ (by omega),À,Í f (by omega),Í f (by omega),Ð (by simp only[bp,bz,bD]; omega),Am.iff_true,Ð (by simp only[bp,bz,bD]; omega),Am.iff_true,Í f (by omega),m,l,<-N]
    have P:(off b i:Int)+1+(j:Int)=(k:Int):=by omega
    rw[P];simp only[bE]
  ·rw[Þ (by simp[ine,a]),Í f (by omega)]
   have v:k<off b i\/off b i+(ă b g).length<=k:=by
    rcases bZ k (off b i) with E|W
    ·exact .inl E
    ·rcases bZ k (off b i+(ă b g).length) with hlt2|hge2
     ·have:=FQ z (k:=k-off b i) (bo (by omega));rw[show off b i+(k-off b i)=k by omega,x] at this;exact absurd (by rw[Option.some.inj this]) a
     ·exact .inr hge2
   obtain⟨m,l⟩:=Jp v V;rw[m,l]
 ·try dsimp only
  unfold ki;rw[ß];obtain⟨m,l⟩:=OT h z;rw[m,l]
end
def Ju {α β:Type} {e:Nat->α->so β}:∀{l:th α} {k i:Nat} {a:α} {b:β},(∀j c,j<i->l[j]?=some c->e (k+j) c=none)->l[i]?=some a->e (k+i) a=some b->ć e k l=some b
 |[],_,_,_,_,_,ha,_=>by simp at ha
 |c::t,k,0,a,b,_,ha,hb=>by
  simp only[List.getElem?_cons_zero,Option.some.injEq] at ha;subst ha;unfold ć;rw[Nat.add_zero] at hb;rw[hb]
 |c::t,k,i+1,a,b,h,ha,hb=>by
  unfold ć;have h0:=h 0 c (by omega) rfl;rw[Nat.add_zero] at h0;rw[h0];refine Ju (i:=i) (fun j d f hd=>?_) (by simpa using ha) (by rw[<-hb]; congr 1; omega);have:=h (j+1) d (by omega) (by simpa using hd);rw[<-this];congr 1;omega
def tK {ρ α β:Type} (l:th α) (e:Nat->α->so β) (q:β->so ρ) (k1:so ρ) {f:Int->(Int->so ρ)->so ρ}
 (h:∀(i:Nat) (a:α),i<l.length->l[i]?=some a->∀kn,f i kn=match e i a with|some b=>q b|none=>kn ((i:Int)+1))
 (s:(∀j a,l[j]?=some a->e j a=none)->∀kn,f l.length kn=k1):Ü f 0=match ć e 0 l with|some b=>q b|none=>k1:=by
 refine fB (fun x:Int=>∃i:Nat,i<=l.length/\x=i/\∀j a,j<i->l[j]?=some a->e j a=none) (fun x=>l.length-x.toNat) ?_ ⟨0,by omega,rfl,fun j a p=>by omega⟩;rintro x ⟨i,hi,rfl,o⟩;rcases bZ i l.length with g|t
 ·have ha:l[i]?=some l[i]:=bo g
  cases n:e i l[i] with
  |some b =>
   refine .inl fun kn=>?_;rw[h i _ g ha,n,Ju (k:=0) (b:=b) (fun j c p n=>by rw[bK]; exact o j c p n) ha (by rw[bK]; exact n)]
  |none =>
   refine .inr ⟨((i+1:Nat):Int),⟨i+1,g,rfl,fun j a p d=>?_⟩,by simp only[bU]; omega,fun kn=>?_⟩
   ·rcases bZ j i with r|r
    ·exact o j a r d
    ·have:j=i:=by omega
     subst this;rw[ha] at d;rw[<-Option.some.inj d]; exact n
   ·rw[h i _ g ha,n];simp
 ·have:i=l.length:=by omega
  subst this;refine .inl fun kn=>?_;have m:∀j a,l[j]?=some a->e j a=none:=fun j a d=>o j a (bC.1 d).1 d;rw[s m kn,Ņ.2 fun j a d=>by rw[bK]; exact m j a d]
def JA {e:Int}:No e=none↔e=0:=by
 unfold No
 split<;>simp_all
section
variable {b:ë}
def EX (h:ι b):∀i,((b.2.1.take i).flatMap (ĺ b)).length<=1440/\(((b.2.1.take i).mapIdx (Ħ b)).flatten).length<=1440:=by
 have f:=h.nG
 have gl:∀g∈b.2.1,(ĺ b g).length<=120/\∀i,(Ħ b i g).length<=120:=by
  intro g c;have:=Ns h c;constructor
  ·unfold ĺ;rw[List.length_append,jW _ _ (fun _=>rfl)];simp only[List.length_cons,List.length_nil]; omega
  ·intro i;unfold Ħ;rw[List.length_append,jW _ _ (fun _=>rfl)];simp only[List.length_cons,List.length_nil]; omega
 have a:∀i,i<=b.2.1.length->((b.2.1.take i).flatMap (ĺ b)).length<=i*120/\(((b.2.1.take i).mapIdx (Ħ b)).flatten).length<=i*120:=by
  intro i
  induction i with
  |zero=>intro _; simp
  |succ i d =>
   intro hi;have d:=d (by omega);have c:b.2.1[i]?=some b.2.1[i]:=bo hi;have h2:=gl _ (bJ c);have j:=h2.2 i;rw[mZ _ c,take_succ c,dV,eG,bp,bp];simp only[bX,eX,bH,List.flatten_cons,List.flatten_nil];omega
 intro i;rcases bZ b.2.1.length i with e|e
 ·rw[cm (by omega)];have:=a b.2.1.length (bm _);rw[ff] at this;omega
 ·have:=a i e;omega
set_option maxHeartbeats 1000000 in
def Xw (h:ι b):qT b=some (Rf b,TQ b):=by
 have n:=h.nC;have m:=h.nG;unfold qT MN;rw[CT h.pre,À];refine ĝ b.2.1 (fun i=>((b.2.1.take i).flatMap (ĺ b),((b.2.1.take i).mapIdx (Ħ b)).flatten)) _ rfl (fun i g hi e kn=>?_) (fun kn=>?_)
 ·try dsimp only
  unfold nj;have d:=EX h i;rw[Ó hi,Å e];refine Eq.trans (PU h e (by omega) (by omega) _) ?_;rw[Í hi (by omega),mZ _ e,take_succ e,List.flatMap_append,List.flatten_append];simp only[List.flatMap_cons,List.flatMap_nil,List.append_nil,List.flatten_cons,List.flatten_nil]
 ·try dsimp only
  unfold nj;rw[ß,List.take_length];dsimp only;have d:=EX h b.2.1.length;rw[List.take_length] at d;refine ĝ b.2.2.2.2.1 (fun i=>(b.2.1.flatMap (ĺ b)++(b.2.2.2.2.1.take i).flatMap (fW b),(b.2.1.mapIdx (Ħ b)).flatten++((b.2.2.2.2.1.take i).mapIdx fun i _=>[((3:Int),(i:Int)),((3:Int),(i:Int))]).flatten)) _ (by simp) (fun i c hi f kn=>?_) (fun kn=>?_)
  ·try dsimp only
   unfold nh;have a:=List.mem_of_getElem? f;have j:=(f9 c).1 (h.nums a);have ha:=ļ j.2.2.2.2.2.1;have hb:=ļ j.2.2.2.2.2.2;have k:=Py (b:=b) i (by omega);have l:=KB h a;rw[Ó hi,Å f,xw (by omega) (by omega),À];rw[show Τ ((b.1.1,b.1.2),b.2.1,b.2.2.1,b.2.2.2.1,b.2.2.2.2.1,b.2.2.2.2.2) (yq c.2.2.1 c.2.2.2.1,c.2.1)=Τ b (yq c.2.2.1 c.2.2.2.1,c.2.1) from rfl,J4 h.pre,À,xw (by omega) (by omega),À];rw[show Τ ((b.1.1,b.1.2),b.2.1,b.2.2.1,b.2.2.2.1,b.2.2.2.2.1,b.2.2.2.2.2) (yq c.2.2.2.1 c.2.2.1,c.2.1)=Τ b (yq c.2.2.2.1 c.2.2.1,c.2.1) from rfl,J4 h.pre,À];rw[show mJ ((b.1.1,b.1.2),b.2.1,b.2.2.1,b.2.2.2.1,b.2.2.2.2.1,b.2.2.2.2.2) c=mJ b c from rfl,Vq h.size h.film (h.cmpIn a),À];rw[ö (by omega) (by omega),Ð (by simp only[List.length_append,List.length_cons,List.length_nil]; omega),Am.iff_true,Ð (by simp only[List.length_append,List.length_cons,List.length_nil]; omega),Am.iff_true,Í hi (by omega)];rw[mZ _ f,take_succ f,List.flatMap_append,List.flatten_append,Rv h.pre,Rv h.pre];simp only[List.flatMap_cons,List.flatMap_nil,List.append_nil,List.flatten_cons,List.flatten_nil,List.append_assoc];rw[Int.zero_sub];rfl
  ·try dsimp only
   unfold nh;rw[ß,List.take_length];rfl
def fG (b:ë) (i:Nat) (c:Cmp):Int:=if !sZ c then 1 else if (b.2.2.2.2.1.take i).any (fun x=>x.1==c.1) then 6 else rI b c
def Fg (hi:b.2.1.Pairwise fun a b=>a.1<b.1) (i:Nat) (c:Cmp):fG b i c=gF b (ŗ b) i c:=by
 unfold fG gF;rw[T4 hi]
def V5 (b:ë):Int:=match (b.2.2.2.2.1.mapIdx (fG b)).find? (fun e=>e != 0) with
 |some e=>e
 |none=>match (b.2.2.2.2.2.map (Hn b)).find? (fun e=>e != 0) with
  |some e=>e
  |none=>if 59<(û b).length then 2 else if 300<2*b.2.1.length+2*((û b).length-b.2.1.length:Int)+2*b.2.2.2.2.1.length then 2 else 0
def RI {α:Type} {l:th α} {E:α->Int} (h:(l.map E).find? (fun e=>e != 0)=none):∀a∈l,E a=0:=by
 intro a ha;have:=cD.1 h (E a) (cj.2 ⟨a,ha,rfl⟩);simpa using this
def OV {α:Type} {l:th α} {E:Nat->α->Int} (h:(l.mapIdx E).find? (fun e=>e != 0)=none):∀i a,l[i]?=some a->E i a=0:=by
 intro i a ha;obtain⟨hi,rfl⟩:=bC.1 ha;have:=cD.1 h (E i l[i]) (eM.2 ⟨i,hi,rfl⟩);simpa using this
def wj {i:Nat} {c:Cmp} (h:fG b i c=0):sZ c=true/\(é c.2.2.1 c.2.2.2.1).length<=1/\(é c.2.2.2.1 c.2.2.1).length<=1:=by
 unfold fG at h
 split at h
 ·omega
 rename_i a
 split at h
 ·omega
 unfold rI at h
 (repeat' split at h)<;>first|omega|exact⟨by simpa using a,by omega,by omega⟩
set_option maxHeartbeats 4000000 in
def V4 (I:PD b) (s:0<=b.1.1/\b.1.1<=b.1.2/\b.1.2<=1000000) (nG:b.2.1.length<=12) (nU:b.2.2.1.length<=40) (nL:b.2.2.2.1.length<=12) (nC:b.2.2.2.2.1.length<=40) (nK:b.2.2.2.2.2.length<=10)
 (Q:∀g∈b.2.1,iN g=true) (hi:b.2.1.Pairwise fun a b=>a.1<b.1) (S:∀u∈b.2.2.1,Hn b u=0) (V:∀i l,b.2.2.2.1[i]?=some l->DI b i l=0) :
 Ü (fun(B:Int) t=>Λ b.1.1 b.1.2 b.2.1 b.2.2.1 b.2.2.2.1 b.2.2.2.2.1 b.2.2.2.2.2 B (fun D=>t D) (fun z26=>some z26) (fun _=>Ü (fun(C:Int) v=>Κ b.1.1 b.1.2 b.2.1 b.2.2.1 b.2.2.2.1 b.2.2.2.2.1 b.2.2.2.2.2 C (fun E=>v E) (fun z34=>some z34) (fun _=>Â (fV b) fun G=>ifb (igt (â G) (59:Int)) (some (2:Int)) (Â (qT b) fun F=>ifb (igt (â F.1) (300:Int)) (some (2:Int)) (some (0:Int))))) (0:Int))) (0:Int)=some (V5 b):=by
 unfold V5
 refine dc (tK b.2.2.2.2.1 (fun i c=>No (fG b i c)) some (some (match (b.2.2.2.2.2.map (Hn b)).find? (fun e=>e != 0) with
  |some e=>e
  |none=>if 59<(û b).length then 2 else if 300<2*b.2.1.length+2*((û b).length-b.2.1.length:Int)+2*b.2.2.2.2.1.length then 2 else 0)) (fun i c z k kn=>?_) (fun O kn=>?_)) ?_
 ·try dsimp only
  unfold Λ;have W:=I c (List.mem_of_getElem? k);rw[Ó z,Å k,S9 (by omega) (by omega),À];unfold fG No
  cases J:sZ c with
  |false=>rfl
  |true =>
   have T:=Ao J;rw[Ö (by rfl)]
   have w:(b.2.2.2.2.1.take i).length=i:=by rw[bN]; omega
   refine dc (Ő (b.2.2.2.2.1.take i) (fun x=>x.1==c.1) (fun _=>some 6) (some 6) (if rI b c=0 then kn ((i:Int)+1) else some (rI b c)) (fun _=>rfl) (fun j a m ha r=>?_) (fun r=>?_)) ?_
   ·try dsimp only
    unfold jr;rw[w] at m
    have P:b.2.2.2.2.1[j]?=some a:=by rwa [eS m] at ha
    rw[Þ (show ilt (j:Int) (i:Int)=true by simp[ilt]; omega),Å P,Å k,Í m (by omega),œ]
   ·try dsimp only
    unfold jr;rw[w,Ö (show ilt (i:Int) (i:Int)=false by simp[ilt])];dsimp only;rw[Å k,show Ο ((b.1.1,b.1.2),b.2.1,b.2.2.1,b.2.2.2.1,b.2.2.2.2.1,b.2.2.2.2.2) c=Ο b c from rfl,J3 (by omega) (by omega) (by omega) (by omega),À,Í z (by omega)]
    by_cases d:rI b c=0
    ·rw[Ö (by simp[ine,d]),if_pos d]
    ·rw[Þ (by simp[ine,d]),if_neg d]
   ·cases R:(b.2.2.2.2.1.take i).any (fun x=>x.1==c.1) with
    |true=>simp
    |false =>
     by_cases d:rI b c=0
     ·simp[d]
     ·simp[d]
 ·try dsimp only
  unfold Λ;rw[ß];dsimp only;have h:∀i c,b.2.2.2.2.1[i]?=some c->fG b i c=0:=fun i c k=>JA.1 (O i c k);refine Eq.trans (tK b.2.2.2.2.2 (fun _ u=>No (Hn b u)) some (some (if 59<(û b).length then 2 else if 300<2*b.2.1.length+2*((û b).length-b.2.1.length:Int)+2*b.2.2.2.2.1.length then 2 else 0)) (fun i a y ha r=>?_) (fun K r=>?_)) ?_
  ·try dsimp only
   unfold Κ;rw[Ó y,Å ha,Hg,À];unfold Hn No
   cases Ct a.2 with
   |false=>rfl
   |true =>
    rw[Ö (by rfl),Å ha,Å ha,ww (b:=((b.1.1,b.1.2),b.2.1,b.2.2.1,b.2.2.2.1,b.2.2.2.2.1,b.2.2.2.2.2)) (by simp only; omega),À,Í y (by omega)];have e:Ň ((b.1.1,b.1.2),b.2.1,b.2.2.1,b.2.2.2.1,b.2.2.2.2.1,b.2.2.2.2.2) a.1 a.2=Ň b a.1 a.2:=rfl;rw[e]
    by_cases d:Ň b a.1 a.2=0
    ·rw[Ö (by simp[ine,d])]; simp[d]
    ·rw[Þ (by simp[ine,d])]; simp[d]
  ·try dsimp only
   unfold Κ;rw[ß];dsimp only
   have o:∀u∈b.2.2.2.2.2,Hn b u=0:=fun u f=>by
    obtain⟨j,m,rfl⟩:=bV.1 f;exact JA.1 (K j _ (bo m))
   have I:Γ b:=⟨by omega,by omega,by omega,by omega,by omega,fun c k=>by
    obtain⟨j,m,rfl⟩:=bV.1 k;have:=Ao (wj (h j _ (bo m))).1
    omega⟩
   have H:Pre b:=⟨I,Q,fun c k=>by
    obtain⟨j,m,rfl⟩:=bV.1 k;have q:=wj (h j _ (bo m))
    exact⟨Ii q.1,q.2⟩,fun n U=>by
    have:=o n U;unfold Hn at this
    split at this
    ·omega
    ·rename_i hd; simpa using hd⟩
   rw[CT H,À,ó]
   by_cases A:59<(û b).length
   ·rw[Þ (by simp[igt]; omega),if_pos A]
   ·rw[Ö (by simp[igt]; omega),if_neg A];have p:ι b:=⟨s,nG,nU,nL,nC,nK,Q,hi,fun u f=>by rw[<-L4 hi]; exact S u f,fun i l M=>by rw[<-Q8 hi]; exact V i l M,fun i c N=>by rw[<-Fg hi]; exact h i c N,fun u f=>by rw[<-L4 hi]; exact o u f,by omega,by omega⟩;have L:=Re p;rw[Xw p,À,ó];dsimp only;rw[L,Ö (by simp[igt]; omega),if_neg (by omega)]
  ·rw[Cj]
   cases(b.2.2.2.2.2.map (Hn b)).find? (fun e=>e != 0)<;>rfl
 ·rw[Ci (fG b)]
  cases(b.2.2.2.2.1.mapIdx (fG b)).find? (fun e=>e != 0)<;>rfl
end
def GC {l m:th Int}:(l++m).find? (fun e=>e != 0)=match l.find? (fun e=>e != 0) with|some e=>some e|none=>m.find? (fun e=>e != 0):=by
 rw[List.find?_append]
 cases l.find? (fun e=>e != 0)<;>rfl
set_option maxHeartbeats 4000000 in
def PH {b:ë} (B:PD b):mL b=some (fo b):=by
 unfold mL wN fo;rw[nW,À]
 cases k:ξ b.1 0 1000000 with
 |false=>rfl
 |true =>
 have d:0<=b.1.1/\b.1.1<=b.1.2/\b.1.2<=1000000:=by
  simp only[ξ,bn,decide_eq_true_eq] at k;exact k
 rw[Ö (show(!true)=false from rfl),if_neg (by simp)];rw[ó b.2.1,ó b.2.2.1,ó b.2.2.2.1,ó b.2.2.2.2.1,ó b.2.2.2.2.2]
 by_cases z:12<b.2.1.length
 ·rw[Þ (by simp[igt]; omega),if_pos z]
 rw[Ö (by simp[igt]; omega),if_neg z]
 by_cases y:40<b.2.2.1.length
 ·rw[Þ (by simp[igt]; omega),if_pos y]
 rw[Ö (by simp[igt]; omega),if_neg y]
 by_cases x:12<b.2.2.2.1.length
 ·rw[Þ (by simp[igt]; omega),if_pos x]
 rw[Ö (by simp[igt]; omega),if_neg x]
 by_cases w:40<b.2.2.2.2.1.length
 ·rw[Þ (by simp[igt]; omega),if_pos w]
 rw[Ö (by simp[igt]; omega),if_neg w]
 by_cases v:10<b.2.2.2.2.2.length
 ·rw[Þ (by simp[igt]; omega),if_pos v]
 rw[Ö (by simp[igt]; omega),if_neg v]
 refine dc (tK b.2.1 (i8 b.2.1) some (some (match (nY b (ŗ b)).find? (fun e=>e != 0) with
  |some e=>e
  |none=>if 59<(û b).length then 2 else if 300<2*b.2.1.length+2*((û b).length-b.2.1.length:Int)+2*b.2.2.2.2.1.length then 2 else 0)) (fun i g hi n kn=>?_) (fun A kn=>?_)) ?_
 ·try dsimp only
  unfold jt;rw[Ó hi,Å n,Tb,À];unfold i8
  cases iN g with
  |false=>rfl
  |true =>
   rw[Ö (by rfl)];rcases dM i with h0|h0
   ·subst h0
    have:igt ((0:Nat):Int) 0=false:=by simp[igt]
    rw[Ö this,Í hi (by omega)];simp[tU]
   ·obtain⟨q,t⟩:=uz hi h0
    have s:igt (i:Int) 0=true:=by simp[igt]; omega
    rw[Þ s,Å n,Cx h0 (by omega),vL h0 t];simp only[tU,h0,decide_true,Bool.true_and,t,Option.any_some];unfold ile
    cases h2:decide (g.1<=q.1) with
    |true=>simp
    |false=>rw[Ľ,Í hi (by omega)]; simp
 ·try dsimp only
  unfold jt;rw[ß];dsimp only
  have p:Ž b=0:=by
   unfold Ž;rw[Ņ.2 fun j a ha=>by rw[Nat.zero_add]; exact A j a ha];rfl
  obtain⟨n,hi⟩:=(nB b).1 p;have E:b.2.2.1.map (Hn b)=b.2.2.1.map fun u=>NS (ŗ b) u.1 u.2:=List.map_congr_left fun u _=>L4 hi u;have F:b.2.2.2.1.mapIdx (DI b)=b.2.2.2.1.mapIdx fun i l=>BU b (ŗ b) i l:=List.mapIdx_eq_mapIdx_iff.2 fun i I=>Q8 hi i _;have H:b.2.2.2.2.1.mapIdx (fG b)=b.2.2.2.2.1.mapIdx fun i c=>gF b (ŗ b) i c:=List.mapIdx_eq_mapIdx_iff.2 fun i J=>Fg hi i _;have G:b.2.2.2.2.2.map (Hn b)=b.2.2.2.2.2.map fun u=>NS (ŗ b) u.1 u.2:=List.map_congr_left fun u _=>L4 hi u;unfold nY;rw[<-E,<-F,<-H,<-G,GC,GC,GC,Vl (by omega) (by omega),À]
  cases h:(b.2.2.1.map (Hn b)).find? (fun e=>e != 0) with
  |some e =>
   have f:e≠0:=by have:=eP h; simpa using this
   simp only[eZ];rw[Ö (by simpa[ieq] using f),Þ (by simpa[ine] using f)]
  |none =>
   simp only[Option.getD_none];rw[Þ (by rfl),Ta (by omega) (by omega) (by omega),À]
   cases m:(b.2.2.2.1.mapIdx (DI b)).find? (fun e=>e != 0) with
   |some e =>
    have f:e≠0:=by have:=eP m; simpa using this
    simp only[eZ];rw[Þ (by simpa[ine] using f)]
   |none =>
    simp only[Option.getD_none];rw[Ö (by rfl)];refine Eq.trans (V4 B d (by omega) (by omega) (by omega) (by omega) (by omega) n hi (RI h) (OV m)) ?_;unfold V5
    cases(b.2.2.2.2.1.mapIdx (fG b)).find? (fun e=>e != 0)<;>rfl
 ·unfold Ž
  cases r:ć (i8 b.2.1) 0 b.2.1 with
  |none =>
   simp<;>cases(nY b (ŗ b)).find? (fun e=>e != 0)<;>rfl
  |some e =>
   have f:Ž b=e:=by unfold Ž; rw[r]; rfl
   have o:e≠0:=by
    intro h0;rw[h0] at f;obtain⟨s,h2⟩:=(nB b).1 f
    have D:∀j a,b.2.1[j]?=some a->i8 b.2.1 j a=none:=by
     intro j a ha;have C:=(G8 (fun g:è=>g.1) b.2.1).2 h2 j a ha;simp[i8,s a (bJ ha),C]
    rw[Ņ.2 fun j a ha=>by rw[bK]; exact D j a ha] at r;cases r
   simp[o]
def Tj {b:ë} (a:Γ b):mL b=some (fo b):=PH a.w
section
variable {ρ:Type}
def OE {α σ:Type} (l:th α) (g:σ->α->σ) (I:Nat->σ->Prop) {K:σ->so ρ} {f:Int×σ->(Int×σ->so ρ)->so ρ} {s0:σ} (h0:I 0 s0)
 (h:∀(i:Nat) (a:α) (s:σ),i<l.length->l[i]?=some a->I i s->I (i+1) (g s a)/\∀kn,f ((i:Int),s) kn=kn ((i:Int)+1,g s a)) (e:∀s kn,I l.length s->f ((l.length:Int),s) kn=K s):Ü f (0,s0)=K (l.foldl g s0):=by
 refine fB (fun x=>∃(i:Nat) (s:σ),x=((i:Int),s)/\i<=l.length/\I i s/\(l.drop i).foldl g s=l.foldl g s0) (fun x=>l.length-x.1.toNat) ?_ ⟨0,s0,rfl,bO _,h0,rfl⟩;rintro x ⟨i,s,rfl,hi,hI,d⟩
 by_cases c:i<l.length
 ·obtain⟨j,h2⟩:=h i l[i] s c (bo c) hI;refine .inr ⟨((i:Int)+1,g s l[i]),⟨i+1,_,rfl,c,j,?_⟩,by simp; omega,h2⟩;rw[<-d,dg c,dE]
 ·obtain rfl:i=l.length:=by omega
  rw[fc,List.foldl_nil] at d;rw[<-d];exact .inl fun kn=>e s kn hI
def qD {α σ:Type} (l:th α) (g:σ->α->σ) (I:Nat->σ->Prop) {K:σ->so ρ} {f:σ×Int->(σ×Int->so ρ)->so ρ} {s0:σ} (h0:I 0 s0)
 (h:∀(i:Nat) (a:α) (s:σ),i<l.length->l[i]?=some a->I i s->I (i+1) (g s a)/\∀kn,f (s,(i:Int)) kn=kn (g s a,(i:Int)+1)) (e:∀s kn,I l.length s->f (s,(l.length:Int)) kn=K s):Ü f (s0,0)=K (l.foldl g s0):=by
 refine fB (fun x=>∃(i:Nat) (s:σ),x=(s,(i:Int))/\i<=l.length/\I i s/\(l.drop i).foldl g s=l.foldl g s0) (fun x=>l.length-x.2.toNat) ?_ ⟨0,s0,rfl,bO _,h0,rfl⟩;rintro x ⟨i,s,rfl,hi,hI,d⟩
 by_cases c:i<l.length
 ·obtain⟨j,h2⟩:=h i l[i] s c (bo c) hI;refine .inr ⟨(g s l[i],(i:Int)+1),⟨i+1,_,rfl,c,j,?_⟩,by simp; omega,h2⟩;rw[<-d,dg c,dE]
 ·obtain rfl:i=l.length:=by omega
  rw[fc,List.foldl_nil] at d;rw[<-d];exact .inl fun kn=>e s kn hI
def mA {α β:Type} (l:th α) (g:α->β) {K:th β->so ρ} {f:Int×th β->(Int×th β->so ρ)->so ρ} {out:th β} (e:out.length+l.length<=1000000)
 (h:∀(i:Nat) (a:α) (s:th β),i<l.length->l[i]?=some a->s.length<1000000->∀kn,f ((i:Int),s) kn=kn ((i:Int)+1,s++[g a])) (c:∀s kn,f ((l.length:Int),s) kn=K s):Ü f (0,out)=K (out++l.map g):=by
 have:=OE l (fun s a=>s++[g a]) (fun i s=>s.length=out.length+i) (K:=K) (f:=f) (s0:=out) rfl (fun i a s hi ha j=>⟨by simp; omega,h i a s hi ha (by omega)⟩) (fun s kn _=>c s kn);rw[this];congr 1;clear this c h e
 induction l generalizing out with
 |nil=>simp
 |cons a l d=>rw[dE,d]; simp
def pN {α:Type} (l:th α) (g:α->BL) {K:ByteArray->so ρ} {f:ByteArray×Int->(ByteArray×Int->so ρ)->so ρ} {out:BL} (n:l.length<=1000000) (d:∀a∈l,(g a).length<=1000) (k:out.length<=1000000000)
 (h:∀(i:Nat) (a:α) (s:BL),i<l.length->l[i]?=some a->s.length<=2000000000->∀kn,f (ofL s,(i:Int)) kn=kn (ofL (s++g a),(i:Int)+1)) (c:∀s kn,f (s,(l.length:Int)) kn=K s):Ü f (ofL out,0)=K (ofL (out++l.flatMap g)):=by
 have:=qD l (fun s a=>ofL (toL s++g a)) (fun i s=>(toL s).length<=out.length+1000*i) (K:=K) (f:=f) (s0:=ofL out) (by simp) (fun i a s hi ha j=>?_) (fun s kn _=>c s kn)
 ·rw[this];congr 1;clear this c h n d k
  induction l generalizing out with
  |nil=>simp
  |cons a l e=>rw[dE,e]; simp
 ·have m:=d a (bJ ha);refine⟨by simp at j ⊢; omega,fun kn=>?_⟩;have:=h i a (toL s) hi ha (by omega) kn
  rwa [mW] at this
end
abbrev fO (ns:th Int):th BL:=ns.map Lib.itoa
abbrev jx (w:BL) (ws:th BL):BL:=w++spL 32 ws
def TP (c:UInt8) (w:BL) (ws:th BL):spL c (w::ws)=c::w++spL c ws:=by simp[spL]
def Us {ns:th Int} (a:∀n∈ns,I64 n):(spL 32 (fO ns)).length<=21*ns.length:=by
 induction ns with
 |nil=>simp[spL]
 |cons n ns c =>
  have f:=ų (a n (by simp));have h2:=c fun x d=>a x (by simp[d]);have e:spL 32 (fO (n::ns))=32::Lib.itoa n++spL 32 (fO ns):=TP _ _ _;rw[e];simp only[bp,bz]; omega
def xa (ns:th Int):∀w:BL,ns.foldl (fun s n=>ofL (toL s++32::Lib.itoa n)) (ofL w)=ofL (jx w (fO ns)):=by
 induction ns with
 |nil=>intro w; simp[spL]
 |cons n ns a =>
  intro w;rw[dE,a];simp[spL]
def nA {w:BL} {ns:th Int} (d:w.length<=1000) (h:ns.length<=1000) (f:∀n∈ns,I64 n):gB (ofL w) ns=some (ofL (jx w (fO ns))):=by
 unfold gB MX;rw[qD ns (fun s n=>ofL (toL s++32::Lib.itoa n)) (fun i s=>s.size<=1000+21*i) (K:=some) (by rw[Ï]; exact d) (fun i n s hi ha a=>?_) (fun s kn _=>?_),xa]
 ·have c:=f n (List.mem_of_getElem? ha);have g:=ų c;refine⟨by rw[Ï]; rw[uh] at a; simp at a ⊢; omega,fun kn=>?_⟩;unfold nq;rw[Ó hi,Å ha,Tq c,À,show ByteArray.mk #[32]=ofL [32] from rfl,Ð (by simp only[Ï,List.length_append,List.length_cons,List.length_nil]; omega),Am.iff_true,ç,Ð (by simp only[Ï,List.length_append,List.length_cons,List.length_nil]; omega),Am.iff_true,ö (by omega) (by omega)]
  have e:s++ofL ([32]++Lib.itoa n)=ofL (toL s++32::Lib.itoa n):=by rw[<-mW s,ç]; rfl
  rw[e]
 ·unfold nq;rw[ß]
def wu {w:BL} {ns:th Int} (d:w.length<=1000) (h:ns.length<=1000) (f:∀n∈ns,I64 n):Ū (ofL w) ns=some (ofL (jx w (fO ns))):=by
 unfold Ū Iy;rw[qD ns (fun s n=>ofL (toL s++32::Lib.itoa n)) (fun i s=>s.size<=1000+21*i) (K:=some) (by rw[Ï]; exact d) (fun i n s hi ha a=>?_) (fun s kn _=>?_),xa]
 ·have c:=f n (List.mem_of_getElem? ha);have g:=ų c;refine⟨by rw[Ï]; rw[uh] at a; simp at a ⊢; omega,fun kn=>?_⟩;unfold kL;rw[Ó hi,show ByteArray.mk #[32]=ofL [32] from rfl,Ð (by simp only[Ï,List.length_append,List.length_cons,List.length_nil]; omega),Am.iff_true,Å ha,LX c,À]
  have e:s++ofL [32]=ofL (toL s++[32]):=by rw[<-mW s,ç]
  rw[e,Ð (by rw[uh] at a; simp only[Ï,bp,bz,bD]; omega),Am.iff_true,ö (by omega) (by omega),ç];congr 2;simp
 ·unfold kL;rw[ß]
abbrev Nb (g:è):th Int:=[g.1,g.2.1,g.2.2.1,g.2.2.2.1.1,g.2.2.2.1.2,g.2.2.2.2.1.1,g.2.2.2.2.1.2,g.2.2.2.2.2]
abbrev WO (l:zb):th Int:=[l.1,l.2.1.1,l.2.1.2,l.2.2]
abbrev cmpN (c:Cmp):th Int:=[c.1,c.2.1,c.2.2.2.2.1,c.2.2.2.2.2.1,c.2.2.2.2.2.2.1,c.2.2.2.2.2.2.2]
def OY (s:Int×Int):BL×th BL:=([102,105,108,109],fO [s.1,s.2])
def vN (g:è):BL×th BL:=([103,97,117,103,101],fO (Nb g))
def TG (u:Int×Int):BL×th BL:=([117,115,101],fO [u.1,u.2])
def Gq (l:zb):BL×th BL:=([108,111,97,110],fO (WO l))
def Pb (c:Cmp):BL×th BL:=([99,111,109,112,97,114,101],fO (cmpN c)++([97]::fO c.2.2.1++[98]::fO c.2.2.2.1))
def Gp (u:Int×Int):BL×th BL:=([108,111,111,107],fO [u.1,u.2])
def ŕ (b:ë):th (BL×th BL):=OY b.1::(b.2.1.map vN++(b.2.2.1.map TG++(b.2.2.2.1.map Gq++(b.2.2.2.2.1.map Pb++b.2.2.2.2.2.map Gp))))
abbrev ũ (p:BL×th BL):BL:=jx p.1 p.2
def ė (b:ë):BL:=(ŕ b).flatMap fun p=>ũ p++[10]
structure kB (I64:Int->Prop) (b:ë):Prop where
 film:I64 b.1.1/\I64 b.1.2
 gauges:∀g∈b.2.1,∀n∈Nb g,I64 n
 uses:∀u∈b.2.2.1,I64 u.1/\I64 u.2
 loans:∀l∈b.2.2.2.1,∀n∈WO l,I64 n
 cmps:∀c∈b.2.2.2.2.1,(∀n∈cmpN c,I64 n)/\(∀n∈c.2.2.1,I64 n)/\(∀n∈c.2.2.2.1,I64 n)/\c.2.2.1.length<=6/\c.2.2.2.1.length<=6
 looks:∀u∈b.2.2.2.2.2,I64 u.1/\I64 u.2
 nG:b.2.1.length<=12
 nU:b.2.2.1.length<=40
 nL:b.2.2.2.1.length<=12
 nC:b.2.2.2.2.1.length<=40
 nK:b.2.2.2.2.2.length<=10
abbrev J5:ë->Prop:=kB I64
def kB.mono {P Q:Int->Prop} (a:∀n,P n->Q n) {b:ë} (h:kB P b):kB Q b :=
 ⟨⟨a _ h.film.1,a _ h.film.2⟩,fun g j n d=>a _ (h.gauges g j n d),fun u e=>⟨a _ (h.uses u e).1,a _ (h.uses u e).2⟩,fun l i n d=>a _ (h.loans l i n d),fun c f=>⟨fun n d=>a _ ((h.cmps c f).1 n d),fun n d=>a _ ((h.cmps c f).2.1 n d),fun n d=>a _ ((h.cmps c f).2.2.1 n d),(h.cmps c f).2.2.2⟩,fun u e=>⟨a _ (h.looks u e).1,a _ (h.looks u e).2⟩,h.nG,h.nU,h.nL,h.nC,h.nK⟩
def lU {u:Int×Int} (h:I64 u.1/\I64 u.2):∀n∈[u.1,u.2],I64 n:=by
 intro n a;simp only[bw,cw,or_false] at a;rcases a with rfl|rfl
 ·exact h.1
 ·exact h.2
def GR {c:Cmp}:ũ (Pb c)=(jx [99,111,109,112,97,114,101] (fO (cmpN c))++jx [32,97] (fO c.2.2.1))++jx [32,98] (fO c.2.2.2.1):=by
 simp[ũ,Pb,spL]
def OO (ps:th BL) (p:BL):Lib.join (p::ps) [10]++[10]=(p::ps).flatMap fun l=>l++[10]:=by
 rw[Lib.join_cons]
 have:∀(ps:th BL),Lib.joinTail [10] ps++[10]=[10]++ps.flatMap fun l=>l++[10]:=by
  intro ps
  induction ps with
  |nil=>simp[Lib.joinTail]
  |cons q ps a =>
   have e:Lib.joinTail [10] (q::ps)=10::q++Lib.joinTail [10] ps:=by simp[Lib.joinTail]
   rw[e,bE,a]; simp
 rw[bE,this]; simp
def ĉ {w:BL} {ns:th Int} (a:∀n∈ns,I64 n):(jx w (fO ns)).length<=w.length+21*ns.length:=by
 have:=Us a;rw[jx,bp]; omega
def kB.len {b:ë} (h:J5 b):∀p∈ŕ b,(ũ p).length<=500:=by
 intro p d;unfold ŕ at d;simp only[List.mem_cons,List.mem_append,List.mem_map] at d;rcases d with rfl|⟨g,f,rfl⟩|⟨u,a,rfl⟩|⟨l,e,rfl⟩|⟨c,i,rfl⟩|⟨u,a,rfl⟩
 ·have:=ĉ (w:=[102,105,108,109]) (lU h.film); simp[OY] at this ⊢; omega
 ·have:=ĉ (w:=[103,97,117,103,101]) (h.gauges g f); simp[vN] at this ⊢; omega
 ·have:=ĉ (w:=[117,115,101]) (lU (h.uses u a)); simp[TG] at this ⊢; omega
 ·have:=ĉ (w:=[108,111,97,110]) (h.loans l e); simp[Gq] at this ⊢; omega
 ·obtain⟨k,h2,j,q,o⟩:=h.cmps c i;have n:=ĉ (w:=[99,111,109,112,97,114,101]) k;have m:=ĉ (w:=[32,97]) h2;have a3:=ĉ (w:=[32,98]) j;rw[GR,bp,bp];simp only[bz,bD] at n m a3; omega
 ·have:=ĉ (w:=[108,111,111,107]) (lU (h.looks u a)); simp[Gp] at this ⊢; omega
def kB.count {P:Int->Prop} {b:ë} (h:kB P b):(ŕ b).length<=115:=by
 have e:=h.nG; have h2:=h.nU; have d:=h.nL; have c:=h.nC; have a:=h.nK;unfold ŕ;simp; omega
def T2 {b:ë} (h:J5 b) (t:Ŕ b=some 0):gD b=some (ofL (ė b),0):=by
 have v:=h.nG; have h2:=h.nU; have E:=h.nL; have D:=h.nC; have C:=h.nK;unfold gD vF;rw[t,À,Ö (by simp[ine]),show ByteArray.mk #[102,105,108,109]=ofL [102,105,108,109] from rfl,nA (by simp) (by simp) (lU h.film),À]
 rw[mA b.2.1 (fun g=>ofL (ũ (vN g))) (by simp; omega) (fun i g s hi a f kn=>by
  unfold lK;dsimp only
  rw[Ó hi,Å a,show ByteArray.mk #[103,97,117,103,101]=ofL [103,97,117,103,101] from rfl,nA (by simp) (by simp) (h.gauges g (List.mem_of_getElem? a)),À,Ð (by simp; omega),Am.iff_true,Í hi (by omega)]; rfl) (fun s kn=>by unfold lK; rw[ß])]
 dsimp only
 rw[mA b.2.2.1 (fun u=>ofL (ũ (TG u))) (by simp; omega) (fun i g s hi a f kn=>by
  unfold lJ;dsimp only
  rw[Ó hi,Å a,show ByteArray.mk #[117,115,101]=ofL [117,115,101] from rfl,nA (by simp) (by simp) (lU (h.uses g (List.mem_of_getElem? a))),À,Ð (by simp; omega),Am.iff_true,Í hi (by omega)]; rfl) (fun s kn=>by unfold lJ; rw[ß])]
 dsimp only
 rw[mA b.2.2.2.1 (fun u=>ofL (ũ (Gq u))) (by simp; omega) (fun i g s hi a f kn=>by
  unfold lI;dsimp only
  rw[Ó hi,Å a,show ByteArray.mk #[108,111,97,110]=ofL [108,111,97,110] from rfl,nA (by simp) (by simp) (h.loans g (List.mem_of_getElem? a)),À,Ð (by simp; omega),Am.iff_true,Í hi (by omega)]; rfl) (fun s kn=>by unfold lI; rw[ß])]
 dsimp only
 rw[mA b.2.2.2.2.1 (fun u=>ofL (ũ (Pb u))) (by simp; omega) (fun i c s hi a f kn=>by
  obtain⟨m,l,k,B,A⟩:=h.cmps c (List.mem_of_getElem? a);have z:=ĉ (w:=[99,111,109,112,97,114,101]) m;have y:=ĉ (w:=[32,97]) l;have a3:=ĉ (w:=[32,98]) k;simp only[List.length_cons,List.length_nil] at z y a3;unfold lH;dsimp only
  rw[Ó hi,Å a,show ByteArray.mk #[99,111,109,112,97,114,101]=ofL [99,111,109,112,97,114,101] from rfl,nA (by simp) (by simp) m,À,show ByteArray.mk #[32,97]=ofL [32,97] from rfl,nA (by simp) (by omega) l,À,Ï,Ï,Ð (by omega),Am.iff_true,
   show ByteArray.mk #[32,98]=ofL [32,98] from rfl,nA (by simp) (by omega) k,À,ç,Ï,Ï,Ð (by rw[List.length_append]; omega),Am.iff_true,ç,Ð (by simp; omega),Am.iff_true,Í hi (by omega),GR]) (fun s kn=>by unfold lH; rw[ß])]
 dsimp only
 rw[mA b.2.2.2.2.2 (fun u=>ofL (ũ (Gp u))) (by simp; omega) (fun i g s hi a f kn=>by
  unfold lG;dsimp only
  rw[Ó hi,Å a,show ByteArray.mk #[108,111,111,107]=ofL [108,111,111,107] from rfl,nA (by simp) (by simp) (lU (h.looks g (List.mem_of_getElem? a))),À,Ð (by simp; omega),Am.iff_true,Í hi (by omega)]; rfl) (fun s kn=>by unfold lG; rw[ß])]
 dsimp only
 have e:[ofL (jx [102,105,108,109] (fO [b.1.1,b.1.2]))]++b.2.1.map (fun g=>ofL (ũ (vN g)))++b.2.2.1.map (fun u=>ofL (ũ (TG u)))++b.2.2.2.1.map (fun u=>ofL (ũ (Gq u)))++b.2.2.2.2.1.map (fun u=>ofL (ũ (Pb u)))++b.2.2.2.2.2.map (fun u=>ofL (ũ (Gp u)))=((ŕ b).map ũ).map ofL:=by
  unfold ŕ;simp only[List.map_cons,List.map_append,List.map_map,List.append_assoc];rfl
 have o:Lib.join ((ŕ b).map ũ) [10]++[10]=ė b:=by
  have:=OO ((ŕ b).tail.map ũ) (ũ (OY b.1));rw[show ũ (OY b.1)::(ŕ b).tail.map ũ=(ŕ b).map ũ from rfl] at this;rw[this];unfold ė;rw[List.flatMap_map]
 have n:(ė b).length<=115*501:=by
  unfold ė;refine Nat.le_trans ?_ (Nat.mul_le_mul_right 501 h.count);have j:=h.len;generalize ŕ b=L at j
  induction L with
  |nil=>simp
  |cons p L q =>
   have v:=j p (by simp);have h2:=q fun x r=>j x (by simp[r]);rw[bX,bp,bp,bz];simp only[bz,bD] at *;omega
 have d:=congrArg List.length o;rw[bp] at d;simp only[bz,bD] at d;rw[e,show ByteArray.mk #[10]=ofL [10] from rfl,XB _ _ (by have:=h.count; simp; omega) (by omega),À,Ï,Ï,Ð (by simp only[bz,bD]; omega),Am.iff_true,ç,o]
def kB.part {b:ë} (h:J5 b) {α:Type} (l:th α) (F:α->BL×th BL) (e:∀a∈l,F a∈ŕ b) (d:l.length<=40):(∀a∈l,(ũ (F a)++[10]).length<=1000)/\(l.flatMap fun a=>ũ (F a)++[10]).length<=40*1000:=by
 have c:∀a∈l,(ũ (F a)++[10]).length<=1000:=fun a ha=>by
  have:=h.len _ (e a ha); rw[bp]; simp only[bz,bD]; omega
 refine⟨c,bB ?_ (bQ 1000 d)⟩;clear d e
 induction l with
 |nil=>simp
 |cons a l f =>
  have:=f fun x g=>c x (by simp[g]);have h0:=c a (by simp);rw[bX,bp,bz]; omega
def zi {w:BL} {ns:th Int} (c:w.length<=1000) (f:ns.length<=100) (a:∀n∈ns,I64 n) {s:BL} (e:s.length<=2000000000) {ρ:Type} (K:ByteArray->so ρ) :
 (Â (Ū (ofL w) ns) fun r=>ð (Ñ (ByteArray.size (ofL s)+ByteArray.size r)) (ð (Ñ (ByteArray.size (ofL s++r)+ByteArray.size (ByteArray.mk #[10]))) (K ((ofL s++r)++(ByteArray.mk #[10])))))=K (ofL (s++(jx w (fO ns)++[10]))):=by
 have d:=ĉ (w:=w) a;rw[wu c (by omega) a,À,Ð (by rw[Ï,Ï]; omega),Am.iff_true,ç,show ByteArray.mk #[10]=ofL [10] from rfl,Ð (by rw[Ï,Ï,bp]; simp only[bz,bD]; omega),Am.iff_true,ç,bE]
def Qc {b:ë} (h:J5 b):jO b=some (ofL (ė b)):=by
 have I:=h.nG; have h2:=h.nU; have H:=h.nL; have G:=h.nC; have F:=h.nK;obtain⟨p,D⟩:=h.part b.2.1 vN (fun a ha=>by unfold ŕ; simp only[List.mem_cons,List.mem_append]; exact .inr (.inl (List.mem_map.2 ⟨a,ha,rfl⟩))) (by omega);obtain⟨o,C⟩:=h.part b.2.2.1 TG (fun a ha=>by unfold ŕ; simp only[List.mem_cons,List.mem_append]; exact .inr (.inr (.inl (List.mem_map.2 ⟨a,ha,rfl⟩)))) (by omega);obtain⟨m,B⟩:=h.part b.2.2.2.1 Gq (fun a ha=>by unfold ŕ; simp only[List.mem_cons,List.mem_append]; exact .inr (.inr (.inr (.inl (List.mem_map.2 ⟨a,ha,rfl⟩))))) (by omega);obtain⟨l,z⟩:=h.part b.2.2.2.2.1 Pb (fun a ha=>by unfold ŕ; simp only[List.mem_cons,List.mem_append]; exact .inr (.inr (.inr (.inr (.inl (List.mem_map.2 ⟨a,ha,rfl⟩)))))) (by omega);obtain⟨k,y⟩:=h.part b.2.2.2.2.2 Gp (fun a ha=>by unfold ŕ; simp only[List.mem_cons,List.mem_append]; exact .inr (.inr (.inr (.inr (.inr (List.mem_map.2 ⟨a,ha,rfl⟩)))))) (by omega);have q:=ĉ (w:=[102,105,108,109]) (lU h.film);simp only[List.length_cons,List.length_nil] at q;unfold jO Ey;rw[show ByteArray.mk #[102,105,108,109]=ofL [102,105,108,109] from rfl,wu (by simp) (by simp) (lU h.film),À,show ByteArray.mk #[10]=ofL [10] from rfl,Ð (by rw[Ï,Ï]; simp only[List.length_cons,List.length_nil]; omega),Am.iff_true,ç];generalize j:jx [102,105,108,109] (fO [b.1.1,b.1.2])++[10]=A
 have E:A.length<=1000:=by rw[<-j,bp]; simp only[bz,bD]; omega
 rw[pN b.2.1 (fun g=>ũ (vN g)++[10]) (by omega) p (by omega) (fun i g s hi d e kn=>by
  unfold jl;dsimp only;rw[Ó hi,Å d]
  exact(zi (w:=[103,97,117,103,101]) (by simp) (by simp) (h.gauges g (List.mem_of_getElem? d)) e fun t=>ck ((i:Int)+1) fun n=>kn (t,n)).trans (Í hi (by omega) _)) (fun s kn=>by unfold jl; rw[ß])]
 dsimp only
 rw[pN b.2.2.1 (fun g=>ũ (TG g)++[10]) (by omega) o (by rw[bp]; omega) (fun i g s hi d e kn=>by
  unfold jk;dsimp only;rw[Ó hi,Å d,Å d]
  exact(zi (w:=[117,115,101]) (by simp) (by simp) (lU (h.uses g (List.mem_of_getElem? d))) e fun t=>ck ((i:Int)+1) fun n=>kn (t,n)).trans (Í hi (by omega) _)) (fun s kn=>by unfold jk; rw[ß])]
 dsimp only
 rw[pN b.2.2.2.1 (fun g=>ũ (Gq g)++[10]) (by omega) m (by rw[bp,bp]; omega) (fun i g s hi d e kn=>by
  unfold jj;dsimp only;rw[Ó hi,Å d]
  exact(zi (w:=[108,111,97,110]) (by simp) (by simp) (h.loans g (List.mem_of_getElem? d)) e fun t=>ck ((i:Int)+1) fun n=>kn (t,n)).trans (Í hi (by omega) _)) (fun s kn=>by unfold jj; rw[ß])]
 dsimp only
 rw[pN b.2.2.2.2.1 (fun g=>ũ (Pb g)++[10]) (by omega) l (by rw[bp,bp,bp]; omega) (fun i c s hi d e kn=>by
  obtain⟨r1,r2,f,x,v⟩:=h.cmps c (List.mem_of_getElem? d);have u:=ĉ (w:=[99,111,109,112,97,114,101]) r1;have r:=ĉ (w:=[32,97]) r2;have a3:=ĉ (w:=[32,98]) f;simp only[List.length_cons,List.length_nil] at u r a3;unfold ji;dsimp only
  rw[Ó hi,Å d,show ByteArray.mk #[99,111,109,112,97,114,101]=ofL [99,111,109,112,97,114,101] from rfl,wu (by simp) (by simp) r1,À,Ð (by rw[Ï,Ï]; omega),Am.iff_true,show ByteArray.mk #[32,97]=ofL [32,97] from rfl,wu (by simp) (by omega) r2,À,ç,Ð (by rw[Ï,Ï,bp]; omega),Am.iff_true,
   show ByteArray.mk #[32,98]=ofL [32,98] from rfl,wu (by simp) (by omega) f,À,ç,Ð (by rw[Ï,Ï,bp,bp]; omega),Am.iff_true,ç,show ByteArray.mk #[10]=ofL [10] from rfl,Ð (by rw[Ï,Ï,bp,bp,bp]; simp only[bz,bD]; omega),Am.iff_true,ç,Í hi (by omega),GR]
  simp only[List.append_assoc]) (fun s kn=>by unfold ji; rw[ß])]
 dsimp only
 rw[pN b.2.2.2.2.2 (fun g=>ũ (Gp g)++[10]) (by omega) k (by rw[bp,bp,bp,bp]; omega) (fun i g s hi d e kn=>by
  unfold jh;dsimp only;rw[Ó hi,Å d,Å d]
  exact(zi (w:=[108,111,111,107]) (by simp) (by simp) (lU (h.looks g (List.mem_of_getElem? d))) e fun t=>ck ((i:Int)+1) fun n=>kn (t,n)).trans (Í hi (by omega) _)) (fun s kn=>by unfold jh; rw[ß])]
 dsimp only;congr 2;unfold ė ŕ;rw[<-j];simp only[List.flatMap_cons,List.flatMap_append,List.flatMap_map,List.append_assoc];rfl
def QO {ws:th BL} {i:Nat} {a:ByteArray} (h:(ws.map ofL)[i]?=some a):∃w,ws[i]?=some w/\a=ofL w:=by
 rw[dt] at h
 cases c:ws[i]? with
 |none=>rw[c] at h; cases h
 |some w=>rw[c] at h; cases h; exact⟨w,rfl,rfl⟩
def qv (ws:th BL) (f:ws.length<=1000000) (e:∀w∈ws,w.length<=1000000):ģ (ws.map ofL)=some (ws.map f0):=by
 unfold ģ tC;rw[mA (ws.map ofL) (fun s=>f0 (toL s)) (out:=[]) (K:=some) (by simpa using f) (fun i a s hi ha g kn=>?_) (fun s kn=>by unfold ir; rw[ß])]
 ·rw[cr,List.map_map]; rfl
 ·obtain⟨w,c,rfl⟩:=QO ha;have d:=e w (List.mem_of_getElem? c);rw[List.length_map] at hi;unfold ir;dsimp only;rw[Ó (by simpa using hi),Å ha];unfold Pz;rw[show decide ((ofL w).size<=281474976710656)=true by rw[Ï]; exact decide_eq_true (by omega)];simp only[À];unfold f0
  cases Lib.atoiAll w with
  |ok v=>simp only[Ľ]; rw[Ð (by simp; omega),Am.iff_true,ö (by omega) (by omega)]
  |range=>simp only[fE]; rw[Ð (by simp; omega),Am.iff_true,ö (by omega) (by omega)]
  | _ => simp only [fE]; rw [Ð (by simp; omega), Am.iff_true, ö (by omega) (by omega)]
def Jn {α ρ:Type} (a:α) (l:th α) (f:α->so ρ):ø (a::l) 0 f=f a:=rfl
def rK (ws:th BL):th Int×th Int :=
 match ws with
 |[]=>([],[])
 |w::_=>if w=[97] then match ws.findIdx? (fun v=>decide (v=[98])) with
  |some j=>(((ws.drop 1).take (j-1)).map f0,(ws.drop (j+1)).map f0)
  |none=>([],[]) else([],[])
def T3 (ws:th BL) (p:ws.length<=1000000) (t:∀w∈ws,w.length<=1000000):vZ (ws.map ofL)=some (rK ws):=by
 unfold vZ I8 rK
 cases ws with
 |nil=>rw[Þ (by simp[ieq,ó])]
 |cons w r =>
 dsimp only;rw[Ö (by simp[ieq,ó]; omega)];rw[show((w::r).map ofL)=ofL w::r.map ofL from rfl,Jn,show ByteArray.mk #[97]=ofL [97] from rfl,nQ]
 by_cases h:w=[97]
 case neg=>rw[if_neg h,Þ (by simp[h])]
 rw[if_pos h,Ö (by simp[h])];have k:=iK (ρ:=th Int×th Int) (ofL w::r.map ofL) (fun s=>decide (toL s=[98])) (fun j=>some (((((w::r).drop 1).take (j.toNat-1)).map f0,((w::r).drop (j.toNat+1)).map f0))) (some ([],[])) (f:=fun q c=>iA (ofL w::r.map ofL) (ofL w::r.map ofL) (â (ofL w::r.map ofL)) q (fun g=>c g) (fun z7=>some (z7.1,z7.2)) (fun _=>some ([],[]))) (fun i a hi ha kn=>?_) (fun kn=>?_)
 ·rw[k]
  have e:(ofL w::r.map ofL).findIdx? (fun s=>decide (toL s=[98]))=(w::r).findIdx? (fun v=>decide (v=[98])):=by
   rw[show ofL w::r.map ofL=(w::r).map ofL from rfl,List.findIdx?_map]; rfl
  rw[e]
  cases(w::r).findIdx? (fun v=>decide (v=[98]))<;>simp
 ·obtain⟨v,n,rfl⟩:=QO (ws:=w::r) ha;unfold iA;dsimp only
  have l:(ofL w::r.map ofL).length=(w::r).length:=by simp
  rw[Ó hi,Å ha,show ByteArray.mk #[98]=ofL [98] from rfl,nQ,œ]
  by_cases hb:v=[98]
  ·have y:i≠0:=fun e=>by subst e; simp only[cQ,Option.some.injEq] at n; rw[<-n,h] at hb; cases hb
   rw[l] at hi;have o:∀(m:th BL),m ⊆ w::r->∀x∈m,x.length<=1000000:=fun m u x d=>t x (u d)
   rw[if_pos (by simp[hb]),if_pos (by simp[hb]),show(ile (1:Int) (i:Int)&&ile (i:Int) (θ (ofL w::r.map ofL)))=true by simp[ile,θ] at hi ⊢; omega,Am.iff_true,show((i:Int)-1).toNat=i-1 by omega,
    show(ofL w::r.map ofL).drop 1=((w::r).drop 1).map ofL by simp,<-List.map_take,qv _ (by simp at p hi ⊢; omega) (o _ fun x d=>eD (List.mem_of_mem_take d)),À,ö (by omega) (by omega),show(ile (0:Int) ((i:Int)+1)&&ile ((i:Int)+1) (θ (ofL w::r.map ofL)))=true by simp[ile,θ] at hi ⊢; omega,Am.iff_true,show((i:Int)+1).toNat=i+1 by omega,
    show ofL w::r.map ofL=(w::r).map ofL from rfl,<-List.map_drop,qv _ (by simp at p hi ⊢; omega) (o _ fun x d=>eD d),À,bU]
  ·rw[if_neg (by simp[hb]),if_neg (by simp[hb]),ö (by omega) (by omega)]
 ·unfold iA;rw[ß]
end Go.Proofs.ZzM
end
