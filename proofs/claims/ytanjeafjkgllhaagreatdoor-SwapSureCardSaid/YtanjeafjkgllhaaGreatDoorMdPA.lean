/- lemmas -/
import Derived.Test.YtanjeafjkgllhaaGreatDoorAmG
import Derived.Test.YtanjeafjkgllhaaGreatDoorMdTA
set_option linter.all false
noncomputable section
namespace Go.Am
section
variable {ρ:Type}
def ņ {α β:Type} (e:Nat->α->w8 β):Nat->w9 α->w8 β
 |_,[]=>none
 |i,a::t=>match e i a with
  |some b=>some b
  |none=>ņ e (i+1) t
def oC {α β:Type} (l:w9 α) (e:Nat->α->w8 β) (k0:β->w8 ρ) (d:w8 ρ) {f:Int->(Int->w8 ρ)->w8 ρ}
 (h:∀(i:Nat) (a:α),i<l.length->l[i]?=some a->∀c,f i c=match e i a with|some b=>k0 b|none=>c ((i:Int)+1))
 (g:∀c,f l.length c=d):É f 0=match ņ e 0 l with|some b=>k0 b|none=>d:=by
 refine aa8 l (fun i t=>match ņ e i t with|some b=>k0 b|none=>d) g fun i a t hd hi ha c j=>?_;rw[h i a hi ha c,j,ņ]
 cases e i a<;>rfl
def Ζ {α σ:Type} (l:w9 α) (g:Nat->σ) (r:w8 ρ) {f:Int×σ->(Int×σ->w8 ρ)->w8 ρ} {s0:σ} (h0:g 0=s0)
 (h:∀(i:Nat) (a:α),i<l.length->l[i]?=some a->∀b,f (i,g i) b=b ((i:Int)+1,g (i+1)))
 (d:∀b,f (l.length,g l.length) b=r):É f (0,s0)=r:=by
 subst h0
 have c:∀s,(s=g 0)->É f (0,s)=r:=fun s e=>PB l (fun _ _ _=>r) (fun i s=>s=g i) (fun s c b=>by rw[c]; exact d b) (fun i a t s hd hi ha hI b j=>by
  rw[hI,h i a hi ha b]; exact j _ rfl) e
 exact c _ rfl
def Î {i n:Nat} (h:i<n) (a:n<=1000000000) (f:Int->w8 ρ):ck ((i:Int)+1) f=f ((i:Int)+1):=Ù (by omega) (by omega) f
def afk {i n:Nat} (h:i<n) (x y:w8 ρ):ifb (ilt (i:Int) (GP n)) x y=x:=by simp[Ġ,lT,h]
def é (n:Nat) (x y:w8 ρ):ifb (ilt (n:Int) (GP n)) x y=y:=by simp[Ġ,lT]
def Ñ {α:Type} {l:w9 α} {i:Nat} (h:i<l.length) (x y:w8 ρ):ifb (ilt (i:Int) (Ô l)) x y=x:=afk h x y
def KT {α:Type} (p:α->Bool):∀(i:Nat) (l:w9 α),ņ (fun i a=>bif p a then some (i:Int) else none) i l=(l.findIdx? p).map fun j=>((i+j:Nat):Int)
 |_,[]=>rfl
 |i,a::t=>by
  simp only[ņ,List.findIdx?_cons]
  cases b:p a with
  |true=>simp
  |false =>
   simp only[cond_false,dj,if_false];rw[KT p (i+1) t]
   cases t.findIdx? p with
   |none=>rfl
   |some j=>simp only[dQ]; congr 1; omega
def gW {α β:Type} {e:Nat->α->w8 β}:∀{i:Nat} {l:w9 α},ņ e i l=none↔∀j a,l[j]?=some a->e (i+j) a=none
 |_,[]=>by simp[ņ]
 |i,a::t=>by
  simp only[ņ];constructor
  ·intro h j b hb
   cases d:e i a with
   |some c=>rw[d] at h; cases h
   |none =>
    rw[d] at h
    cases j with
    |zero=>simp at hb; subst hb; simpa using d
    |succ j=>have:=(gW.1 h) j b (by simpa using hb); rw[<-this]; congr 1; omega
  ·intro h;have h0:=h 0 a (by simp);simp only[fK] at h0;rw[h0]
   exact gW.2 fun j b hb=>by have:=h (j+1) b (by simpa using hb); rw[<-this]; congr 1; omega
def take_succ {α:Type} {l:w9 α} {i:Nat} {a:α} (h:l[i]?=some a):l.take (i+1)=l.take i++[a]:=by rw[List.take_succ,h]; rfl
end
end Go.Am
end

noncomputable section
namespace Go.Proofs.ZzM
open Go Go.Am
section
variable {ρ:Type}
def ġ {τ:Type} {f:τ->(τ->w8 ρ)->w8 ρ} {r:w8 ρ} (I:τ->Prop) (μ:τ->Nat)
 (h:∀x,I x->(∀a,f x a=r)\/∃y,I y/\μ y<μ x/\∀a,f x a=a y) {x:τ} (b:I x):É f x=r :=
 DM (F:=fun _=>r) I μ (fun x b a d=>by
  rcases h x b with c|⟨y,c,h2,e⟩
  ·exact c a
  ·rw[e,d y c h2]) b
def lm {α:Type} (l:w9 α) (p:α->Bool) (k0:Int->w8 ρ) (c:w8 ρ) {f:Int->(Int->w8 ρ)->w8 ρ}
 (h:∀(i:Nat) (a:α),i<l.length->l[i]?=some a->∀b,f i b=if p a then k0 i else b ((i:Int)+1))
 (d:∀b,f l.length b=c):É f 0=match l.findIdx? p with|some j=>k0 j|none=>c:=by
 rw[oC l (fun i a=>bif p a then some (i:Int) else none) k0 c (fun i a hi ha b=>by rw[h i a hi ha b]; cases p a<;>rfl) d,KT]
 cases l.findIdx? p with
 |none=>rfl
 |some j=>simp
def gS {α:Type} (l:w9 α) (p:α->Bool) (k0:Int->w8 ρ) (K c:w8 ρ) {f:Int->(Int->w8 ρ)->w8 ρ} (n:∀j:Nat,k0 j=K)
 (h:∀(i:Nat) (a:α),i<l.length->l[i]?=some a->∀b,f i b=if p a then k0 i else b ((i:Int)+1))
 (k:∀b,f l.length b=c):É f 0=if l.any p then K else c:=by
 rw[lm l p k0 c h k]
 cases d:l.findIdx? p with
 |none =>
  have:l.any p=false:=by
   rw[eV];intro x e;have:=d8.1 d x e;simp[this]
  simp[this]
 |some j =>
  have:l.any p=true:=by
   have:=dK.1 d;obtain⟨m,g,_⟩:=this;exact dU.2 ⟨_,fG m,g⟩
  simp[this,n]
end
abbrev Ą:Type:=Int×Int×Int×(Int×Int)×((Int×Int)×Int)
abbrev Ep:Type:=Int×((Int×Int)×Int)
abbrev Cmp:Type:=Int×Int×w9 Int×w9 Int×Int×(Int×(Int×Int))
abbrev ċ:Type:=(Int×Int)×w9 Ą×w9 (Int×Int)×w9 Ep×w9 Cmp×w9 (Int×Int)
abbrev Sys:Type:=Int×w9 (Int×Int×Int)
abbrev Maker:Type:=ċ×w9 (Int×Int)×Sys×w9 (Int×Int)
section
variable {ρ:Type}
def æ {b:Bool} (h:b=true) (x y:w8 ρ):ifb b x y=x:=by rw[h]; rfl
def Õ {b:Bool} (h:b=false) (x y:w8 ρ):ifb b x y=y:=by rw[h]; rfl
end
def I64 (n:Int):Prop:=-9223372036854775808<=n/\n<=9223372036854775807
def inP (n lo hi:Int):Bool:=decide (lo<=n)&&decide (n<=hi)
def Le (n:Int):Bool:=inP n 0 20000
def lP (s:Int×Int) (lo hi:Int):Bool:=decide (lo<=s.1)&&(decide (s.1<=s.2)&&decide (s.2<=hi))
def Κ (n lo hi:Int):Ē n lo hi=some (inP n lo hi):=by
 unfold Ē NV inP ile
 cases decide (lo<=n)<;>rfl
def HP (n:Int):lz n=some (Le n):=by
 unfold lz Sl;rw[Κ]; rfl
def DS (s:Int×Int) (lo hi:Int):ű s lo hi=some (lP s lo hi):=by
 unfold ű NY lP ile
 cases decide (lo<=s.1)<;>cases decide (s.1<=s.2)<;>rfl
def OS {n:Int} (h:I64 n):rB n=some (n.natAbs:Int):=by
 obtain⟨b,h2⟩:=h;unfold rB Wt
 by_cases a:n<0
 ·have:ilt n 0=true:=by simpa using a
  rw[æ this];congr 1;simp only[IntKind.wrap,IntKind.bits,IntKind.signed];simp;omega
 ·have:ilt n 0=false:=by simpa using a
  rw[Õ this];congr 1;simp only[IntKind.wrap,IntKind.bits,IntKind.signed];simp;omega
def afm (a b:Nat):K3 a b=some ((Nat.gcd a b:Nat):Int):=by
 unfold K3 aaV;refine ġ (fun x:Int×Int=>∃c d:Nat,x=((c:Int),(d:Int))/\Nat.gcd c d=Nat.gcd a b) (fun x=>x.2.toNat) ?_ ⟨a,b,rfl,rfl⟩;rintro x ⟨c,d,rfl,e⟩
 cases d with
 |zero =>
  refine .inl fun f=>?_;rw[Nat.gcd_zero_right] at e;unfold ya;simp[e,ine]
 |succ d =>
  refine .inr ⟨(((d+1:Nat):Int),((c % (d+1):Nat):Int)),⟨d+1,c % (d+1),rfl,?_⟩,?_,fun f=>?_⟩
  ·rw[<-e,Nat.gcd_comm c (d+1),Nat.gcd_rec (d+1) c,Nat.gcd_comm]
  ·have:=Nat.mod_lt c (gL d);simp only[dc];omega
  ·unfold ya
   have g:ine ((d+1:Nat):Int) 0=true:=by simp[ine]; omega
   have h2:kI ((d+1:Nat):Int) 0=false:=by simp[kI]; omega
   simp only[g,æ Õ h2];congr 1
def LN (r:Int×Int):Bool :=
 decide (1<=r.2)&&(decide (r.2<=2147483647)&&(decide ((r.1.natAbs:Int)<=2147483647)&&decide (Nat.gcd r.1.natAbs r.2.natAbs=1)))
def Qk {r:Int×Int} (h:I64 r.1):tF r=some (LN r):=by
 unfold tF Sf LN
 by_cases b:1<=r.2
 ·by_cases h2:r.2<=2147483647
  ·have f:I64 r.2:=⟨by omega,by omega⟩
   have a:ige r.2 1=true:=by simp[ige,b]
   have e:ile r.2 2147483647=true:=by simp[ile,h2]
   rw[æ a,æ e,OS h,Á]
   by_cases c:(r.1.natAbs:Int)<=2147483647
   ·have d:ile (r.1.natAbs:Int) 2147483647=true:=by simp[ile,c]
    rw[æ d,Á,OS f,Á,afm,Á];congr 1;rw[fX];simp only[ieq,beq_iff_eq,b,h2,c,decide_true,eJ,decide_eq_true_eq];omega
   ·have d:ile (r.1.natAbs:Int) 2147483647=false:=by simp[ile]; omega
    rw[Õ d];simp[c]
  ·have a:ige r.2 1=true:=by simp[ige,b]
   have e:ile r.2 2147483647=false:=by simp[ile]; omega
   rw[æ a,Õ e];simp[h2]
 ·have a:ige r.2 1=false:=by simp[ige]; omega
  rw[Õ a];simp[b]
def vv (g:Ą):Bool :=
 LN g.2.2.2.2.1&&inP g.2.2.2.2.1.1 (-1000) 1000&&decide (g.2.2.2.2.1.2<=100)&&inP g.1 1 1099511627776&&Le g.2.1&&inP g.2.2.1 1 1125899906842624&&lP g.2.2.2.1 (-1073741824) 1073741824&&inP g.2.2.2.2.2 0 1048576
def YB {g:Ą} (h:I64 g.2.2.2.2.1.1):uJ g=some (vv g):=by
 unfold uJ Bx vv;rw[Qk h,Κ,Κ,HP,Κ,DS,Κ];generalize LN g.2.2.2.2.1=i;generalize inP g.2.2.2.2.1.1 (-1000) 1000=f;generalize inP g.1 1 1099511627776=e;generalize Le g.2.1=d;generalize inP g.2.2.1 1 1125899906842624=c;generalize lP g.2.2.2.1 (-1073741824) 1073741824=b;generalize inP g.2.2.2.2.2 0 1048576=j;unfold ile;generalize decide (g.2.2.2.2.1.2<=100)=a
 cases i<;>cases f<;>cases e<;>cases d<;>cases c<;>cases b<;>cases a<;>rfl
section
variable {ρ:Type}
def SQ {α:Type} {l:w9 α} {i:Nat} {a:α} (h0:0<i) (h:l[i-1]?=some a) (f:α->w8 ρ):ø l ((i:Int)-1) f=f a:=by
 have:((i:Int)-1)=((i-1:Nat):Int):=by omega
 rw[this,È h]
def ab6 {i:Nat} (h:0<i) (a:i<=1000000000) (f:Int->w8 ρ):ck ((i:Int)-1) f=f ((i:Int)-1):=Ù (by omega) (by omega) f
def mc {i n:Nat} (h:i<n) (x:w8 ρ):Ú ((ile 0 (i:Int))&&(ilt (i:Int) (n:Int))) x=x:=by
 have:((ile 0 (i:Int))&&(ilt (i:Int) (n:Int)))=true:=by simp[ile,ilt,h]
 rw[this,Am.iff_true]
def Μ {α:Type} {l:w9 α} {i:Nat} {a:α} (h:l[i]?=some a) (f:α->w8 ρ):ĵ l (Int.toNat (i:Int)) f=f a:=by
 rw[dc]; exact xW h f
end
def tO {α:Type} (key:α->Int) (l:w9 α) (i:Nat) (a:α):Bool :=
 decide (0<i)&&(l[i-1]?).any fun q=>decide (key a<=key q)
def Q0 {α:Type} {l:w9 α} {i:Nat} (hi:i<l.length) (h0:0<i):∃q,l[i-1]?=some q :=
 ⟨l[i-1],cI (by omega)⟩
def H7 {α:Type} (key:α->Int) (l:w9 α):(∀i a,l[i]?=some a->tO key l i a=false)↔l.Pairwise (fun a b=>key a<key b):=by
 rw[eX];constructor
 ·intro h
  have step:∀i (d:i+1<l.length),key l[i]<key l[i+1]:=by
   intro i d;have:=h (i+1) l[i+1] (cI d);simp only[tO,Nat.add_sub_cancel,gL,decide_true,eJ,cI (show i<l.length by omega),Option.any_some,decide_eq_false_iff_not] at this;omega
  intro i j hi f g
  induction j with
  |zero=>omega
  |succ j e =>
   have:=step j f;rcases dA i j with c|k
   ·have:=e (by omega) c; omega
   ·have:i=j:=by omega
    subst this; assumption
 ·intro h i a ha;obtain⟨hi,rfl⟩:=List.getElem?_eq_some_iff.1 ha;unfold tO
  cases i with
  |zero=>rfl
  |succ i =>
   have:=h i (i+1) (by omega) hi (by omega);simp only[Nat.add_sub_cancel,gL,decide_true,eJ,cI (show i<l.length by omega),Option.any_some,decide_eq_false_iff_not];omega
def xw (l:w9 Ą) (i:Nat) (g:Ą):w8 Int :=
 if !vv g then some 1 else if tO (fun g=>g.1) l i g then some 6 else none
def nE (b:ċ):Int:=(ņ (xw b.2.1) 0 b.2.1).getD 0
def MV {b:ċ} (e:∀g∈b.2.1,I64 g.2.2.2.2.1.1) (h:b.2.1.length<=1000):Ŧ b=some (nE b):=by
 unfold Ŧ xp;refine Eq.trans (oC b.2.1 (xw b.2.1) some (some 0) (fun i a hi ha d=>?_) (fun d=>?_)) ?_
 ·try dsimp only
  unfold iG;rw[Ñ hi,È ha,YB (e a (List.mem_of_getElem? ha)),Á];unfold xw
  cases j:vv a with
  |false=>simp
  |true =>
   simp only[dJ,ê,dj,if_false];rcases gq i with h0|h0
   ·subst h0
    have:igt ((0:Nat):Int) 0=false:=by simp[igt]
    rw[Õ this,Î hi (by omega)];simp[tO]
   ·obtain⟨q,c⟩:=Q0 hi h0
    have f:igt (i:Int) 0=true:=by simp[igt]; omega
    rw[æ f,ab6 h0 (by omega),SQ h0 c];simp only[tO,h0,decide_true,Bool.true_and,c,Option.any_some];unfold ile
    cases h2:decide (a.1<=q.1) with
    |true=>simp
    |false =>
     rw[ê,Î hi (by omega)];simp
 ·try dsimp only
  unfold iG;rw[é]
 ·unfold nE
  cases ņ (xw b.2.1) 0 b.2.1<;>rfl
def QQ (l:w9 Ą):w9 (Int×Ą):=l.foldl (fun m g=>Pb (k:=tI) (v:=Ö) g.1 g m) []
def κ (b:ċ):w9 (Int×Ą):=QQ b.2.1
def EC {b:ċ} (d:b.2.1.length<=1000):ĸ b=some (κ b):=by
 unfold ĸ JX;refine Ζ b.2.1 (fun i=>QQ (b.2.1.take i)) _ rfl (fun i a hi ha c=>?_) (fun c=>?_)
 ·try dsimp only
  unfold ml;rw[Ñ hi,È ha,Î hi (by omega),take_succ ha];simp only[QQ,List.foldl_append,List.foldl_cons,List.foldl_nil]
 ·try dsimp only
  unfold ml;rw[é,List.take_length];rfl
def RD (x y:Int) (g:Ą):∀m:w9 (Int×Ą),vd (k:=tI) (v:=Ö) x (Pb (k:=tI) (v:=Ö) y g m)=if x=y then some g else vd (k:=tI) (v:=Ö) x m
 |[]=>by
  unfold Pb vd jh vd
  by_cases h:x=y<;>simp[h]
 |e::m=>by
  unfold Pb
  by_cases h:y=e.1
  ·have:jh tI y e.1=true:=by simp[jh,h]
   rw[this]
   try dsimp only
   unfold vd jh
   by_cases h2:x=y
   ·simp[h2]
   ·have:¬x=e.1:=fun a=>h2 (a.trans h.symm);simp[h2,this]
  ·have:jh tI y e.1=false:=by simp[jh,h]
   rw[this]
   try dsimp only
   have b:=RD x y g m;unfold vd
   by_cases h2:x=e.1
   ·have:jh tI x e.1=true:=by simp[jh,h2]
    rw[this];have:¬x=y:=fun a=>h (a.symm.trans h2);simp[this]
   ·have:jh tI x e.1=false:=by simp[jh,h2]
    rw[this];exact b
def Ă (b:ċ) (id:Int):w8 Ą:=b.2.1.find? fun g=>g.1==id
def Ur (x:Int) (l:w9 Ą):vd (k:=tI) (v:=Ö) x (QQ l)=l.reverse.find? fun g=>g.1==x:=by
 unfold QQ;rw[<-List.foldr_reverse]
 induction l.reverse with
 |nil=>rfl
 |cons g t a =>
  rw[List.foldr_cons,RD,a,gj]
  by_cases h:x=g.1
  ·simp[h]
  ·have:(g.1==x)=false:=by simp; exact fun h2=>h h2.symm
   simp[h,this]
def Gy {l:w9 Ą} (h:l.Pairwise fun a b=>a.1<b.1) (x:Int):l.reverse.find? (fun g=>g.1==x)=l.find? fun g=>g.1==x:=by
 induction l with
 |nil=>rfl
 |cons g t d =>
  rw[dD] at h;rw[List.reverse_cons,List.find?_append,d h.2,gj]
  by_cases c:g.1=x
  ·have:t.find? (fun g=>g.1==x)=none:=eZ.2 fun y e=>by have:g.1<y.1:=h.1 y e; simp; omega
   rw[this]; simp[c]
  ·have:(g.1==x)=false:=by simp[c]
   simp[this]
def xX {b:ċ} (h:b.2.1.Pairwise fun a b=>a.1<b.1) (x:Int):vd (k:=tI) (v:=Ö) x (κ b)=Ă b x:=by
 unfold κ Ă;rw[Ur,Gy h]
def lU (s:w9 (Int×Ą)) (id day:Int):Int :=
 match vd (k:=tI) (v:=Ö) id s with
 |some g=>if day<g.2.1 then 4 else 0
 |none=>5
def Ut (s:w9 (Int×Ą)) (id day:Int):ix s id day=some (lU s id day):=by
 unfold ix Ag lU
 cases h:vd (k:=tI) (v:=Ö) id s with
 |none=>simp only[N8,h]
 |some g =>
  simp only[N8,h];rw[Ġ]
  by_cases h2:day<g.2.1<;>simp[h2]
def Zw (s:w9 (Int×Ą)) (id day:Int):Int:=if !Le day then 1 else lU s id day
def Q7 (s:w9 (Int×Ą)) (id day:Int):Ĺ id day s=some (Zw s id day):=by
 unfold Ĺ J2 Zw;rw[HP,Á,Ut,Á]
 cases Le day<;>rfl
def Sz (b:ċ) (s:w9 (Int×Ą)) (i:Nat) (l:Ep):Int :=
 if !lP l.2.1 0 20000 then 1 else if !inP l.2.2 0 1048576 then 1 else if lU s l.1 l.2.1.1 != 0 then lU s l.1 l.2.1.1 else
 if (b.2.2.2.1.take i).any (fun x=>x.1==l.1&&(decide (x.2.1.1<=l.2.1.2)&&decide (l.2.1.1<=x.2.1.2))) then 9 else
 if b.2.2.1.any (fun u=>u.1==l.1&&inP u.2 l.2.1.1 l.2.1.2) then 9 else 0
def Tm {b:ċ} (t:b.2.2.2.1.length<=1000) (r:b.2.2.1.length<=1000) (s:w9 (Int×Ą)) {i:Nat} {l:Ep} (m:b.2.2.2.1[i]?=some l):Ŷ b s i=some (Sz b s i l):=by
 unfold Ŷ uB Sz;have hi:i<b.2.2.2.1.length:=(List.getElem?_eq_some_iff.1 m).1;rw[È m,DS,Á,Κ,Á,Ut,Á]
 cases lP l.2.1 0 20000 with
 |false=>rfl
 |true =>
 cases inP l.2.2 0 1048576 with
 |false=>rfl
 |true =>
 cases h:(lU s l.1 l.2.1.1 != 0) with
 |true =>
  have:ine (lU s l.1 l.2.1.1) 0=true:=h;simp[this]
 |false =>
 have g:ine (lU s l.1 l.2.1.1) 0=false:=h
 have p:((ile (0:Int) (i:Int))&&(ile (i:Int) (ï b.2.2.2.1)))=true:=by simp[ile,ï]; omega
 simp only[dJ,ê,g,dj,if_false];rw[Į p,dc]
 have c:∀(k:Int->w8 Int),É (fun(v:Int) n=>Ű b.2.2.1 (Ô b.2.2.1) l.1 l.2.1.1 l.2.1.2 v (fun u=>n u) (fun z=>ifb (ige z 0) (k 9) (k 0)) (fun _=>k 0)) (0:Int)=if b.2.2.1.any (fun u=>u.1==l.1&&inP u.2 l.2.1.1 l.2.1.2) then k 9 else k 0:=by
  intro k;refine gS b.2.2.1 _ (fun z=>ifb (ige z 0) (k 9) (k 0)) (k 9) (k 0) (fun j=>?_) (fun j a d ha f=>?_) (fun f=>?_)
  ·have:ige (j:Int) 0=true:=by simp[ige]
   rw[æ this]
  ·try dsimp only
   unfold Ű;rw[Ñ d,È ha,Κ,Á,Î d (by omega)]
   cases e:(a.1==l.1) with
   |false =>
    have:ieq a.1 l.1=false:=e;simp[this]
   |true =>
    have:ieq a.1 l.1=true:=e;rw[this]
    cases inP a.2 l.2.1.1 l.2.1.2<;>simp
  ·try dsimp only
   unfold Ű;rw[é]
 rw[c];refine fe (gS (b.2.2.2.1.take i) (fun x=>x.1==l.1&&(decide (x.2.1.1<=l.2.1.2)&&decide (l.2.1.1<=x.2.1.2))) (fun z=>ifb (ige z 0) (some 9) (if b.2.2.1.any (fun u=>u.1==l.1&&inP u.2 l.2.1.1 l.2.1.2) then some 9 else some 0)) (some 9) (if b.2.2.1.any (fun u=>u.1==l.1&&inP u.2 l.2.1.1 l.2.1.2) then some 9 else some 0) (fun j=>?_) (fun j a d ha f=>?_) (fun f=>?_)) ?_
 ·have:ige (j:Int) 0=true:=by simp[ige]
  rw[æ this]
 ·try dsimp only
  unfold jX
  have o:j<=1000:=by rw[dh] at d; omega
  rw[Ñ d,È ha,Î d (by rw[dh]; omega)]
  cases e:(a.1==l.1) with
  |false =>
   have:ieq a.1 l.1=false:=e;simp[this]
  |true =>
   have:ieq a.1 l.1=true:=e;rw[this]
   cases h2:decide (a.2.1.1<=l.2.1.2)<;>cases q:decide (l.2.1.1<=a.2.1.2)<;>simp[ile,h2,q,Ġ]<;>simp_all
 ·try dsimp only
  unfold jX;rw[é]
 ·cases List.any (b.2.2.2.1.take i) _<;>cases b.2.2.1.any _<;>rfl
def TF {l:w9 Int} (c:l.length<=1000000) (x:Int):Ω l x=some (match l.findIdx? (·==x) with|some j=>(j:Int)|none=>-1):=by
 unfold Ω sQ;refine Eq.trans (lm l (·==x) some (some (-1)) (fun i a hi ha b=>?_) (fun b=>?_)) ?_
 ·try dsimp only
  unfold Δ;rw[Ñ hi,È ha,Î hi (by omega),Ġ]
  by_cases h:x=a
  ·subst h; simp[ieq]
  ·have h2:¬a=x:=fun e=>h e.symm;simp[ieq,h,h2]
 ·try dsimp only
  unfold Δ;rw[é]
 ·cases l.findIdx? (·==x)<;>rfl
def np {l:w9 Int} (b:l.length<=1000000) (x:Int):à l x=some (l.contains x):=by
 unfold à nI;rw[TF b,Á];congr 1
 cases h:l.findIdx? (·==x) with
 |none =>
  have:l.contains x=false:=by
   rw[fO];intro c;have:=d8.1 h x (by simpa using c);simp at this
  rw[this]; rfl
 |some j =>
  obtain⟨d,a,_⟩:=dK.1 h
  have:l.contains x=true:=by
   have h2:l[j]=x:=by simpa using a
   rw[<-h2]; simp
  rw[this];simp[ige]
def ğ (a b:w9 Int):w9 Int:=a.filter fun x=>!b.contains x
def Ff {a b:w9 Int} (ha:a.length<=1000000) (hb:b.length<=1000000):ŵ a b=some (ğ a b):=by
 unfold ŵ Wz;rw[Ð (by omega),Am.iff_true]
 have g:∀z:Nat,z<a.length->ğ (a.take z) b=a.take z->b.contains (a[z]?.getD 0)=true ->
  É (fun(d:(Val (.pair tI (.pair tI (.slice tI))))) f=>ke b d.1 d.2.1 d.2.2 (fun n m l=>f (n,m,l)) (fun c=>Ú ((ile (0:Int) c.1)&&(ile c.1 (ï c.2))) (Ú ((ile (0:Int) c.1)&&(ile c.1 (ï (List.take (Int.toNat c.1) c.2++List.replicate (List.length c.2-(Int.toNat c.1)) (0:Int)++List.drop ((Int.toNat c.1)+(List.length c.2-(Int.toNat c.1))) c.2)))) (some (List.take (Int.toNat c.1) (List.drop 0 (List.take (Int.toNat c.1) c.2++List.replicate (List.length c.2-(Int.toNat c.1)) (0:Int)++List.drop ((Int.toNat c.1)+(List.length c.2-(Int.toNat c.1))) c.2))))))) ((z:Int),((z:Int)+1),a)=some (ğ a b):=by
  intro z p H v
  refine ġ (fun x:Int×Int×w9 Int=>∃i j:Nat,x.1=i/\x.2.1=j/\i<j/\j<=a.length/\x.2.2.length=a.length/\x.2.2.take i=ğ (a.take j) b/\x.2.2.drop j=a.drop j) (fun x=>a.length-x.2.1.toNat) ?_
   ⟨z,z+1,rfl,by simp,by omega,by omega,rfl,?_,rfl⟩
  ·rintro⟨N,M,s⟩ ⟨i,j,A,h2,J,I,D,y,hd⟩;simp only at A h2 D y hd;subst A h2;rcases dA j a.length with u|u
   ·refine .inr ?_
    have t:s[j]?=some a[j]:=by
     have F:(s.drop j)[0]?=(a.drop j)[0]?:=by rw[hd]
     rw[eA,eA] at F;simpa[cI u] using F
    have e:j<s.length:=by omega
    have r:ğ (a.take (j+1)) b=ğ (a.take j) b++if b.contains a[j] then[] else[a[j]]:=by
     rw[take_succ (cI u),ğ,ğ,eP];congr 1
     cases h:b.contains a[j] with
     |true=>simp only[eD,h,dJ,dj,if_false,fw,if_true]
     |false=>simp only[eD,h,gA,dj,if_false,fw,if_true]
    cases h:b.contains a[j] with
    |true =>
     refine⟨(i,(j:Int)+1,s),⟨i,j+1,rfl,by simp,by omega,by omega,D,?_,?_⟩,by simp; omega,fun w=>?_⟩
     ·rw[r,h]; simpa using y
     ·have:=congrArg (List.drop 1) hd;simpa[fR,Nat.add_comm] using this
     ·try dsimp only
      unfold ke;rw[Ñ e,mc e,Μ t,np hb,Á,h];simp only[Bool.not_true,ê];rw[Î e (by omega)]
    |false =>
     have k:i<s.length:=by omega
     refine⟨((i:Int)+1,(j:Int)+1,s.set i a[j]),⟨i+1,j+1,by simp,by simp,by omega,by omega,by simpa using D,?_,?_⟩,by simp; omega,fun w=>?_⟩
     ·show List.take (i+1) (s.set i a[j])=_;rw[r,h,List.take_succ,fN,List.take_set_of_le (cJ i),y];simp[k]
     ·show List.drop (j+1) (s.set i a[j])=_;rw[List.drop_set_of_lt (by omega)];have:=congrArg (List.drop 1) hd;simpa[fR,Nat.add_comm] using this
     ·try dsimp only
      unfold ke;rw[Ñ e,mc e,Μ t,np hb,Á,h];simp only[Bool.not_false,mq];rw[mc k,Μ (List.getElem?_eq_getElem k),Î k (by omega),Î e (by omega),Int.toNat_natCast]
   ·refine .inl fun w=>?_
    have E:j=s.length:=by omega
    try dsimp only
    unfold ke;rw[E,é];dsimp only
    have L:((ile (0:Int) (i:Int))&&(ile (i:Int) (ï s)))=true:=by simp[ile,ï]; omega
    rw[Į L]
    have K:((ile (0:Int) (i:Int))&&(ile (i:Int) (ï (List.take (Int.toNat (i:Int)) s++List.replicate (List.length s-(Int.toNat (i:Int))) (0:Int)++List.drop ((Int.toNat (i:Int))+(List.length s-(Int.toNat (i:Int)))) s))))=true:=by
     simp[ile,ï]; omega
    rw[Į K,dc,f6,cS,eE (by simp; omega),List.take_take,Nat.min_self,y];rw[dN (by omega)]
  ·show List.take z a=ğ (a.take (z+1)) b;have o:a[z]?=some a[z]:=cI p;rw[take_succ o,ğ,eP];rw[o] at v;simp only[gD] at v
   have:List.filter (fun x=>!b.contains x) [a[z]]=[]:=by simp only[eD,v,dJ,dj,if_false,fw]
   rw[this,df];exact H.symm
 refine fe (lm a (fun x=>b.contains x) (fun B=>ifb (ieq B (-1:Int)) (some a) (ck (B+(1:Int)) fun G=>É (fun(d:(Val (.pair tI (.pair tI (.slice tI))))) f=>ke b d.1 d.2.1 d.2.2 (fun n m l=>f (n,m,l)) (fun c=>Ú ((ile (0:Int) c.1)&&(ile c.1 (ï c.2))) (Ú ((ile (0:Int) c.1)&&(ile c.1 (ï (List.take (Int.toNat c.1) c.2++List.replicate (List.length c.2-(Int.toNat c.1)) (0:Int)++List.drop ((Int.toNat c.1)+(List.length c.2-(Int.toNat c.1))) c.2)))) (some (List.take (Int.toNat c.1) (List.drop 0 (List.take (Int.toNat c.1) c.2++List.replicate (List.length c.2-(Int.toNat c.1)) (0:Int)++List.drop ((Int.toNat c.1)+(List.length c.2-(Int.toNat c.1))) c.2))))))) (B,G,a))) (some a) (fun i x hi q w=>?_) (fun w=>?_)) ?_
 ·try dsimp only
  unfold uw;rw[Ñ hi,mc hi,Μ q,np hb,Á,Î hi (by omega),Ġ]
 ·try dsimp only
  unfold uw;rw[é]
 ·cases h:a.findIdx? (fun x=>b.contains x) with
  |none =>
   have:ğ a b=a:=by
    rw[ğ,gh];intro x q;have:=d8.1 h x q;simpa using this
   rw[this]
  |some z =>
   obtain⟨p,v,C⟩:=dK.1 h
   have A:ieq (z:Int) (-1)=false:=by simp[ieq]
   try dsimp only
   rw[Õ A,Î p (by omega)];refine g z p ?_ ?_
   ·rw[ğ,gh];intro x q;obtain⟨j,u,rfl⟩:=dg.1 q;rw[dh] at u;rw[f0];have:=C j (by omega);simpa using this
   ·rw[cI p]; exact v
def EF (l:w9 Int) (i:Nat) (a:Int):w8 Bool:=if !inP a 1 1099511627776 then some false else if tO (fun x=>x) l i a then some false else none
def yI (l:w9 Int):Bool:=match ņ (EF l) 0 l with|some _=>false|none=>decide (l.length<=6)
def SL {l:w9 Int} (g:l.length<=1000000):mf l=some (yI l):=by
 unfold mf NX;refine Eq.trans (oC l (EF l) some (some (decide (l.length<=6))) (fun i a hi ha d=>?_) (fun d=>?_)) ?_
 ·try dsimp only
  unfold od;rw[Ñ hi,È ha,Κ,Á];unfold EF
  cases inP a 1 1099511627776 with
  |false=>rfl
  |true =>
   simp only[dJ,ê,dj,if_false];rcases gq i with h0|h0
   ·subst h0
    have:igt ((0:Nat):Int) 0=false:=by simp[igt]
    rw[Õ this,Î hi (by omega)];simp[tO]
   ·obtain⟨q,c⟩:=Q0 hi h0
    have f:igt (i:Int) 0=true:=by simp[igt]; omega
    rw[æ f,ab6 h0 (by omega),SQ h0 c];simp only[tO,h0,decide_true,Bool.true_and,c,Option.any_some];unfold ile
    cases h2:decide (a<=q) with
    |true=>rfl
    |false =>
     rw[ê,Î hi (by omega)];rfl
 ·try dsimp only
  unfold od;rw[é,â];simp[ile];omega
 ·have hb:∀x,ņ (EF l) 0 l=some x->x=false:=by
   have:∀(m:w9 Int) (j:Nat) (x:Bool),ņ (EF l) j m=some x->x=false:=by
    intro m
    induction m with
    |nil=>intro j x h; cases h
    |cons a m e =>
     intro j x h;unfold ņ at h
     cases b:EF l j a with
     |none=>rw[b] at h; exact e _ _ h
     |some y =>
      rw[b] at h;cases h;unfold EF at b
      split at b
      ·cases b; rfl
      ·split at b
       ·cases b; rfl
       ·cases b
   exact this l 0
  unfold yI
  cases h:ņ (EF l) 0 l with
  |none=>rfl
  |some x=>rw[hb x h]
def Q4 (l:w9 Int):yI l=true↔(∀x∈l,1<=x/\x<=1099511627776)/\l.Pairwise (·<·)/\l.length<=6:=by
 have h0:ņ (EF l) 0 l=none↔(∀x∈l,1<=x/\x<=1099511627776)/\l.Pairwise (·<·):=by
  rw[gW,<-H7 (fun x=>x) l];constructor
  ·intro h
   have b:∀(j:Nat) (a:Int),l[j]?=some a->inP a 1 1099511627776=true/\tO (fun x=>x) l j a=false:=by
    intro j a ha;have:=h j a ha;rw[Nat.zero_add] at this;unfold EF at this
    split at this
    ·cases this
    ·split at this
     ·cases this
     ·rename_i b h2;exact⟨by simpa using b,by simpa using h2⟩
   refine⟨fun x d=>?_,fun i a ha=>(b i a ha).2⟩;obtain⟨j,e,rfl⟩:=dg.1 d;have:=(b j l[j] (cI e)).1;simpa[inP] using this
  ·rintro⟨b,h2⟩ j a ha;rw[dB];have c:=b a (cY ha)
   have:inP a 1 1099511627776=true:=by simpa[inP] using c
   simp[EF,this,h2 j a ha]
 unfold yI
 cases h:ņ (EF l) 0 l with
 |none =>
  obtain⟨b,h2⟩:=h0.1 h;simp only[decide_eq_true_eq];exact⟨fun c=>⟨b,h2,c⟩,fun c=>c.2.2⟩
 |some x =>
  constructor
  ·intro h2; cases h2
  ·rintro⟨b,h2,c⟩;rw[h0.2 ⟨b,h2⟩] at h; cases h
def TH {a b:w9 Int} (ha:a.length<=1000000) (hb:b.length<=1000000):ĝ [a,b]=some (a++b):=by
 have q:∀n:Nat,n<=4000000->∀(f:Int->w8 (w9 Int)),ck (n:Int) f=f n:=fun n h f=>Ù (by omega) (by omega) f
 have c:É (fun(l:pg) d=>Ė [a,b] (Ô [a,b]) l.1 l.2 (fun g e=>d (g,e)) (fun m=>some m)) ((0:Int),([]:w9 Int))=some (a++b):=by
  refine Ζ [a,b] (fun i=>([a,b].take i).flatten) (some (a++b)) (f:=fun(l:pg) d=>Ė [a,b] (Ô [a,b]) l.1 l.2 (fun g e=>d (g,e)) (fun m=>some m)) rfl (fun i x hi j o=>?_) (fun o=>?_)
  ·try dsimp only
   unfold Ė;rw[Ñ hi,È j,Î hi (by simp),take_succ j,List.flatten_append]
   have:Ý ((List.take i [a,b]).flatten.length+x.length)=true:=by
    refine Ð ?_
    have u:x.length<=1000000:=by
     have:=cY j;simp at this
     rcases this with rfl|rfl<;>assumption
    have h2:(List.take i [a,b]).flatten.length<=2000000:=by
     have:i=0\/i=1:=by simp at hi; omega
     rcases this with rfl|rfl<;>simp<;>omega
    omega
   rw[Į this];simp
  ·try dsimp only
   unfold Ė;rw[é];simp
 unfold ĝ qM;refine ġ (fun x:Int×Int=>∃i:Nat,i<=2/\x=((([a,b].take i).flatten.length:Int),(i:Int))) (fun x=>2-x.2.toNat) ?_ ⟨0,by omega,rfl⟩;rintro x ⟨i,hi,rfl⟩;rcases Nat.lt_or_ge i 2 with h2|h2
 ·refine .inr ⟨((([a,b].take (i+1)).flatten.length:Int),(i:Int)+1),⟨i+1,h2,by simp⟩,by simp; omega,fun o=>?_⟩;have k:i<[a,b].length:=h2;obtain⟨x,j⟩:∃x,[a,b][i]?=some x:=⟨_,cI k⟩
  have r:x.length<=1000000:=by
   have:=cY j;simp at this
   rcases this with rfl|rfl<;>assumption
  have t:(List.take i [a,b]).flatten.length<=2000000:=by
   have:i=0\/i=1:=by omega
   rcases this with rfl|rfl<;>simp<;>omega
  try dsimp only
  unfold Ŵ;rw[Ñ k,È j,â]
  have p:(((List.take i [a,b]).flatten.length:Int)+(x.length:Int))=((List.take i [a,b]).flatten.length+x.length:Nat):=by omega
  rw[p,q _ (by omega)]
  have:ilt ((((List.take i [a,b]).flatten.length+x.length:Nat)):Int) 0=false:=by simp[ilt]; omega
  rw[Õ this,Î k (by simp),take_succ j];simp
 ·refine .inl fun o=>?_
  obtain rfl:i=2:=by omega
  try dsimp only
  unfold Ŵ;rw[show((2:Nat):Int)=(([a,b].length:Nat):Int) from rfl,é]
  have p:((List.take 2 [a,b]).flatten.length:Int)=((a.length+b.length:Nat):Int):=by simp
  have s:ilt (((a.length+b.length:Nat)):Int) 0=false:=by simp[ilt]; omega
  rw[p];dsimp only;rw[Õ s,Int.sub_zero,q _ (by omega)];rcases Nat.eq_zero_or_pos (a.length+b.length) with h0|h0
  ·have:igt (((a.length+b.length:Nat)):Int) 0=false:=by simp[igt]; omega
   rw[Õ this];exact c
  ·have:igt (((a.length+b.length:Nat)):Int) 0=true:=by simp[igt]; omega
   rw[æ this]
   have:((ilt (0:Int) (((a.length+b.length:Nat)):Int))&&(Ý (Int.toNat (((a.length+b.length:Nat)):Int))))=true:=by
    rw[dc,Ð (by omega)];simp[ilt]; omega
   rw[Į this]
   have:ile 0 (ï (List.replicate (Int.toNat (((a.length+b.length:Nat)):Int)) (0:Int)))=true:=by simp[ile]
   rw[Į this];exact c
def ow (b:ċ) (id day:Int):w8 Ep:=b.2.2.2.1.find? fun l=>l.1==id&&inP day l.2.1.1 l.2.1.2
def WZ {α:Type} (p:α->Bool):∀l:w9 α,l.find? p=(match l.findIdx? p with|some j=>l[j]?|none=>none)
 |[]=>rfl
 |a::l=>by
  rw[gj,List.findIdx?_cons]
  cases h:p a with
  |true=>simp
  |false =>
   simp only[dj,if_false];rw[WZ p l]
   cases l.findIdx? p<;>simp
def acJ {b:ċ} (k:b.2.2.2.1.length<=1000) (id day:Int):uK b id day=some (match ow b id day with|some l=>(l,true)|none=>((0,(0,0),0),false)):=by
 unfold uK WD;refine Eq.trans (lm b.2.2.2.1 (fun l=>l.1==id&&inP day l.2.1.1 l.2.1.2) (fun c=>ifb (ilt c (0:Int)) (some (((0:Int),((0:Int),(0:Int)),(0:Int)),false)) (ø b.2.2.2.1 c fun g=>some (g,true))) (some ((0,(0,0),0),false)) (fun i a hi ha f=>?_) (fun f=>?_)) ?_
 ·try dsimp only
  unfold uC;rw[Ñ hi,È ha,Κ,Á,Î hi (by omega)]
  cases e:(a.1==id) with
  |false =>
   have:ieq a.1 id=false:=e;simp[this]
  |true =>
   have:ieq a.1 id=true:=e;rw[this]
   cases inP day a.2.1.1 a.2.1.2<;>simp
 ·try dsimp only
  unfold uC;rw[é]
 ·unfold ow;rw[WZ]
  cases h:b.2.2.2.1.findIdx? (fun l=>l.1==id&&inP day l.2.1.1 l.2.1.2) with
  |none=>rfl
  |some j =>
   obtain⟨d,_,_⟩:=dK.1 h
   have:ilt (j:Int) 0=false:=by simp[ilt]
   try dsimp only
   rw[Õ this,È (cI d),cI d]
section
variable {ρ:Type}
def Zm {α:Type} {all l:w9 α} (k:w8 ρ) (h:l <+: all):yg all l k=k:=by unfold yg; rw[if_pos h]
def PR {α β:Type} {f:w9 α->β->(w9 α->w8 ρ)->w8 ρ} {g:β->w9 α} {al:w9 α}:∀{xs:w9 β} {v:w9 α} {K:w9 α->w8 ρ},
 (∀v y a,y∈xs->(v++g y) <+: al->f v y a=a (v++g y))->(v++xs.flatMap g) <+: al->xy f xs v K=K (v++xs.flatMap g)
 |[],v,K,_,_=>by simp[xy]
 |x::xs,v,K,h,b=>by
  rw[dE,<-cS] at b ⊢;rw[xy,h v x _ (by simp) ((dS _ _).trans b),PR (fun v y a c=>h v y a (dF _ c)) b]
end
def Zu {b:w9 Int->w8 (w9 Int)} {l xs:w9 Int} (h:yf l=some xs):jz xs b l some=some (xs,l):=by
 unfold yf at h
 have c:Ý l.length=true:=by cases e:Ý l.length with|true=>rfl|false=>rw[e] at h; cases h
 rw[Į c] at h;cases h
 have f:l.length<=4294967296:=by simpa[Ý] using c
 unfold jz
 refine Ζ l (fun i=>l.take i) _ rfl (fun i a hi ha d=>?_) (fun d=>?_)<;>(try dsimp only)<;>unfold ψ
 ·rw[Ñ hi,È ha,<-take_succ ha,Zm _ (List.take_prefix _ _),Ù (by omega) (by omega)]
 ·rw[é,gH]
def Vt:∀(n:Nat) {l y:w9 Int},l.length=n->y∈HJ n l->y.length=n
 |0,l,y,_,h=>by simp[HJ] at h; simp[h]
 |n+1,l,y,c,h=>by
  have a:¬l.length=0:=by omega
  simp only[HJ,if_neg a,dz,gy,dG] at h;obtain⟨i,hi,z,b,rfl⟩:=h;have:=Vt n (l:=l.take i++l.drop (i+1)) (by simp; omega) b;simp[this]
def Qr:∀{l:w9 (Int×w9 Int)} {y:w9 (w9 Int)},y∈jP l->y.length=l.length
 |[],y,h=>by simp[jP] at h; simp[h]
 |m::r,y,h=>by
  simp only[jP,dz,dG] at h;obtain⟨x,_,z,a,rfl⟩:=h;simp[Qr a]
def af6 {α:Type} {n i:Nat} (h:i<n) (g:Nat->w9 α):((List.range i).flatMap g++g i) <+: (List.range n).flatMap g:=by
 have:List.range n=List.range i++i::(List.range (n-i-1)).map (i+1+·):=by
  rw[show n=(i+1)+(n-i-1) by omega,List.range_add,gP,cS];simp[show i+1+(n-i-1)-i-1=n-i-1 by omega]
 rw[this,fC,dE,<-cS];exact dS _ _
def TN (n:Nat) (l:w9 Int):w8 (w9 (w9 Int)):=Ú (decide (l.length<n)&&decide (l.length<=9)) (some (HJ l.length l))
def Z4 {n:Nat} {l:w9 Int} (h:l.length<n) (a:l.length<=9):TN n l=some (HJ l.length l):=by unfold TN; rw[Į (by simp[h,a])]
def VN {n:Nat} {l:w9 Int} {xs:w9 (w9 Int)} (h:TN n l=some xs):l.length<n/\l.length<=9/\xs=HJ l.length l:=by
 unfold TN at h
 cases hb:(decide (l.length<n)&&decide (l.length<=9)) with
 |false=>rw[hb] at h; cases h
 |true =>
  rw[hb] at h; cases h;simp only[cM,decide_eq_true_eq] at hb;exact⟨hb.1,hb.2,rfl⟩
def aah {n:Nat} {l:w9 Int} {xs:w9 (w9 Int)} (h:TN (n+1) l=some xs):wD xs (TN n) l some=some (xs,l):=by
 obtain⟨t,h2,rfl⟩:=VN h;unfold wD
 by_cases h0:l.length=0
 ·obtain rfl:l=[]:=List.eq_nil_of_length_eq_zero h0;rw[show ifb (ieq (Ô ([]:w9 Int)) (0:Int))=fun(x y:w8 (w9 (w9 Int)×w9 Int))=>x from by funext x y; simp[â,ieq,Ġ]];exact Zm _ (by simp[HJ])
 ·obtain⟨k,m⟩:∃k,l.length=k+1:=⟨l.length-1,by omega⟩
  have s:HJ l.length l=(List.range l.length).flatMap fun i=>(HJ k (l.take i++l.drop (i+1))).map (l.getD i 0::·):=by
   rw[m];show(if l.length=0 then[[]] else _)=_;rw[if_neg h0,m]
  have b:ieq (Ô l) (0:Int)=false:=by rw[â]; exact decide_eq_false (by omega)
  rw[Õ b];rw[s]
  refine Ζ l (fun i=>(List.range i).flatMap fun i=>(HJ k (l.take i++l.drop (i+1))).map (l.getD i 0::·)) _ rfl (fun i a hi ha d=>?_) (fun d=>?_)<;>(try dsimp only)<;>unfold oW
  ·have e:(l.take i++l.drop (i+1)).length=k:=by simp; omega
   rw[Ñ hi,È ha,Į (by simp[ile,ï]; omega),Ù (by omega) (by omega),Į (by simp[ile,ï]; omega),dc,show Int.toNat ((i:Int)+1)=i+1 by omega,
    TH (by simp; omega) (by simp; omega),Á,Z4 (by omega) (by omega),Á,e]
   have c:l.getD i 0=a:=by rw[dZ,ha]; rfl
   have j:∀xs:w9 (w9 Int),xs.map (l.getD i 0::·)=xs.flatMap fun y=>[a::y]:=fun xs=>by
    rw[c]; induction xs with|nil=>rfl|cons x xs o=>simp[o]
   have f:=af6 hi fun i=>(HJ k (l.take i++l.drop (i+1))).map (l.getD i 0::·)
   have r:(List.range (i+1)).flatMap (fun i=>(HJ k (l.take i++l.drop (i+1))).map (l.getD i 0::·))=(List.range i).flatMap (fun i=>(HJ k (l.take i++l.drop (i+1))).map (l.getD i 0::·))++(HJ k (l.take i++l.drop (i+1))).flatMap fun y=>[a::y]:=by
    rw[gP,fC,dE,gJ,df,j]
   rw[r];rw[j] at f;refine(PR (g:=fun y=>[a::y]) (fun v y d p q=>?_) f).trans ?_
   ·unfold oV;have:=Vt k e p;rw[Į (Ð (by simp; omega))];exact Zm _ q
   ·dsimp only;rw[Ù (by omega) (by omega)]
  ·rw[é]
def TO (n:Nat) (l:w9 (Int×w9 Int)):w8 (w9 (w9 (w9 Int))):=Ú (decide (l.length<n)&&(decide (l.length<=9)&&l.all fun m=>decide (m.2.length<=9))) (some (jP l))
def VO {n:Nat} {l:w9 (Int×w9 Int)} {xs:w9 (w9 (w9 Int))} (h:TO n l=some xs):l.length<n/\l.length<=9/\(∀m∈l,m.2.length<=9)/\xs=jP l:=by
 unfold TO at h
 cases hb:(decide (l.length<n)&&(decide (l.length<=9)&&l.all fun m=>decide (m.2.length<=9))) with
 |false=>rw[hb] at h; cases h
 |true =>
  rw[hb] at h; cases h;simp only[cM,decide_eq_true_eq,di] at hb;exact⟨hb.1,hb.2.1,hb.2.2,rfl⟩
def Z5 {n:Nat} {l:w9 (Int×w9 Int)} (h:l.length<n) (a:l.length<=9) (ha:∀m∈l,m.2.length<=9):TO n l=some (jP l):=by
 unfold TO; rw[Į (by simp only[Bool.and_eq_true,decide_eq_true_eq,List.all_eq_true]; exact⟨h,a,ha⟩)]
def U5 {n:Nat} {l:w9 (Int×w9 Int)} {xs:w9 (w9 (w9 Int))} (h:TO (n+1) l=some xs):rK xs (TO n) l some=some (xs,l):=by
 obtain⟨q,h2,i,rfl⟩:=VO h;unfold rK
 cases l with
 |nil =>
  rw[show ifb (ieq (Ô ([]:w9 (Int×w9 Int))) (0:Int))=fun(x y:w8 (w9 (w9 (w9 Int))×w9 (Int×w9 Int)))=>x from by funext x y; simp[â,ieq,Ġ]];exact Zm _ (by simp[jP])
 |cons e r =>
  have b:ieq (Ô (e::r)) (0:Int)=false:=by rw[â]; exact decide_eq_false (by simp only[cV]; omega)
  rw[Õ b];have p:=i e (by simp);rw[show ø (e::r) (0:Int)=fun f=>f e from by funext f; rfl];dsimp only;rw[show yh e.2=some (HJ e.2.length e.2) from by unfold yh; rw[Į (by simp[p])],Á];have d:jP (e::r)=(HJ e.2.length e.2).flatMap fun x=>(jP r).map (x::·):=rfl
  have c:∀(x:w9 Int),(jP r).map (x::·)=(jP r).flatMap fun y=>[x::y]:=fun x=>by
   generalize jP r=ys
   induction ys with|nil=>rfl|cons y ys k=>simp[k]
  refine(PR (g:=fun x=>(jP r).map (x::·)) (al:=jP (e::r)) (fun v x j s a=>?_) (by rw[dC,<-d]; exact dO)).trans ?_
  ·unfold lY;simp only[List.length_cons] at q h2;rw[Į (by simp[ile,ï]; omega),show List.drop 1 (e::r)=r from rfl,Z5 (by omega) (by omega) (fun m c=>i m (by simp[c])),Á];rw[c] at a ⊢;refine PR (g:=fun y=>[x::y]) (fun v y j o a=>?_) a;unfold lX;have:=Qr o;rw[Į (Ð (by simp; omega))];exact Zm _ a
  ·rw[dC,<-d]
def X3 {l:w9 Int} {xs:w9 (w9 Int)} (h:yh l=some xs):TN 10 l=some xs:=by
 unfold yh at h
 cases hb:decide (l.length<=9) with
 |false=>rw[hb] at h; cases h
 |true =>
  rw[hb] at h; cases h;have:=of_decide_eq_true hb;exact Z4 (by omega) this
def Tk {l:w9 (Int×w9 Int)} {xs:w9 (w9 (w9 Int))} (h:l8 l=some xs):TO 10 l=some xs:=by
 unfold l8 at h
 cases hb:(decide (l.length<=9)&&l.all fun m=>decide (m.2.length<=9)) with
 |false=>rw[hb] at h; cases h
 |true =>
  rw[hb] at h; cases h;simp only[cM,decide_eq_true_eq,di] at hb;exact Z5 (by omega) hb.1 hb.2
end Go.Proofs.ZzM
end
