/- lemmas -/
import Derived.Test.YtjlkjopcjcbooaaGreatDoorAmH
import Derived.Test.YtjlkjopcjcbooaaGreatDoorMdTA
set_option linter.all false
noncomputable section
namespace Go.Am
section
variable {ρ:Type}
def Ŕ {α β:Type} (e:Nat->α->x9 β):Nat->y5 α->x9 β
 |_,[]=>none
 |i,a::t=>match e i a with
  |some b=>some b
  |none=>Ŕ e (i+1) t
def jt {α β:Type} (l:y5 α) (e:Nat->α->x9 β) (d:β->x9 ρ) (k1:x9 ρ) {f:Int->(Int->x9 ρ)->x9 ρ}
 (h:∀(i:Nat) (a:α),i<l.length->l[i]?=some a->∀kn,f i kn=match e i a with|some b=>d b|none=>kn ((i:Int)+1))
 (g:∀kn,f l.length kn=k1):Î f 0=match Ŕ e 0 l with|some b=>d b|none=>k1:=by
 refine Xk l (fun i t=>match Ŕ e i t with|some b=>d b|none=>k1) g fun i a t hd hi ha kn j=>?_;rw[h i a hi ha kn,j,Ŕ]
 cases e i a<;>rfl
def Ġ {α σ:Type} (l:y5 α) (g:Nat->σ) (r:x9 ρ) {f:Int×σ->(Int×σ->x9 ρ)->x9 ρ} {s0:σ} (h0:g 0=s0)
 (h:∀(i:Nat) (a:α),i<l.length->l[i]?=some a->∀kn,f (i,g i) kn=kn ((i:Int)+1,g (i+1)))
 (j:∀kn,f (l.length,g l.length) kn=r):Î f (0,s0)=r:=by
 subst h0
 have d:∀s,(s=g 0)->Î f (0,s)=r:=fun s e=>Lh l (fun _ _ _=>r) (fun i s=>s=g i) (fun s d kn=>by rw[d]; exact j kn) (fun i a t s hd hi ha hI kn m=>by
  rw[hI,h i a hi ha kn]; exact m _ rfl) e
 exact d _ rfl
def Í {i n:Nat} (h:i<n) (a:n<=1000000000) (f:Int->x9 ρ):ck ((i:Int)+1) f=f ((i:Int)+1):=ð (by omega) (by omega) f
def ifb_lt {i n:Nat} (h:i<n) (x y:x9 ρ):ifb (ilt (i:Int) (DX n)) x y=x:=by simp[ģ,jb,h]
def á (n:Nat) (x y:x9 ρ):ifb (ilt (n:Int) (DX n)) x y=y:=by simp[ģ,jb]
def Ó {α:Type} {l:y5 α} {i:Nat} (h:i<l.length) (x y:x9 ρ):ifb (ilt (i:Int) (Û l)) x y=x:=ifb_lt h x y
def GD {α:Type} (p:α->Bool):∀(i:Nat) (l:y5 α),Ŕ (fun i a=>bif p a then some (i:Int) else none) i l=(l.findIdx? p).map fun j=>((i+j:Nat):Int)
 |_,[]=>rfl
 |i,a::t=>by
  simp only[Ŕ,List.findIdx?_cons]
  cases d:p a with
  |true=>simp
  |false =>
   simp only[cond_false,cA,if_false];rw[GD p (i+1) t]
   cases t.findIdx? p with
   |none=>rfl
   |some j=>simp only[di]; congr 1; omega
def kP {α β:Type} {e:Nat->α->x9 β}:∀{i:Nat} {l:y5 α},Ŕ e i l=none↔∀j a,l[j]?=some a->e (i+j) a=none
 |_,[]=>by simp[Ŕ]
 |i,a::t=>by
  simp only[Ŕ];constructor
  ·intro h j b hb
   cases d:e i a with
   |some c=>rw[d] at h; cases h
   |none =>
    rw[d] at h
    cases j with
    |zero=>simp at hb; subst hb; simpa using d
    |succ j=>have:=(kP.1 h) j b (by simpa using hb); rw[<-this]; congr 1; omega
  ·intro h;have h0:=h 0 a (by simp);simp only[eN] at h0;rw[h0]
   exact kP.2 fun j b hb=>by have:=h (j+1) b (by simpa using hb); rw[<-this]; congr 1; omega
def take_succ {α:Type} {l:y5 α} {i:Nat} {a:α} (h:l[i]?=some a):l.take (i+1)=l.take i++[a]:=by rw[List.take_succ,h]; rfl
end
end Go.Am
end

noncomputable section
namespace Go.Proofs.ZzM
open Go Go.Am
section
variable {ρ:Type}
def gL {τ:Type} {f:τ->(τ->x9 ρ)->x9 ρ} {r:x9 ρ} (I:τ->Prop) (μ:τ->Nat)
 (h:∀x,I x->(∀kn,f x kn=r)\/∃y,I y/\μ y<μ x/\∀kn,f x kn=kn y) {x:τ} (a:I x):Î f x=r :=
 qv (F:=fun _=>r) I μ (fun x a kn e=>by
  rcases h x a with d|⟨y,d,h2,g⟩
  ·exact d kn
  ·rw[g,e y d h2]) a
def Δ {α:Type} (l:y5 α) (p:α->Bool) (d:Int->x9 ρ) (k1:x9 ρ) {f:Int->(Int->x9 ρ)->x9 ρ}
 (h:∀(i:Nat) (a:α),i<l.length->l[i]?=some a->∀kn,f i kn=if p a then d i else kn ((i:Int)+1))
 (e:∀kn,f l.length kn=k1):Î f 0=match l.findIdx? p with|some j=>d j|none=>k1:=by
 rw[jt l (fun i a=>bif p a then some (i:Int) else none) d k1 (fun i a hi ha kn=>by rw[h i a hi ha kn]; cases p a<;>rfl) e,GD]
 cases l.findIdx? p with
 |none=>rfl
 |some j=>simp
def jR {α:Type} (l:y5 α) (p:α->Bool) (d:Int->x9 ρ) (K k1:x9 ρ) {f:Int->(Int->x9 ρ)->x9 ρ} (r:∀j:Nat,d j=K)
 (h:∀(i:Nat) (a:α),i<l.length->l[i]?=some a->∀kn,f i kn=if p a then d i else kn ((i:Int)+1))
 (n:∀kn,f l.length kn=k1):Î f 0=if l.any p then K else k1:=by
 rw[Δ l p d k1 h n]
 cases e:l.findIdx? p with
 |none =>
  have:l.any p=false:=by
   rw[dK];intro x g;have:=df.1 e x g;simp[this]
  simp[this]
 |some j =>
  have:l.any p=true:=by
   have:=cQ.1 e;obtain⟨o,m,_⟩:=this;exact dY.2 ⟨_,fh o,m⟩
  simp[this,r]
end
abbrev é:Type:=Int×Int×Int×(Int×Int)×((Int×Int)×Int)
abbrev vW:Type:=Int×((Int×Int)×Int)
abbrev Cmp:Type:=Int×Int×y5 Int×y5 Int×Int×(Int×(Int×Int))
abbrev Ý:Type:=(Int×Int)×y5 é×y5 (Int×Int)×y5 vW×y5 Cmp×y5 (Int×Int)
abbrev Sys:Type:=Int×y5 (Int×Int×Int)
abbrev Maker:Type:=Ý×y5 (Int×Int)×Sys×y5 (Int×Int)
section
variable {ρ:Type}
def à {b:Bool} (h:b=true) (x y:x9 ρ):ifb b x y=x:=by rw[h]; rfl
def Ö {b:Bool} (h:b=false) (x y:x9 ρ):ifb b x y=y:=by rw[h]; rfl
end
def I64 (n:Int):Prop:=-9223372036854775808<=n/\n<=9223372036854775807
def inP (n lo hi:Int):Bool:=decide (lo<=n)&&decide (n<=hi)
def Yl (n:Int):Bool:=inP n 0 20000
def lZ (s:Int×Int) (lo hi:Int):Bool:=decide (lo<=s.1)&&(decide (s.1<=s.2)&&decide (s.2<=hi))
def Ż (n lo hi:Int):č n lo hi=some (inP n lo hi):=by
 unfold č Jw inP ile
 cases decide (lo<=n)<;>rfl
def Lu (n:Int):lS n=some (Yl n):=by
 unfold lS N6;rw[Ż]; rfl
def AC (s:Int×Int) (lo hi:Int):š s lo hi=some (lZ s lo hi):=by
 unfold š JA lZ ile
 cases decide (lo<=s.1)<;>cases decide (s.1<=s.2)<;>rfl
def Kr {n:Int} (h:I64 n):o8 n=some (n.natAbs:Int):=by
 obtain⟨d,h2⟩:=h;unfold o8 Sn
 by_cases a:n<0
 ·have:ilt n 0=true:=by simpa using a
  rw[à this];congr 1;simp only[IntKind.wrap,IntKind.bits,IntKind.signed];simp;omega
 ·have:ilt n 0=false:=by simpa using a
  rw[Ö this];congr 1;simp only[IntKind.wrap,IntKind.bits,IntKind.signed];simp;omega
def ab5 (a b:Nat):GK a b=some ((Nat.gcd a b:Nat):Int):=by
 unfold GK W8;refine gL (fun x:Int×Int=>∃c d:Nat,x=((c:Int),(d:Int))/\Nat.gcd c d=Nat.gcd a b) (fun x=>x.2.toNat) ?_ ⟨a,b,rfl,rfl⟩;rintro x ⟨c,d,rfl,e⟩
 cases d with
 |zero =>
  refine .inl fun kn=>?_;rw[Nat.gcd_zero_right] at e;unfold vh;simp[e,ine]
 |succ d =>
  refine .inr ⟨(((d+1:Nat):Int),((c % (d+1):Nat):Int)),⟨d+1,c % (d+1),rfl,?_⟩,?_,fun kn=>?_⟩
  ·rw[<-e,Nat.gcd_comm c (d+1),Nat.gcd_rec (d+1) c,Nat.gcd_comm]
  ·have:=Nat.mod_lt c (gi d);simp only[cp];omega
  ·unfold vh
   have f:ine ((d+1:Nat):Int) 0=true:=by simp[ine]; omega
   have h2:ĺ ((d+1:Nat):Int) 0=false:=by simp[ĺ]; omega
   simp only[f,à Ö h2];congr 1
def Ht (r:Int×Int):Bool :=
 decide (1<=r.2)&&(decide (r.2<=2147483647)&&(decide ((r.1.natAbs:Int)<=2147483647)&&decide (Nat.gcd r.1.natAbs r.2.natAbs=1)))
def Mc {r:Int×Int} (h:I64 r.1):qB r=some (Ht r):=by
 unfold qB N0 Ht
 by_cases d:1<=r.2
 ·by_cases h2:r.2<=2147483647
  ·have i:I64 r.2:=⟨by omega,by omega⟩
   have a:ige r.2 1=true:=by simp[ige,d]
   have g:ile r.2 2147483647=true:=by simp[ile,h2]
   rw[à a,à g,Kr h,À]
   by_cases e:(r.1.natAbs:Int)<=2147483647
   ·have f:ile (r.1.natAbs:Int) 2147483647=true:=by simp[ile,e]
    rw[à f,À,Kr i,À,ab5,À];congr 1;rw[eI];simp only[ieq,beq_iff_eq,d,h2,e,decide_true,dk,decide_eq_true_eq];omega
   ·have f:ile (r.1.natAbs:Int) 2147483647=false:=by simp[ile]; omega
    rw[Ö f];simp[e]
  ·have a:ige r.2 1=true:=by simp[ige,d]
   have g:ile r.2 2147483647=false:=by simp[ile]; omega
   rw[à a,Ö g];simp[h2]
 ·have a:ige r.2 1=false:=by simp[ige]; omega
  rw[Ö a];simp[d]
def sN (g:é):Bool :=
 Ht g.2.2.2.2.1&&inP g.2.2.2.2.1.1 (-1000) 1000&&decide (g.2.2.2.2.1.2<=100)&&inP g.1 1 1099511627776&&Yl g.2.1&&inP g.2.2.1 1 1125899906842624&&lZ g.2.2.2.1 (-1073741824) 1073741824&&inP g.2.2.2.2.2 0 1048576
def UC {g:é} (h:I64 g.2.2.2.2.1.1):rZ g=some (sN g):=by
 unfold rZ xN sN;rw[Mc h,Ż,Ż,Lu,Ż,AC,Ż];generalize Ht g.2.2.2.2.1=l;generalize inP g.2.2.2.2.1.1 (-1000) 1000=j;generalize inP g.1 1 1099511627776=i;generalize Yl g.2.1=f;generalize inP g.2.2.1 1 1125899906842624=e;generalize lZ g.2.2.2.1 (-1073741824) 1073741824=d;generalize inP g.2.2.2.2.2 0 1048576=m;unfold ile;generalize decide (g.2.2.2.2.1.2<=100)=a
 cases l<;>cases j<;>cases i<;>cases f<;>cases e<;>cases d<;>cases a<;>rfl
section
variable {ρ:Type}
def Ow {α:Type} {l:y5 α} {i:Nat} {a:α} (h0:0<i) (h:l[i-1]?=some a) (f:α->x9 ρ):ă l ((i:Int)-1) f=f a:=by
 have:((i:Int)-1)=((i-1:Nat):Int):=by omega
 rw[this,Ç h]
def YB {i:Nat} (h:0<i) (a:i<=1000000000) (f:Int->x9 ρ):ck ((i:Int)-1) f=f ((i:Int)-1):=ð (by omega) (by omega) f
def jj {i n:Nat} (h:i<n) (x:x9 ρ):ä ((ile 0 (i:Int))&&(ilt (i:Int) (n:Int))) x=x:=by
 have:((ile 0 (i:Int))&&(ilt (i:Int) (n:Int)))=true:=by simp[ile,ilt,h]
 rw[this,Am.iff_true]
def ž {α:Type} {l:y5 α} {i:Nat} {a:α} (h:l[i]?=some a) (f:α->x9 ρ):gO l (Int.toNat (i:Int)) f=f a:=by
 rw[cp]; exact qU h f
end
def IE {α:Type} (d:α->Int) (l:y5 α) (i:Nat) (a:α):Bool :=
 decide (0<i)&&(l[i-1]?).any fun q=>decide (d a<=d q)
def M3 {α:Type} {l:y5 α} {i:Nat} (hi:i<l.length) (h0:0<i):∃q,l[i-1]?=some q :=
 ⟨l[i-1],bY (by omega)⟩
def abw {α:Type} (d:α->Int) (l:y5 α):(∀i a,l[i]?=some a->IE d l i a=false)↔l.Pairwise (fun a b=>d a<d b):=by
 rw[cM];constructor
 ·intro h
  have step:∀i (f:i+1<l.length),d l[i]<d l[i+1]:=by
   intro i f;have:=h (i+1) l[i+1] (bY f);simp only[IE,Nat.add_sub_cancel,gi,decide_true,dk,bY (show i<l.length by omega),Option.any_some,decide_eq_false_iff_not] at this;omega
  intro i j hi m n
  induction j with
  |zero=>omega
  |succ j g =>
   have:=step j m;rcases cW i j with e|o
   ·have:=g (by omega) e; omega
   ·have:i=j:=by omega
    subst this; assumption
 ·intro h i a ha;obtain⟨hi,rfl⟩:=List.getElem?_eq_some_iff.1 ha;unfold IE
  cases i with
  |zero=>rfl
  |succ i =>
   have:=h i (i+1) (by omega) hi (by omega);simp only[Nat.add_sub_cancel,gi,decide_true,dk,bY (show i<l.length by omega),Option.any_some,decide_eq_false_iff_not];omega
def ut (l:y5 é) (i:Nat) (g:é):x9 Int :=
 if !sN g then some 1 else if IE (fun g=>g.1) l i g then some 6 else none
def mg (b:Ý):Int:=(Ŕ (ut b.2.1) 0 b.2.1).getD 0
def Iv {b:Ý} (e:∀g∈b.2.1,I64 g.2.2.2.2.1.1) (j:b.2.1.length<=1000):ŗ b=some (mg b):=by
 unfold ŗ uj;refine Eq.trans (jt b.2.1 (ut b.2.1) some (some 0) (fun i a hi ha kn=>?_) (fun kn=>?_)) ?_
 ·try dsimp only
  unfold gJ;rw[Ó hi,Ç ha,UC (e a (List.mem_of_getElem? ha)),À];unfold ut
  cases l:sN a with
  |false=>simp
  |true =>
   simp only[dj,ë,cA,if_false];rcases fA i with h0|h0
   ·subst h0
    have:igt ((0:Nat):Int) 0=false:=by simp[igt]
    rw[Ö this,Í hi (by omega)];simp[IE]
   ·obtain⟨q,d⟩:=M3 hi h0
    have f:igt (i:Int) 0=true:=by simp[igt]; omega
    rw[à f,YB h0 (by omega),Ow h0 d];simp only[IE,h0,decide_true,Bool.true_and,d,Option.any_some];unfold ile
    cases h2:decide (a.1<=q.1) with
    |true=>simp
    |false =>
     rw[ë,Í hi (by omega)];simp
 ·try dsimp only
  unfold gJ;rw[á]
 ·unfold mg
  cases Ŕ (ut b.2.1) 0 b.2.1<;>rfl
def MM (l:y5 é):y5 (Int×é):=l.foldl (fun m g=>DZ (k:=tI) (v:=Ê) g.1 g m) []
def iz (b:Ý):y5 (Int×é):=MM b.2.1
def IV {b:Ý} (d:b.2.1.length<=1000):Ŭ b=some (iz b):=by
 unfold Ŭ FK;refine Ġ b.2.1 (fun i=>MM (b.2.1.take i)) _ rfl (fun i a hi ha kn=>?_) (fun kn=>?_)
 ·try dsimp only
  unfold kY;rw[Ó hi,Ç ha,Í hi (by omega),take_succ ha];simp only[MM,List.foldl_append,List.foldl_cons,List.foldl_nil]
 ·try dsimp only
  unfold kY;rw[á,List.take_length];rfl
def Ny (x y:Int) (g:é):∀m:y5 (Int×é),pO (k:=tI) (v:=Ê) x (DZ (k:=tI) (v:=Ê) y g m)=if x=y then some g else pO (k:=tI) (v:=Ê) x m
 |[]=>by
  unfold DZ pO ji pO
  by_cases h:x=y<;>simp[h]
 |e::m=>by
  unfold DZ
  by_cases h:y=e.1
  ·have:ji tI y e.1=true:=by simp[ji,h]
   rw[this]
   try dsimp only
   unfold pO ji
   by_cases h2:x=y
   ·simp[h2]
   ·have:¬x=e.1:=fun a=>h2 (a.trans h.symm);simp[h2,this]
  ·have:ji tI y e.1=false:=by simp[ji,h]
   rw[this]
   try dsimp only
   have d:=Ny x y g m;unfold pO
   by_cases h2:x=e.1
   ·have:ji tI x e.1=true:=by simp[ji,h2]
    rw[this];have:¬x=y:=fun a=>h (a.symm.trans h2);simp[this]
   ·have:ji tI x e.1=false:=by simp[ji,h2]
    rw[this];exact d
def gY (b:Ý) (id:Int):x9 é:=b.2.1.find? fun g=>g.1==id
def Qf (x:Int) (l:y5 é):pO (k:=tI) (v:=Ê) x (MM l)=l.reverse.find? fun g=>g.1==x:=by
 unfold MM;rw[<-List.foldr_reverse]
 induction l.reverse with
 |nil=>rfl
 |cons g t a =>
  rw[List.foldr_cons,Ny,a,fQ]
  by_cases h:x=g.1
  ·simp[h]
  ·have:(g.1==x)=false:=by simp; exact fun h2=>h h2.symm
   simp[h,this]
def OH {l:y5 é} (h:l.Pairwise fun a b=>a.1<b.1) (x:Int):l.reverse.find? (fun g=>g.1==x)=l.find? fun g=>g.1==x:=by
 induction l with
 |nil=>rfl
 |cons g t e =>
  rw[cO] at h;rw[List.reverse_cons,List.find?_append,e h.2,fQ]
  by_cases d:g.1=x
  ·have:t.find? (fun g=>g.1==x)=none:=eD.2 fun y f=>by have:g.1<y.1:=h.1 y f; simp; omega
   rw[this]; simp[d]
  ·have:(g.1==x)=false:=by simp[d]
   simp[this]
def ii {b:Ý} (h:b.2.1.Pairwise fun a b=>a.1<b.1) (x:Int):pO (k:=tI) (v:=Ê) x (iz b)=gY b x:=by
 unfold iz gY;rw[Qf,OH h]
def jc (s:y5 (Int×é)) (id a:Int):Int :=
 match pO (k:=tI) (v:=Ê) id s with
 |some g=>if a<g.2.1 then 4 else 0
 |none=>5
def Qh (s:y5 (Int×é)) (id a:Int):gC s id a=some (jc s id a):=by
 unfold gC wO jc
 cases h:pO (k:=tI) (v:=Ê) id s with
 |none=>simp only[Mm,h]
 |some g =>
  simp only[Mm,h];rw[ģ]
  by_cases h2:a<g.2.1<;>simp[h2]
def Rp (s:y5 (Int×é)) (id a:Int):Int:=if !Yl a then 1 else jc s id a
def M8 (s:y5 (Int×é)) (id a:Int):ħ id a s=some (Rp s id a):=by
 unfold ħ FP Rp;rw[Lu,À,Qh,À]
 cases Yl a<;>rfl
def DE (b:Ý) (s:y5 (Int×é)) (i:Nat) (l:vW):Int :=
 if !lZ l.2.1 0 20000 then 1 else if !inP l.2.2 0 1048576 then 1 else if jc s l.1 l.2.1.1 != 0 then jc s l.1 l.2.1.1 else
 if (b.2.2.2.1.take i).any (fun x=>x.1==l.1&&(decide (x.2.1.1<=l.2.1.2)&&decide (l.2.1.1<=x.2.1.2))) then 9 else
 if b.2.2.1.any (fun u=>u.1==l.1&&inP u.2 l.2.1.1 l.2.1.2) then 9 else 0
def O4 {b:Ý} (E:b.2.2.2.1.length<=1000) (D:b.2.2.1.length<=1000) (s:y5 (Int×é)) {i:Nat} {l:vW} (n:b.2.2.2.1[i]?=some l):Ť b s i=some (DE b s i l):=by
 unfold Ť rJ DE;have hi:i<b.2.2.2.1.length:=(List.getElem?_eq_some_iff.1 n).1;rw[Ç n,AC,À,Ż,À,Qh,À]
 cases lZ l.2.1 0 20000 with
 |false=>rfl
 |true =>
 cases inP l.2.2 0 1048576 with
 |false=>rfl
 |true =>
 cases m:(jc s l.1 l.2.1.1 != 0) with
 |true =>
  have:ine (jc s l.1 l.2.1.1) 0=true:=m;simp[this]
 |false =>
 have g:ine (jc s l.1 l.2.1.1) 0=false:=m
 have y:((ile (0:Int) (i:Int))&&(ile (i:Int) (ē b.2.2.2.1)))=true:=by simp[ile,ē]; omega
 simp only[dj,ë,g,cA,if_false];rw[Į y,cp]
 have d:∀(k:Int->x9 Int),Î (fun(v:Int) o=>Š b.2.2.1 (Û b.2.2.1) l.1 l.2.1.1 l.2.1.2 v (fun u=>o u) (fun z=>ifb (ige z 0) (k 9) (k 0)) (fun _=>k 0)) (0:Int)=if b.2.2.1.any (fun u=>u.1==l.1&&inP u.2 l.2.1.1 l.2.1.2) then k 9 else k 0:=by
  intro k;refine jR b.2.2.1 _ (fun z=>ifb (ige z 0) (k 9) (k 0)) (k 9) (k 0) (fun j=>?_) (fun j a e ha kn=>?_) (fun kn=>?_)
  ·have:ige (j:Int) 0=true:=by simp[ige]
   rw[à this]
  ·try dsimp only
   unfold Š;rw[Ó e,Ç ha,Ż,À,Í e (by omega)]
   cases f:(a.1==l.1) with
   |false =>
    have:ieq a.1 l.1=false:=f;simp[this]
   |true =>
    have:ieq a.1 l.1=true:=f;rw[this]
    cases inP a.2 l.2.1.1 l.2.1.2<;>simp
  ·try dsimp only
   unfold Š;rw[á]
 rw[d];refine fe (jR (b.2.2.2.1.take i) (fun x=>x.1==l.1&&(decide (x.2.1.1<=l.2.1.2)&&decide (l.2.1.1<=x.2.1.2))) (fun z=>ifb (ige z 0) (some 9) (if b.2.2.1.any (fun u=>u.1==l.1&&inP u.2 l.2.1.1 l.2.1.2) then some 9 else some 0)) (some 9) (if b.2.2.1.any (fun u=>u.1==l.1&&inP u.2 l.2.1.1 l.2.1.2) then some 9 else some 0) (fun j=>?_) (fun j a e ha kn=>?_) (fun kn=>?_)) ?_
 ·have:ige (j:Int) 0=true:=by simp[ige]
  rw[à this]
 ·try dsimp only
  unfold iX
  have r:j<=1000:=by rw[cw] at e; omega
  rw[Ó e,Ç ha,Í e (by rw[cw]; omega)]
  cases f:(a.1==l.1) with
  |false =>
   have:ieq a.1 l.1=false:=f;simp[this]
  |true =>
   have:ieq a.1 l.1=true:=f;rw[this]
   cases h2:decide (a.2.1.1<=l.2.1.2)<;>cases C:decide (l.2.1.1<=a.2.1.2)<;>simp[ile,h2,C,ģ]<;>simp_all
 ·try dsimp only
  unfold iX;rw[á]
 ·cases List.any (b.2.2.2.1.take i) _<;>cases b.2.2.1.any _<;>rfl
def Zt {l:y5 Int} (d:l.length<=1000000) (x:Int):il l x=some (match l.findIdx? (·==x) with|some j=>(j:Int)|none=>-1):=by
 unfold il pR;refine Eq.trans (Δ l (·==x) some (some (-1)) (fun i a hi ha kn=>?_) (fun kn=>?_)) ?_
 ·try dsimp only
  unfold ź;rw[Ó hi,Ç ha,Í hi (by omega),ģ]
  by_cases h:x=a
  ·subst h; simp[ieq]
  ·have h2:¬a=x:=fun e=>h e.symm;simp[ieq,h,h2]
 ·try dsimp only
  unfold ź;rw[á]
 ·cases l.findIdx? (·==x)<;>rfl
def lX {l:y5 Int} (d:l.length<=1000000) (x:Int):Ĕ l x=some (l.contains x):=by
 unfold Ĕ mj;rw[Zt d,À];congr 1
 cases h:l.findIdx? (·==x) with
 |none =>
  have:l.contains x=false:=by
   rw[dQ];intro e;have:=df.1 h x (by simpa using e);simp at this
  rw[this]; rfl
 |some j =>
  obtain⟨f,a,_⟩:=cQ.1 h
  have:l.contains x=true:=by
   have h2:l[j]=x:=by simpa using a
   rw[<-h2]; simp
  rw[this];simp[ige]
def Ě (a b:y5 Int):y5 Int:=a.filter fun x=>!b.contains x
def BV {a b:y5 Int} (ha:a.length<=1000000) (hb:b.length<=1000000):η a b=some (Ě a b):=by
 unfold η Sw;rw[Ò (by omega),Am.iff_true]
 have g:∀z:Nat,z<a.length->Ě (a.take z) b=a.take z->b.contains (a[z]?.getD 0)=true ->
  Î (fun(d:(Val (.pair tI (.pair tI (.slice tI))))) f=>jg b d.1 d.2.1 d.2.2 (fun o n m=>f (o,n,m)) (fun z12=>ä ((ile (0:Int) z12.1)&&(ile z12.1 (ē z12.2))) (ä ((ile (0:Int) z12.1)&&(ile z12.1 (ē (List.take (Int.toNat z12.1) z12.2++List.replicate (List.length z12.2-(Int.toNat z12.1)) (0:Int)++List.drop ((Int.toNat z12.1)+(List.length z12.2-(Int.toNat z12.1))) z12.2)))) (some (List.take (Int.toNat z12.1) (List.drop 0 (List.take (Int.toNat z12.1) z12.2++List.replicate (List.length z12.2-(Int.toNat z12.1)) (0:Int)++List.drop ((Int.toNat z12.1)+(List.length z12.2-(Int.toNat z12.1))) z12.2))))))) ((z:Int),((z:Int)+1),a)=some (Ě a b):=by
  intro z u P E
  refine gL (fun x:Int×Int×y5 Int=>∃i j:Nat,x.1=i/\x.2.1=j/\i<j/\j<=a.length/\x.2.2.length=a.length/\x.2.2.take i=Ě (a.take j) b/\x.2.2.drop j=a.drop j) (fun x=>a.length-x.2.1.toNat) ?_
   ⟨z,z+1,rfl,by simp,by omega,by omega,rfl,?_,rfl⟩
  ·rintro⟨W,V,s⟩ ⟨i,j,G,h2,R,Q,I,F,hd⟩;simp only at G h2 I F hd;subst G h2;rcases cW j a.length with D|D
   ·refine .inr ?_
    have C:s[j]?=some a[j]:=by
     have K:(s.drop j)[0]?=(a.drop j)[0]?:=by rw[hd]
     rw[dV,dV] at K;simpa[bY D] using K
    have e:j<s.length:=by omega
    have y:Ě (a.take (j+1)) b=Ě (a.take j) b++if b.contains a[j] then[] else[a[j]]:=by
     rw[take_succ (bY D),Ě,Ě,List.filter_append];congr 1
     cases h:b.contains a[j] with
     |true=>simp only[dz,h,dj,cA,if_false,dH,if_true]
     |false=>simp only[dz,h,Bool.not_false,cA,if_false,dH,if_true]
    cases h:b.contains a[j] with
    |true =>
     refine⟨(i,(j:Int)+1,s),⟨i,j+1,rfl,by simp,by omega,by omega,I,?_,?_⟩,by simp; omega,fun kn=>?_⟩
     ·rw[y,h]; simpa using F
     ·have:=congrArg (List.drop 1) hd;simpa[eW,Nat.add_comm] using this
     ·try dsimp only
      unfold jg;rw[Ó e,jj e,ž C,lX hb,À,h];simp only[Bool.not_true,ë];rw[Í e (by omega)]
    |false =>
     have l:i<s.length:=by omega
     refine⟨((i:Int)+1,(j:Int)+1,s.set i a[j]),⟨i+1,j+1,by simp,by simp,by omega,by omega,by simpa using I,?_,?_⟩,by simp; omega,fun kn=>?_⟩
     ·show List.take (i+1) (s.set i a[j])=_;rw[y,h,List.take_succ,fC,List.take_set_of_le (bX i),F];simp[l]
     ·show List.drop (j+1) (s.set i a[j])=_;rw[List.drop_set_of_lt (by omega)];have:=congrArg (List.drop 1) hd;simpa[eW,Nat.add_comm] using this
     ·try dsimp only
      unfold jg;rw[Ó e,jj e,ž C,lX hb,À,h];simp only[Bool.not_false,Ĭ];rw[jj l,ž (List.getElem?_eq_getElem l),Í l (by omega),Í e (by omega),Int.toNat_natCast]
   ·refine .inl fun kn=>?_
    have J:j=s.length:=by omega
    try dsimp only
    unfold jg;rw[J,á];dsimp only
    have U:((ile (0:Int) (i:Int))&&(ile (i:Int) (ē s)))=true:=by simp[ile,ē]; omega
    rw[Į U]
    have T:((ile (0:Int) (i:Int))&&(ile (i:Int) (ē (List.take (Int.toNat (i:Int)) s++List.replicate (List.length s-(Int.toNat (i:Int))) (0:Int)++List.drop ((Int.toNat (i:Int))+(List.length s-(Int.toNat (i:Int)))) s))))=true:=by
     simp[ile,ē]; omega
    rw[Į T,cp,List.drop_zero,cq,eS (by simp; omega),List.take_take,Nat.min_self,F];rw[dv (by omega)]
  ·show List.take z a=Ě (a.take (z+1)) b;have r:a[z]?=some a[z]:=bY u;rw[take_succ r,Ě,List.filter_append];rw[r] at E;simp only[f8] at E
   have:List.filter (fun x=>!b.contains x) [a[z]]=[]:=by simp only[dz,E,dj,cA,if_false,dH]
   rw[this,cn];exact P.symm
 refine fe (Δ a (fun x=>b.contains x) (fun z4=>ifb (ieq z4 (-1:Int)) (some a) (ck (z4+(1:Int)) fun O=>Î (fun(d:(Val (.pair tI (.pair tI (.slice tI))))) f=>jg b d.1 d.2.1 d.2.2 (fun o n m=>f (o,n,m)) (fun z12=>ä ((ile (0:Int) z12.1)&&(ile z12.1 (ē z12.2))) (ä ((ile (0:Int) z12.1)&&(ile z12.1 (ē (List.take (Int.toNat z12.1) z12.2++List.replicate (List.length z12.2-(Int.toNat z12.1)) (0:Int)++List.drop ((Int.toNat z12.1)+(List.length z12.2-(Int.toNat z12.1))) z12.2)))) (some (List.take (Int.toNat z12.1) (List.drop 0 (List.take (Int.toNat z12.1) z12.2++List.replicate (List.length z12.2-(Int.toNat z12.1)) (0:Int)++List.drop ((Int.toNat z12.1)+(List.length z12.2-(Int.toNat z12.1))) z12.2))))))) (z4,O,a))) (some a) (fun i x hi v kn=>?_) (fun kn=>?_)) ?_
 ·try dsimp only
  unfold rG;rw[Ó hi,jj hi,ž v,lX hb,À,Í hi (by omega),ģ]
 ·try dsimp only
  unfold rG;rw[á]
 ·cases h:a.findIdx? (fun x=>b.contains x) with
  |none =>
   have:Ě a b=a:=by
    rw[Ě,List.filter_eq_self];intro x v;have:=df.1 h x v;simpa using this
   rw[this]
  |some z =>
   obtain⟨u,E,H⟩:=cQ.1 h
   have G:ieq (z:Int) (-1)=false:=by simp[ieq]
   try dsimp only
   rw[Ö G,Í u (by omega)];refine g z u ?_ ?_
   ·rw[Ě,List.filter_eq_self];intro x v;obtain⟨j,D,rfl⟩:=cm.1 v;rw[cw] at D;rw[eF];have:=H j (by omega);simpa using this
   ·rw[bY u]; exact E
def Ky (l:y5 Int) (i:Nat) (a:Int):x9 Bool:=if !inP a 1 1099511627776 then some false else if IE (fun x=>x) l i a then some false else none
def Db (l:y5 Int):Bool:=match Ŕ (Ky l) 0 l with|some _=>false|none=>decide (l.length<=6)
def Oo {l:y5 Int} (n:l.length<=1000000):qC l=some (Db l):=by
 unfold qC Jz;refine Eq.trans (jt l (Ky l) some (some (decide (l.length<=6))) (fun i a hi ha kn=>?_) (fun kn=>?_)) ?_
 ·try dsimp only
  unfold mF;rw[Ó hi,Ç ha,Ż,À];unfold Ky
  cases inP a 1 1099511627776 with
  |false=>rfl
  |true =>
   simp only[dj,ë,cA,if_false];rcases fA i with h0|h0
   ·subst h0
    have:igt ((0:Nat):Int) 0=false:=by simp[igt]
    rw[Ö this,Í hi (by omega)];simp[IE]
   ·obtain⟨q,e⟩:=M3 hi h0
    have g:igt (i:Int) 0=true:=by simp[igt]; omega
    rw[à g,YB h0 (by omega),Ow h0 e];simp only[IE,h0,decide_true,Bool.true_and,e,Option.any_some];unfold ile
    cases h2:decide (a<=q) with
    |true=>rfl
    |false =>
     rw[ë,Í hi (by omega)];rfl
 ·try dsimp only
  unfold mF;rw[á,è];simp[ile];omega
 ·have hb:∀x,Ŕ (Ky l) 0 l=some x->x=false:=by
   have:∀(m:y5 Int) (j:Nat) (x:Bool),Ŕ (Ky l) j m=some x->x=false:=by
    intro m
    induction m with
    |nil=>intro j x h; cases h
    |cons a m f =>
     intro j x h;unfold Ŕ at h
     cases d:Ky l j a with
     |none=>rw[d] at h; exact f _ _ h
     |some y =>
      rw[d] at h;cases h;unfold Ky at d
      split at d
      ·cases d; rfl
      ·split at d
       ·cases d; rfl
       ·cases d
   exact this l 0
  unfold Db
  cases h:Ŕ (Ky l) 0 l with
  |none=>rfl
  |some x=>rw[hb x h]
def Zv {a b:y5 Int} (ha:a.length<=1000000) (hb:b.length<=1000000):Ċ [a,b]=some (a++b):=by
 have s:∀n:Nat,n<=4000000->∀(f:Int->x9 (y5 Int)),ck (n:Int) f=f n:=fun n h f=>ð (by omega) (by omega) f
 have d:Î (fun(o:fy) e=>å [a,b] (Û [a,b]) o.1 o.2 (fun j g=>e (j,g)) (fun z8=>some z8)) ((0:Int),([]:y5 Int))=some (a++b):=by
  refine Ġ [a,b] (fun i=>([a,b].take i).flatten) (some (a++b)) (f:=fun(o:fy) e=>å [a,b] (Û [a,b]) o.1 o.2 (fun j g=>e (j,g)) (fun z8=>some z8)) rfl (fun i x hi l kn=>?_) (fun kn=>?_)
  ·try dsimp only
   unfold å;rw[Ó hi,Ç l,Í hi (by simp),take_succ l,List.flatten_append]
   have:Ú ((List.take i [a,b]).flatten.length+x.length)=true:=by
    refine Ò ?_
    have z:x.length<=1000000:=by
     have:=ci l;simp at this
     rcases this with rfl|rfl<;>assumption
    have h2:(List.take i [a,b]).flatten.length<=2000000:=by
     have:i=0\/i=1:=by simp at hi; omega
     rcases this with rfl|rfl<;>simp<;>omega
    omega
   rw[Į this];simp
  ·try dsimp only
   unfold å;rw[á];simp
 unfold Ċ jO;refine gL (fun x:Int×Int=>∃i:Nat,i<=2/\x=((([a,b].take i).flatten.length:Int),(i:Int))) (fun x=>2-x.2.toNat) ?_ ⟨0,by omega,rfl⟩;rintro x ⟨i,hi,rfl⟩;rcases Nat.lt_or_ge i 2 with h2|h2
 ·refine .inr ⟨((([a,b].take (i+1)).flatten.length:Int),(i:Int)+1),⟨i+1,h2,by simp⟩,by simp; omega,fun kn=>?_⟩;have m:i<[a,b].length:=h2;obtain⟨x,l⟩:∃x,[a,b][i]?=some x:=⟨_,bY m⟩
  have u:x.length<=1000000:=by
   have:=ci l;simp at this
   rcases this with rfl|rfl<;>assumption
  have y:(List.take i [a,b]).flatten.length<=2000000:=by
   have:i=0\/i=1:=by omega
   rcases this with rfl|rfl<;>simp<;>omega
  try dsimp only
  unfold ğ;rw[Ó m,Ç l,è]
  have r:(((List.take i [a,b]).flatten.length:Int)+(x.length:Int))=((List.take i [a,b]).flatten.length+x.length:Nat):=by omega
  rw[r,s _ (by omega)]
  have:ilt ((((List.take i [a,b]).flatten.length+x.length:Nat)):Int) 0=false:=by simp[ilt]; omega
  rw[Ö this,Í m (by simp),take_succ l];simp
 ·refine .inl fun kn=>?_
  obtain rfl:i=2:=by omega
  try dsimp only
  unfold ğ;rw[show((2:Nat):Int)=(([a,b].length:Nat):Int) from rfl,á]
  have r:((List.take 2 [a,b]).flatten.length:Int)=((a.length+b.length:Nat):Int):=by simp
  have v:ilt (((a.length+b.length:Nat)):Int) 0=false:=by simp[ilt]; omega
  rw[r];dsimp only;rw[Ö v,Int.sub_zero,s _ (by omega)];rcases Nat.eq_zero_or_pos (a.length+b.length) with h0|h0
  ·have:igt (((a.length+b.length:Nat)):Int) 0=false:=by simp[igt]; omega
   rw[Ö this];exact d
  ·have:igt (((a.length+b.length:Nat)):Int) 0=true:=by simp[igt]; omega
   rw[à this]
   have:((ilt (0:Int) (((a.length+b.length:Nat)):Int))&&(Ú (Int.toNat (((a.length+b.length:Nat)):Int))))=true:=by
    rw[cp,Ò (by omega)];simp[ilt]; omega
   rw[Į this]
   have:ile 0 (ē (List.replicate (Int.toNat (((a.length+b.length:Nat)):Int)) (0:Int)))=true:=by simp[ile]
   rw[Į this];exact d
def vV (b:Ý) (id a:Int):x9 vW:=b.2.2.2.1.find? fun l=>l.1==id&&inP a l.2.1.1 l.2.1.2
def Ta {α:Type} (p:α->Bool):∀l:y5 α,l.find? p=(match l.findIdx? p with|some j=>l[j]?|none=>none)
 |[]=>rfl
 |a::l=>by
  rw[fQ,List.findIdx?_cons]
  cases h:p a with
  |true=>simp
  |false =>
   simp only[cA,if_false];rw[Ta p l]
   cases l.findIdx? p<;>simp
def adP {b:Ý} (m:b.2.2.2.1.length<=1000) (id d:Int):vD b id d=some (match vV b id d with|some l=>(l,true)|none=>((0,(0,0),0),false)):=by
 unfold vD Sy;refine Eq.trans (Δ b.2.2.2.1 (fun l=>l.1==id&&inP d l.2.1.1 l.2.1.2) (fun z5=>ifb (ilt z5 (0:Int)) (some (((0:Int),((0:Int),(0:Int)),(0:Int)),false)) (ă b.2.2.2.1 z5 fun g=>some (g,true))) (some ((0,(0,0),0),false)) (fun i a hi ha kn=>?_) (fun kn=>?_)) ?_
 ·try dsimp only
  unfold rK;rw[Ó hi,Ç ha,Ż,À,Í hi (by omega)]
  cases f:(a.1==id) with
  |false =>
   have:ieq a.1 id=false:=f;simp[this]
  |true =>
   have:ieq a.1 id=true:=f;rw[this]
   cases inP d a.2.1.1 a.2.1.2<;>simp
 ·try dsimp only
  unfold rK;rw[á]
 ·unfold vV;rw[Ta]
  cases h:b.2.2.2.1.findIdx? (fun l=>l.1==id&&inP d l.2.1.1 l.2.1.2) with
  |none=>rfl
  |some j =>
   obtain⟨e,_,_⟩:=cQ.1 h
   have:ilt (j:Int) 0=false:=by simp[ilt]
   try dsimp only
   rw[Ö this,Ç (bY e),bY e]
def tf (p:x9 Int):y5 Int->y5 Int
 |[]=>[]
 |a::t=>if p=some a then tf (some a) t else a::tf (some a) t
def Ml (l:y5 Int):y5 Int:=tf none (AB l)
def insI_perm (a:Int):∀l,(Vt a l).Perm (a::l)
 |[]=>fE _
 |b::t=>by
  unfold Vt
  split
  ·exact fE _
  ·exact((insI_perm a t).cons b).trans (List.Perm.swap a b t)
def isortI_perm:∀l,(AB l).Perm l
 |[]=>fE _
 |a::t=>(insI_perm a _).trans ((isortI_perm t).cons a)
def insI_sorted (a:Int):∀{l:y5 Int},l.Pairwise (·<=·)->(Vt a l).Pairwise (·<=·)
 |[],_=>by simp[Vt]
 |b::t,h=>by
  rw[List.pairwise_cons] at h;unfold Vt
  split
  ·rename_i e;refine cO.2 ⟨fun x d=>?_,cO.2 h⟩;rcases b9.1 d with rfl|d
   ·exact e
   ·have:=h.1 x d; omega
  ·rename_i e;refine cO.2 ⟨fun x d=>?_,insI_sorted a h.2⟩;rcases b9.1 ((insI_perm a t).mem_iff.1 d) with rfl|d
   ·omega
   ·exact h.1 x d
def isortI_sorted:∀l:y5 Int,(AB l).Pairwise (·<=·)
 |[]=>List.Pairwise.nil
 |a::t=>insI_sorted a (isortI_sorted t)
def ZX (l:y5 Int):Hx l=AB l:=rfl
def II (a:Int):∀(l:y5 Int) (p:x9 Int),tf p (l++[a])=tf p l++(if (match l.getLast? with|some b=>some b|none=>p)=some a then[] else[a])
 |[],p=>by simp only[dL,tf,List.getLast?_nil]; rfl
 |b::t,p=>by
  have d:=II a t (some b)
  have e:(match (b::t).getLast? with|some c=>some c|none=>p)=(match t.getLast? with|some c=>some c|none=>some b):=by
   cases t with
   |nil=>rfl
   |cons c t =>
    rw[List.getLast?_cons_cons]
    cases h:(c::t).getLast? with
    |none=>simp at h
    |some x=>rfl
  rw[e];simp only[dw,tf,d]
  split<;>simp
def xc (l:y5 Int):∀m,m<=l.length->Lib.compactUpTo l.toArray m=tf none (l.take m)
 |0,_=>by simp[Lib.compactUpTo,tf]
 |m+1,h=>by
  have e:m<l.length:=h;rw[Lib.compactUpTo_succ,xc l m (by omega),take_succ (bY e),II];congr 1
  have f:l.toArray[m]! = l[m]:=by simp[getElem!_pos,e]
  rw[f];unfold Lib.keeps;rw[f]
  cases m with
  |zero=>simp
  |succ m =>
   have d:m<l.length:=by omega
   have i:l.toArray[m+1-1]! = l[m]:=by simp[getElem!_pos,d]
   rw[i]
   have g:(l.take (m+1)).getLast?=some l[m]:=by rw[take_succ (bY d),List.getLast?_append]; rfl
   rw[g]
   by_cases a:l[m+1]=l[m]
   ·simp[a]
   ·have:¬l[m]=l[m+1]:=fun h=>a h.symm;simp[a,this]
def QQ (l:y5 Int):vH l=tf none l:=by
 unfold vH Lib.compact;rw[xc l l.length (Nat.le_refl _),List.take_length]
def VZ (l:y5 Int):vH (Hx l)=Ml l:=by rw[ZX,QQ]; rfl
def Mx:∀{l:y5 Int} {p:x9 Int} {x:Int},p≠some x->(x∈tf p l↔x∈l)
 |[],_,_,_=>Iff.rfl
 |a::t,p,x,g=>by
  unfold tf
  by_cases d:x=a
  ·subst d;rw[if_neg g]; simp
  ·have f:=Mx (l:=t) (p:=some a) (x:=x) (fun e=>d (by cases e; rfl))
   split<;>simp[f,d]
def Rr:∀{l:y5 Int} {p:x9 Int},l.Pairwise (·<=·)->(∀q,p=some q->∀x∈l,q<=x)->(tf p l).Pairwise (·<·)/\∀q,p=some q->∀x∈tf p l,q<x
 |[],p,_,_=>⟨List.Pairwise.nil,fun _ _ _ h=>by cases h⟩
 |a::t,p,h,j=>by
  rw[List.pairwise_cons] at h;obtain⟨i,g⟩:=Rr (l:=t) (p:=some a) h.2 (fun q f x d=>by cases f; exact h.1 x d);unfold tf
  split
  ·rename_i e;exact⟨i,fun q f x d=>by rw[e] at f; cases f; exact g _ rfl x d⟩
  ·rename_i e;refine⟨cO.2 ⟨fun x d=>g _ rfl x d,i⟩,fun q f x d=>?_⟩;have:=j q f a (by simp);have m:q≠a:=fun h=>e (by rw[f,h]);rcases b9.1 d with rfl|d
   ·omega
   ·have:=g _ rfl x d; omega
def oh {l:y5 Int} {x:Int}:x∈Ml l↔x∈l:=by
 unfold Ml;rw[Mx (by simp),(isortI_perm l).mem_iff]
def Ex (l:y5 Int):(Ml l).Pairwise (·<·):=(Rr (isortI_sorted l) (fun q a=>by cases a)).1
def My:∀(l:y5 Int) (p:x9 Int),(tf p l).length<=l.length
 |[],_=>bX _
 |a::t,p=>by
  have:=My t (some a);unfold tf
  split<;>simp<;>omega
def DQ (l:y5 Int):(Ml l).length<=l.length:=by
 unfold Ml;have:=My (AB l) none
 rwa [(isortI_perm l).length_eq] at this
def Ze {l m:y5 Int} (g:l.Pairwise (·<·)) (f:m.Pairwise (·<·)) (h:∀x,x∈l↔x∈m):l=m:=by
 induction l generalizing m with
 |nil =>
  cases m with
  |nil=>rfl
  |cons a t=>have:=(h a).2 (by simp); cases this
 |cons a t j =>
  rw[cO] at g
  cases m with
  |nil=>have:=(h a).1 (by simp); cases this
  |cons b u =>
   rw[cO] at f
   have i:a=b:=by
    rcases b9.1 ((h a).1 (by simp)) with d|d
    ·exact d
    ·rcases b9.1 ((h b).2 (by simp)) with h2|h2
     ·exact h2.symm
     ·have:=f.1 a d; have:=g.1 b h2; omega
   subst i;rw[j g.2 f.2 fun x=>?_];constructor
   ·intro e;rcases b9.1 ((h x).1 (by simp[e])) with d|d
    ·have:=g.1 x e; omega
    ·exact d
   ·intro e;rcases b9.1 ((h x).2 (by simp[e])) with d|d
    ·have:=f.1 x e; omega
    ·exact d
def yr (b:Ý) (s:y5 (Int×é)) (c:Cmp):Int :=
 if (c.2.2.1++c.2.2.2.1).any (fun id=>jc s id c.2.1==5) then 5 else
 if (c.2.2.1++c.2.2.2.1).any (fun id=>jc s id c.2.1==4) then 4 else
 if (c.2.2.1++c.2.2.2.1).any (fun id=>(vV b id c.2.1).isSome) then 9 else
 if 1<(Ě c.2.2.1 c.2.2.2.1).length then 1 else if 1<(Ě c.2.2.2.1 c.2.2.1).length then 1 else
 if (Ě c.2.2.1 c.2.2.2.1).length+(Ě c.2.2.2.1 c.2.2.1).length=0 then 1 else 0
def Nt (c:Cmp):Bool :=
 inP c.1 1 1099511627776&&(Yl c.2.1&&(inP c.2.2.2.2.1 (-1125899906842624) 1125899906842624&&(inP c.2.2.2.2.2.1 0 1073741824&&(lZ c.2.2.2.2.2.2 (-10000) 10000&&(Db c.2.2.1&&Db c.2.2.2.1)))))
def lm (b:Ý) (s:y5 (Int×é)) (i:Nat) (c:Cmp):Int :=
 if !Nt c then 1 else if (b.2.2.2.2.1.take i).any (fun x=>x.1==c.1) then 6 else yr b s c
def Om (a b:y5 Int):(Ě a b).length<=a.length:=dm _ _
set_option maxHeartbeats 1000000 in
def G3 {b:Ý} (R:b.2.2.2.2.1.length<=1000) (K:b.2.2.2.1.length<=1000) (s:y5 (Int×é)) {i:Nat} {c:Cmp} (U:c.2.2.1.length<=100000) (T:c.2.2.2.1.length<=100000)
 (E:b.2.2.2.2.1[i]?=some c):ĩ b s i=some (lm b s i c):=by
 have hi:i<b.2.2.2.2.1.length:=(List.getElem?_eq_some_iff.1 E).1;unfold ĩ l8 lm Nt;rw[Ç E,Ż,À]
 cases inP c.1 1 1099511627776 with
 |false=>rfl
 |true =>
 rw[Lu,À]
 cases Yl c.2.1 with
 |false=>rfl
 |true =>
 rw[Ż,À]
 cases inP c.2.2.2.2.1 (-1125899906842624) 1125899906842624 with
 |false=>rfl
 |true =>
 rw[Ż,À]
 cases inP c.2.2.2.2.2.1 0 1073741824 with
 |false=>rfl
 |true =>
 rw[AC,À]
 cases lZ c.2.2.2.2.2.2 (-10000) 10000 with
 |false=>rfl
 |true =>
 rw[Oo (by omega),À]
 cases Db c.2.2.1 with
 |false=>rfl
 |true =>
 rw[Oo (by omega),À]
 cases Db c.2.2.2.1 with
 |false=>rfl
 |true =>
 have O:((ile (0:Int) (i:Int))&&(ile (i:Int) (ē b.2.2.2.2.1)))=true:=by simp[ile,ē]; omega
 simp only[dj,ë,Bool.and_self,cA,if_false];rw[Į O,cp]
 -- what comes behind the IDs
 have rest:(Ã (Ċ ([c.2.2.1,c.2.2.2.1])) fun g=>Î (fun(v:Int) o=>Ķ s g (Û ([(5:Int),(4:Int)])) c.2.1 ([(5:Int),(4:Int)]) v (fun z=>o z) (fun z23=>some z23) (fun _=>Î (fun(y:Int) r=>ĵ g (Û g) b.1.1 b.1.2 b.2.1 b.2.2.1 b.2.2.2.1 b.2.2.2.2.1 b.2.2.2.2.2 c.2.1 y (fun C=>r C) (fun z28=>some z28) (fun _=>Ã (η c.2.2.1 c.2.2.2.1) fun f=>Ã (η c.2.2.2.1 c.2.2.1) fun e=>ifb (igt (Û f) (1:Int)) (some (1:Int)) (ifb (igt (Û e) (1:Int)) (some (1:Int)) (ck ((Û f)+(Û e)) fun l=>ifb (ieq l (0:Int)) (some (1:Int)) (some (0:Int)))))) (0:Int))) (0:Int))=some (yr b s c):=by
  rw[Zv (by omega) (by omega),À]
  have F:(c.2.2.1++c.2.2.2.1).length<=200000:=by simp; omega
  have last:(Ã (η c.2.2.1 c.2.2.2.1) fun f=>Ã (η c.2.2.2.1 c.2.2.1) fun e=>ifb (igt (Û f) (1:Int)) (some (1:Int)) (ifb (igt (Û e) (1:Int)) (some (1:Int)) (ck ((Û f)+(Û e)) fun l=>ifb (ieq l (0:Int)) (some (1:Int)) (some (0:Int))))) =
   some (if 1<(Ě c.2.2.1 c.2.2.2.1).length then 1 else if 1<(Ě c.2.2.2.1 c.2.2.1).length then 1 else if (Ě c.2.2.1 c.2.2.2.1).length+(Ě c.2.2.2.1 c.2.2.1).length=0 then 1 else 0):=by
   rw[BV (by omega) (by omega),À,BV (by omega) (by omega),À];have Q:=Om c.2.2.1 c.2.2.2.1;have P:=Om c.2.2.2.1 c.2.2.1;rw[è,è,ð (by omega) (by omega)]
   by_cases I:1<(Ě c.2.2.1 c.2.2.2.1).length
   ·rw[à (by simp[igt]; omega),if_pos I]
   rw[Ö (by simp[igt]; omega),if_neg I]
   by_cases H:1<(Ě c.2.2.2.1 c.2.2.1).length
   ·rw[à (by simp[igt]; omega),if_pos H]
   rw[Ö (by simp[igt]; omega),if_neg H]
   by_cases G:(Ě c.2.2.1 c.2.2.2.1).length+(Ě c.2.2.2.1 c.2.2.1).length=0
   ·rw[à (by simp[ieq]; omega),if_pos G]
   rw[Ö (by simp[ieq]; omega),if_neg G]
  refine fe (jt [(5:Int),4] (fun _ d=>if (c.2.2.1++c.2.2.2.1).any (fun id=>jc s id c.2.1==d) then some d else none) some (some (if (c.2.2.1++c.2.2.2.1).any (fun id=>(vV b id c.2.1).isSome) then 9 else if 1<(Ě c.2.2.1 c.2.2.2.1).length then 1 else if 1<(Ě c.2.2.2.1 c.2.2.1).length then 1 else if (Ě c.2.2.1 c.2.2.2.1).length+(Ě c.2.2.2.1 c.2.2.1).length=0 then 1 else 0)) (fun j d n J kn=>?_) (fun kn=>?_)) ?_
  ·try dsimp only
   unfold Ķ;rw[Ó n,jj n,ž J];refine Eq.trans (jR (c.2.2.1++c.2.2.2.1) (fun id=>jc s id c.2.1==d) (fun _=>some d) (some d) (kn ((j:Int)+1)) (fun _=>rfl) (fun k a u ha m=>?_) (fun m=>?_)) ?_
   ·try dsimp only
    unfold Χ;rw[Ó u,Ç ha,Qh,À,Í u (by omega),ģ]
   ·try dsimp only
    unfold Χ;rw[á,Í n (by simp)]
   ·cases List.any (c.2.2.1++c.2.2.2.1) (fun id=>jc s id c.2.1==d)<;>rfl
  ·try dsimp only
   unfold Ķ;rw[á];refine Eq.trans (jR (c.2.2.1++c.2.2.2.1) (fun id=>(vV b id c.2.1).isSome) (fun _=>some 9) (some 9) (some (if 1<(Ě c.2.2.1 c.2.2.2.1).length then 1 else if 1<(Ě c.2.2.2.1 c.2.2.1).length then 1 else if (Ě c.2.2.1 c.2.2.2.1).length+(Ě c.2.2.2.1 c.2.2.1).length=0 then 1 else 0)) (fun _=>rfl) (fun k a u ha m=>?_) (fun m=>?_)) ?_
   ·try dsimp only
    unfold ĵ;have D:=adP K a c.2.1;rw[Ó u,Ç ha,Í u (by omega)];rw[show vD ((b.1.1,b.1.2),b.2.1,b.2.2.1,b.2.2.2.1,b.2.2.2.2.1,b.2.2.2.2.2) a c.2.1=vD b a c.2.1 from rfl,D,À]
    cases vV b a c.2.1<;>rfl
   ·try dsimp only
    unfold ĵ;rw[á,last]
   ·cases List.any (c.2.2.1++c.2.2.2.1) (fun id=>(vV b id c.2.1).isSome)<;>rfl
  ·unfold yr Ŕ Ŕ Ŕ
   try dsimp only
   cases List.any (c.2.2.1++c.2.2.2.1) (fun id=>jc s id c.2.1==5) with
   |true=>rfl
   |false =>
   cases List.any (c.2.2.1++c.2.2.2.1) (fun id=>jc s id c.2.1==4)<;>rfl
 refine fe (jR (b.2.2.2.2.1.take i) (fun x=>x.1==c.1) (fun z11=>ifb (ige z11 (0:Int)) (some 6) (some (yr b s c))) (some 6) (some (yr b s c)) (fun j=>?_) (fun j a n ha kn=>?_) (fun kn=>?_)) ?_
 ·have:ige (j:Int) 0=true:=by simp[ige]
  rw[à this]
 ·try dsimp only
  unfold Ω;rw[rest,Ó n,Ç ha,Í n (by rw[List.length_take]; omega),ģ]
 ·try dsimp only
  unfold Ω;rw[á,rest]
 ·cases List.any (b.2.2.2.2.1.take i) (fun x=>x.1==c.1)<;>rfl
def LL (b:Ý) (g:é):y5 Int :=
 [g.2.1]++(b.2.2.2.2.1.filter fun c=>!(c.2.2.1.contains g.1==c.2.2.2.1.contains g.1)).map (fun c=>c.2.1)++(b.2.2.2.2.2.filter fun n=>n.1==g.1).map (fun n=>n.2)
def ß (b:Ý) (g:é):y5 Int:=Ml (LL b g)
structure j7 (b:Ý):Prop where
 gauges:b.2.1.length<=1000
 uses:b.2.2.1.length<=1000
 loans:b.2.2.2.1.length<=1000
 compares:b.2.2.2.2.1.length<=1000
 looks:b.2.2.2.2.2.length<=1000
 piles:∀c∈b.2.2.2.2.1,c.2.2.1.length<=1000/\c.2.2.2.1.length<=1000
def MI (l:y5 Int):(Hx l).length=l.length:=(isortI_perm l).length_eq
def OV {b:Ý} (a:j7 b) (g:é):(LL b g).length<=2001:=by
 have f:=a.compares;have h2:=a.looks;have e:=dm (fun c:Cmp=>!(c.2.2.1.contains g.1==c.2.2.2.1.contains g.1)) b.2.2.2.2.1;have d:=dm (fun n:Int×Int=>n.1==g.1) b.2.2.2.2.2;simp only[LL,b7,dg,cX];omega
def Yj {b:Ý} (d:j7 b) (g:é):mM b g=some (ß b g):=by
 unfold mM Sx;have u:=OV d g
 have hd:(ß b g).length<=2001:=by
  unfold ß;have:=DQ (LL b g);omega
 have m:=d.compares;have l:=d.looks;refine Ġ b.2.2.2.2.1 (fun i=>[g.2.1]++((b.2.2.2.2.1.take i).filter fun c=>!(c.2.2.1.contains g.1==c.2.2.2.1.contains g.1)).map (fun c=>c.2.1)) _ rfl (fun i c hi e kn=>?_) (fun kn=>?_)
 ·try dsimp only
  unfold rI;obtain⟨s,r⟩:=d.piles c (List.mem_of_getElem? e);rw[Ó hi,Ç e,lX (by omega),À,lX (by omega),À,Í hi (by omega),Í hi (by omega),take_succ e,List.filter_append,List.map_append]
  have a:([g.2.1]++((b.2.2.2.2.1.take i).filter fun c=>!(c.2.2.1.contains g.1==c.2.2.2.1.contains g.1)).map (fun c=>c.2.1)).length<=1001:=by
   have j:=dm (fun c:Cmp=>!(c.2.2.1.contains g.1==c.2.2.2.1.contains g.1)) (b.2.2.2.2.1.take i);rw[cw] at j;simp only[b7,dg,cX];omega
  rw[Ò (by simp only[cX]; omega),Am.iff_true]
  cases h:(c.2.2.1.contains g.1==c.2.2.2.1.contains g.1) with
  |true=>simp only[dj,ë,dz,h,cA,if_false,dH,eR,cn]
  |false=>simp only[Bool.not_false,Ĭ,dz,h,if_true,dH,dC,eR,cq]
 ·try dsimp only
  unfold rI;rw[á,List.take_length];refine Ġ b.2.2.2.2.2 (fun i=>[g.2.1]++(b.2.2.2.2.1.filter fun c=>!(c.2.2.1.contains g.1==c.2.2.2.1.contains g.1)).map (fun c=>c.2.1)++((b.2.2.2.2.2.take i).filter fun n=>n.1==g.1).map (fun n=>n.2)) _ (by simp) (fun i n hi f kn=>?_) (fun kn=>?_)
  ·try dsimp only
   unfold rH;rw[Ó hi,Ç f,Í hi (by omega),Í hi (by omega),take_succ f,List.filter_append,List.map_append]
   have a:([g.2.1]++(b.2.2.2.2.1.filter fun c=>!(c.2.2.1.contains g.1==c.2.2.2.1.contains g.1)).map (fun c=>c.2.1)++((b.2.2.2.2.2.take i).filter fun n=>n.1==g.1).map (fun n=>n.2)).length<=2001:=by
    have j:=dm (fun c:Cmp=>!(c.2.2.1.contains g.1==c.2.2.2.1.contains g.1)) b.2.2.2.2.1;have o:=dm (fun n:Int×Int=>n.1==g.1) (b.2.2.2.2.2.take i);rw[cw] at o;simp only[b7,dg,cX];omega
   rw[Ò (by simp only[cX]; omega),Am.iff_true]
   cases h:(n.1==g.1) with
   |true =>
    have:ieq n.1 g.1=true:=h;simp[h,this]
   |false =>
    have:ieq n.1 g.1=false:=h;simp[h,this]
  ·try dsimp only
   unfold rH;rw[á,List.take_length];rw[show([g.2.1]++(b.2.2.2.2.1.filter fun c=>!(c.2.2.1.contains g.1==c.2.2.2.1.contains g.1)).map (fun c=>c.2.1)++(b.2.2.2.2.2.filter fun n=>n.1==g.1).map (fun n=>n.2))=LL b g from rfl];dsimp only;rw[Ò (by omega),Am.iff_true,Ò (by rw[MI]; omega),Am.iff_true,VZ];rfl
def Õ (b:Ý):y5 (Int×Int):=b.2.1.flatMap fun g=>(ß b g).map fun d=>((g.1,d):Int×Int)
def GW {b:Ý} (a:j7 b) (g:é):(ß b g).length<=2001:=by
 unfold ß;have:=DQ (LL b g);have:=OV a g;omega
def xV {α β:Type} (f:α->y5 β) (n:Nat) (h:∀a,(f a).length<=n):∀l:y5 α,(l.flatMap f).length<=l.length*n
 |[]=>by simp
 |a::l=>by
  have:=xV f n h l;have:=h a;simp only[cH,b7,cj,cI,eO];omega
def KJ {b:Ý} (m:j7 b):nY b=some (Õ b):=by
 unfold nY N5;have u:=m.gauges
 have a:∀l:y5 é,(l.flatMap fun g=>(ß b g).map fun d=>((g.1,d):Int×Int)).length<=l.length*2001:=fun l =>
  xV _ 2001 (fun g=>by rw[dg]; exact GW m g) l
 refine Ġ b.2.1 (fun i=>(b.2.1.take i).flatMap fun g=>(ß b g).map fun d=>((g.1,d):Int×Int)) _ rfl (fun i g hi e kn=>?_) (fun kn=>?_)
 ·try dsimp only
  unfold oJ;rw[Ó hi,Ç e];rw[show mM ((b.1.1,b.1.2),b.2.1,b.2.2.1,b.2.2.2.1,b.2.2.2.2.1,b.2.2.2.2.2) g=mM b g from rfl,Yj m,À];have hd:=GW m g;have s:=a (b.2.1.take i)
  have r:(b.2.1.take i).length<=1000:=by rw[cw]; omega
  refine Ġ (ß b g) (fun j=>((b.2.1.take i).flatMap fun g=>(ß b g).map fun d=>((g.1,d):Int×Int))++((ß b g).take j).map fun d=>((g.1,d):Int×Int)) _ (by simp) (fun j d o f n=>?_) (fun n=>?_)
  ·try dsimp only
   unfold oI;rw[Ó o,Ç f,Í o (by omega),take_succ f,List.map_append];rw[Ò (by simp only[List.length_append,List.length_map,List.length_take,List.length_singleton]; omega),Am.iff_true];simp
  ·try dsimp only
   unfold oI;rw[á,List.take_length];dsimp only;rw[Í hi (by omega),take_succ e,List.flatMap_append];simp
 ·try dsimp only
  unfold oJ;rw[á,List.take_length];rfl
def yx (b:Ý) (s:y5 (Int×é)):y5 Int :=
 b.2.2.1.map (fun u=>Rp s u.1 u.2)++(b.2.2.2.1.mapIdx (fun i l=>DE b s i l)++(b.2.2.2.2.1.mapIdx (fun i c=>lm b s i c)++b.2.2.2.2.2.map (fun u=>Rp s u.1 u.2)))
def ND {α:Type} {f:Int->x9 Int} {g:Nat->α->Int} (l:y5 α) (h:∀(i:Nat) (a:α),l[i]?=some a->f i=some (g i a)):E7 f (ta l.length)=some (l.mapIdx g):=by
 have m:∀i,i<l.length->f (i:Int)=some ((l.mapIdx g)[i]?.getD 0):=by
  intro i hi;rw[h i l[i] (bY hi)];simp[hi]
 have h2:∀x∈ta l.length,f x=some ((l.mapIdx g)[x.toNat]?.getD 0):=by
  intro x d;unfold ta at d;obtain⟨i,hi,rfl⟩:=List.mem_map.1 d;rw[m i (by simpa using hi)];rfl
 rw[yS h2];congr 1;refine List.ext_getElem (by simp[ta]) fun i n j=>?_
 have e:i<l.length:=by simpa using j
 simp[ta,e]
def abE (b:Ý):Prop:=∀c∈b.2.2.2.2.1,c.2.2.1.length<=100000/\c.2.2.2.1.length<=100000
def j7.w {b:Ý} (h:j7 b):abE b:=fun c a=>by have:=h.piles c a; omega
def ξ {l:y5 Int} (h:Db l=true):l.length<=6:=by
 unfold Db at h
 split at h
 ·cases h
 ·exact of_decide_eq_true h
def WM {c:Cmp} (h:Nt c=true):c.2.2.1.length<=6/\c.2.2.2.1.length<=6:=by
 simp only[Nt,bZ] at h;exact⟨ξ h.2.2.2.2.2.1,ξ h.2.2.2.2.2.2⟩
def aaa {b:Ý} (g:b.2.2.1.length<=1000) (e:b.2.2.2.1.length<=1000) (j:b.2.2.2.2.1.length<=1000) (d:abE b) (s:y5 (Int×é)):lP b s=some (yx b s):=by
 unfold lP yx
 rw[yS (fun u _=>M8 s u.1 u.2),À,ND b.2.2.2.1 (fun i l f=>O4 e g s f),À,
  ND b.2.2.2.2.1 (fun i c a=>G3 j e s (d c (ci a)).1 (d c (ci a)).2 a),À,yS (fun u _=>M8 s u.1 u.2),À]
def ö (b:Ý):Int :=
 if !lZ b.1 0 1000000 then 1 else
 if 12<b.2.1.length then 2 else if 40<b.2.2.1.length then 2 else if 12<b.2.2.2.1.length then 2 else if 40<b.2.2.2.2.1.length then 2 else if 10<b.2.2.2.2.2.length then 2 else
 if mg b != 0 then mg b else
 match (yx b (iz b)).find? (fun e=>e != 0) with
 |some e=>e
 |none=>if 59<(Õ b).length then 2 else if 300<2*b.2.1.length+2*((Õ b).length-b.2.1.length:Int)+2*b.2.2.2.2.1.length then 2 else 0
def Jc {b:Ý} (a:j7 b):(Õ b).length<=2001000:=by
 have:=xV (fun g:é=>(ß b g).map fun d=>((g.1,d):Int×Int)) 2001 (fun g=>by rw[List.length_map]; exact GW a g) b.2.1;have h2:=a.gauges;unfold Õ;omega
def Pu {b:Ý} (a:abE b) (u:∀g∈b.2.1,I64 g.2.2.2.2.1.1):Ā b=some (ö b):=by
 unfold Ā F6 ö;rw[AC,À]
 cases lZ b.1 0 1000000 with
 |false=>rfl
 |true =>
 rw[Ö (show(!true)=false from rfl),if_neg (by simp)];simp only[è]
 by_cases s:12<b.2.1.length
 ·rw[à (by simp[igt]; omega),if_pos s]
 rw[Ö (by simp[igt]; omega),if_neg s]
 by_cases r:40<b.2.2.1.length
 ·rw[à (by simp[igt]; omega),if_pos r]
 rw[Ö (by simp[igt]; omega),if_neg r]
 by_cases o:12<b.2.2.2.1.length
 ·rw[à (by simp[igt]; omega),if_pos o]
 rw[Ö (by simp[igt]; omega),if_neg o]
 by_cases n:40<b.2.2.2.2.1.length
 ·rw[à (by simp[igt]; omega),if_pos n]
 rw[Ö (by simp[igt]; omega),if_neg n]
 by_cases m:10<b.2.2.2.2.2.length
 ·rw[à (by simp[igt]; omega),if_pos m]
 rw[Ö (by simp[igt]; omega),if_neg m]
 have f:b.2.1.length<=1000:=by omega
 rw[Iv u f,À]
 cases d:(mg b != 0) with
 |true =>
  have:ine (mg b) 0=true:=d;rw[à this,if_pos rfl]
 |false =>
 have:ine (mg b) 0=false:=d;rw[Ö this,if_neg (by simp)];rw[IV f,À];unfold MY;rw[aaa (by omega) (by omega) (by omega) a,À]
 cases y:(yx b (iz b)).find? (fun e=>e != 0) with
 |some e=>rfl
 |none =>
 dsimp only
 have a:j7 b:=⟨by omega,by omega,by omega,by omega,by omega,fun c z=>by
  obtain⟨i,hi,rfl⟩:=cm.1 z
  have:=eD.1 y (lm b (iz b) i b.2.2.2.2.1[i]) (by
   unfold yx
   exact cJ _ (cJ _ (dh _ (gj.2 ⟨i,hi,rfl⟩))))
  unfold lm at this
  split at this
  ·simp at this
  ·rename_i v;have:=WM (by simpa using v)
   omega⟩
 have C:=Jc a;rw[KJ a,À]
 by_cases l:59<(Õ b).length
 ·rw[à (by simp[igt]; omega),if_pos l]
 rw[Ö (by simp[igt]; omega),if_neg l];rw[ð (by omega) (by omega),ð (by omega) (by omega),ð (by omega) (by omega),ð (by omega) (by omega),ð (by omega) (by omega),ð (by omega) (by omega)]
 by_cases j:300<2*b.2.1.length+2*((Õ b).length-b.2.1.length:Int)+2*b.2.2.2.2.1.length
 ·rw[à (by simp[igt]; omega),if_pos j]
 rw[Ö (by simp[igt]; omega),if_neg j]
def ix {b:Ý} (a:j7 b) (d:∀g∈b.2.1,I64 g.2.2.2.2.1.1):Ā b=some (ö b):=Pu a.w d
def wrapU {n:Nat} (h:n<18446744073709551616):IntKind.wrap .u64 (n:Int)=n:=by
 simp only[IntKind.wrap,IntKind.bits,IntKind.signed];simp;omega
def wrapI {n:Nat} (h:n<9223372036854775808):IntKind.wrap .i64 (n:Int)=n:=by
 simp only[IntKind.wrap,IntKind.bits,IntKind.signed];simp;omega
def iC (l:y5 (Int×Int)) (x d:Int):x9 Nat:=l.findIdx? fun n=>decide (x=n.1)&&decide (d=n.2)
def Po {l:y5 (Int×Int)} (e:l.length<=100000000) (x d:Int):î l (x,d)=some (match iC l x d with|some j=>(j:Int)|none=>-1):=by
 unfold î gS;refine Eq.trans (Δ l (fun n=>decide (x=n.1)&&decide (d=n.2)) some (some (-1)) (fun i a hi ha kn=>?_) (fun kn=>?_)) ?_
 ·try dsimp only
  unfold Ė;rw[Ó hi,Ç ha,Í hi (by omega),ģ,Bool.and_true]
 ·try dsimp only
  unfold Ė;rw[á]
 ·unfold iC
  cases List.findIdx? (fun n=>decide (x=n.1)&&decide (d=n.2)) l<;>rfl
def atP (l:y5 (Int×Int)) (p:y5 Int) (d:Int):Int :=
 match p with
 |[]=>0
 |x::_=>match iC l x d with|some j=>(j:Int)+1|none=>0
def jo {l:y5 (Int×Int)} {x d:Int} {j:Nat} (h:iC l x d=some j):j<l.length/\l[j]?=some (x,d):=by
 unfold iC at h;obtain⟨e,a,_⟩:=List.findIdx?_eq_some_iff_getElem.1 h;refine⟨e,?_⟩;rw[List.getElem?_eq_getElem e];simp only[Bool.and_eq_true,decide_eq_true_eq] at a;congr 1;exact Prod.ext a.1.symm a.2.symm
def adR (m:Maker) (p:y5 Int) (d:Int) (f:m.2.1.length<=100000000):jw m p d=some (atP m.2.1 p d):=by
 unfold jw CS atP
 cases p with
 |nil=>simp[è,ieq]
 |cons x p =>
  have h:ieq (Û (x::p)) 0=false:=by
   rw[è];simp only[ieq,cj,beq_eq_false_iff_ne,ne_eq];omega
  rw[h,ë,show(0:Int)=((0:Nat):Int) from rfl,Ç (a:=x) rfl,Po f,À]
  cases e:iC m.2.1 x d with
  |none=>dsimp only; rw[ð (by omega) (by omega)]; simp only[e]; rfl
  |some j =>
   have:=(jo e).1;dsimp only;rw[ð (by omega) (by omega)];simp only[e]
def Bt (s:y5 (Int×é)) (p:y5 Int):Int×Int :=
 match p with
 |[]=>(0,1)
 |x::_=>match pO (k:=tI) (v:=Ê) x s with
  |some g=>g.2.2.2.2.1
  |none=>(0,0)
def MX (s:y5 (Int×é)) (p:y5 Int):ω s p=some (Bt s p):=by
 unfold ω sI Bt
 cases p with
 |nil=>simp[è,ieq]
 |cons x p =>
  have h:ieq (Û (x::p)) 0=false:=by
   rw[è];simp only[ieq,cj,beq_eq_false_iff_ne,ne_eq];omega
  rw[h,ë,show(0:Int)=((0:Nat):Int) from rfl,Ç (a:=x) rfl]
  cases d:pO (k:=tI) (v:=Ê) x s with
  |none=>simp only[Mm,d]
  |some g=>simp only[Mm,d]
def Ro {l:y5 (Int×Int)} (d:∀r∈l,I64 r.1) (e:l.length<=1000):iS l=some (if l.any (fun r=>!Ht r) then 1 else 0):=by
 unfold iS NX;refine Eq.trans (jR l (fun r=>!Ht r) (fun _=>some 1) (some 1) (some 0) (fun _=>rfl) (fun i a hi ha kn=>?_) (fun kn=>?_)) ?_
 ·try dsimp only
  unfold oH;rw[Ó hi,Ç ha,Mc (d a (List.mem_of_getElem? ha)),À,Í hi (by omega),ģ]
 ·try dsimp only
  unfold oH;rw[á]
 ·cases l.any (fun r=>!Ht r)<;>rfl
def si (n d:Int):Int×Int:=(n / (Nat.gcd n.natAbs d.natAbs:Nat),d / (Nat.gcd n.natAbs d.natAbs:Nat))
def mz (r:Int×Int):Ht r=true↔1<=r.2/\r.2<=2147483647/\(r.1.natAbs:Int)<=2147483647/\Nat.gcd r.1.natAbs r.2.natAbs=1:=by
 simp[Ht]
def Kv {n d:Int} (hd:0<d):∃g:Nat,0<g/\g=Nat.gcd n.natAbs d.natAbs/\n=(si n d).1*g/\d=(si n d).2*g:=by
 have a:0<Nat.gcd n.natAbs d.natAbs:=Nat.gcd_pos_of_pos_right _ (by omega);refine⟨_,a,rfl,?_,?_⟩
 ·exact(Int.ediv_mul_cancel (Int.ofNat_dvd_left.2 (Nat.gcd_dvd_left _ _))).symm
 ·exact(Int.ediv_mul_cancel (Int.ofNat_dvd_left.2 (Nat.gcd_dvd_right _ _))).symm
def P2 {n d:Int} (hd:0<d) (o:n.natAbs<=2147483647) (i:d<=2147483647):Ht (si n d)=true:=by
 obtain⟨g,h0,f,l,h2⟩:=Kv (n:=n) hd;rw[mz]
 have e:n.natAbs=(si n d).1.natAbs*g:=by conv=>lhs; rw[l]; rw[eT,eY]
 have a:d.natAbs=(si n d).2.natAbs*g:=by conv=>lhs; rw[h2]; rw[eT,eY]
 have m:0<(si n d).2:=by
  rcases Int.lt_trichotomy (si n d).2 0 with h|h|h
  ·have:=Int.mul_neg_of_neg_of_pos h (show(0:Int)<g by omega); omega
  ·rw[h] at h2; simp at h2; omega
  ·exact h
 have s:(si n d).1.natAbs<=n.natAbs:=by rw[e]; exact ft _ h0
 have r:(si n d).2.natAbs<=d.natAbs:=by rw[a]; exact ft _ h0
 refine⟨by omega,by omega,by omega,?_⟩;have:=Nat.gcd_mul_right (si n d).1.natAbs g (si n d).2.natAbs;rw[<-e,<-a,<-f] at this
 have j:(Nat.gcd (si n d).1.natAbs (si n d).2.natAbs)*g=1*g:=by omega
 exact Nat.eq_of_mul_eq_mul_right h0 j
def IY {n d:Int} (hd:0<d) (m:n.natAbs<=2147483647) (f:d<=2147483647):nX n d=some (si n d,0):=by
 obtain⟨g,h0,o,r,h2⟩:=Kv (n:=n) hd;have D:=(mz _).1 (P2 hd m f);unfold nX FI;rw[Kr ⟨by omega,by omega⟩,À,Kr ⟨by omega,by omega⟩,À,ab5,À,<-o]
 have C:n.natAbs=(si n d).1.natAbs*g:=by conv=>lhs; rw[r]; rw[eT,eY]
 have y:d.natAbs=(si n d).2.natAbs*g:=by conv=>lhs; rw[h2]; rw[eT,eY]
 have l:Int.tdiv (n.natAbs:Int) (g:Int)=((si n d).1.natAbs:Int):=by
  rw[C,gh]; exact Int.mul_tdiv_cancel _ (by omega)
 have j:Int.tdiv (d.natAbs:Int) (g:Int)=((si n d).2.natAbs:Int):=by
  rw[y,gh]; exact Int.mul_tdiv_cancel _ (by omega)
 have z:ĺ (g:Int) 0=false:=by simp[ĺ]; omega
 have u:igt ((si n d).1.natAbs:Int) 2147483647=false:=by simp[igt]; omega
 have s:igt ((si n d).2.natAbs:Int) 2147483647=false:=by simp[igt]; omega
 rw[Ö z,Ö z,l,j,wrapU (by omega),wrapU (by omega),wrapI (by omega),wrapI (by omega),Ö u,Ö s]
 have i:ilt d 0=false:=by simp[ilt]; omega
 rw[i]
 have v:((si n d).2.natAbs:Int)=(si n d).2:=by omega
 rw[v]
 by_cases e:n<0
 ·have a:ilt n 0=true:=by simp[ilt,e]
  have:(si n d).1<=0:=by
   rcases Int.lt_or_le 0 (si n d).1 with h|h
   ·have:=Int.mul_pos h (show(0:Int)<g by omega); omega
   ·exact h
  rw[a];rw[show(!true==false)=true from rfl,Ĭ,ð (by omega) (by omega)]
  have:0-((si n d).1.natAbs:Int)=(si n d).1:=by omega
  rw[this]
 ·have a:ilt n 0=false:=by simp[ilt]; omega
  have:0<=(si n d).1:=by
   rcases Int.lt_or_le (si n d).1 0 with h|h
   ·have:=Int.mul_neg_of_neg_of_pos h (show(0:Int)<g by omega); omega
   ·exact h
  rw[a];rw[show(!false==false)=false from rfl,ë]
  have:((si n d).1.natAbs:Int)=(si n d).1:=by omega
  rw[this]
structure uP (r:Int×Int) (n d:Int):Prop where
 rat:Ht r=true
 num : -n<=r.1/\r.1<=n
 den:r.2<=d
def uP.pos {r:Int×Int} {n d:Int} (h:uP r n d):1<=r.2:=((mz r).1 h.rat).1
def uP.i64 {r:Int×Int} {n d:Int} (h:uP r n d):I64 r.1:=by
 have:=((mz r).1 h.rat).2.2.1;exact⟨by omega,by omega⟩
def VB {x y:Int×Int} (e:Ht x=true) (d:Ht y=true):iS [x,y]=some 0:=by
 rw[Ro]
 ·simp[e,d]
 ·intro r a
  have:Ht r=true:=by simp at a; rcases a with rfl|rfl<;>assumption
  have:=((mz r).1 this).2.2.1;exact⟨by omega,by omega⟩
 ·simp
def om {a b m n:Int} (i : -m<=a/\a<=m) (h2 : -n<=b/\b<=n) : -(m*n)<=a*b/\a*b<=m*n:=by
 have e:0<=m:=by omega
 have d:0<=n:=by omega
 have g:(a*b).natAbs<=(m*n).natAbs:=by
  rw[eT,eT];exact fF (by omega) (by omega)
 have f:0<=m*n:=fT e d;omega
def subP (x y:Int×Int):Int×Int:=si (x.1*y.2-y.1*x.2) (x.2*y.2)
def IL {x y:Int×Int} (d:uP x 1000 100) (a:uP y 1000 100):(x.1*y.2-y.1*x.2).natAbs<=200000/\0<x.2*y.2/\x.2*y.2<=10000:=by
 have g:=om d.num (show -100<=y.2/\y.2<=100 from⟨by have:=a.pos; omega,a.den⟩);have h2:=om a.num (show -100<=x.2/\x.2<=100 from⟨by have:=d.pos; omega,d.den⟩);have f:=om (show -100<=x.2/\x.2<=100 from⟨by have:=d.pos; omega,d.den⟩) (show -100<=y.2/\y.2<=100 from⟨by have:=a.pos; omega,a.den⟩);have e:=Int.mul_pos (show 0<x.2 by have:=d.pos; omega) (show 0<y.2 by have:=a.pos; omega);refine⟨by omega,e,by omega⟩
def Sub_ok {x y:Int×Int} (d:uP x 1000 100) (a:uP y 1000 100):LF x y=some (subP x y,0):=by
 obtain⟨g,e,b3⟩:=IL d a;have f:=om d.num (show -100<=y.2/\y.2<=100 from⟨by have:=a.pos; omega,a.den⟩);have h2:=om a.num (show -100<=x.2/\x.2<=100 from⟨by have:=d.pos; omega,d.den⟩);unfold LF Xd;rw[VB d.rat a.rat,À];rw[show ine (0:Int) 0=false from rfl,ë,ð (by omega) (by omega),ð (by omega) (by omega),ð (by omega) (by omega),ð (by omega) (by omega),IY e (by omega) (by omega),À];rfl
def Wf {n d:Int} (hd:0<d):(si n d).1.natAbs<=n.natAbs/\(si n d).2<=d:=by
 obtain⟨g,h0,j,a,h2⟩:=Kv (n:=n) hd
 have i:n.natAbs=(si n d).1.natAbs*g:=by conv=>lhs; rw[a]; rw[eT,eY]
 have f:d.natAbs=(si n d).2.natAbs*g:=by conv=>lhs; rw[h2]; rw[eT,eY]
 have e:(si n d).1.natAbs<=n.natAbs:=by rw[i]; exact ft _ h0
 have l:(si n d).2.natAbs<=d.natAbs:=by rw[f]; exact ft _ h0
 exact⟨e,by omega⟩
def PK {x y:Int×Int} (e:uP x 1000 100) (d:uP y 1000 100):uP (subP x y) 200000 10000:=by
 obtain⟨i,a,b3⟩:=IL e d;obtain⟨g,f⟩:=Wf (n:=x.1*y.2-y.1*x.2) a;exact⟨P2 a (by omega) (by omega),by unfold subP; omega,by unfold subP; omega⟩
def Vs (k:Int×Int) (n:Int):Int×Int:=si (k.1*n) k.2
def Jg {k:Int×Int} (d:uP k 200000 10000) {n:Int} (a : -10000<=n/\n<=10000):(k.1*n).natAbs<=2000000000:=by
 have:=om d.num a;omega
def QC {n:Int} (a : -10000<=n/\n<=10000):Ht (n,1)=true:=by
 rw[mz];exact⟨by simp,by simp,by simp; omega,by simp⟩
def acm {k:Int×Int} (a:uP k 200000 10000) {n:Int} (d : -10000<=n/\n<=10000):GO k (n,1)=some (Vs k n,0):=by
 have b:=Jg a d;have p:=a.pos;have q:=a.den;unfold GO Xf;rw[VB a.rat (QC d),À];rw[show ine (0:Int) 0=false from rfl,ë,ð (by simp only; omega) (by simp only; omega),Int.mul_one,ð (by omega) (by omega),IY (by omega) (by simp only; omega) (by omega),À];rfl
def KN {k:Int×Int} (a:uP k 200000 10000) {n:Int} (d : -10000<=n/\n<=10000):uP (Vs k n) 2000000000 10000:=by
 have b:=Jg a d;have p:=a.pos;have q:=a.den;obtain⟨f,e⟩:=Wf (n:=k.1*n) (show 0<k.2 by omega);exact⟨P2 (by omega) (by omega) (by omega),by unfold Vs; omega,by unfold Vs; omega⟩
def cmpP (x y:Int×Int):Int:=if x=y then 0 else if x.1*y.2<y.1*x.2 then -1 else if y.1*x.2<x.1*y.2 then 1 else 0
def acd {x y:Int×Int} {m d:Int} (a:uP x m d) (e:uP y m d) (f:m<=2000000000) (hd:d<=10000):GM x y=some (cmpP x y):=by
 have i:=om a.num (show -d<=y.2/\y.2<=d from⟨by have:=e.pos; have:=e.den; omega,e.den⟩);have h2:=om e.num (show -d<=x.2/\x.2<=d from⟨by have:=a.pos; have:=a.den; omega,a.den⟩);have h0:0<=m/\0<=d:=⟨by have:=a.num; omega,by have:=a.pos; have:=a.den; omega⟩;have g:m*d<=2000000000*10000:=Int.mul_le_mul f hd h0.2 (by omega);unfold GM Xb cmpP;rw[ð (by omega) (by omega),ð (by omega) (by omega)];simp only[ģ,Bool.and_true,Bool.and_eq_true,decide_eq_true_eq,ĺ,ilt,igt,gt_iff_lt];have:(x.1=y.1/\x.2=y.2)↔x=y:=⟨fun h=>Prod.ext h.1 h.2,fun h=>by rw[h]; exact⟨rfl,rfl⟩⟩;simp only[this]
 (repeat' split)<;>rfl
def Uc (k:Int×Int) (a:Int×Int):(Int×Int)×(Int×Int) :=
 if 0<cmpP (Vs k a.1) (Vs k a.2) then(Vs k a.2,Vs k a.1) else(Vs k a.1,Vs k a.2)
def acM {k a:Int×Int} (d:uP k 200000 10000) (i:lZ a (-10000) 10000=true):mL k a=some (Uc k a):=by
 simp only[lZ,Bool.and_eq_true,decide_eq_true_eq] at i;obtain⟨m,h2,l⟩:=i;have n1 : -10000<=a.1/\a.1<=10000:=⟨by omega,by omega⟩;have e : -10000<=a.2/\a.2<=10000:=⟨by omega,by omega⟩;have g:uP (a.1,1) 10000 10000:=⟨QC n1,n1,by simp⟩;have f:uP (a.2,1) 10000 10000:=⟨QC e,e,by simp⟩;unfold mL zU GN FJ pw wN;rw[VB g.rat f.rat,À];have:ieq 0 0=true:=rfl;rw[à this,acd g f (by omega) (by omega),À]
 have j:ile (cmpP (a.1,1) (a.2,1)) 0=true:=by
  unfold cmpP;simp only[ile,decide_eq_true_eq,Int.mul_one]
  split
  ·omega
  ·split
   ·omega
   ·rw[if_neg (by omega)]; omega
 rw[j,À];simp only[Bool.not_true,ë];rw[Mc d.i64,d.rat,À];simp only[Bool.not_true,ë];rw[acm d n1,À,acm d e,À];simp only[show ine (0:Int) 0=false from rfl,ë];rw[acd (KN d n1) (KN d e) (by omega) (by omega),À];unfold Uc;rw[ģ]
 by_cases h:0<cmpP (Vs k a.1) (Vs k a.2)
 ·rw[if_pos h,if_pos (by simpa[igt] using h)]; rfl
 ·rw[if_neg h,if_neg (by simpa[igt] using h)]; rfl
def rateK (s:y5 (Int×é)) (c:Cmp):Int×Int:=subP (Bt s (Ě c.2.2.1 c.2.2.2.1)) (Bt s (Ě c.2.2.2.1 c.2.2.1))
def mf (b:Ý) (c:Cmp):(Int×Int)×(Int×Int):=Uc (rateK (iz b) c) c.2.2.2.2.2.2
def XO {b:Ý} (d:j7 b) {c:Cmp} (g:c.2.2.1.length<=1000) (f:c.2.2.2.1.length<=1000)
 (a:uP (Bt (iz b) (Ě c.2.2.1 c.2.2.2.1)) 1000 100) (h2:uP (Bt (iz b) (Ě c.2.2.2.1 c.2.2.1)) 1000 100) (e:lZ c.2.2.2.2.2.2 (-10000) 10000=true):qD b c=some (mf b c):=by
 unfold qD JB;rw[IV d.gauges,À,BV (by omega) (by omega),À,MX,À,BV (by omega) (by omega),À,MX,À];unfold rY zV;rw[Sub_ok a h2,À,À]
 try dsimp only
 rw[acM (PK a h2) e,À];rfl
def qA (b:Ý) (c:Cmp):Int×Int :=
 (((c.2.2.1.length-1:Nat):Int)*b.1.1-((c.2.2.2.1.length-1:Nat):Int)*b.1.2,((c.2.2.1.length-1:Nat):Int)*b.1.2-((c.2.2.2.1.length-1:Nat):Int)*b.1.1)
def aaO {b:Ý} {c:Cmp} (d:c.2.2.1.length<=1000) (a:c.2.2.2.1.length<=1000) (i:0<=b.1.1) (h2:b.1.1<=1000000) (g:0<=b.1.2) (f:b.1.2<=1000000):uE b c=some (qA b c):=by
 unfold uE N9 qA
 have e:∀n:Nat,SP 0 ((n:Int)-1)=((n-1:Nat):Int):=by
  intro n;unfold SP
  split<;>omega
 have bd:∀(n:Nat) (x:Int),n<=1000->0<=x->x<=1000000->0<=((n-1:Nat):Int)*x/\((n-1:Nat):Int)*x<=1000000000:=by
  intro n x l h0 j;refine⟨fT (by omega) h0,?_⟩;have:=ff (show((n-1:Nat):Int)<=1000 by omega) j h0 (by omega);omega
 have r:=bd _ _ d i h2;have o:=bd _ _ d g f;have b3:=bd _ _ a i h2;have m:=bd _ _ a g f;simp only[è];rw[ð (by omega) (by omega),ð (by omega) (by omega)];simp only[e];rw[ð (by omega) (by omega),ð (by omega) (by omega),ð (by omega) (by omega),ð (by omega) (by omega),ð (by omega) (by omega),ð (by omega) (by omega)]
def UH {n d:Int} (hd:1<=d) (i : -4000000000<=n/\n<=4000000000):ifb (ĺ d 0) (none) (ck (Int.tdiv n d) fun n1=>ifb (ĺ d 0) (none) (ifb (ilt (Int.tmod n d) (0:Int)) (ck (n1-(1:Int)) fun a=>some a) (some n1)))=some (n / d):=by
 have z:ĺ d 0=false:=by simp[ĺ]; omega
 rw[Ö z];have t:=Int.mul_tdiv_add_tmod n d
 have j : -4000000000<=Int.tdiv n d/\Int.tdiv n d<=4000000000:=by
  have:=Int.natAbs_tdiv_le_natAbs n d;omega
 rw[ð (by omega) (by omega),Ö z,ģ]
 by_cases h:Int.tmod n d<0
 ·rw[if_pos (by simpa[ilt] using h),ð (by omega) (by omega)];congr 1
  have g : -d<Int.tmod n d:=by
   have f:=Int.natAbs_tmod n d;have e:=Nat.mod_lt n.natAbs (show 0<d.natAbs by omega);omega
  refine(Int.ediv_eq_iff_of_pos (by omega)).2 ⟨?_,?_⟩ |>.symm
  ·rw[Int.sub_mul,gk]; omega
  ·rw[Int.sub_mul,gk (Int.tdiv n d)]; omega
 ·rw[if_neg (by simpa[ilt] using h)];congr 1
  have g:Int.tmod n d<d:=by
   have f:=Int.natAbs_tmod n d;have e:=Nat.mod_lt n.natAbs (show 0<d.natAbs by omega);omega
  refine(Int.ediv_eq_iff_of_pos (by omega)).2 ⟨?_,?_⟩ |>.symm
  ·rw[gk]; omega
  ·rw[gk (Int.tdiv n d)]; omega
def S9 {n d:Int} (hd:1<=d) (a : -4000000000<=n/\n<=4000000000):AR n d=some (n / d):=UH hd a
def abO {x:Int×Int} (d:Ht x=true):iS [x]=some 0:=by
 rw[Ro]
 ·simp[d]
 ·intro r a
  have:Ht r=true:=by simp at a; subst a; assumption
  have:=((mz r).1 this).2.2.1;exact⟨by omega,by omega⟩
 ·simp
def U8 (r:Int×Int):Int:=-(-r.1 / r.2)
def abJ {r:Int×Int} (h:Ht r=true):AU r=some (r.1 / r.2,0):=by
 unfold AU N2;have:=(mz r).1 h;rw[abO h,À];rw[show ine (0:Int) 0=false from rfl,ë,S9 (by omega) (by omega),À]
def Ce {n d:Int} (hd:1<=d):(n / d).natAbs<=n.natAbs:=by
 exact Int.natAbs_ediv_le_natAbs n d
def ad0 {r:Int×Int} (h:Ht r=true):Ec r=some (U8 r,0):=by
 unfold Ec Sq U8;have:=(mz r).1 h;rw[abO h,À];rw[show ine (0:Int) 0=false from rfl,ë,ð (by omega) (by omega),S9 (by omega) (by omega),À];have hb:=Ce (n:=0-r.1) (show 1<=r.2 by omega);rw[ð (by omega) (by omega),Int.zero_sub,Int.zero_sub]
def pH (b:Ý) (c:Cmp):Int×Int :=
 (c.2.2.2.2.1-c.2.2.2.2.2.1-(qA b c).2-(mf b c).2.1 / (mf b c).2.2,c.2.2.2.2.1+c.2.2.2.2.2.1-(qA b c).1-U8 (mf b c).1)
structure Ğ (b:Ý):Prop where
 film:0<=b.1.1/\b.1.1<=b.1.2/\b.1.2<=1000000
 nG:b.2.1.length<=12
 nU:b.2.2.1.length<=40
 nL:b.2.2.2.1.length<=12
 nC:b.2.2.2.2.1.length<=40
 nK:b.2.2.2.2.2.length<=10
 gauge:∀g∈b.2.1,sN g=true
 ids:b.2.1.Pairwise fun a b=>a.1<b.1
 uses:∀u∈b.2.2.1,Rp (iz b) u.1 u.2=0
 loans:∀i l,b.2.2.2.1[i]?=some l->DE b (iz b) i l=0
 compares:∀i c,b.2.2.2.2.1[i]?=some c->lm b (iz b) i c=0
 looks:∀u∈b.2.2.2.2.2,Rp (iz b) u.1 u.2=0
 nodes:(Õ b).length<=59
 links:2*(Õ b).length+2*b.2.2.2.2.1.length<=300
def Gp (b:Ý):mg b=0↔(∀g∈b.2.1,sN g=true)/\b.2.1.Pairwise fun a b=>a.1<b.1:=by
 have h0:Ŕ (ut b.2.1) 0 b.2.1=none↔(∀g∈b.2.1,sN g=true)/\b.2.1.Pairwise fun a b=>a.1<b.1:=by
  rw[kP,<-abw (fun g:é=>g.1) b.2.1];constructor
  ·intro h
   have f:∀(j:Nat) (a:é),b.2.1[j]?=some a->sN a=true/\IE (fun g:é=>g.1) b.2.1 j a=false:=by
    intro j a ha;have:=h j a ha;rw[Nat.zero_add] at this;unfold ut at this
    split at this
    ·cases this
    ·split at this
     ·cases this
     ·rename_i f h2;exact⟨by simpa using f,by simpa using h2⟩
   refine⟨fun x n=>?_,fun i a ha=>(f i a ha).2⟩;obtain⟨j,o,rfl⟩:=cm.1 n;exact(f j _ (bY o)).1
  ·rintro⟨f,h2⟩ j a ha;rw[cF];simp[ut,f a (ci ha),h2 j a ha]
 rw[<-h0];unfold mg
 cases h:Ŕ (ut b.2.1) 0 b.2.1 with
 |none=>simp
 |some e =>
  have:∀(m:y5 é) (j:Nat) (x:Int),Ŕ (ut b.2.1) j m=some x->x≠0:=by
   intro m
   induction m with
   |nil=>intro j x h; cases h
   |cons a m l =>
    intro j x h;unfold Ŕ at h
    cases d:ut b.2.1 j a with
    |none=>rw[d] at h; exact l _ _ h
    |some y =>
     rw[d] at h;cases h;unfold ut at d
     split at d
     ·cases d; omega
     ·split at d
      ·cases d; omega
      ·cases d
  simp[this _ _ _ h]
def ú (b:Ý):ö b=0↔Ğ b:=by
 unfold ö;constructor
 ·intro h
  split at h
  ·omega
  rename_i G
  (repeat' split at h)<;>try omega
  ·rename_i g
   have n:mg b≠0:=by simpa using g
   exact(n h).elim
  ·rename_i o;have:=List.find?_some o;rename_i e;simp at this;exact(this h).elim
  ·rename_i D C z y v g e o s r
   have m:mg b=0:=by simpa using g
   obtain⟨I,H⟩:=(Gp b).1 m
   have a:∀x∈yx b (iz b),x=0:=fun x j=>by
    have:=eD.1 o x j;simpa using this
   simp only[yx,b8] at a
   have f:lZ b.1 0 1000000=true:=by simpa using G
   simp only[lZ,bZ,decide_eq_true_eq] at f;refine⟨⟨f.1,f.2.1,f.2.2⟩,by omega,by omega,by omega,by omega,by omega,I,H,fun u d=>a _ (.inl (cR.2 ⟨u,d,rfl⟩)),fun i l E=>?_,fun i c F=>?_,fun u d=>a _ (.inr (.inr (.inr (cR.2 ⟨u,d,rfl⟩)))),by omega,by omega⟩
   ·obtain⟨hi,rfl⟩:=ca.1 E;exact a _ (.inr (.inl (gj.2 ⟨i,hi,rfl⟩)))
   ·obtain⟨hi,rfl⟩:=ca.1 F;exact a _ (.inr (.inr (.inl (gj.2 ⟨i,hi,rfl⟩))))
 ·intro h
  have f:lZ b.1 0 1000000=true:=by simp[lZ,h.film.1,h.film.2.1,h.film.2.2]
  have g:mg b=0:=(Gp b).2 ⟨h.gauge,h.ids⟩
  have a:(yx b (iz b)).find? (fun e=>e != 0)=none:=by
   rw[eD];intro x j;simp only[yx,b8,cR,gj] at j
   have:x=0:=by
    rcases j with⟨u,d,rfl⟩|⟨i,hi,rfl⟩|⟨i,hi,rfl⟩|⟨u,d,rfl⟩
    ·exact h.uses u d
    ·exact h.loans i _ (bY hi)
    ·exact h.compares i _ (bY hi)
    ·exact h.looks u d
   simp[this]
  have:=h.nG; have:=h.nU; have:=h.nL; have:=h.nC; have:=h.nK; have:=h.nodes; have:=h.links;rw[f,g,a];simp only[dj,cA,if_false,bne_self_eq_false];rw[if_neg (by omega),if_neg (by omega),if_neg (by omega),if_neg (by omega),if_neg (by omega),if_neg (by omega),if_neg (by omega)]
section
variable {b:Ý}
def Ğ.nums (h:Ğ b) {c:Cmp} (a:c∈b.2.2.2.2.1):Nt c=true:=by
 obtain⟨i,hi,rfl⟩:=List.mem_iff_getElem.1 a;have:=h.compares i _ (List.getElem?_eq_getElem hi);unfold lm at this
 split at this
 ·omega
 ·rename_i h; simpa using h
def Ğ.pilesOf (h:Ğ b) {c:Cmp} (a:c∈b.2.2.2.2.1):yr b (iz b) c=0:=by
 obtain⟨i,hi,rfl⟩:=List.mem_iff_getElem.1 a;have:=h.compares i _ (List.getElem?_eq_getElem hi);unfold lm at this
 split at this
 ·omega
 ·split at this
  ·omega
  ·exact this
def pN (c:Cmp):Nt c=true↔(1<=c.1/\c.1<=1099511627776)/\(0<=c.2.1/\c.2.1<=20000)/\(-1125899906842624<=c.2.2.2.2.1/\c.2.2.2.2.1<=1125899906842624)/\(0<=c.2.2.2.2.2.1/\c.2.2.2.2.2.1<=1073741824)/\lZ c.2.2.2.2.2.2 (-10000) 10000=true/\Db c.2.2.1=true/\Db c.2.2.2.1=true:=by
 simp[Nt,inP,Yl,and_assoc]
def Ğ.size (h:Ğ b):j7 b:=by
 have i:=h.nG; have h2:=h.nU; have g:=h.nL; have f:=h.nC; have e:=h.nK;refine⟨by omega,by omega,by omega,by omega,by omega,fun c d=>?_⟩;have:=(pN c).1 (h.nums d);have a:=ξ this.2.2.2.2.2.1;have b:=ξ this.2.2.2.2.2.2;omega
def B4 (g:é):sN g=true↔Ht g.2.2.2.2.1=true/\(-1000<=g.2.2.2.2.1.1/\g.2.2.2.2.1.1<=1000)/\g.2.2.2.2.1.2<=100/\(1<=g.1/\g.1<=1099511627776)/\(0<=g.2.1/\g.2.1<=20000)/\(1<=g.2.2.1/\g.2.2.1<=1125899906842624)/\(-1073741824<=g.2.2.2.1.1/\g.2.2.2.1.1<=g.2.2.2.1.2/\g.2.2.2.1.2<=1073741824)/\(0<=g.2.2.2.2.2/\g.2.2.2.2.2<=1048576):=by
 simp[sN,inP,Yl,lZ,and_assoc]
def ţ {id:Int} {g:é} (h:gY b id=some g):g∈b.2.1/\g.1=id:=by
 unfold gY at h;exact⟨List.mem_of_find?_eq_some h,by simpa using List.find?_some h⟩
def ζ (hi:b.2.1.Pairwise fun a b=>a.1<b.1) {g:é} (d:g∈b.2.1):gY b g.1=some g:=by
 unfold gY
 induction e:b.2.1 generalizing b with
 |nil=>rw[e] at d; cases d
 |cons a t f =>
  rw[e] at d hi;rw[cO] at hi;rw[fQ];rcases b9.1 d with rfl|d
  ·simp
  ·have i:=hi.1 g d
   have:(a.1==g.1)=false:=by simp; omega
   rw[this];have:=f (b:=(b.1,t,b.2.2)) hi.2 d rfl;exact this
def pQ (h:Ğ b) {id a:Int} (d:jc (iz b) id a=0):∃g,gY b id=some g/\g.2.1<=a:=by
 unfold jc at d;rw[ii h.ids] at d
 split at d
 ·rename_i g e
  split at d
  ·omega
  ·exact⟨g,e,by omega⟩
 ·omega
def Qi (s:y5 (Int×é)) (id a:Int):jc s id a=0\/jc s id a=4\/jc s id a=5:=by
 unfold jc
 split
 ·split<;>simp
 ·simp
def Ğ.pile (h:Ğ b) {c:Cmp} (j:c∈b.2.2.2.2.1) {x:Int} (d:x∈c.2.2.1++c.2.2.2.1):(∃g,gY b x=some g/\g.2.1<=c.2.1)/\vV b x c.2.1=none:=by
 have a:=h.pilesOf j;unfold yr at a
 split at a
 ·omega
 rename_i m
 split at a
 ·omega
 rename_i n
 split at a
 ·omega
 rename_i l;have f:=(dK.1 (dQ.2 m)) x d;have i:=(dK.1 (dQ.2 n)) x d;have e:=(dK.1 (dQ.2 l)) x d;simp at f i e;refine⟨pQ h ?_,e⟩;rcases Qi (iz b) x c.2.1 with h0|h0|h0
 ·exact h0
 ·exact(i h0).elim
 ·exact(f h0).elim
def Ğ.lefts (h:Ğ b) {c:Cmp} (d:c∈b.2.2.2.2.1):(Ě c.2.2.1 c.2.2.2.1).length<=1/\(Ě c.2.2.2.1 c.2.2.1).length<=1/\(Ě c.2.2.1 c.2.2.2.1).length+(Ě c.2.2.2.1 c.2.2.1).length≠0:=by
 have a:=h.pilesOf d;unfold yr at a
 (repeat' split at a)<;>first|omega|exact⟨by omega,by omega,by omega⟩
def iO {a c:y5 Int} {x:Int}:x∈Ě a c↔x∈a/\x∉c:=by
 simp[Ě]
def Ğ.rate (h:Ğ b) {p:y5 Int} (d:∀x∈p,∃g,gY b x=some g):uP (Bt (iz b) p) 1000 100:=by
 unfold Bt
 cases p with
 |nil =>
  have:uP (0,1) 1000 100:=⟨by decide,by decide,by decide⟩;exact this
 |cons x t =>
  obtain⟨g,a⟩:=d x (by simp)
  try dsimp only
  rw[ii h.ids,a];have:=(B4 g).1 (h.gauge g (ţ a).1);exact⟨this.1,this.2.1,this.2.2.1⟩
def Ğ.rates (h:Ğ b) {c:Cmp} (e:c∈b.2.2.2.2.1):uP (Bt (iz b) (Ě c.2.2.1 c.2.2.2.1)) 1000 100/\uP (Bt (iz b) (Ě c.2.2.2.1 c.2.2.1)) 1000 100:=by
 constructor
 ·exact h.rate fun x a=>by
   obtain⟨⟨g,d,_⟩,_⟩:=h.pile e (dh _ (iO.1 a).1);exact⟨g,d⟩
 ·exact h.rate fun x a=>by
   obtain⟨⟨g,d,_⟩,_⟩:=h.pile e (cJ _ (iO.1 a).1);exact⟨g,d⟩
def Ğ.growth (h:Ğ b) {c:Cmp} (e:c∈b.2.2.2.2.1):qD b c=some (mf b c):=by
 obtain⟨g,f⟩:=h.rates e;have d:=(pN c).1 (h.nums e);have a:=ξ d.2.2.2.2.2.1;have b:=ξ d.2.2.2.2.2.2;exact XO h.size (by omega) (by omega) g f d.2.2.2.2.1
def Ğ.films (h:Ğ b) {c:Cmp} (d:c.2.2.1.length<=1000) (a:c.2.2.2.1.length<=1000):uE b c=some (qA b c):=by
 have:=h.film;exact aaO d a (by omega) (by omega) (by omega) (by omega)
def RZ {k a:Int×Int} (f:uP k 200000 10000) (g:lZ a (-10000) 10000=true):uP (Uc k a).1 2000000000 10000/\uP (Uc k a).2 2000000000 10000:=by
 simp only[lZ,Bool.and_eq_true,decide_eq_true_eq] at g;have e:=KN f (n:=a.1) ⟨by omega,by omega⟩;have d:=KN f (n:=a.2) ⟨by omega,by omega⟩;unfold Uc
 split
 ·exact⟨d,e⟩
 ·exact⟨e,d⟩
def GH {c:Cmp} (d:c.2.2.1.length<=1000) (a:c.2.2.2.1.length<=1000) (g:0<=b.1.1) (h2:b.1.1<=1000000) (f:0<=b.1.2) (e:b.1.2<=1000000) :
 (-1000000000<=(qA b c).1/\(qA b c).1<=1000000000)/\(-1000000000<=(qA b c).2/\(qA b c).2<=1000000000):=by
 have bd:∀(n:Nat) (x:Int),n<=1000->0<=x->x<=1000000->0<=((n-1:Nat):Int)*x/\((n-1:Nat):Int)*x<=1000000000:=by
  intro n x j h0 i;refine⟨fT (by omega) h0,?_⟩;have:=ff (show((n-1:Nat):Int)<=1000 by omega) i h0 (by omega);omega
 have o:=bd _ _ d g h2;have m:=bd _ _ d f e;have b3:=bd _ _ a g h2;have l:=bd _ _ a f e;unfold qA
 try dsimp only
 omega
def GC {r:Int×Int} (h:uP r 2000000000 10000) : -2000000000<=r.1 / r.2/\r.1 / r.2<=2000000000:=by
 have:=Ce (n:=r.1) h.pos;have:=h.num;omega
def J6 {r:Int×Int} (h:uP r 2000000000 10000) : -2000000000<=U8 r/\U8 r<=2000000000:=by
 have:=Ce (n:=-r.1) h.pos;have:=h.num;unfold U8;omega
def Ğ.says (h:Ğ b) {c:Cmp} (d:c∈b.2.2.2.2.1):vB b c=some (pH b c):=by
 obtain⟨i,g⟩:=h.rates d;have a:=(pN c).1 (h.nums d);have ha:=ξ a.2.2.2.2.2.1;have hb:=ξ a.2.2.2.2.2.2;have o:=h.film;obtain⟨l,j⟩:=RZ (PK i g) a.2.2.2.2.1;have r:=GH (b:=b) (c:=c) (by omega) (by omega) (by omega) (by omega) (by omega) (by omega);have f:uP (mf b c).1 2000000000 10000:=l;have e:uP (mf b c).2 2000000000 10000:=j;have u:=J6 f;have s:=GC e;unfold vB Sr pH;rw[h.growth d,À,h.films (by omega) (by omega),À,abJ e.rat,À,ad0 f.rat,À]
 try dsimp only
 have n:=a.2.2.1;have m:=a.2.2.2.1;rw[ð (by omega) (by omega),ð (by omega) (by omega),ð (by omega) (by omega),ð (by omega) (by omega),ð (by omega) (by omega),ð (by omega) (by omega)]
end
def Ĉ (l:vW) (f t:Int):Int:=min l.2.1.2 (t-1)-max l.2.1.1 f+1
def ù (id f t:Int):y5 vW->Int
 |[]=>0
 |l::r=>(if l.1=id/\0<Ĉ l f t then Ĉ l f t*l.2.2 else 0)+ù id f t r
def uk (id f t:Int):∀(x y:y5 vW),ù id f t (x++y)=ù id f t x+ù id f t y
 |[],y=>by simp[ù]
 |l::r,y=>by
  simp only[dw,ù,uk id f t r y];omega
def ť (b:Ý) (id f t:Int):y5 Int:=(b.2.2.1.filter fun u=>u.1==id&&inP u.2 f (t-1)).map fun u=>u.2
def iN (b:Ý) (g:é) (f t:Int):Int:=ù g.1 f t b.2.2.2.1+(Ml (ť b g.1 f t)).length*g.2.2.2.2.2
def XL (a c:Int):UE a c=min a c:=by unfold UE; split<;>omega
def adg (a c:Int):SP a c=max a c:=by unfold SP; split<;>omega
def vl {b:Ý} (h:Ğ b) {l:vW} (d:l∈b.2.2.2.1):(0<=l.2.1.1/\l.2.1.1<=l.2.1.2/\l.2.1.2<=20000)/\(0<=l.2.2/\l.2.2<=1048576):=by
 obtain⟨i,hi,rfl⟩:=List.mem_iff_getElem.1 d;have:=h.loans i _ (List.getElem?_eq_getElem hi);unfold DE at this
 split at this
 ·omega
 rename_i a
 split at this
 ·omega
 rename_i h2;simp only[dE,Bool.not_eq_false,lZ,inP,bZ,decide_eq_true_eq] at a h2;exact⟨a,h2⟩
def JG {l:vW} (h:(0<=l.2.1.1/\l.2.1.1<=l.2.1.2/\l.2.1.2<=20000)/\(0<=l.2.2/\l.2.2<=1048576)) {f t:Int} (a:0<=f) (hd:0<Ĉ l f t):0<=Ĉ l f t*l.2.2/\Ĉ l f t*l.2.2<=20001*1048576:=by
 refine⟨Int.mul_nonneg (by omega) h.2.1,Int.mul_le_mul ?_ h.2.2 h.2.1 (by omega)⟩;unfold Ĉ;omega
def pq {id f t:Int} (a:0<=f):∀{x:y5 vW},(∀l∈x,(0<=l.2.1.1/\l.2.1.1<=l.2.1.2/\l.2.1.2<=20000)/\(0<=l.2.2/\l.2.2<=1048576))->0<=ù id f t x/\ù id f t x<=x.length*(20001*1048576)
 |[],_=>by simp[ù]
 |l::r,h=>by
  have g:=pq (id:=id) (t:=t) a (x:=r) fun l d=>h l (by simp[d]);simp only[ù,cj,f0,fN,fY]
  split
  ·rename_i e;have:=JG (h l (by simp)) a e.2;omega
  ·omega
def ac9 {b:Ý} (h:Ğ b) {g:é} (s:0<=g.2.2.2.2.2/\g.2.2.2.2.2<=1048576) {f t:Int} (C:0<=f/\f<=100000) (K:0<=t/\t<=100000):vC b g f t=some (iN b g f t):=by
 have P:=h.nL;have H:=h.nU
 have e:∀i,0<=ù g.1 f t (b.2.2.2.1.take i)/\ù g.1 f t (b.2.2.2.1.take i)<=12*(20001*1048576):=by
  intro i;have j:=pq (id:=g.1) (t:=t) C.1 (x:=b.2.2.2.1.take i) fun l o=>vl h (fK o);have h2:((b.2.2.2.1.take i).length:Int)*(20001*1048576)<=12*(20001*1048576):=eP (by rw[cw]; omega) (by omega);omega
 unfold vC Su;refine gL (fun x:Int×Int=>∃i:Nat,i<=b.2.2.2.1.length/\x=(ù g.1 f t (b.2.2.2.1.take i),(i:Int))) (fun x=>b.2.2.2.1.length-x.2.toNat) ?_ ⟨0,by omega,rfl⟩;rintro x ⟨i,hi,rfl⟩;rcases Nat.lt_or_ge i b.2.2.2.1.length with a|G
 ·have o:b.2.2.2.1[i]?=some b.2.2.2.1[i]:=bY a;have F:=vl h (ci o);refine .inr ⟨(ù g.1 f t (b.2.2.2.1.take (i+1)),(i:Int)+1),⟨i+1,a,by simp⟩,by simp; omega,fun kn=>?_⟩
  try dsimp only
  unfold rD;have E:=e i;have Q:=e (i+1)
  have m:ù g.1 f t (b.2.2.2.1.take (i+1))=ù g.1 f t (b.2.2.2.1.take i)+(if b.2.2.2.1[i].1=g.1/\0<Ĉ b.2.2.2.1[i] f t then Ĉ b.2.2.2.1[i] f t*b.2.2.2.1[i].2.2 else 0):=by
   rw[take_succ o,uk]; simp[ù]
  rw[Ó a,Ç o,ð (by omega) (by omega),XL,adg,ð (by omega) (by omega),ð (by omega) (by omega)];rw[show min b.2.2.2.1[i].2.1.2 (t-1)-max b.2.2.2.1[i].2.1.1 f+1=Ĉ b.2.2.2.1[i] f t from rfl,ģ]
  by_cases d:b.2.2.2.1[i].1=g.1
  ·rw[if_pos (by simpa[ieq] using d),ģ]
   by_cases hd:0<Ĉ b.2.2.2.1[i] f t
   ·have J:=JG F C.1 hd;rw[if_pos ⟨d,hd⟩] at m;rw[if_pos (by simpa[igt] using hd),ð (by omega) (by omega),ð (by omega) (by omega),Í a (by omega),m]
   ·rw[if_neg (fun v=>hd v.2)] at m;rw[if_neg (by simpa[igt] using hd),Í a (by omega),m,fS]
  ·rw[if_neg (fun v=>d v.1)] at m;rw[if_neg (by simpa[ieq] using d),Í a (by omega),m,fS]
 ·refine .inl fun kn=>?_
  have:i=b.2.2.2.1.length:=by omega
  subst this
  try dsimp only
  unfold rD;rw[á,List.take_length]
  have n:∀x:y5 (Int×Int),x.length<=40->((x.filter fun u=>u.1==g.1&&inP u.2 f (t-1)).map fun u=>u.2).length<=40:=by
   intro x y;rw[dg];exact cg (dm _ _) y
  refine Ġ b.2.2.1 (fun i=>((b.2.2.1.take i).filter fun u=>u.1==g.1&&inP u.2 f (t-1)).map fun u=>u.2) _ rfl (fun i u hi z r=>?_) (fun r=>?_)
  ·try dsimp only
   unfold rC;have y:=n (b.2.2.1.take i) (by rw[List.length_take]; omega);rw[Ó hi,Ç z,ð (by omega) (by omega),Ż,À,Ò (by simp only[List.length_singleton]; omega),Am.iff_true,Í hi (by omega),Í hi (by omega),take_succ z,List.filter_append,List.map_append]
   cases j:(u.1==g.1) with
   |false =>
    have:ieq u.1 g.1=false:=j;simp only[this,ë,dz,j,fU,cA,if_false,dH,eR,cn]
   |true =>
    have:ieq u.1 g.1=true:=j;rw[this]
    cases h2:inP u.2 f (t-1) with
    |false=>simp only[Ĭ,ë,dz,j,h2,dk,cA,if_false,dH,eR,cn]
    |true=>simp only[Ĭ,dz,j,h2,dk,if_true,dH,eR,dC]
  ·try dsimp only
   unfold rC;rw[á,List.take_length];rw[show((b.2.2.1.filter fun u=>u.1==g.1&&inP u.2 f (t-1)).map fun u=>u.2)=ť b g.1 f t from rfl];have I:(ť b g.1 f t).length<=40:=n _ H
   have D:(Ml (ť b g.1 f t)).length<=40:=by
    have:=DQ (ť b g.1 f t);omega
   have O:0<=((Ml (ť b g.1 f t)).length:Int)*g.2.2.2.2.2/\((Ml (ť b g.1 f t)).length:Int)*g.2.2.2.2.2<=40*1048576 :=
    ⟨fT (by omega) s.1,ff (by omega) s.2 s.1 (by omega)⟩
   have E:=e b.2.2.2.1.length;rw[List.take_length] at E;dsimp only;rw[Ò (by omega),Am.iff_true,Ò (by rw[MI]; omega),Am.iff_true,VZ,è,ð (by omega) (by omega),ð (by omega) (by omega)];rfl
abbrev Lk:Type:=Int×Int×Int
inductive Wl (L:List Lk) (S:Int->Prop):List Int->Int->Int->Prop
 |nil {v:Int}:S v->Wl L S [] v 0
 |step {vs:List Int} {u v m d:Int}:Wl L S vs u d->(u,v,m)∈L->Wl L S (u::vs) v (d+m)
def Pot (L:y5 Lk) (p:Int->Int):Prop:=∀u v m,(u,v,m)∈L->p v<=p u+m
def InR (L:y5 Lk) (N:Nat):Prop:=∀l∈L,(0<=l.1/\l.1<N)/\(0<=l.2.1/\l.2.1<N)
section
variable {L:y5 Lk} {S:Int->Prop} {N:Nat} {p:Int->Int}
def Wl.cut (i:Pot L p) {vs:y5 Int} {v d:Int} (h:Wl L S vs v d):∀x∈vs,∃a f,Wl L S a x f/\(x::a) <:+ vs/\f+(p v-p x)<=d:=by
 induction h with
 |nil h=>intro x e; cases e
 | @step vs u v m d g j ih =>
  intro x e;have o:=i u v m j;rcases b9.1 e with rfl|e
  ·exact⟨vs,d,g,List.suffix_refl _,by omega⟩
  ·obtain⟨a,f,n,l,r⟩:=ih x e;exact⟨a,f,n,l.trans (List.suffix_cons _ _),by omega⟩
def Wl.simple (n:Pot L p) {vs:y5 Int} {v d:Int} (h:Wl L S vs v d):∃e l,Wl L S e v l/\l<=d/\(v::e).Nodup:=by
 induction h with
 |nil h=>exact⟨[],0,.nil h,cZ _,by simp⟩
 | @step vs u v m d z o ih =>
  obtain⟨a,y,r,C,j⟩:=ih;have f:=Wl.step r o
  by_cases i:v∈u::a
  ·obtain⟨g,s,k1,k2,k3⟩:=f.cut n v i;exact⟨g,s,k1,by omega,j.sublist k2.sublist⟩
  ·exact⟨u::a,y+m,f,by omega,eJ.2 ⟨i,j⟩⟩
def Wl.range (i:InR L N) (g:∀v,S v->0<=v/\v<N) {vs:y5 Int} {v d:Int} (h:Wl L S vs v d):(0<=v/\v<N)/\∀u∈vs,0<=u/\u<N:=by
 induction h with
 |nil h=>exact⟨g _ h,fun u e=>by cases e⟩
 | @step vs u v m d j f ih =>
  refine⟨(i _ f).2,fun w a=>?_⟩;rcases b9.1 a with rfl|h
  ·exact ih.1
  ·exact ih.2 w h
def RL:∀(N:Nat) (l:y5 Int),l.Nodup->(∀x∈l,0<=x/\x<N)->l.length<=N
 |0,l,_,h=>by
  cases l with
  |nil=>simp
  |cons a l=>have:=h a (by simp); omega
 |N+1,l,d,h=>by
  have f:(l.erase (N:Int)).length<=N:=RL N _ (d.erase _) fun x e=>by
   have h2:=(d.mem_erase_iff).1 e;have:=h x h2.2;have:=h2.1;omega
  have:=List.length_erase (a:=(N:Int)) (l:=l)
  split at this<;>omega
def Wl.short (g:InR L N) (f:∀v,S v->0<=v/\v<N) {vs:y5 Int} {v d:Int} (h:Wl L S vs v d) (e:(v::vs).Nodup):vs.length+1<=N:=by
 have:=h.range g f
 exact RL N (v::vs) e fun x a=>by
  rcases b9.1 a with rfl|a
  ·exact this.1
  ·exact this.2 x a
def Df (f:Lk->Bool):y5 Lk->Int
 |[]=>0
 |l::t=>(if f l then min l.2.2 0 else 0)+Df f t
def WU (f:Lk->Bool):∀L:y5 Lk,Df (fun _=>true) L<=Df f L
 |[]=>cZ _
 |l::t=>by
  have:=WU f t;simp only[Df,if_true]
  split<;>omega
def qV (f:Lk->Bool):∀L:y5 Lk,Df f L<=0
 |[]=>cZ _
 |l::t=>by
  have:=qV f t;simp only[Df]
  split<;>omega
def Sg {f:Lk->Bool} {l:Lk} (d:f l=true):∀{L:y5 Lk},l∈L->Df f L<=l.2.2
 |a::t,h=>by
  simp only[Df];rcases b9.1 h with rfl|h
  ·have:=qV f t;rw[if_pos d]; omega
  ·have:=Sg d h
   split<;>omega
def WT {f g:Lk->Bool} (h:∀l,f l=true->g l=false):∀L:y5 Lk,Df (fun l=>f l||g l) L=Df f L+Df g L
 |[]=>rfl
 |l::t=>by
  have i:=WT h t;simp only[Df,i]
  by_cases d:f l=true
  ·simp[d,h l d]; omega
  ·have a:f l=false:=by simpa using d
   by_cases e:g l=true
   ·simp[a,e]; omega
   ·simp[a,e]
def Wl.low {vs:y5 Int} {v d:Int} (h:Wl L S vs v d):vs.Nodup->Df (fun l=>vs.contains l.1) L<=d:=by
 induction h with
 |nil h=>intro _; exact qV _ _
 | @step vs u v m d o i ih =>
  intro a;rw[eJ] at a;have r:=ih a.2;have h2:Df (fun l=>l.1==u) L<=m:=Sg (f:=fun l=>l.1==u) (l:=(u,v,m)) (by simp) i
  have n:=WT (f:=fun l:Lk=>l.1==u) (g:=fun l=>vs.contains l.1) (fun l e=>by
   simp only[beq_iff_eq] at e;rw[e]
   simpa using a.1) L
  have j:(fun l:Lk=>(u::vs).contains l.1)=fun l=>(l.1==u)||vs.contains l.1:=by funext l; rw[List.contains_cons]
  rw[j,n];omega
def DW (L:y5 Lk):Int:=Df (fun _=>true) L
def Wl.low' (e:Pot L p) {vs:y5 Int} {v d:Int} (h:Wl L S vs v d):DW L<=d:=by
 obtain⟨a,i,g,h2,f⟩:=h.simple e;have:=g.low (List.nodup_cons.1 f).2;have:=WU (fun l=>a.contains l.1) L;unfold DW;omega
def Wl.high {M:Int} (e:∀l∈L,l.2.2<=M) {vs:y5 Int} {v d:Int} (h:Wl L S vs v d):d<=vs.length*M:=by
 induction h with
 |nil h=>simp
 | @step vs u v m d f a ih =>
  have:=e _ a;simp only[cj,f0,fN,fY];simp only at this;omega
def Wl.mono {a:Int->Prop} (g:∀v,S v->a v) {vs:y5 Int} {v d:Int} (h:Wl L S vs v d):Wl L a vs v d:=by
 induction h with
 |nil h=>exact .nil (g _ h)
 |step i f e=>exact .step e f
def Wl.pot (a:Pot L p) {vs:y5 Int} {v d:Int} (h:Wl L S vs v d):∃s,S s/\p v-p s<=d:=by
 induction h with
 | @nil v h=>exact⟨v,h,by omega⟩
 | @step vs u v m d g e ih =>
  obtain⟨s,f,h2⟩:=ih;have:=a u v m e;exact⟨s,f,by omega⟩
end
abbrev ň:Int:=1152921504606846976
structure Vw (L:y5 Lk) (S:Int->Prop) (N:Nat) (x:Int->Int):Prop where
 att:∀v:Int,0<=v->v<N->x v≠ň->∃vs,Wl L S vs v (x v)
 low:∀v vs d,Wl L S vs v d->x v<=d
 bd:∀v:Int,0<=v->v<N->x v<=ň
def Vw.uniq {L:y5 Lk} {S:Int->Prop} {N:Nat} {x y:Int->Int} (d:Vw L S N x) (e:Vw L S N y) {v:Int} (h0:0<=v) (f:v<N):x v=y v:=by
 have a:∀{x y:Int->Int},Vw L S N x->Vw L S N y->x v<=y v:=by
  intro x y d e
  by_cases h:y v=ň
  ·rw[h]; exact d.bd v h0 f
  ·obtain⟨vs,g⟩:=e.att v h0 f h;exact d.low v vs _ g
 exact Int.le_antisymm (a d e) (a e d)
def gv (x:y5 Int) (v:Int):Int:=x[v.toNat]?.getD 0
def SS {x:y5 Int} {v:Int} (h:v.toNat<x.length):x[v.toNat]?=some (gv x v):=by
 unfold gv; rw[List.getElem?_eq_getElem h]; rfl
def oU {x:y5 Int} {u v:Int} (e:0<=u) (d:0<=v) (h:u.toNat<x.length) (y:Int):gv (x.set u.toNat y) v=if v=u then y else gv x v:=by
 unfold gv;rw[List.getElem?_set]
 by_cases a:v=u
 ·subst a; simp[h]
 ·have:¬u.toNat=v.toNat:=by omega
  simp[a,this]
def SU {x y:y5 Int} (a:x.length=y.length) (h:∀v:Int,0<=v->v<x.length->gv x v=gv y v):x=y:=by
 refine List.ext_getElem a fun i d h2=>?_;have:=h i (by omega) (by omega);unfold gv at this;simpa[d,h2] using this
def kp (x:y5 Int) (l:Lk):y5 Int:=if gv x l.1<ň/\gv x l.1+l.2.2<gv x l.2.1 then x.set l.2.1.toNat (gv x l.1+l.2.2) else x
def Dc (L:y5 Lk) (x:y5 Int):y5 Int:=L.foldl kp x
def jG (L:y5 Lk):Nat->y5 Int->y5 Int
 |0,x=>x
 |n+1,x=>jG L n (Dc L x)
def mw (x:y5 Int) (l:Lk):(kp x l).length=x.length:=by unfold kp; split<;>simp
def tE (L:y5 Lk):∀x:y5 Int,(Dc L x).length=x.length:=by
 induction L with
 |nil=>intro x; rfl
 |cons l t a=>intro x; show(Dc t (kp x l)).length=_; rw[a,mw]
def ŋ (L:y5 Lk):∀(n:Nat) (x:y5 Int),(jG L n x).length=x.length
 |0,x=>rfl
 |n+1,x=>by rw[jG,ŋ L n,tE]
def xr (L:y5 Lk):∀(n:Nat) (x:y5 Int),jG L (n+1) x=Dc L (jG L n x)
 |0,x=>rfl
 |n+1,x=>by rw[jG,xr L n]; rfl
section
variable {L0:y5 Lk} {S:Int->Prop} {N:Nat}
def MV {x:y5 Int} {l:Lk} (d:(0<=l.1/\l.1<N)/\(0<=l.2.1/\l.2.1<N)) (e:x.length=N) (v:Int) (a:0<=v):gv (kp x l) v<=gv x v:=by
 unfold kp
 split
 ·rename_i h;rw[oU d.2.1 a (by omega)]
  split
  ·rename_i h2; subst h2; omega
  ·exact cZ _
 ·exact cZ _
def yv:∀{L:y5 Lk},InR L N->∀{x:y5 Int},x.length=N->∀v,0<=v->gv (Dc L x) v<=gv x v
 |[],_,x,_,v,_=>cZ _
 |l::t,e,x,a,v,d=>by
  have g:=MV (e l (by simp)) a v d;have h2:=yv (L:=t) (fun l f=>e l (by simp[f])) (x:=kp x l) (by rw[mw,a]) v d;show gv (Dc t (kp x l)) v<=_;omega
def Bx:∀{L:y5 Lk},InR L N->∀{x:y5 Int},x.length=N->∀u v m,(u,v,m)∈L->gv x u<ň->gv (Dc L x) v<=gv x u+m
 |l::t,f,x,g,u,v,m,e,j=>by
  have i:InR t N:=fun l a=>f l (by simp[a])
  have d:(kp x l).length=N:=by rw[mw,g]
  show gv (Dc t (kp x l)) v<=_;rcases b9.1 e with rfl|e
  ·have a:=f (u,v,m) (by simp);have h2:=yv i d v a.2.1
   have n:gv (kp x (u,v,m)) v<=gv x u+m:=by
    unfold kp
    split
    ·rw[oU a.2.1 a.2.1 (by simp only at a; simp only; omega),if_pos rfl]; exact cZ _
    ·rename_i h; simp only[not_and,Int.not_lt] at h; exact h j
   omega
  ·have a:=f (u,v,m) (by simp[e]);have o:=MV (f l (by simp)) g u a.1.1;have:=Bx i d u v m e (by omega);omega
def Att (L0:y5 Lk) (S:Int->Prop) (N:Nat) (x:y5 Int):Prop:=∀v:Int,0<=v->v<N->gv x v<ň->∃vs,Wl L0 S vs v (gv x v)
def T6 {x:y5 Int} {l:Lk} (a:(0<=l.1/\l.1<N)/\(0<=l.2.1/\l.2.1<N)) (f:l∈L0) (j:x.length=N) (h:Att L0 S N x):Att L0 S N (kp x l):=by
 unfold kp
 split
 ·rename_i g;intro v h0 i d;rw[oU a.2.1 h0 (by omega)] at d ⊢
  split
  ·rename_i h2;obtain⟨vs,e⟩:=h l.1 a.1.1 a.1.2 g.1;exact⟨_,h2▸Wl.step e f⟩
  ·rename_i h2;rw[if_neg h2] at d;exact h v h0 i d
 ·exact h
def M7:∀{L:y5 Lk},InR L N->(∀l∈L,l∈L0)->∀{x:y5 Int},x.length=N->Att L0 S N x->Att L0 S N (Dc L x)
 |[],_,_,_,_,h=>h
 |l::t,e,hsub,x,d,h=>M7 (L:=t) (fun l a=>e l (by simp[a])) (fun l a=>hsub l (by simp[a])) (x:=kp x l) (by rw[mw,d]) (T6 (e l (by simp)) (hsub l (by simp)) d h)
def I2 (d:InR L0 N):∀(n:Nat) {x:y5 Int},x.length=N->Att L0 S N x->Att L0 S N (jG L0 n x)
 |0,_,_,h=>h
 |n+1,x,a,h=>I2 d n (by rw[tE,a]) (M7 d (fun _ h=>h) a h)
def yu (e:InR L0 N):∀(n:Nat) {x:y5 Int},x.length=N->∀v,0<=v->gv (jG L0 n x) v<=gv x v
 |0,_,_,_,_=>cZ _
 |n+1,x,a,v,d=>Int.le_trans (yu e n (by rw[tE,a]) v d) (yv e a v d)
def start (S:Int->Bool) (N:Nat):y5 Int:=(List.range N).map fun(i:Nat)=>if S i then 0 else ň
def gF (S:Int->Bool) {N:Nat} {v:Int} (h0:0<=v) (a:v<N):gv (start S N) v=if S v then 0 else ň:=by
 unfold gv start
 have:v.toNat<N:=by omega
 rw[d9,fP this];simp only[di,f8];rw[fk h0]
def ü (S:Int->Bool) (N:Nat):(start S N).length=N:=by simp[start]
end
def Bw {L:y5 Lk} {S:Int->Bool} {N:Nat} {M:Int} (o:InR L N) (j:∀v,S v=true->0<=v/\v<N) (s:∀l∈L,l.2.2<=M):∀(n:Nat),n*M<ň->0<=M->∀vs v d,Wl L (fun v=>S v=true) vs v d->vs.length<=n->gv (jG L n (start S N)) v<=d
 |0,_,_,vs,v,d,f,i=>by
  cases f with
  |nil h =>
   have:=j v h;rw[jG,gF S this.1 this.2,if_pos h]; exact cZ _
  |step=>simp at i
 |n+1,y,e,vs,v,d,f,i=>by
  have g:n*M<ň:=by rw[f0,fN,fY] at y; omega
  have a:(jG L n (start S N)).length=N:=by rw[ŋ,ü]
  rw[xr]
  cases f with
  |nil h =>
   have D:=yv o a v (j v h).1;have h2:=Bw o j s n g e [] v 0 (.nil h) (by simp);omega
  | @step vs u _ m d f r =>
   have h2:=Bw o j s n g e vs u d f (by simpa using i);have C:=f.high s;have z:(vs.length:Int)*M<=n*M:=eP (by simp at i; omega) e;have:=Bx o a u v m r (by omega);omega
def EI {L:y5 Lk} {S:Int->Bool} {N:Nat} {M:Int} {p:Int->Int} (C:Pot L p) (e:InR L N) (o:∀v,S v=true->0<=v/\v<N) (G:∀l∈L,l.2.2<=M) (r:0<=M) (F:N*M<ň) (n:Nat) (u:N<=n+1):Vw L (fun v=>S v=true) N (gv (jG L n (start S N))):=by
 have i:Att L (fun v=>S v=true) N (start S N):=fun v h0 a y=>by
  rw[gF S h0 a] at y ⊢
  split
  ·rename_i h; exact⟨[],.nil h⟩
  ·rename_i h; rw[if_neg h] at y; omega
 have g:∀v:Int,0<=v->v<N->gv (jG L n (start S N)) v<=ň:=fun v h0 a=>by
  have:=yu e n (ü S N) v h0;rw[gF S h0 a] at this
  have O:(0:Int)<=ň:=by decide
  split at this<;>omega
 have f:∀(n:Nat),N<=n+1->∀v vs d,Wl L (fun v=>S v=true) vs v d->gv (jG L n (start S N)) v<=d:=by
  intro n u v vs d z;obtain⟨m,J,a,h2,I⟩:=z.simple C;have Q:=a.short e o I
  have s:0<N:=by omega
  obtain⟨k,rfl⟩:∃k,N=k+1:=⟨N-1,by omega⟩
  have E:(k:Int)*M<ň:=by rw[f0,fN,fY] at F; omega
  have P:=Bw e o G k E r m v J a (by omega);obtain⟨j,rfl⟩:∃j,n=k+j:=⟨n-k,by omega⟩
  have H:∀(j:Nat),gv (jG L (k+j) (start S (k+1))) v<=gv (jG L k (start S (k+1))) v:=by
   intro j
   induction j with
   |zero=>exact cZ _
   |succ j K =>
    rw[<-dR,xr];have:=yv e (x:=jG L (k+j) (start S (k+1))) (by rw[ŋ,ü]) v (a.range e o).1.1;omega
  have:=H j;omega
 exact⟨fun v h0 a D=>I2 e n (ü S N) i v h0 a (by have:=g v h0 a; omega),f n u,g⟩
def Vw.pot {L:y5 Lk} {S:Int->Prop} {N:Nat} {x:Int->Int} (h:Vw L S N x) (d:InR L N) {u v m:Int} (a:(u,v,m)∈L) (f:x u≠ň):x v<=x u+m:=by
 obtain⟨vs,e⟩:=h.att u (d _ a).1.1 (d _ a).1.2 f;exact h.low v _ _ (.step e a)
def ó (b:Ý) (g:é):y5 Lk :=
 [(0,atP (Õ b) [g.1] g.2.1,g.2.2.1+g.2.2.2.1.2),(atP (Õ b) [g.1] g.2.1,0,-(g.2.2.1+g.2.2.2.1.1))] ++
 (List.range ((ß b g).length-1)).flatMap fun(k:Nat)=>[(atP (Õ b) [g.1] g.2.1+k,atP (Õ b) [g.1] g.2.1+k+1,0),(atP (Õ b) [g.1] g.2.1+k+1,atP (Õ b) [g.1] g.2.1+k,iN b g ((ß b g)[k]?.getD 0) ((ß b g)[k+1]?.getD 0))]
def cx (b:Ý) (c:Cmp):Int:=atP (Õ b) (Ě c.2.2.1 c.2.2.2.1) c.2.1
def cy (b:Ý) (c:Cmp):Int:=atP (Õ b) (Ě c.2.2.2.1 c.2.2.1) c.2.1
def Ī (b:Ý) (c:Cmp):y5 Lk:=[(cy b c,cx b c,(pH b c).2),(cx b c,cy b c,-(pH b c).1)]
def þ (b:Ý):y5 Lk:=b.2.1.flatMap (ó b)++b.2.2.2.2.1.flatMap (Ī b)
def ï (b:Ý) (i:Nat) (g:é):y5 (Int×Int):=[(1,(i:Int)),(1,(i:Int))]++(List.range ((ß b g).length-1)).flatMap fun _=>[(2,(i:Int)),(2,(i:Int))]
def Ŋ (b:Ý):y5 (Int×Int):=(b.2.1.mapIdx (ï b)).flatten++(b.2.2.2.2.1.mapIdx fun i _=>[(3,(i:Int)),(3,(i:Int))]).flatten
section
variable {b:Ý}
def El (h:Ğ b) {id a:Int} (d:Rp (iz b) id a=0):(0<=a/\a<=20000)/\∃g,gY b id=some g/\g.2.1<=a:=by
 unfold Rp at d
 split at d
 ·omega
 ·rename_i hd;simp only[dE,Bool.not_eq_false,Yl,inP,bZ,decide_eq_true_eq] at hd;exact⟨hd,pQ h d⟩
def lT {g:é} {d:Int}:d∈ß b g↔d=g.2.1\/(∃c∈b.2.2.2.2.1,(c.2.2.1.contains g.1)≠(c.2.2.2.1.contains g.1)/\c.2.1=d)\/(∃n∈b.2.2.2.2.2,n.1=g.1/\n.2=d):=by
 unfold ß;rw[oh,LL];simp only[List.mem_append,List.mem_singleton,List.mem_map,List.mem_filter];constructor
 ·rintro((h|⟨c,⟨e,h2⟩,a⟩)|⟨n,⟨e,h2⟩,a⟩)
  ·exact .inl h
  ·exact .inr (.inl ⟨c,e,by simpa using h2,a⟩)
  ·exact .inr (.inr ⟨n,e,by simpa using h2,a⟩)
 ·rintro(h|⟨c,e,h2,a⟩|⟨n,e,h2,a⟩)
  ·exact .inl (.inl h)
  ·exact .inl (.inr ⟨c,⟨e,by simpa using h2⟩,a⟩)
  ·exact .inr ⟨n,⟨e,by simpa using h2⟩,a⟩
def Ğ.gaugeR (h:Ğ b) {g:é} (a:g∈b.2.1):Ht g.2.2.2.2.1=true/\(-1000<=g.2.2.2.2.1.1/\g.2.2.2.2.1.1<=1000)/\g.2.2.2.2.1.2<=100/\(1<=g.1/\g.1<=1099511627776)/\(0<=g.2.1/\g.2.1<=20000)/\(1<=g.2.2.1/\g.2.2.1<=1125899906842624)/\(-1073741824<=g.2.2.2.1.1/\g.2.2.2.1.1<=g.2.2.2.1.2/\g.2.2.2.1.2<=1073741824)/\(0<=g.2.2.2.2.2/\g.2.2.2.2.2<=1048576):=(B4 g).1 (h.gauge g a)
def Ğ.day (h:Ğ b) {g:é} (j:g∈b.2.1) {d:Int} (hd:d∈ß b g):g.2.1<=d/\0<=d/\d<=20000:=by
 have o:=h.gaugeR j;have a:=ζ h.ids j;rcases lT.1 hd with rfl|⟨c,l,i,rfl⟩|⟨n,f,i,rfl⟩
 ·have:=o.2.2.2.2.1; omega
 ·have f:=(pN c).1 (h.nums l)
  have m:g.1∈c.2.2.1++c.2.2.2.1:=by
   rw[b8]
   by_cases h2:g.1∈c.2.2.1
   ·exact .inl h2
   ·refine .inr ?_
    have s:c.2.2.1.contains g.1=false:=by simpa using h2
    rw[s] at i
    have:c.2.2.2.1.contains g.1=true:=by cases u:c.2.2.2.1.contains g.1<;>simp_all
    simpa using this
  obtain⟨⟨g',e,r⟩,_⟩:=h.pile l m;rw[a] at e; cases e;have:=f.2.1;omega
 ·obtain⟨h2,g',e,r⟩:=El h (h.looks n f);rw[i,a] at e; cases e;omega
def sd (g:é):g.2.1∈ß b g:=lT.2 (.inl rfl)
def LK (h:Ğ b) {g:é} (e:g∈b.2.1):(ß b g).length<=59:=by
 have i:∀l:y5 é,g∈l->(ß b g).length<=(l.flatMap fun g=>(ß b g).map fun d=>((g.1,d):Int×Int)).length:=by
  intro l
  induction l with
  |nil=>intro e; cases e
  |cons a t f =>
   intro e;rw[cH,b7,dg];rcases b9.1 e with rfl|e
   ·omega
   ·have:=f e; omega
 have:=i b.2.1 e;have:=h.nodes;unfold Õ at this;omega
def Zd {p:y5 Int} {d:Int}:0<=atP (Õ b) p d/\atP (Õ b) p d<=(Õ b).length:=by
 unfold atP
 cases p with
 |nil=>simp
 |cons x t =>
  try dsimp only
  cases h:iC (Õ b) x d with
  |none=>simp
  |some j=>have:=(jo h).1; dsimp only; omega
def Ez (h:Ğ b) {c:Cmp} (d:c∈b.2.2.2.2.1):(-1125904000000000<=(pH b c).1/\(pH b c).1<=1125904000000000)/\(-1125904000000000<=(pH b c).2/\(pH b c).2<=1125904000000000):=by
 obtain⟨f,e⟩:=h.rates d;have a:=(pN c).1 (h.nums d);have ha:=ξ a.2.2.2.2.2.1;have hb:=ξ a.2.2.2.2.2.2;have o:=h.film;obtain⟨l,j⟩:=RZ (PK f e) a.2.2.2.2.1;have r:=GH (b:=b) (c:=c) (by omega) (by omega) (by omega) (by omega) (by omega) (by omega);have i:uP (mf b c).1 2000000000 10000:=l;have g:uP (mf b c).2 2000000000 10000:=j;have u:=J6 i;have s:=GC g;have n:=a.2.2.1;have m:=a.2.2.2.1;unfold pH
 try dsimp only
 omega
def rM (h:Ğ b) {g:é} (e:g∈b.2.1) {f t:Int} (i:0<=f):0<=iN b g f t/\iN b g f t<=12*(20001*1048576)+40*1048576:=by
 have a:=(h.gaugeR e).2.2.2.2.2.2.2;have o:=pq (id:=g.1) (t:=t) i (x:=b.2.2.2.1) fun l d=>vl h d;have h2:(b.2.2.2.1.length:Int)*(20001*1048576)<=12*(20001*1048576):=eP (by have:=h.nL; omega) (by omega)
 have n:(ť b g.1 f t).length<=40:=by
  unfold ť;rw[List.length_map];exact Nat.le_trans (List.length_filter_le _ _) h.nU
 have m:=DQ (ť b g.1 f t)
 have j:0<=((Ml (ť b g.1 f t)).length:Int)*g.2.2.2.2.2/\((Ml (ť b g.1 f t)).length:Int)*g.2.2.2.2.2<=40*1048576 :=
  ⟨fT (by omega) a.1,ff (by omega) a.2 a.1 (by omega)⟩
 unfold iN;omega
end
def kw {α β:Type} (f:Nat->α->β) {l:y5 α} {i:Nat} {a:α} (h:l[i]?=some a):(l.take (i+1)).mapIdx f=(l.take i).mapIdx f++[f i a]:=by
 have hi:i<l.length:=(ca.1 h).1
 have:(l.take i).length=i:=by rw[cw]; omega
 rw[take_succ h,List.mapIdx_append];simp[this]
def Bu {α:Type} (f:Nat->y5 α) (j:Nat):(List.range (j+1)).flatMap f=(List.range j).flatMap f++f j:=by
 rw[List.range_succ,fo]; simp
def Ξ {α:Type} (f:Nat->y5 α) (n:Nat) (h:∀k,(f k).length=2):((List.range n).flatMap f).length=2*n:=by
 induction n with
 |zero=>rfl
 |succ n a=>rw[Bu,b7,a,h]; omega
set_option maxHeartbeats 2000000 in
def aav {b:Ý} (h:Ğ b):Ed b=some (b,Õ b,(((Õ b).length:Int)+1,þ b),Ŋ b):=by
 unfold Ed Ss;have hN:=h.nodes;have hG:=h.nG;have hC:=h.nC;rw[KJ h.size,À,è,ð (by omega) (by omega)]
 -- lengths of what comes
 have gl:∀g∈b.2.1,(ó b g).length<=120/\∀i,(ï b i g).length<=120:=by
  intro g a;have:=LK h a;constructor
  ·unfold ó;rw[List.length_append,Ξ _ _ (fun _=>rfl)];simp only[List.length_cons,List.length_nil]; omega
  ·intro i;unfold ï;rw[List.length_append,Ξ _ _ (fun _=>rfl)];simp only[List.length_cons,List.length_nil]; omega
 have s:∀i,((b.2.1.take i).flatMap (ó b)).length<=1440/\(((b.2.1.take i).mapIdx (ï b)).flatten).length<=1440:=by
  intro i
  induction i with
  |zero=>simp
  |succ i n =>
   have o:∀i,i<=b.2.1.length->((b.2.1.take i).flatMap (ó b)).length<=i*120/\(((b.2.1.take i).mapIdx (ï b)).flatten).length<=i*120:=by
    intro i
    induction i with
    |zero=>intro _; simp
    |succ i n =>
     intro hi;have n:=n (by omega);have a:b.2.1[i]?=some b.2.1[i]:=bY hi;have h2:=gl _ (ci a);have h3:=h2.2 i;rw[kw _ a,take_succ a,fo,fp,b7,b7];simp only[cH,fH,cn,fD,fZ];omega
   rcases cW b.2.1.length (i+1) with G|G
   ·rw[dv (by omega)];have:=o b.2.1.length (bX _);rw[f6] at this;omega
   ·have:=o (i+1) G;omega
 refine Ġ b.2.1 (fun i=>((b.2.1.take i).flatMap (ó b),((b.2.1.take i).mapIdx (ï b)).flatten)) _ rfl (fun i g hi a kn=>?_) (fun kn=>?_)
 ·try dsimp only
  unfold rB;have e:=List.mem_of_getElem? a;have z:=h.gaugeR e;have hd:=LK h e;have r:=s i;have P:=Zd (b:=b) (p:=[g.1]) (d:=g.2.1);rw[Ó hi,Ç a];rw[show mM ((b.1.1,b.1.2),b.2.1,b.2.2.1,b.2.2.2.1,b.2.2.2.2.1,b.2.2.2.2.2) g=mM b g from rfl,Yj h.size,À];rw[adR _ _ _ (by dsimp only; omega),À]
  try dsimp only
  have Z:=z.2.2.2.2.2.1;have Y:=z.2.2.2.2.2.2.1;rw[ð (by omega) (by omega),ð (by omega) (by omega),ð (by omega) (by omega),Ò (by simp only[cj,cz]; omega),Am.iff_true,Ò (by simp only[cj,cz]; omega),Am.iff_true]
  refine gL (fun x:Int×y5 Lk×y5 (Int×Int)=>∃j:Nat,j+1<=(ß b g).length/\x.1=(j:Int)+1 /\
   x.2.1=(b.2.1.take i).flatMap (ó b)++([(0,atP (Õ b) [g.1] g.2.1,g.2.2.1+g.2.2.2.1.2),(atP (Õ b) [g.1] g.2.1,0,-(g.2.2.1+g.2.2.2.1.1))] ++
    (List.range j).flatMap fun(k:Nat)=>[(atP (Õ b) [g.1] g.2.1+k,atP (Õ b) [g.1] g.2.1+k+1,0),(atP (Õ b) [g.1] g.2.1+k+1,atP (Õ b) [g.1] g.2.1+k,iN b g ((ß b g)[k]?.getD 0) ((ß b g)[k+1]?.getD 0))]) /\
   x.2.2=((b.2.1.take i).mapIdx (ï b)).flatten++([(1,(i:Int)),(1,(i:Int))]++(List.range j).flatMap fun _=>[(2,(i:Int)),(2,(i:Int))])) (fun x=>(ß b g).length-x.1.toNat) ?_
   ⟨0,List.length_pos_of_mem (sd g),rfl,by simp,by simp⟩
  rintro⟨W,K,ss⟩ ⟨j,hj,J,y,v⟩;dsimp only at J y v ⊢;subst J
  have F:K.length<=1562:=by
   rw[y,b7,b7,Ξ _ _ (fun _=>rfl)];simp only[cj,cz]; omega
  have E:ss.length<=1562:=by
   rw[v,b7,b7,Ξ _ _ (fun _=>rfl)];simp only[cj,cz]; omega
  rcases cW (j+1) (ß b g).length with f|O
  ·refine .inr ⟨((j:Int)+1+1,_,_),⟨j+1,f,by push_cast; rfl,rfl,rfl⟩,by dsimp only; omega,fun l=>?_⟩
   try dsimp only
   unfold rA
   have I:(ß b g)[j]?=some ((ß b g)[j]?.getD 0):=by rw[bY (by omega)]; rfl
   have H:(ß b g)[j+1]?=some ((ß b g)[j+1]?.getD 0):=by rw[bY f]; rfl
   have R:=h.day e (ci I);have d2:=h.day e (ci H);have lb:=rM h e (t:=(ß b g)[j+1]?.getD 0) R.2.1
   have Q:((j:Int)+1)=((j+1:Nat):Int):=by push_cast; rfl
   rw[Q,Ó f,ð (by omega) (by omega),ð (by omega) (by omega),ð (by omega) (by omega),ð (by omega) (by omega)];rw[show(((j+1:Nat):Int)-1)=((j:Nat):Int) by omega,Ç I,Ç H];rw[show vC ((b.1.1,b.1.2),b.2.1,b.2.2.1,b.2.2.2.1,b.2.2.2.2.1,b.2.2.2.2.2) (g.1,g.2.1,g.2.2.1,(g.2.2.2.1.1,g.2.2.2.1.2),(g.2.2.2.2.1.1,g.2.2.2.2.1.2),g.2.2.2.2.2) ((ß b g)[j]?.getD 0) ((ß b g)[j+1]?.getD 0)=vC b g ((ß b g)[j]?.getD 0) ((ß b g)[j+1]?.getD 0) from rfl];rw[ac9 h z.2.2.2.2.2.2.2 ⟨by omega,by omega⟩ ⟨by omega,by omega⟩,À,ð (by omega) (by omega),ð (by omega) (by omega),Ò (by simp only[cj,cz]; omega),Am.iff_true,Ò (by simp only[cj,cz]; omega),Am.iff_true,Í f (by omega)];rw[Bu,Bu,y,v]
   have V:atP (Õ b) [g.1] g.2.1+((j+1:Nat):Int)-1=atP (Õ b) [g.1] g.2.1+(j:Int):=by push_cast; omega
   have U:atP (Õ b) [g.1] g.2.1+((j+1:Nat):Int)=atP (Õ b) [g.1] g.2.1+(j:Int)+1:=by push_cast; omega
   have a3:0-(0-iN b g ((ß b g)[j]?.getD 0) ((ß b g)[j+1]?.getD 0))=iN b g ((ß b g)[j]?.getD 0) ((ß b g)[j+1]?.getD 0):=by omega
   rw[V,U,a3];simp only[cq]
  ·refine .inl fun l=>?_
   have C:j+1=(ß b g).length:=by omega
   unfold rA;rw[show((j:Int)+1)=(((ß b g).length:Nat):Int) by rw[<-C]; push_cast; rfl,á];dsimp only;rw[Í hi (by omega)];rw[kw _ a,take_succ a,List.flatMap_append,List.flatten_append,y,v,show j=(ß b g).length-1 by omega];simp only[List.flatMap_cons,List.flatMap_nil,List.append_nil,List.flatten_cons,List.flatten_nil];rfl
 ·try dsimp only
  unfold rB;rw[á,List.take_length];have r:=s b.2.1.length;rw[List.take_length] at r
  have T:∀i,i<=b.2.2.2.2.1.length->((b.2.2.2.2.1.take i).flatMap (Ī b)).length=2*i/\(((b.2.2.2.2.1.take i).mapIdx fun i _=>[((3:Int),(i:Int)),((3:Int),(i:Int))]).flatten).length=2*i:=by
   intro i
   induction i with
   |zero=>intro _; simp
   |succ i n =>
    intro hi;have n:=n (by omega);have a:b.2.2.2.2.1[i]?=some b.2.2.2.2.1[i]:=bY hi;rw[kw _ a,take_succ a,fo,fp,b7,b7];simp only[cH,fH,cn,fD,fZ,Ī,cj,cz];omega
  refine Ġ b.2.2.2.2.1 (fun i=>(b.2.1.flatMap (ó b)++(b.2.2.2.2.1.take i).flatMap (Ī b),(b.2.1.mapIdx (ï b)).flatten++((b.2.2.2.2.1.take i).mapIdx fun i _=>[((3:Int),(i:Int)),((3:Int),(i:Int))]).flatten)) _ (by simp) (fun i c hi u l=>?_) (fun l=>?_)
  ·try dsimp only
   unfold rz;have m:=List.mem_of_getElem? u;have D:=(pN c).1 (h.nums m);have ha:=ξ D.2.2.2.2.2.1;have hb:=ξ D.2.2.2.2.2.2;have X:=Ez h m;have c1:=T i (by omega);rw[Ó hi,Ç u,BV (by omega) (by omega),À,adR _ _ _ (by dsimp only; omega),À,BV (by omega) (by omega),À,adR _ _ _ (by dsimp only; omega),À];rw[show vB ((b.1.1,b.1.2),b.2.1,b.2.2.1,b.2.2.2.1,b.2.2.2.2.1,b.2.2.2.2.2) c=vB b c from rfl,h.says m,À];rw[ð (by omega) (by omega),Ò (by simp only[List.length_append,List.length_cons,List.length_nil]; omega),Am.iff_true,Ò (by simp only[List.length_append,List.length_cons,List.length_nil]; omega),Am.iff_true,Í hi (by omega),kw _ u,take_succ u,List.flatMap_append,List.flatten_append];simp only[List.flatMap_cons,List.flatMap_nil,List.append_nil,List.flatten_cons,List.flatten_nil,List.append_assoc,Int.zero_sub];rfl
  ·try dsimp only
   unfold rz;rw[á,List.take_length];rfl
section
variable {ρ:Type}
def wv (w:y5 Bool) (v:Int):Bool:=w[v.toNat]?.getD false
def Rl {w:y5 Bool} {u v:Int} (e:0<=u) (d:0<=v) (h:u.toNat<w.length) (y:Bool):wv (w.set u.toNat y) v=if v=u then y else wv w v:=by
 unfold wv;rw[List.getElem?_set]
 by_cases a:v=u
 ·subst a; simp[h]
 ·have:¬u.toNat=v.toNat:=by omega
  simp[a,this]
def i8 {x:y5 Int} {v:Int} (h:v.toNat<x.length) (f:Int->x9 ρ):gO x v.toNat f=f (gv x v):=qU (SS h) f
def KL {w:y5 Bool} {v:Int} (h:v.toNat<w.length) (f:Bool->x9 ρ):gO w v.toNat f=f (wv w v):=by
 refine qU ?_ f;unfold wv; rw[List.getElem?_eq_getElem h]; rfl
def gX {v:Int} {n:Nat} (h0:0<=v) (a:v<n) (x:x9 ρ):ä ((ile 0 v)&&(ilt v (n:Int))) x=x:=by
 have:((ile 0 v)&&(ilt v (n:Int)))=true:=by simp[ile,ilt,h0,a]
 rw[this,Am.iff_true]
end
def nN (n least:Int):y5 Lk->y5 Int->y5 Bool->y5 Int->Bool×y5 Int×y5 Bool×y5 Int
 |[],x,w,q=>(true,x,w,q)
 |l::t,x,w,q =>
  if l.1≠n then nN n least t x w q else
  if gv x l.2.1<=gv x n+l.2.2 then nN n least t x w q else
  if gv x n+l.2.2<least then(false,x.set l.2.1.toNat (gv x n+l.2.2),w,q) else
  if wv w l.2.1 then nN n least t (x.set l.2.1.toNat (gv x n+l.2.2)) w q else nN n least t (x.set l.2.1.toNat (gv x n+l.2.2)) (w.set l.2.1.toNat true) (q++[l.2.1])
structure κ (L:y5 Lk) (N:Nat) (M:Int):Prop where
 inr:InR L N
 noloop:∀l∈L,l.1≠l.2.1
 most:∀l∈L,-M<=l.2.2/\l.2.2<=M
 len:L.length<=400
 nodes:N<=1000
 m0:0<=M
 m1:M<=4503599627370496
set_option maxHeartbeats 1000000 in
def aaI {ρ:Type} {L:y5 Lk} {N:Nat} {M:Int} (G:κ L N M) {n least:Int} (R:0<=n/\n<N) {x:y5 Int} {w:y5 Bool} {q:y5 Int} (hx:x.length=N) (hw:w.length=N) (hq:q.length<=1000000)
 (hb : -2305843009213693952<=gv x n/\gv x n<=2305843009213693952) (V:(Val (.pair .bool (.pair (.slice tI) (.pair (.slice .bool) (.slice tI)))))->x9 ρ) (U:(Val (.pair (.slice tI) (.pair (.slice .bool) (.slice tI))))->x9 ρ) :
 Î (fun(e:(Val (.pair tI (.pair (.slice tI) (.pair (.slice .bool) (.slice tI)))))) E=>gV [] least n L (Û L) e.1 e.2.1 e.2.2.1 e.2.2.2 (fun P O K J=>E (P,O,K,J)) V U) ((0:Int),x,w,q) =
  match nN n least L x w q with
  |(true,r)=>U r
  |(false,r)=>V (false,r):=by
 have Y:=G.len
 refine Lh L (fun i (s:y5 Int×y5 Bool×y5 Int) t=>match nN n least t s.1 s.2.1 s.2.2 with|(true,r)=>U r|(false,r)=>V (false,r))
  (fun i s=>s.1.length=N/\s.2.1.length=N/\gv s.1 n=gv x n/\s.2.2.length<=1000000+i) (fun s hs kn=>?_) (fun i l t s hd hi Z hI kn F=>?_) (s:=(x,w,q)) ⟨hx,hw,rfl,by simpa using hq⟩
 ·try dsimp only
  unfold gV;rw[á];rfl
 ·obtain⟨y,u,p⟩:=s;obtain⟨H,h2,I,h4⟩:=hI;dsimp only at H h2 I h4 F ⊢;have a:l∈L:=List.mem_of_getElem? Z;have z:=G.inr l a;have hm:=G.most l a;have hm1:=G.m1;have Q:=G.noloop l a;unfold gV;rw[Ó hi,Ç Z];unfold nN
  by_cases d:l.1=n
  ·have T:ine l.1 n=false:=by simp[ine,d]
   rw[Ö T];have e1:∀(f:Bool->x9 ρ) (g:x9 ρ),Mm (k:=tI) (v:=.bool) (i:Int) [] f g=g:=fun f g=>rfl;rw[e1,if_neg (by simp[d])]
   have X:n.toNat<y.length:=by omega
   have D:l.2.1.toNat<y.length:=by omega
   have W:l.2.1.toNat<u.length:=by omega
   rw[gX R.1 (by omega),i8 X,ð (by omega) (by omega),gX z.2.1 (by omega),i8 D,ģ]
   by_cases m:gv y l.2.1<=gv y n+l.2.2
   ·rw[if_pos (by simpa[ige] using m),if_pos m,Í hi (by omega)];exact F (y,u,p) ⟨H,h2,I,by dsimp only; omega⟩
   ·rw[if_neg (by simpa[ige] using m),if_neg m]
    have o:gv (y.set l.2.1.toNat (gv y n+l.2.2)) n=gv x n:=by
     rw[oU z.2.1 R.1 D,if_neg (fun h=>Q (d.trans h)),I]
    have C:gv (y.set l.2.1.toNat (gv y n+l.2.2)) l.2.1=gv y n+l.2.2:=by
     rw[oU z.2.1 z.2.1 D,if_pos rfl]
    rw[gX R.1 (by omega),i8 X,ð (by omega) (by omega),gX z.2.1 (by omega),i8 D];rw[show(ē (List.set y l.2.1.toNat (gv y n+l.2.2)))=((y.length:Nat):Int) by simp[ē]];rw[gX z.2.1 (by omega),i8 (by simpa using D),C,ģ]
    by_cases j:gv y n+l.2.2<least
    ·rw[if_pos (by simpa[ilt] using j),if_pos j]
    ·rw[if_neg (by simpa[ilt] using j),if_neg j,gX z.2.1 (by omega),KL W,ģ]
     cases hwv:wv u l.2.1 with
     |true =>
      rw[if_neg (by simp),if_pos rfl,Í hi (by omega)];exact F (y.set l.2.1.toNat (gv y n+l.2.2),u,p) ⟨by simpa using H,h2,o,by dsimp only; omega⟩
     |false =>
      rw[if_pos (by simp),if_neg (by simp),Ò (by simp only[cX]; omega),Am.iff_true,gX z.2.1 (by omega),KL W,Í hi (by omega)];exact F (y.set l.2.1.toNat (gv y n+l.2.2),u.set l.2.1.toNat true,p++[l.2.1]) ⟨by simpa using H,by simpa using h2,o,by simp only[b7,cX]; omega⟩
  ·have T:ine l.1 n=true:=by simp[ine,d]
   rw[à T,if_pos d,Í hi (by omega)];exact F (y,u,p) ⟨H,h2,I,by dsimp only; omega⟩
structure abM (N:Nat) (n least:Int) (L:y5 Lk) (x:y5 Int) (q:y5 Int) (x':y5 Int) (w':y5 Bool) (q':y5 Int):Prop where
 lx:x'.length=N
 lw:w'.length=N
 same:gv x' n=gv x n
 le:∀v:Int,0<=v->v<N->gv x' v<=gv x v
 link:∀v m,(n,v,m)∈L->gv x' v<=gv x n+m
 chg:∀v:Int,0<=v->v<N->gv x' v=gv x v\/(v∈q'/\gv x' v<gv x v/\∃m,(n,v,m)∈L/\gv x' v=gv x n+m/\least<=gv x' v)
 new:∃l,q'=q++l/\∀v∈l,(0<=v/\v<N)/\gv x' v<gv x v
 nodup:q'.Nodup
 waits:∀v:Int,0<=v->v<N->(wv w' v=true↔v∈q')
def ju {N:Nat} {n least:Int} (Q:0<=n/\n<N):∀{L:y5 Lk},InR L N->(∀l∈L,l.1≠l.2.1)->∀{x:y5 Int} {w:y5 Bool} {q:y5 Int},x.length=N->w.length=N->q.Nodup->(∀v:Int,0<=v->v<N->(wv w v=true↔v∈q)) ->
 ∀{D:y5 Int} {w':y5 Bool} {H:y5 Int},nN n least L x w q=(true,D,w',H)->abM N n least L x q D w' H
 |[],_,_,x,w,q,O,I,J,d,D,w',H,h=>by
  cases h;exact⟨O,I,rfl,fun _ _ _=>cZ _,fun _ _ h=>(by cases h),fun _ _ _=>.inl rfl,⟨[],by simp,fun _ h=>by cases h⟩,J,d⟩
 |l::t,hL,P,x,w,q,O,I,J,d,D,w',H,h=>by
  have u:InR t N:=fun l hl=>hL l (by simp[hl]);have s:∀l∈t,l.1≠l.2.1:=fun l hl=>P l (by simp[hl]);have f:=hL l (by simp);have hl0:=P l (by simp);unfold nN at h
  split at h
  ·rename_i G;have a:=ju Q u s O I J d h
   exact⟨a.lx,a.lw,a.same,a.le,fun v m j=>by
    rcases b9.1 j with rfl|j
    ·exact(G rfl).elim
    ·exact a.link v m j,fun v h0 y=>(a.chg v h0 y).imp id fun⟨C,o,m,U,K⟩=>⟨C,o,m,by simp[U],K⟩,a.new,a.nodup,a.waits⟩
  ·rename_i G
   have T:l.1=n:=by simpa using G
   split at h
   ·rename_i hle;have a:=ju Q u s O I J d h
    exact⟨a.lx,a.lw,a.same,a.le,fun v m j=>by
     rcases b9.1 j with rfl|j
     ·have:=a.le v f.2.1 f.2.2; simp only at hle; omega
     ·exact a.link v m j,fun v h0 y=>(a.chg v h0 y).imp id fun⟨C,o,m,U,K⟩=>⟨C,o,m,by simp[U],K⟩,a.new,a.nodup,a.waits⟩
   ·rename_i hgt
    split at h
    ·cases h
    ·rename_i hls
     have tt:l.2.1.toNat<x.length:=by omega
     have tw:l.2.1.toNat<w.length:=by omega
     have hy:(x.set l.2.1.toNat (gv x n+l.2.2)).length=N:=by simpa using O
     have E:gv (x.set l.2.1.toNat (gv x n+l.2.2)) n=gv x n:=by
      rw[oU f.2.1 Q.1 tt,if_neg (fun h=>hl0 (T.trans h))]
     have i:∀v,0<=v->gv (x.set l.2.1.toNat (gv x n+l.2.2)) v=if v=l.2.1 then gv x n+l.2.2 else gv x v:=fun v h0=>oU f.2.1 h0 tt _
     have hlm:(n,l.2.1,l.2.2)∈l::t:=by rw[<-T]; simp
     -- what both ways have in common
     have fin:∀{w1:y5 Bool} {V:y5 Int},abM N n least t (x.set l.2.1.toNat (gv x n+l.2.2)) V D w' H->l.2.1∈V->(∃W,V=q++W/\∀v∈W,v=l.2.1)->abM N n least (l::t) x q D w' H:=by
      intro w1 V a R Y;obtain⟨new,z,Z⟩:=a.new;obtain⟨W,hl',hlv⟩:=Y
      have X:gv D l.2.1<=gv x n+l.2.2:=by
       have:=a.le l.2.1 f.2.1 f.2.2;rw[i _ f.2.1,if_pos rfl] at this;exact this
      refine⟨a.lx,a.lw,a.same.trans E,fun v h0 y=>?_,fun v m j=>?_,fun v h0 y=>?_,⟨W++new,by rw[z,hl',cq],fun v r=>?_⟩,a.nodup,a.waits⟩
      ·have:=a.le v h0 y;rw[i v h0] at this
       split at this
       ·rename_i e; subst e; omega
       ·exact this
      ·rcases b9.1 j with rfl|j
       ·exact X
       ·have:=a.link v m j
        rwa [E] at this
      ·rcases a.chg v h0 y with g|⟨C,o,m,U,K,g5⟩
       ·rw[i v h0] at g
        split at g
        ·rename_i e;subst e;exact .inr ⟨by rw[z]; exact dh _ R,by omega,l.2.2,hlm,g,by omega⟩
        ·exact .inl g
       ·rw[i v h0] at o;rw[E] at K;refine .inr ⟨C,?_,m,by simp[U],K,g5⟩
        split at o
        ·rename_i e; subst e; omega
        ·exact o
      ·rcases b8.1 r with r|r
       ·rw[hlv v r]; exact⟨f.2,by omega⟩
       ·obtain⟨C,o⟩:=Z v r;rw[i v C.1] at o;refine⟨C,?_⟩
        split at o
        ·rename_i e; subst e; omega
        ·exact o
     split at h
     ·rename_i F;exact fin (w1:=w) (ju Q u s hy I J d h) ((d _ f.2.1 f.2.2).1 F) ⟨[],by simp,fun _ h=>by cases h⟩
     ·rename_i F;have hnq:l.2.1∉q:=fun hc=>F ((d _ f.2.1 f.2.2).2 hc);refine fin (w1:=w.set l.2.1.toNat true) (ju Q u s hy (by simpa using I) ?_ ?_ h) (by simp) ⟨[l.2.1],rfl,fun v r=>by simpa using r⟩
      ·rw[fX];exact⟨J,by simp,fun a ha b hb=>by simp at hb; subst hb; exact fun e=>hnq (e▸ha)⟩
      ·intro v h0 y;rw[Rl f.2.1 h0 tw]
       by_cases r:v=l.2.1
       ·simp[r]
       ·simp only[r,if_false,b8,ce,or_false];exact d v h0 y
def lO {n least:Int}:∀{L:y5 Lk},(∀l∈L,l.1≠l.2.1)->(∀l∈L,0<=l.2.1)->0<=n->∀{x:y5 Int} {w:y5 Bool} {q:y5 Int} {r},nN n least L x w q=(false,r)->∃v m,(n,v,m)∈L/\gv x n+m<least
 |[],_,_,_,x,w,q,r,h=>by cases h
 |l::t,f,h0,i,x,w,q,r,h=>by
  have a:∀l∈t,l.1≠l.2.1:=fun l u=>f l (by simp[u]);have d:∀l∈t,0<=l.2.1:=fun l u=>h0 l (by simp[u]);have g:(∃v m,(n,v,m)∈t/\gv x n+m<least)->∃v m,(n,v,m)∈l::t/\gv x n+m<least:=fun⟨v,m,z,y⟩=>⟨v,m,by simp[z],y⟩;unfold nN at h
  split at h
  ·exact g (lO a d i h)
  ·rename_i j
   have s:l.1=n:=by simpa using j
   split at h
   ·exact g (lO a d i h)
   ·split at h
    ·rename_i o;exact⟨l.2.1,l.2.2,by rw[<-s]; simp,o⟩
    ·have e:gv (x.set l.2.1.toNat (gv x n+l.2.2)) n=gv x n:=by
      unfold gv;rw[List.getElem?_set];have C:=f l (by simp);have h2:=h0 l (by simp)
      have:¬l.2.1.toNat=n.toNat:=by omega
      simp[this]
     split at h
     ·have:=lO a d i h;rw[e] at this;exact g this
     ·have:=lO a d i h;rw[e] at this;exact g this
def R0 {ρ:Type} {L:y5 Lk} {N:Nat} {M:Int} (l:κ L N M) {n least:Int} (d:0<=n/\n<N) {x:y5 Int} {w:y5 Bool} {t rest:y5 Int} (o:x.length=N) (s:w.length=N) (F:t.length=N) (v:rest.length<=1000000)
 (hb : -2305843009213693952<=gv x n/\gv x n<=2305843009213693952) (u:0<=gv t n/\gv t n<=1000000) (kn:y5 Int->y5 Bool->y5 Int->y5 Int->x9 ρ) (j:(Val (.pair .bool (.pair (.slice tI) (.pair (.slice .bool) (.pair (.slice tI) (.slice tI))))))->x9 ρ) :
 Ę [] least (N:Int) L x w t (n::rest) kn j =
  if (N:Int)+1<gv t n+1 then j (false,x,w.set n.toNat false,t.set n.toNat (gv t n+1),rest) else
  match nN n least L x (w.set n.toNat false) rest with
  |(true,e,w',i)=>kn e w' (t.set n.toNat (gv t n+1)) i
  |(false,e,w',i)=>j (false,e,w',t.set n.toNat (gv t n+1),i):=by
 have G:=l.nodes
 have E:n.toNat<x.length:=by omega
 have m:n.toNat<w.length:=by omega
 have g:n.toNat<t.length:=by omega
 unfold Ę
 have D:ieq (Û (n::rest)) 0=false:=by
  rw[è];simp only[ieq,cj,beq_eq_false_iff_ne,ne_eq];omega
 have C:ilt (0:Int) (ē (n::rest))=true:=by simp[ilt,ē]
 have z:ile (1:Int) (ē (n::rest))=true:=by simp[ile,ē]; omega
 have y:decide (1+(List.length (n::rest)-1)=List.length (n::rest))=true:=by simp; omega
 rw[Ö D,Į C];rw[show gO (n::rest) 0=fun(f:Int->x9 ρ)=>f n from rfl]
 try dsimp only
 rw[Į z,Į y,gX d.1 (by omega),KL m,gX d.1 (by omega),i8 g,ð (by omega) (by omega),gX d.1 (by omega),i8 g];rw[show(ē (List.set t n.toNat (gv t n+1)))=((t.length:Nat):Int) by simp[ē]];rw[gX d.1 (by omega),i8 (by simpa using g),oU d.1 d.1 g,if_pos rfl,ð (by omega) (by omega),ģ];rw[show List.drop 1 (n::rest)=rest from rfl]
 by_cases a:(N:Int)+1<gv t n+1
 ·rw[if_pos (by simpa[igt] using a),if_pos a]
 ·rw[if_neg (by simpa[igt] using a),if_neg a];rw[aaI l d o (w:=w.set n.toNat false) (by simpa using s) v hb];generalize nN n least L x (w.set n.toNat false) rest=r;obtain⟨b,e,w',i⟩:=r
  cases b<;>rfl
def Wv {ρ:Type} {L:y5 Lk} {N:Int} {least:Int} {x:y5 Int} {w:y5 Bool} {t:y5 Int} (kn:y5 Int->y5 Bool->y5 Int->y5 Int->x9 ρ) (a:(Val (.pair .bool (.pair (.slice tI) (.pair (.slice .bool) (.pair (.slice tI) (.slice tI))))))->x9 ρ) :
 Ę [] least N L x w t [] kn a=a (true,x,w,t,[]):=by
 unfold Ę
 have d:ieq (Û ([]:y5 Int)) 0=true:=by rw[è]; rfl
 rw[à d]
def Lr (N:Nat) (t:y5 Int):Nat:=(t.map fun a=>((N:Int)+2-a).toNat).sum
def SJ (N:Nat):∀(t:y5 Int) (i:Nat) (a b:Int),t[i]?=some a->a<b->a<(N:Int)+2->Lr N (t.set i b)<Lr N t
 |a0::t,0,a,b,h,d,h2=>by
  simp at h; subst h;simp only[Lr,List.set_cons_zero,dC,List.sum_cons];omega
 |a0::t,i+1,a,b,h,d,h2=>by
  have:=SJ N t i a b (by simpa using h) d h2;simp only[Lr] at this;simp only[Lr,List.set_cons_succ,dC,List.sum_cons];omega
def Ol {N:Nat} {t:y5 Int} {n:Int} (a:n.toNat<t.length) (h:gv t n<=(N:Int)+1):Lr N (t.set n.toNat (gv t n+1))<Lr N t :=
 SJ N t n.toNat (gv t n) _ (SS a) (by omega) (by omega)
structure Vv (L:y5 Lk) (S:Int->Prop) (N:Nat) (M:Int) (k:Nat) (A B:y5 Int) (x:y5 Int) (w:y5 Bool) (t q:y5 Int):Prop where
 q_eq:q=A++B
 lx:x.length=N
 lw:w.length=N
 lt:t.length=N
 nodup:q.Nodup
 rng:∀v∈q,0<=v/\v<N
 waits:∀v:Int,0<=v->v<N->(wv w v=true↔v∈q)
 t0:∀v:Int,0<=v->v<N->0<=gv t v/\gv t v<=(k:Int)+1
 tA:∀v∈A,gv t v<=k
 low:∀vs v d,Wl L S vs v d->vs.length<=k->gv x v<=d
 nxt:∀vs u d,Wl L S vs u d->vs.length<=k->u∉A->∀v m,(u,v,m)∈L->gv x v<=d+m
 rel:∀u:Int,0<=u->u<N->u∉q->gv x u≠ň->∀v m,(u,v,m)∈L->gv x v<=gv x u+m
 att:∀v:Int,0<=v->v<N->gv x v≠ň->∃vs,Wl L S vs v (gv x v)
 bd:∀v:Int,0<=v->v<N->gv x v=ň\/gv x v<=((k:Int)+1)*M
 bA:∀v∈A,gv x v<=(k:Int)*M
 fin:∀v∈q,gv x v<ň
 kN:k+1<=N
 last:k+1=N->B=[]
section
variable {L:y5 Lk} {S:Int->Prop} {N:Nat} {M:Int} {p:Int->Int} {k:Nat} {A B x:y5 Int} {w:y5 Bool} {t q:y5 Int}
def DY {a b:Nat} {M:Int} (h:a<=b) (d:0<=M):(a:Int)*M<=(b:Int)*M:=eP (by omega) d
def Wl.lt_free (a:κ L N M) (g:N*M<ň) {vs:y5 Int} {v d:Int} (e:Wl L S vs v d) (h:vs.length<=N):d<ň:=by
 have i:=e.high fun l f=>(a.most l f).2;have h2:=DY h a.m0;omega
def Vv.next (s:κ L N M) (r:N*M<ň) (D:∀v,S v->0<=v/\v<N) (h:Vv L S N M k [] B x w t q) (F:B≠[]):Vv L S N M (k+1) B [] x w t q:=by
 have E:=s.m0
 have j:q=B:=by simpa using h.q_eq
 have G:k+1≠N:=fun e=>F (h.last e);have C:=h.kN
 have a:∀vs v d,Wl L S vs v d->vs.length<=k+1->gv x v<=d:=by
  intro vs v d g o
  cases g with
  |nil z=>exact h.low [] v 0 (.nil z) (by simp)
  | @step vs u _ m d g i=>exact h.nxt vs u d g (by simpa using o) (by simp) v m i
 refine⟨by simp[j],h.lx,h.lw,h.lt,h.nodup,h.rng,h.waits,fun v h0 f=>⟨(h.t0 v h0 f).1,by have:=(h.t0 v h0 f).2; push_cast; omega⟩,fun v n=>?_,a,fun vs u d g o y v m i=>?_,h.rel,h.att,fun v h0 f=>?_,fun v n=>?_,h.fin,by omega,fun _=>rfl⟩
 ·have:=h.rng v (by rw[j]; exact n);have:=(h.t0 v this.1 this.2).2;push_cast; omega
 ·have f:=a vs u d g o;have h2:=g.lt_free s r (by omega);have l:=(g.range s.inr D).1;have:=h.rel u l.1 l.2 (by rw[j]; exact y) (by omega) v m i;omega
 ·rcases h.bd v h0 f with h2|h2
  ·exact .inl h2
  ·refine .inr ?_;have:=DY (show k+1<=k+1+1 by omega) E;push_cast at this ⊢;omega
 ·have f:=h.rng v (by rw[j]; exact n);have h2:=h.fin v (by rw[j]; exact n);rcases h.bd v f.1 f.2 with l|l
  ·omega
  ·push_cast; exact l
def Vv.step {n:Int} {O:y5 Int} {least:Int} {I:y5 Int} {w':y5 Bool} {q':y5 Int} (G:κ L N M) (hNM:N*M<ň) (hp:Pot L p) (hS:∀v,S v->0<=v/\v<N) (h:Vv L S N M k (n::O) B x w t q)
 (ha:abM N n least L x (O++B) I w' q'):∃B',Vv L S N M k O B' I w' (t.set n.toNat (gv t n+1)) q':=by
 have hM:=G.m0
 have z:q=n::(O++B):=by simpa using h.q_eq
 have K:=h.kN;have s:=h.rng n (by rw[z]; simp);have hnf:=h.fin n (by rw[z]; simp)
 have V:n∉O++B:=by have:=h.nodup; rw[z,eJ] at this; exact this.1
 have U:n.toNat<t.length:=by have:=h.lt; omega
 have C:∀v,0<=v->gv (t.set n.toNat (gv t n+1)) v=if v=n then gv t n+1 else gv t v:=fun v h0=>oU s.1 h0 U _
 have hkM:((k:Int)+1)*M<ň:=by
  have:=DY K hM;push_cast at this;omega
 have H:∀v:Int,0<=v->v<N->gv x v<=ň:=fun v h0 a=>by rcases h.bd v h0 a with h2|h2<;>omega
 obtain⟨l,Q,E⟩:=ha.new
 have D:∀v:Int,0<=v->v<N->gv I v≠ň->∃vs,Wl L S vs v (gv I v):=by
  intro v h0 a J;rcases ha.chg v h0 a with g|⟨_,_,m,Z,Y,_⟩
  ·rw[g] at J ⊢; exact h.att v h0 a J
  ·obtain⟨vs,y⟩:=h.att n s.1 s.2 (by omega);rw[Y]; exact⟨_,y.step Z⟩
 refine⟨B++l,by rw[Q,cq],ha.lx,ha.lw,by rw[eG]; exact h.lt,ha.nodup,fun v f=>?_,ha.waits,fun v h0 a=>?_,fun v f=>?_,fun vs v d y j=>?_,fun vs u d y j P v m i=>?_,
  fun u h0 a P hf v m i=>?_,D,fun v h0 a=>?_,fun v f=>?_,fun v f=>?_,K,fun hk=>?_⟩
 ·rw[Q] at f;rcases b8.1 f with f|f
  ·exact h.rng v (by rw[z]; simp only[b9]; exact .inr f)
  ·exact(E v f).1
 ·rw[C v h0];have h2:=h.t0 v h0 a
  split
  ·have h3:=h.tA n (by simp);have h4:=h.t0 n s.1 s.2;omega
  ·exact h2
 ·have a:=h.rng v (by rw[z]; simp[f]);rw[C v a.1,if_neg (fun e=>V (by rw[<-e]; simp[f]))];exact h.tA v (by simp[f])
 ·have a:=h.low vs v d y j;have h2:=(y.range G.inr hS).1;have:=ha.le v h2.1 h2.2;omega
 ·have o:=(G.inr _ i).2
  by_cases r:u=n
  ·subst r;have a:=ha.link v m i;have h2:=h.low vs u d y j;omega
  ·have a:=h.nxt vs u d y j (by simp[r,P]) v m i;have:=ha.le v o.1 o.2;omega
 ·have o:=(G.inr _ i).2
  have W:gv I u=gv x u:=by
   rcases ha.chg u h0 a with g|⟨g,_⟩
   ·exact g
   ·exact(P g).elim
  by_cases r:u=n
  ·subst r;have a:=ha.link v m i;omega
  ·have T:u∉q:=by
    rw[z];intro X;rcases b9.1 X with e|X
    ·exact r e
    ·exact P (by rw[Q]; exact dh _ X)
   have h2:=h.rel u h0 a T (by rw[<-W]; exact hf) v m i;have:=ha.le v o.1 o.2;omega
 ·rcases ha.chg v h0 a with g|⟨_,_,m,Z,Y,_⟩
  ·rw[g]; exact h.bd v h0 a
  ·have h2:=h.bA n (by simp);have h3:=(G.most _ Z).2;simp only at h3;refine .inr ?_;rw[Y,fN,fY];omega
 ·have a:=h.rng v (by rw[z]; simp[f]);have h2:=h.bA v (by simp[f]);have:=ha.le v a.1 a.2;omega
 ·rw[Q] at f;rcases b8.1 f with f|f
  ·have a:=h.rng v (by rw[z]; simp only[b9]; exact .inr f);have h2:=h.fin v (by rw[z]; simp only[b9]; exact .inr f);have:=ha.le v a.1 a.2;omega
  ·obtain⟨F,g2⟩:=E v f;have:=H v F.1 F.2;omega
 ·rw[h.last hk]
  cases l with
  |nil=>rfl
  |cons v l =>
   exfalso;obtain⟨F,g2⟩:=E v (by simp);have:=H v F.1 F.2;obtain⟨vs,y⟩:=D v F.1 F.2 (by omega);obtain⟨R,d',k1,k2,k3⟩:=y.simple hp;have k4:=k1.short G.inr hS k3;have:=h.low R v d' k1 (by omega);omega
def Vv.done (f:κ L N M) (n:N*M<ň) (z:Pot L p) (o:∀v,S v->0<=v/\v<N) (h:Vv L S N M k A B x w t []):Vw L S N (gv x):=by
 have l:=h.kN;have D:=f.m0
 have C:((k:Int)+1)*M<ň:=by
  have:=DY l D;push_cast at this;omega
 have i:∀vs v d,Wl L S vs v d->vs.length+1<=N->gv x v<=d:=by
  intro vs v d a
  induction a with
  |nil y=>intro _; exact h.low [] _ 0 (.nil y) (by simp)
  | @step vs u v m d a j ih =>
   intro e;simp only[cj] at e;have s:=ih (by omega);have h2:=a.lt_free f n (by omega);have r:=(a.range f.inr o).1;have:=h.rel u r.1 r.2 (by simp) (by omega) v m j;omega
 refine⟨h.att,fun v vs d a=>?_,fun v h0 s=>?_⟩
 ·obtain⟨g,E,k1,k2,k3⟩:=a.simple z;have:=i g v E k1 (k1.short f.inr o k3);omega
 ·rcases h.bd v h0 s with h2|h2<;>omega
def MG {ρ:Type} {r:x9 ρ} (e:κ L N M) (j:N*M<ň) (C:Pot L p) (P:∀v,S v->0<=v/\v<N) (R:(Val (.pair .bool (.pair (.slice tI) (.pair (.slice .bool) (.pair (.slice tI) (.slice tI))))))->x9 ρ)
 (hK:∀x w t q,x.length=N->Vw L S N (gv x)->R (true,x,w,t,q)=r) (h:Vv L S N M k A B x w t q) :
 Î (fun(f:(Val (.pair (.slice tI) (.pair (.slice .bool) (.pair (.slice tI) (.slice tI)))))) u=>Ę [] (DW L) (N:Int) L f.1 f.2.1 f.2.2.1 f.2.2.2 (fun G F E D=>u (G,F,E,D)) R) (x,w,t,q)=r:=by
 refine gL (fun s:y5 Int×y5 Bool×y5 Int×y5 Int=>∃k A B,Vv L S N M k A B s.1 s.2.1 s.2.2.1 s.2.2.2) (fun s=>Lr N s.2.2.1) ?_ ⟨k,A,B,h⟩;rintro⟨x,w,t,q⟩ ⟨k,A,B,h⟩;dsimp only at h ⊢;have hN:=e.nodes
 cases q with
 |nil=>exact .inl fun kn=>by rw[Wv]; exact hK x w t [] h.lx (h.done e j C P)
 |cons n rest =>
  -- the phase in which the first one is
  have O:∃k o B,Vv L S N M k (n::o) B x w t (n::rest):=by
   cases A with
   |nil =>
    have hB:B=n::rest:=by simpa using h.q_eq.symm
    subst hB;exact⟨k+1,rest,[],h.next e j P (by simp)⟩
   |cons a o =>
    have:=h.q_eq;simp only[dw,List.cons.injEq] at this;obtain⟨rfl,_⟩:=this;exact⟨k,o,B,h⟩
  clear h k A B;obtain⟨k,o,B,h⟩:=O
  have g:rest=o++B:=by have:=h.q_eq; simpa using this
  have d:=h.rng n (by simp);have hnf:=h.fin n (by simp);have hkN:=h.kN;have X:=h.tA n (by simp);have h2:=h.t0 n d.1 d.2;obtain⟨vs,T⟩:=h.att n d.1 d.2 (by omega);have V:=T.low' C
  have U : -(400*4503599627370496)<=DW L:=by
   have:∀z:y5 Lk,(∀l∈z,-M<=l.2.2)->-((z.length:Int)*M)<=DW z:=by
    intro z
    induction z with
    |nil=>intro _; simp[DW,Df]
    |cons l t ih =>
     intro W;have i1:=ih fun l y=>W l (by simp[y]);have i2:=W l (by simp);have i3:=e.m0;unfold DW at i1 ⊢;simp only[Df,if_true,List.length_cons,Int.natCast_succ,Int.add_mul,Int.one_mul];omega
   have h3:=this L fun l y=>(e.most l y).1;have h4:(L.length:Int)*M<=400*4503599627370496:=ff (by have:=e.len; omega) e.m1 e.m0 (by omega);omega
  have J:rest.length<=1000000:=by
   have:=RL N (n::rest) h.nodup h.rng;simp only[cj] at this;omega
  refine .inr ?_
  have H:(w.set n.toNat false).length=N:=by rw[eG]; exact h.lw
  cases K:nN n (DW L) L x (w.set n.toNat false) rest with
  |mk b Z =>
  obtain⟨Y,w',q'⟩:=Z
  cases b with
  |false =>
   exfalso;obtain⟨v,m,g1,g2⟩:=lO e.noloop (fun l y=>(e.inr l y).2.1) d.1 K;have:=(T.step g1).low' C;omega
  |true =>
   have i:=h.nodup;rw[eJ] at i
   have ha:=ju d e.inr e.noloop h.lx H i.2 (fun v h0 X=>by
    rw[Rl d.1 h0 (by have:=h.lw; omega)]
    by_cases I:v=n
    ·subst I; simp[i.1]
    ·rw[if_neg I,h.waits v h0 X]
     simp[I]) K
   rw[g] at ha;obtain⟨B',Q⟩:=h.step e j C P ha;refine⟨(Y,w',t.set n.toNat (gv t n+1),q'),⟨k,o,B',Q⟩,Ol (by have:=h.lt; omega) (by omega),fun kn=>?_⟩;have hF:ň=1152921504606846976:=rfl
   rw[R0 e d h.lx h.lw h.lt J (by constructor<;>omega) (by constructor<;>omega),if_neg (by omega),K]
end
def EZ (f:Lk->Bool):∀(L a:y5 Lk),Df f (L++a)=Df f L+Df f a
 |[],a=>by simp[Df]
 |l::t,a=>by
  simp only[dw,Df,EZ f t a];omega
def Nv {L:y5 Lk} {i:Nat} {l:Lk} (h:L[i]?=some l):DW (L.take (i+1))=DW (L.take i)+min l.2.2 0:=by
 rw[take_succ h,DW,DW,EZ];simp[Df]
def imin0 (e:Int):UE e 0=min e 0:=by
 unfold UE
 split<;>omega
def Qe {L:y5 Lk} {M:Int} (h:∀l∈L,-M<=l.2.2) (g:0<=M) : -((L.length:Int)*M)<=DW L:=by
 induction L with
 |nil=>simp[DW,Df]
 |cons l t a =>
  have d:=a fun l e=>h l (by simp[e]);have f:=h l (by simp);unfold DW at d ⊢;simp only[Df,if_true,List.length_cons,Int.natCast_succ,Int.add_mul,Int.one_mul];omega
def ac3 (L:y5 Lk):DW L<=0:=qV _ L
section
variable {ρ:Type} {L:y5 Lk} {N:Nat} {M:Int}
def SK (f:κ L N M) (n:Int->x9 ρ):Î (fun(a:an) d=>Γ L (Û L) a.1 a.2 (fun m g=>d (m,g)) n) ((0:Int),(0:Int))=n (DW L):=by
 refine gL (fun x:Int×Int=>∃i:Nat,i<=L.length/\x=(DW (L.take i),(i:Int))) (fun x=>L.length-x.2.toNat) ?_ ⟨0,by omega,rfl⟩;rintro x ⟨i,hi,rfl⟩;have o:=f.len;rcases cW i L.length with h|h
 ·have e:L[i]?=some L[i]:=bY h;refine .inr ⟨(DW (L.take (i+1)),(i:Int)+1),⟨i+1,h,by simp⟩,by simp; omega,fun kn=>?_⟩
  try dsimp only
  unfold Γ
  have hb:∀j,j<=L.length->-(400*4503599627370496)<=DW (L.take j):=by
   intro j s;have r:=Qe (L:=L.take j) (fun l e=>(f.most l (fK e)).1) f.m0;have h2:((L.take j).length:Int)*M<=400*4503599627370496:=ff (by rw[cw]; omega) f.m1 f.m0 (by omega);omega
  have r:=hb i hi;have h2:=hb (i+1) h;have u:=ac3 (L.take i);rw[Nv e] at h2;rw[Ó h,Ç e,imin0,ð (by omega) (by omega),Í h (by omega),Nv e]
 ·refine .inl fun kn=>?_
  have:i=L.length:=by omega
  subst this
  try dsimp only
  unfold Γ;rw[á,List.take_length]
def VV {x:y5 Int} (P:x.length=N) (Q:N<=1000) {r:x9 ρ} (I:(Val (.pair (.slice .bool) (.slice tI)))->x9 ρ)
 (K:∀(w:y5 Bool) (q:y5 Int),w.length=N->q.Nodup->(∀v∈q,0<=v/\v<N)->(∀v:Int,0<=v->v<N->(wv w v=true↔v∈q))->(∀v:Int,0<=v->v<N->(v∈q↔gv x v≠ň))->I (w,q)=r) :
 Î (fun(j:(Val (.pair tI (.pair (.slice .bool) (.slice tI))))) n=>Ļ (N:Int) x j.1 j.2.1 j.2.2 (fun G F E=>n (G,F,E)) I) ((0:Int),(List.replicate N false),([]:y5 Int))=r:=by
 refine gL (fun s:Int×y5 Bool×y5 Int=>∃i:Nat,i<=N/\s.1=i/\s.2.1.length=N/\s.2.2.Nodup/\s.2.2.length<=i/\(∀v∈s.2.2,0<=v/\v<i)/\(∀v:Int,0<=v->v<N->(wv s.2.1 v=true↔v∈s.2.2))/\(∀v:Int,0<=v->v<i->(v∈s.2.2↔gv x v≠ň))) (fun s=>N-s.1.toNat) ?_
  ⟨0,by omega,rfl,by simp,by simp,by simp,by simp,fun v h0 f=>?_,fun v h0 f=>by omega⟩
 ·rintro⟨s,w,q⟩ ⟨i,hi,f,h2,D,O,m,C,z⟩;simp only at f h2 D O m C z;subst f;rcases cW i N with h|h
  ·refine .inr ?_
   have g:i<x.length:=by omega
   have l:i<w.length:=by omega
   have o:((i:Int))∉q:=fun J=>by have:=(m _ J).2; omega
   by_cases y:gv x i=ň
   ·refine⟨((i:Int)+1,w,q),⟨i+1,h,by simp,h2,D,by simp only; omega,fun v d=>⟨(m v d).1,by have:=(m v d).2; push_cast; omega⟩,C,fun v h0 f=>?_⟩,by simp; omega,fun kn=>?_⟩
    ·by_cases d:v=i
     ·subst d; simp[y,o]
     ·exact z v h0 (by push_cast at f; omega)
    ·try dsimp only
     unfold Ļ
     have e:ilt (i:Int) (N:Int)=true:=by simp[ilt,h]
     rw[à e,jj g,i8 (by simpa using g)]
     have H:ine (gv x i) 1152921504606846976=false:=by simp[ine,y]
     rw[Ö H,Í h (by omega)]
   ·refine⟨((i:Int)+1,w.set i true,q++[(i:Int)]),⟨i+1,h,by simp,by simpa using h2,?_,by simp; omega,fun v d=>?_,fun v h0 f=>?_,fun v h0 f=>?_⟩,by simp; omega,fun kn=>?_⟩
    ·rw[fX];exact⟨D,by simp,fun a ha b hb=>by simp at hb; subst hb; exact fun e=>o (e▸ha)⟩
    ·rcases b8.1 d with d|d
     ·exact⟨(m v d).1,by have:=(m v d).2; push_cast; omega⟩
     ·simp at d; subst d; push_cast; omega
    ·have:=Rl (w:=w) (u:=(i:Int)) (by omega) h0 (by simpa using l) true;rw[cp] at this;show wv (w.set i true) v=true↔v∈q++[(i:Int)];rw[this]
     by_cases d:v=i
     ·simp[d]
     ·simp only[d,if_false,b8,ce,or_false];exact C v h0 f
    ·show v∈q++[(i:Int)]↔_
     by_cases d:v=i
     ·subst d; simp[y]
     ·simp only[b8,ce,d,or_false];exact z v h0 (by push_cast at f; omega)
    ·try dsimp only
     unfold Ļ
     have e:ilt (i:Int) (N:Int)=true:=by simp[ilt,h]
     rw[à e,jj g,i8 (by simpa using g)]
     have H:ine (gv x i) 1152921504606846976=true:=by simp[ine,y]
     rw[à H,Ò (by simp only[cX]; omega),Am.iff_true,jj l,KL (by simpa using l),Í h (by omega),cp]
  ·refine .inl fun kn=>?_
   have:i=N:=by omega
   subst this
   try dsimp only
   unfold Ļ
   have e:ilt (i:Int) (i:Int)=false:=by simp[ilt]
   rw[Ö e];exact K w q h2 D m C z
 ·have:wv (List.replicate N false) v=false:=by
   unfold wv;rw[List.getElem?_replicate]
   split<;>rfl
  simp[this]
def IQ (F:κ L N M) (G:1<=N) {S:Int->Bool} (C:∀v,S v=true->0<=v/\v<N) {w:y5 Bool} {q:y5 Int} (i:w.length=N) (D:q.Nodup) (j:∀v∈q,0<=v/\v<N) (n:∀v:Int,0<=v->v<N->(wv w v=true↔v∈q)) (r:∀v:Int,0<=v->v<N->(v∈q↔gv (start S N) v≠ň)) :
 Vv L (fun v=>S v=true) N M 0 q [] (start S N) w (List.replicate N 0) q:=by
 have z:∀v:Int,0<=v->v<N->gv (List.replicate N (0:Int)) v=0:=by
  intro v h0 a;unfold gv;rw[List.getElem?_replicate]
  split<;>rfl
 have l:∀v:Int,0<=v->v<N->(v∈q↔S v=true):=by
  intro v h0 a;rw[r v h0 a,gF S h0 a]
  cases S v<;>simp[ň]
 have E:=F.m0;refine⟨by simp,ü S N,i,by simp,D,j,n,fun v h0 a=>?_,fun v f=>?_,fun vs v d i y=>?_,fun vs u d i y o v m s=>?_,fun u h0 a o g v m s=>?_,fun v h0 a g=>?_,fun v h0 a=>?_,fun v f=>?_,fun v f=>?_,by omega,fun _=>rfl⟩
 ·rw[z v h0 a]; omega
 ·have:=j v f;rw[z v this.1 this.2]; omega
 ·cases i with
  |nil e =>
   have:=C v e;rw[gF S this.1 this.2,if_pos e]; omega
  |step=>simp at y
 ·cases i with
  |nil e =>
   have:=C u e;exact(o ((l u this.1 this.2).2 e)).elim
  |step=>simp at y
 ·rw[gF S h0 a] at g;have:=mt (l u h0 a).2 o;rw[if_neg this] at g;exact(g rfl).elim
 ·rw[gF S h0 a] at g ⊢
  split at g
  ·rename_i e;rw[if_pos e]; exact⟨[],.nil e⟩
  ·exact(g rfl).elim
 ·rw[gF S h0 a]
  split
  ·exact .inr (by simp[E])
  ·exact .inl rfl
 ·have a:=j v f;rw[gF S a.1 a.2,if_pos ((l v a.1 a.2).1 f)]; simp
 ·have a:=j v f;rw[gF S a.1 a.2,if_pos ((l v a.1 a.2).1 f)]; simp[ň]
structure Bad (L:y5 Lk) (N:Nat) (x:y5 Int) (w:y5 Bool) (t q:y5 Int):Prop where
 lx:x.length=N
 lw:w.length=N
 lt:t.length=N
 nodup:q.Nodup
 rng:∀v∈q,0<=v/\v<N
 waits:∀v:Int,0<=v->v<N->(wv w v=true↔v∈q)
 t0:∀v:Int,0<=v->v<N->0<=gv t v/\gv t v<=(N:Int)+1
 bd:∀v:Int,0<=v->v<N->-2305843009213693952<=gv x v/\gv x v<=0
 rel:∀u:Int,0<=u->u<N->u∉q->∀v m,(u,v,m)∈L->gv x v<=gv x u+m
def ZV {r:x9 ρ} {x:y5 Int} {w:y5 Bool} {t q:y5 Int} (d:κ L N M) (hp:¬∃p,Pot L p) (P:(Val (.pair .bool (.pair (.slice tI) (.pair (.slice .bool) (.pair (.slice tI) (.slice tI))))))->x9 ρ)
 (Z:∀x w t q,P (false,x,w,t,q)=r) (h:Bad L N x w t q) :
 Î (fun(o:(Val (.pair (.slice tI) (.pair (.slice .bool) (.pair (.slice tI) (.slice tI)))))) E=>Ę [] (DW L) (N:Int) L o.1 o.2.1 o.2.2.1 o.2.2.2 (fun O K J I=>E (O,K,J,I)) P) (x,w,t,q)=r:=by
 refine gL (fun s:y5 Int×y5 Bool×y5 Int×y5 Int=>Bad L N s.1 s.2.1 s.2.2.1 s.2.2.2) (fun s=>Lr N s.2.2.1) ?_ h;rintro⟨x,w,t,q⟩ h;dsimp only at h ⊢;have hN:=d.nodes
 cases q with
 |nil =>
  exfalso;exact hp ⟨gv x,fun u v m y=>h.rel u (d.inr _ y).1.1 (d.inr _ y).1.2 (by simp) v m y⟩
 |cons n rest =>
  have a:=h.rng n (by simp);have hb:=h.bd n a.1 a.2;have ht:=h.t0 n a.1 a.2
  have U:rest.length<=1000000:=by
   have:=RL N (n::rest) h.nodup h.rng;simp only[cj] at this;omega
  have i:=fun(kn:y5 Int->y5 Bool->y5 Int->y5 Int->x9 ρ)=>R0 (ρ:=ρ) d (least:=DW L) a h.lx h.lw h.lt U ⟨hb.1,by omega⟩ ⟨ht.1,by omega⟩ kn P
  by_cases C:(N:Int)+1<gv t n+1
  ·exact .inl fun kn=>by rw[i,if_pos C]; exact Z _ _ _ _
  ·have Q:(w.set n.toNat false).length=N:=by rw[eG]; exact h.lw
   cases V:nN n (DW L) L x (w.set n.toNat false) rest with
   |mk b r' =>
   obtain⟨Y,w',q'⟩:=r'
   cases b with
   |false=>exact .inl fun kn=>by rw[i,if_neg C,V]; exact Z _ _ _ _
   |true =>
    have z:=h.nodup;rw[eJ] at z
    have H:n.toNat<t.length:=by have:=h.lt; omega
    have ha:=ju a d.inr d.noloop h.lx Q z.2 (fun v h0 j=>by
     rw[Rl a.1 h0 (by have:=h.lw; omega)]
     by_cases f:v=n
     ·subst f; simp[z.1]
     ·rw[if_neg f,h.waits v h0 j]
      simp[f]) V
    obtain⟨l,y,W⟩:=ha.new;refine .inr ⟨(Y,w',t.set n.toNat (gv t n+1),q'),⟨ha.lx,ha.lw,by rw[eG]; exact h.lt,ha.nodup,fun v f=>?_,ha.waits,fun v h0 j=>?_,fun v h0 j=>?_,fun u h0 j T v m D=>?_⟩,Ol H (by omega),fun kn=>by rw[i,if_neg C,V]⟩
    ·dsimp only at f;rw[y] at f;rcases List.mem_append.1 f with f|f
     ·exact h.rng v (by simp[f])
     ·exact(W v f).1
    ·try dsimp only
     rw[oU a.1 h0 H];have:=h.t0 v h0 j
     split<;>omega
    ·try dsimp only
     have h2:=h.bd v h0 j;rcases ha.chg v h0 j with g|⟨_,g2,m,g3,g4,g5⟩
     ·rw[g]; exact h2
     ·have h3:=Qe (L:=L) (fun l y=>(d.most l y).1) d.m0;have h4:(L.length:Int)*M<=400*4503599627370496:=ff (by have:=d.len; omega) d.m1 d.m0 (by omega);omega
    ·dsimp only at T ⊢;have F:=(d.inr _ D).2
     have heq:gv Y u=gv x u:=by
      rcases ha.chg u h0 j with g|⟨g,_⟩
      ·exact g
      ·exact(T g).elim
     by_cases G:u=n
     ·subst G;have j:=ha.link v m D;omega
     ·have R:u∉n::rest:=by
       intro X;rcases b9.1 X with e|X
       ·exact G e
       ·exact T (by rw[y]; exact dh _ X)
      have h2:=h.rel u h0 j R v m D;have:=ha.le v F.1 F.2;omega
end
def Vu (N:Nat) (v:Int):Bool:=decide (0<=v)&&decide (v<(N:Int))
def WE (s:Int) (v:Int):Bool:=v==s
def ME (N:Nat):start (Vu N) N=List.replicate N 0:=by
 refine SU (by simp[ü]) fun v h0 a=>?_;rw[ü] at a;rw[gF _ h0 a]
 have:Vu N v=true:=by simp[Vu,h0,a]
 rw[if_pos this];unfold gv;rw[List.getElem?_replicate]
 split<;>rfl
def gG (L:y5 Lk) (N:Nat):y5 Int:=jG L N (start (Vu N) N)
def ŷ (L:y5 Lk) (N:Nat):Bool:=decide (Dc L (gG L N)=gG L N)
def mi (L:y5 Lk) (N:Nat) (s:Int):y5 Int:=jG L N (start (WE s) N)
section
variable {L:y5 Lk} {N:Nat} {M:Int}
def aal (a:κ L N M) (d:N<=200):N*M<ň:=by
 have:(N:Int)*M<=200*4503599627370496:=Int.mul_le_mul (by omega) a.m1 a.m0 (by omega);unfold ň;omega
def Bn {p:Int->Int} (a:κ L N M) (f:N<=200) (d:Pot L p):Vw L (fun v=>Vu N v=true) N (gv (gG L N)) :=
 EI d a.inr (fun v h=>by simpa[Vu] using h) (fun l e=>(a.most l e).2) a.m0 (aal a f) N (by omega)
def ι {p:Int->Int} (a:κ L N M) (g:N<=200) (e:Pot L p) {s:Int} (d:0<=s/\s<N):Vw L (fun v=>WE s v=true) N (gv (mi L N s)) :=
 EI e a.inr (fun v h=>by simp[WE] at h; subst h; exact d) (fun l f=>(a.most l f).2) a.m0 (aal a g) N (by omega)
def M6:∀{L:y5 Lk} {x:y5 Int},(∀u v m,(u,v,m)∈L->gv x u<ň->gv x v<=gv x u+m)->Dc L x=x
 |[],x,_=>rfl
 |l::t,x,h=>by
  have e:kp x l=x:=by
   unfold kp
   split
   ·rename_i d;have:=h l.1 l.2.1 l.2.2 (by simp) d.1;omega
   ·rfl
  show Dc t (kp x l)=x;rw[e];exact M6 fun u v m a=>h u v m (by simp[a])
def Ţ (a:κ L N M) (j:N<=200):ŷ L N=true↔∃p,Pot L p:=by
 unfold ŷ;rw[decide_eq_true_eq]
 have e:∀v:Int,0<=v->v<N->gv (gG L N) v<=0:=by
  intro v h0 g;have:=yu a.inr N (ü (Vu N) N) v h0;rw[gF _ h0 g,if_pos (by simp[Vu,h0,g])] at this;exact this
 constructor
 ·intro h;refine⟨gv (gG L N),fun u v m d=>?_⟩;have f:=(a.inr _ d).1;have:=Bx a.inr (x:=gG L N) (by unfold gG; rw[ŋ,ü]) u v m d (by have:=e u f.1 f.2; unfold ň; omega)
  rwa [h] at this
 ·rintro⟨p,i⟩;have hd:=Bn a j i;exact M6 fun u v m d l=>hd.pot a.inr d (by omega)
end
section
variable {ρ:Type} {L:y5 Lk} {N:Nat} {M:Int}
def AD (a:N<=1000) (x:x9 ρ):ä ((ile (0:Int) (N:Int))&&(Ú (Int.toNat (N:Int)))) x=x:=by
 rw[cp,Ò (by omega)]
 have:((ile (0:Int) (N:Int))&&true)=true:=by simp[ile]
 rw[this,Am.iff_true]
def P0 (f:κ L N M) (V:1<=N) (s:N<=200) (j:(Val (.pair .bool (.pair (.slice tI) (.pair (.slice .bool) (.pair (.slice tI) (.slice tI))))))->x9 ρ) {rT rF:x9 ρ}
 (T:ŷ L N=true->∀w t q,j (true,gG L N,w,t,q)=rT) (U:∀x w t q,j (false,x,w,t,q)=rF) :
 (Î (fun(e:(Val (.pair tI (.pair (.slice .bool) (.slice tI))))) g=>Ļ (N:Int) (List.replicate N (0:Int)) e.1 e.2.1 e.2.2 (fun C z y=>g (C,z,y)) (fun z9=>Î (fun(d:(Val (.pair (.slice tI) (.pair (.slice .bool) (.pair (.slice tI) (.slice tI)))))) i=>Ę [] (DW L) (N:Int) L d.1 d.2.1 d.2.2.1 d.2.2.2 (fun G F E D=>i (G,F,E,D)) j) ((List.replicate N (0:Int)),z9.1,(List.replicate N (0:Int)),z9.2))) ((0:Int),(List.replicate N false),([]:y5 Int)))=if ŷ L N then rT else rF:=by
 refine VV (by simp) (by omega) _ fun w q I O K l n=>?_
 try dsimp only
 have P:∀v,Vu N v=true->0<=v/\v<N:=fun v h=>by simpa[Vu] using h
 by_cases o:ŷ L N=true
 ·rw[if_pos o];obtain⟨p,r⟩:=(Ţ f s).1 o;have J:=IQ f V P I O K l (fun v a b=>by rw[ME]; exact n v a b);rw[ME] at J;refine MG f (aal f s) r P j (fun x w t q Q hd=>?_) J
  have:x=gG L N:=by
   refine SU (by rw[Q]; unfold gG; rw[ŋ,ü]) fun v a b=>?_;exact hd.uniq (Bn f s r) a (by omega)
  rw[this]; exact T o w t q
 ·rw[if_neg o];refine ZV f (fun r=>o ((Ţ f s).2 r)) j U ?_
  have H:∀v,gv (List.replicate N (0:Int)) v=0:=by
   intro v;unfold gv;rw[List.getElem?_replicate]
   split<;>rfl
  refine⟨by simp,I,by simp,O,K,l,fun v a b=>?_,fun v a b=>?_,fun u a b R v m W=>?_⟩
  ·rw[H]; omega
  ·rw[H]; omega
  ·exact(R ((n u a b).2 (by rw[H]; unfold ň; omega))).elim
end
def shift_ok {ρ:Type} {x:y5 Int} (f:Int) (u:x.length<=1000) (v : -2305843009213693952<=f/\f<=2305843009213693952) (hb:∀a∈x,-2305843009213693952<=a/\a<=2305843009213693952) (n:y5 Int->x9 ρ) :
 Î (fun(e:fy) g=>gU f (Û x) e.1 e.2 (fun m l=>g (m,l)) n) ((0:Int),x)=n (x.map fun a=>a-f):=by
 refine Ġ x (fun i=>(x.take i).map (fun a=>a-f)++x.drop i) _ (by simp) (fun i a hi ha kn=>?_) (fun kn=>?_)
 ·try dsimp only
  unfold gU
  have o:((x.take i).map (fun a=>a-f)++x.drop i).length=x.length:=by simp; omega
  have d:((x.take i).map (fun a=>a-f)++x.drop i)[i]?=some a:=by
   rw[dZ (by simp; omega)];simp only[dg,cw,dV];rw[<-ha]; congr 1; omega
  have j:i<((x.take i).map (fun a=>a-f)++x.drop i).length:=by omega
  have r:=hb a (ci ha);rw[Ó hi,jj j,ž d,ð (by omega) (by omega),jj j,ž d,Í hi (by omega),cp,take_succ ha];congr 2;rw[dN hi,fu,cq,List.set_append_right _ _ (by simp; omega)]
  have:i-(List.map (fun a=>a-f) (List.take i x)).length=0:=by simp; omega
  rw[this]
  have s:x[i]=a:=by rw[bY hi] at ha; simpa using ha
  simp[s]
 ·try dsimp only
  unfold gU;rw[á];simp
section
variable {L:y5 Lk} {N:Nat} {M:Int}
def ZY (d:κ L N M) (m:N<=200) (o:ŷ L N=true):∀a∈gG L N,-2305843009213693952<=a/\a<=0:=by
 obtain⟨p,f⟩:=(Ţ d m).1 o;have hd:=Bn d m f;intro a ha;obtain⟨i,hi,rfl⟩:=cm.1 ha
 have g:(gG L N).length=N:=by unfold gG; rw[ŋ,ü]
 have h0:gv (gG L N) i=(gG L N)[i]:=by unfold gv; simp[hi]
 have e:=yu d.inr N (ü (Vu N) N) (i:Int) (by omega);rw[gF _ (by omega) (by omega),if_pos (by simp[Vu]; omega)] at e;have j:gv (gG L N) i<=0:=e;obtain⟨vs,n⟩:=hd.att i (by omega) (by omega) (by unfold ň; omega);have v:=n.low' f;have u:=Qe (L:=L) (fun l r=>(d.most l r).1) d.m0;have s:(L.length:Int)*M<=400*4503599627370496:=Int.mul_le_mul (by have:=d.len; omega) d.m1 d.m0 (by omega);omega
def solP (L:y5 Lk) (N:Nat):y5 Int:=(gG L N).map fun a=>a-gv (gG L N) 0
def Eu (d:κ L N M) (l:1<=N) (g:N<=200):lR ((N:Int),L) []=some (if ŷ L N then(solP L N,true) else([],false)):=by
 unfold lR tT
 try dsimp only
 rw[AD (by omega),AD (by omega),AD (by omega),cp];refine fe (SK d _) ?_;refine fe (P0 d l g _ (rT:=some (solP L N,true)) (rF:=some ([],false)) (fun i w t q=>?_) (fun x w t q=>?_)) ?_
 ·try dsimp only
  have e:(gG L N).length=N:=by unfold gG; rw[ŋ,ü]
  have hb:=ZY d g i;have h0:ilt (0:Int) (ē (gG L N))=true:=decide_eq_true (show(0:Int)<((gG L N).length:Int) by omega);have f:(gG L N)[0]?=some (gv (gG L N) 0):=SS (v:=0) (show 0<_ by omega);have j:=hb _ (ci f);rw[show(!true)=false from rfl,ë,Į h0,qU f];exact shift_ok _ (by omega) ⟨j.1,by omega⟩ (fun a ha=>⟨(hb a ha).1,by have:=(hb a ha).2; omega⟩) _
 ·rfl
 ·cases ŷ L N<;>rfl
structure Η (L:y5 Lk) (N:Nat):Prop where
 n1:1<=N
 n60:N<=60
 len:L.length<=300
 inr:InR L N
 noloop:∀l∈L,l.1≠l.2.1
 most:∀l∈L,-4503599627370496<=l.2.2/\l.2.2<=4503599627370496
def Η.links (h:Η L N):κ L N 4503599627370496 :=
 ⟨h.inr,h.noloop,h.most,by have:=h.len; omega,by have:=h.n60; omega,by omega,by omega⟩
def EV (n:Int) (L:y5 Lk) (v:Int):oZ (n,L) v=some (decide (0<=v)&&decide (v<n)):=by
 unfold oZ Sl ige
 by_cases h:0<=v
 ·have:decide (v>=0)=true:=by simpa using h
  rw[à this]; simp[h]
 ·have:decide (v>=0)=false:=by simpa using h
  rw[Ö this]; simp[h]
def mQ (h:Η L N):nW ((N:Int),L)=some (0,-1):=by
 have m:=h.n1;have h2:=h.n60;have j:=h.len;unfold nW NU
 try dsimp only
 rw[Ö (by simp[ilt]; omega),Ö (by simp[igt]; omega),Ö (by rw[è]; simp[igt]; omega)];refine fe (Δ L (fun _=>false) (fun i=>some (1,i)) (some (0,-1)) (fun i l hi e kn=>?_) (fun kn=>?_)) ?_
 ·try dsimp only
  unfold oE;have d:=List.mem_of_getElem? e;have a:=h.inr l d;have b:=h.noloop l d;have c:=h.most l d
  have g:(decide (0<=l.1)&&decide (l.1<(N:Int)))=true:=by simp[a.1.1,a.1.2]
  have f:(decide (0<=l.2.1)&&decide (l.2.1<(N:Int)))=true:=by simp[a.2.1,a.2.2]
  rw[Ó hi,Ç e,EV,À,g,EV,À,f];simp only[dj,ë,cA,if_false];rw[Ö (by simp[ieq,b]),Ö (by simp[ilt]; omega),Ö (by simp[igt]; omega),Í hi (by omega)]
 ·try dsimp only
  unfold oE;rw[á]
 ·rw[df.2 (by simp)]
def uq {ρ:Type} {x:y5 Int} {v:Int} (h0:0<=v) (h:v.toNat<x.length) (f:Int->x9 ρ):ă x v f=f (gv x v):=by
 obtain⟨i,rfl⟩:=fV h0;exact Ç (SS h) f
end
section
variable {b:Ý}
def uI (b:Ý) (g:é):(ß b g).Pairwise (·<·):=Ex _
def OU (h:Ğ b) {g:é} (j:g∈b.2.1):∃t,ß b g=g.2.1::t:=by
 have f:=uI b g;have h2:=sd (b:=b) g;have i:∀d∈ß b g,g.2.1<=d:=fun d hd=>(h.day j hd).1
 cases hd:ß b g with
 |nil=>rw[hd] at h2; cases h2
 |cons a t =>
  rw[hd] at f h2 i;rw[cO] at f;rcases b9.1 h2 with e|e
  ·exact⟨t,by rw[e]⟩
  ·have:=f.1 _ e;have:=i a (by simp);omega
def off (b:Ý) (i:Nat):Nat:=((b.2.1.take i).flatMap fun g=>(ß b g).map fun d=>((g.1,d):Int×Int)).length
def xy {i:Nat} {g:é} (a:b.2.1[i]?=some g):Õ b=((b.2.1.take i).flatMap fun g=>(ß b g).map fun d=>((g.1,d):Int×Int))++(((ß b g).map fun d=>((g.1,d):Int×Int))++((b.2.1.drop (i+1)).flatMap fun g=>(ß b g).map fun d=>((g.1,d):Int×Int))):=by
 obtain⟨hi,rfl⟩:=ca.1 a
 have e:b.2.1=b.2.1.take i++(b.2.1[i]::b.2.1.drop (i+1)):=by
  rw[<-dN hi,List.take_append_drop]
 unfold Õ
 conv=>lhs; rw[e]
 rw[fo,cH]
def KK (h:Ğ b) {i:Nat} {g:é} (r:b.2.1[i]?=some g) {k:Nat} {d:Int} (s:(ß b g)[k]?=some d):iC (Õ b) g.1 d=some (off b i+k):=by
 obtain⟨hi,m⟩:=List.getElem?_eq_some_iff.1 r;obtain⟨a,e⟩:=List.getElem?_eq_some_iff.1 s;unfold iC;rw[xy r,List.findIdx?_append,List.findIdx?_append]
 have u:List.findIdx? (fun n:Int×Int=>decide (g.1=n.1)&&decide (d=n.2)) ((b.2.1.take i).flatMap fun g=>(ß b g).map fun d=>((g.1,d):Int×Int))=none:=by
  rw[df];intro x f;obtain⟨g',o,f⟩:=cY.1 f;obtain⟨v,_,rfl⟩:=cR.1 f;obtain⟨j,l,rfl⟩:=cm.1 o;rw[cw] at l;rw[eF];have:=(cM.1 h.ids) j i (by omega) hi (by omega);rw[m] at this;simp only[gd,decide_eq_false_iff_not];exact .inl (by omega)
 have h2:List.findIdx? (fun n:Int×Int=>decide (g.1=n.1)&&decide (d=n.2)) ((ß b g).map fun d=>((g.1,d):Int×Int))=some k:=by
  rw[cQ];refine⟨by simpa using a,by simp[e],fun j l=>?_⟩;have:=(cM.1 (uI b g)) j k (by omega) a l;rw[e] at this;simp only[List.getElem_map,bZ,decide_eq_true_eq,not_and];intro _;omega
 rw[u,h2];simp only[Option.map_some,Option.some_or,Option.none_or];unfold off;congr 1;omega
def aaj {i:Nat} {g:é} (j:b.2.1[i]?=some g) {k:Nat} {d:Int} (a:(ß b g)[k]?=some d):(Õ b)[off b i+k]?=some (g.1,d):=by
 obtain⟨e,f⟩:=List.getElem?_eq_some_iff.1 a;rw[xy j,List.getElem?_append_right (by unfold off; omega),List.getElem?_append_left (by unfold off; simp; omega)];unfold off;simp[a]
def abx (h:Ğ b) {i:Nat} {g:é} (a:b.2.1[i]?=some g):atP (Õ b) [g.1] g.2.1=(off b i:Int)+1:=by
 obtain⟨t,e⟩:=OU h (List.mem_of_getElem? a);have:=KK h a (k:=0) (d:=g.2.1) (by rw[e]; rfl);unfold atP;simp only[this];rfl
def acQ (h:Ğ b) {i:Nat} {g:é} (a:b.2.1[i]?=some g):off b i+(ß b g).length<=(Õ b).length:=by
 rw[xy a];unfold off;simp only[List.length_append,List.length_map];omega
def aae {i:Nat} {g:é} (a:b.2.1[i]?=some g):off b (i+1)=off b i+(ß b g).length:=by
 unfold off;rw[take_succ a,List.flatMap_append];simp
def Nu (h:Ğ b) {c:Cmp} (s:c∈b.2.2.2.2.1) {x:Int} (r:(x∈c.2.2.1/\x∉c.2.2.2.1)\/(x∈c.2.2.2.1/\x∉c.2.2.1)):∃j,iC (Õ b) x c.2.1=some j:=by
 have u:x∈c.2.2.1++c.2.2.2.1:=by rw[b8]; exact r.imp (·.1) (·.1)
 obtain⟨⟨g,y,_⟩,_⟩:=h.pile s u;obtain⟨f,a⟩:=ţ y;obtain⟨i,hi,l⟩:=cm.1 f
 have hd:c.2.1∈ß b g:=lT.2 (.inr (.inl ⟨c,s,by
  rw[a];rcases r with⟨m,h2⟩|⟨m,h2⟩
  ·have o:c.2.2.1.contains x=true:=by simpa using m
   have n:c.2.2.2.1.contains x=false:=by simpa using h2
   rw[o,n]; simp
  ·have o:c.2.2.2.1.contains x=true:=by simpa using m
   have n:c.2.2.1.contains x=false:=by simpa using h2
   rw[o,n]; simp,rfl⟩))
 obtain⟨k,v,e⟩:=cm.1 hd;have:=KK h (g:=g) (i:=i) (by rw[bY hi,l]) (k:=k) (d:=c.2.1) (by rw[bY v,e]);rw[a] at this;exact⟨_,this⟩
inductive Vm (b:Ý) (p:List Int) (d:Int) (n:Int):Prop
 |none:p=[]->n=0->Vm b p d n
 |one (x:Int) (j:Nat):p=[x]->iC (Õ b) x d=some j->n=(j:Int)+1->Vm b p d n
def Yp (h:Ğ b) {c:Cmp} (f:c∈b.2.2.2.2.1):Vm b (Ě c.2.2.1 c.2.2.2.1) c.2.1 (cx b c):=by
 have d:=(h.lefts f).1
 cases a:Ě c.2.2.1 c.2.2.2.1 with
 |nil=>exact .none rfl (by unfold cx atP; rw[a])
 |cons x t =>
  rw[a] at d
  have:t=[]:=by cases t with|nil=>rfl|cons=>simp at d
  subst this;obtain⟨j,e⟩:=Nu h f (x:=x) (.inl (iO.1 (by rw[a]; simp)));exact .one x j rfl e (by unfold cx atP; rw[a]; simp only[e])
def QN (h:Ğ b) {c:Cmp} (f:c∈b.2.2.2.2.1):Vm b (Ě c.2.2.2.1 c.2.2.1) c.2.1 (cy b c):=by
 have d:=(h.lefts f).2.1
 cases a:Ě c.2.2.2.1 c.2.2.1 with
 |nil=>exact .none rfl (by unfold cy atP; rw[a])
 |cons x t =>
  rw[a] at d
  have:t=[]:=by cases t with|nil=>rfl|cons=>simp at d
  subst this;obtain⟨j,e⟩:=Nu h f (x:=x) (.inr (iO.1 (by rw[a]; simp)));exact .one x j rfl e (by unfold cy atP; rw[a]; simp only[e])
def Vm.rng {p:y5 Int} {d n:Int} (h:Vm b p d n):0<=n/\n<((Õ b).length+1:Nat):=by
 rcases h with⟨_,h⟩|⟨x,j,_,a,h2⟩
 ·omega
 ·have:=(jo a).1;omega
def aa1 (h:Ğ b) {c:Cmp} (d:c∈b.2.2.2.2.1):cx b c≠cy b c:=by
 have l:=(h.lefts d).2.2;rcases Yp h d with⟨g,h2⟩|⟨x,j,g,h2,r⟩
 ·rcases QN h d with⟨a,f⟩|⟨y,k,a,f,n⟩
  ·rw[g,a] at l; simp at l
  ·omega
 ·rcases QN h d with⟨a,f⟩|⟨y,k,a,f,n⟩
  ·omega
  ·intro e
   have:j=k:=by omega
   subst this;have o:=(jo h2).2;have i:=(jo f).2;rw[o] at i;simp only[Option.some.injEq,Prod.mk.injEq] at i
   have m1:x∈Ě c.2.2.1 c.2.2.2.1:=by rw[g]; simp
   have m:y∈Ě c.2.2.2.1 c.2.2.1:=by rw[a]; simp
   rw[i.1] at m1;exact(iO.1 m1).2 (iO.1 m).1
def Xv (h:Ğ b):(þ b).length=2*(Õ b).length+2*b.2.2.2.2.1.length:=by
 have i:∀l:y5 é,(∀g∈l,g∈b.2.1)->(l.flatMap (ó b)).length=2*(l.flatMap fun g=>(ß b g).map fun d=>((g.1,d):Int×Int)).length:=by
  intro l
  induction l with
  |nil=>intro _; rfl
  |cons g t a =>
   intro e;have:=a fun g f=>e g (by simp[f]);have j:=List.length_pos_of_mem (sd (b:=b) g);simp only[List.flatMap_cons,List.length_append,List.length_map,this];unfold ó;rw[List.length_append,Ξ _ _ (fun _=>rfl)];simp only[List.length_cons,List.length_nil];omega
 have h2:∀l:y5 Cmp,(l.flatMap (Ī b)).length=2*l.length:=by
  intro l
  induction l with
  |nil=>rfl
  |cons c t a =>
   simp only[cH,b7,a,Ī,cj,cz];omega
 unfold þ;rw[List.length_append,i _ fun _ h=>h,h2];rfl
def ĥ (h:Ğ b) {i:Nat} {g:é} (n:b.2.1[i]?=some g) {l:Lk}:l∈ó b g ↔
 l=(0,(off b i:Int)+1,g.2.2.1+g.2.2.2.1.2)\/l=((off b i:Int)+1,0,-(g.2.2.1+g.2.2.2.1.1)) \/
 ∃(k:Nat) (d e:Int),(ß b g)[k]?=some d/\(ß b g)[k+1]?=some e/\(l=((off b i:Int)+k+1,(off b i:Int)+k+2,0)\/l=((off b i:Int)+k+2,(off b i:Int)+k+1,iN b g d e)):=by
 unfold ó;rw[abx h n];simp only[List.mem_append,List.mem_cons,List.not_mem_nil,or_false,List.mem_flatMap,List.mem_range];constructor
 ·rintro((a|a)|⟨k,o,a⟩)
  ·exact .inl a
  ·exact .inr (.inl a)
  ·refine .inr (.inr ⟨k,(ß b g)[k],(ß b g)[k+1],bY (by omega),bY (by omega),?_⟩);rw[bY (show k<(ß b g).length by omega),bY (show k+1<(ß b g).length by omega)] at a;simp only[f8] at a
   have j:(off b i:Int)+1+k=(off b i:Int)+k+1:=by omega
   have f:(off b i:Int)+k+1+1=(off b i:Int)+k+2:=by omega
   rw[j,f] at a;exact a
 ·rintro(a|a|⟨k,d,e,hd,m,a⟩)
  ·exact .inl (.inl a)
  ·exact .inl (.inr a)
  ·obtain⟨h2,rfl⟩:=ca.1 hd;obtain⟨r,rfl⟩:=ca.1 m;refine .inr ⟨k,by omega,?_⟩;rw[hd,m];simp only[f8]
   have j:(off b i:Int)+1+k=(off b i:Int)+k+1:=by omega
   have f:(off b i:Int)+k+1+1=(off b i:Int)+k+2:=by omega
   rw[j,f];exact a
def mY {l:Lk}:l∈þ b↔(∃(i:Nat) (g:é),b.2.1[i]?=some g/\l∈ó b g)\/∃c∈b.2.2.2.2.1,l=(cy b c,cx b c,(pH b c).2)\/l=(cx b c,cy b c,-(pH b c).1):=by
 unfold þ;simp only[List.mem_append,List.mem_flatMap,Ī,List.mem_cons,List.not_mem_nil,or_false];constructor
 ·rintro(⟨g,a,h⟩|h)
  ·obtain⟨i,hi,rfl⟩:=cm.1 a;exact .inl ⟨i,_,bY hi,h⟩
  ·exact .inr h
 ·rintro(⟨i,g,a,h⟩|h)
  ·exact .inl ⟨g,ci a,h⟩
  ·exact .inr h
def Ğ.sys (h:Ğ b):Η (þ b) ((Õ b).length+1):=by
 have H:=h.nodes;have I:=h.links
 have j:∀l∈þ b,((0<=l.1/\l.1<((Õ b).length+1:Nat))/\(0<=l.2.1/\l.2.1<((Õ b).length+1:Nat)))/\l.1≠l.2.1/\(-4503599627370496<=l.2.2/\l.2.2<=4503599627370496):=by
  intro l f;rcases mY.1 f with⟨i,g,o,f⟩|⟨c,n,f⟩
  ·have m:=ci o;have r:=h.gaugeR m;have G:=acQ h o;have F:=List.length_pos_of_mem (sd (b:=b) g);have C:=r.2.2.2.2.2.1;have z:=r.2.2.2.2.2.2.1;rcases(ĥ h o).1 f with rfl|rfl|⟨k,d,e,hd,s,u⟩
   ·dsimp only; omega
   ·dsimp only; omega
   ·obtain⟨h2,_⟩:=ca.1 s;have v:=h.day m (ci hd);have E:=rM h m (t:=e) v.2.1;rcases u with rfl|rfl
    ·dsimp only; omega
    ·dsimp only; omega
  ·have a:=(Yp h n).rng;have J:=(QN h n).rng;have D:=aa1 h n;have y:=Ez h n;rcases f with rfl|rfl
   ·dsimp only; omega
   ·dsimp only; omega
 exact⟨by omega,by omega,by rw[Xv h]; omega,fun l f=>(j l f).1,fun l f=>(j l f).2.1,fun l f=>(j l f).2.2⟩
end
def Y2 {ρ:Type}:@rr ρ=@Γ ρ:=rfl
def Y1 {ρ:Type}:@rq ρ=@Ļ ρ:=rfl
def Y0 {ρ:Type}:@ro ρ=@Ę ρ:=rfl
def Ox {ρ:Type} {N:Nat} (a:N<=1000) (x:x9 ρ):ä ((ile (0:Int) (N:Int))&&(Ú N)) x=x:=by
 have:=AD a x
 rwa [cp] at this
section
variable {L:y5 Lk} {N:Nat} {M:Int}
def VU {s:Int} (d:0<=s/\s<N):(List.replicate N ň).set s.toNat 0=start (WE s) N:=by
 refine SU (by simp[ü]) fun v h0 e=>?_
 have a:v<N:=by simpa using e
 rw[gF _ h0 a,oU d.1 h0 (by simp; omega)];unfold WE
 by_cases h:v=s
 ·simp[h]
 ·simp only[h,if_false,beq_iff_eq];unfold gv;rw[List.getElem?_replicate]
  have:v.toNat<N:=by omega
  simp[this]
def YZ (d:κ L N M) (F:1<=N) (n:N<=200) (E:ŷ L N=true) {s:Int} (e:0<=s/\s<N):vA ((N:Int),L) [] s=some (mi L N s):=by
 obtain⟨p,o⟩:=(Ţ d n).1 E;unfold vA BJ;rw[Y2,Y1,Y0];dsimp only;rw[AD (by omega),Int.toNat_natCast];refine Ġ (List.replicate N (0:Int)) (fun i=>List.replicate i ň++List.replicate (N-i) 0) _ (by simp) (fun i a hi ha kn=>?_) (fun kn=>?_)
 ·dsimp only;unfold mD
  have m:i<N:=by simpa using hi
  have r:i<(List.replicate i ň++List.replicate (N-i) (0:Int)).length:=by simp; omega
  rw[Ó hi,jj r,ž (bY r),Í m (by omega),cp];congr 2;rw[List.set_append_right _ _ (by simp)]
  have:N-i=(N-(i+1))+1:=by omega
  rw[this,eZ,Nat.sub_self,List.replicate_succ,List.set_cons_zero,List.replicate_succ'];simp
 ·try dsimp only
  unfold mD;rw[á];dsimp only
  have G:List.replicate (List.replicate N (0:Int)).length ň++List.replicate (N-(List.replicate N (0:Int)).length) 0=List.replicate N ň:=by simp
  rw[G]
  have f:s.toNat<(List.replicate N ň).length:=by simp; omega
  rw[show ē (List.replicate N ň)=((N:Nat):Int) by simp[ē],gX e.1 e.2,i8 f,Ox (by omega),Ox (by omega),VU e];refine fe (SK d _) ?_
  have u:∀v,WE s v=true->0<=v/\v<N:=fun v h=>by simp[WE] at h; subst h; exact e
  refine VV (ü _ _) (by omega) _ fun w q z D C g l=>?_;have j:=IQ d F u z D C g l;refine MG d (aal d n) o u _ (fun x w t q y hd=>?_) j
  have:x=mi L N s:=by
   refine SU (by rw[y]; unfold mi; rw[ŋ,ü]) fun v a b=>?_;exact hd.uniq (ι d n o e) a (by omega)
  dsimp only;rw[this]
def lY (L:y5 Lk) (N:Nat) (s t:Int):Int×Int :=
 if !ŷ L N then(0,9) else if gv (mi L N s) t=ň then(0,5) else(gv (mi L N s) t,0)
def abA (h:Η L N) {ns:y5 Int} (f:∀n∈ns,0<=n/\n<N) (g:ns.length<=1000):AQ ((N:Int),L) ns=some (if ŷ L N then 0 else 9):=by
 have h2:=h.n60;unfold AQ NT;rw[mQ h,À];dsimp only;rw[Ö (by rfl)];refine Eq.trans (Δ ns (fun _=>false) (fun _=>some 1) (some (if ŷ L N then 0 else 9)) (fun i n hi d kn=>?_) (fun kn=>?_)) ?_
 ·try dsimp only
  unfold oD;have a:=f n (List.mem_of_getElem? d)
  have e:(decide (0<=n)&&decide (n<(N:Int)))=true:=by simp[a.1,a.2]
  rw[Ó hi,Ç d,EV,À,e,Í hi (by omega)];simp
 ·try dsimp only
  unfold oD;rw[á,Eu h.links h.n1 (by omega),À]
  cases ŷ L N<;>rfl
 ·rw[df.2 (by simp)]
def TN (h:Η L N) {s t:Int} (g:0<=s/\s<N) (f:0<=t/\t<N):uD ((N:Int),L) s t=some (lY L N s t):=by
 have h2:=h.n60;unfold uD NW lY
 rw[abA h (fun n e=>by simp at e; rcases e with rfl|rfl<;>assumption) (by simp),À]
 by_cases a:ŷ L N=true
 ·rw[if_pos a,Ö (by rfl),YZ h.links h.n1 (by omega) a g,À,uq f.1 (by unfold mi; rw[ŋ,ü]; omega),ģ,if_neg (show ¬(!ŷ L N)=true by simp[a])]
  by_cases d:gv (mi L N s) t=ň
  ·rw[if_pos (by simpa[ieq] using d),if_pos d]
  ·rw[if_neg (by simpa[ieq] using d),if_neg d]
 ·rw[if_neg a,à (by rfl),if_pos (show(!ŷ L N)=true by simpa using a)]
end
def Hk:Ý:=((0,0),[],[],[],[],[])
structure In (b:Ý):Prop where
 size:j7 b
 num:∀g∈b.2.1,I64 g.2.2.2.2.1.1
def Md (b:Ý):Sys×y5 (Int×Int)×Int:=if ö b≠0 then((0,[]),[],ö b) else((((Õ b).length:Int)+1,þ b),Ŋ b,0)
def uN {b:Ý} (h:In b):gD b=some (Md b):=by
 unfold gD JD Md;rw[ix h.size h.num,À]
 by_cases a:ö b=0
 ·rw[Ö (by simp[ine,a]),aav ((ú b).1 a),À,if_neg (show ¬(ö b≠0) from fun h=>h a)]
 ·rw[à (by simp[ine,a]),if_pos a]
def ur (b:Ý) (x d:Int):Int:=match iC (Õ b) x d with|some j=>(j:Int)+1|none=>0
def TJ (b:Ý) (n:Int×Int):Int×Int:=if ö b≠0 then(0,ö b) else if ur b n.1 n.2=0 then(0,5) else(ur b n.1 n.2,0)
def Hr {b:Ý} (h:In b) (n:Int×Int):gZ b n=some (TJ b n):=by
 have e:=Jc h.size;unfold gZ Ob TJ;rw[ix h.size h.num,À]
 by_cases a:ö b=0
 ·rw[Ö (by simp[ine,a]),if_neg (show ¬(ö b≠0) from fun h=>h a),KJ h.size,À,show î (Õ b) n=î (Õ b) (n.1,n.2) from rfl,Po (by omega),À];unfold ur
  cases d:iC (Õ b) n.1 n.2 with
  |none=>rfl
  |some j =>
   have:=(jo d).1;simp only;rw[Ö (by simp[ilt]),ð (by omega) (by omega),if_neg (by omega)]
 ·rw[à (by simp[ine,a]),if_pos a]
def l9 (b:Ý) (n:Int×Int):Ý:=(b.1,b.2.1,b.2.2.1,b.2.2.2.1,b.2.2.2.2.1,b.2.2.2.2.2++[n])
def Xm {b:Ý} (h:Ğ b) (n:Int×Int):j7 (l9 b n):=by
 have a:=h.size;have:=h.nK;exact⟨a.gauges,a.uses,a.loans,a.compares,by simp[l9]; omega,a.piles⟩
def Vl (b:Ý) (n:Int×Int):Ý×Int:=if ö b≠0 then(Hk,ö b) else if ö (l9 b n)≠0 then(Hk,ö (l9 b n)) else(l9 b n,0)
def adV {b:Ý} (h:In b) (n:Int×Int):sa b n=some (Vl b n):=by
 have e:=h.size;have u:=e.gauges; have h2:=e.uses; have s:=e.loans; have r:=e.compares; have o:=e.looks;unfold sa Sz Vl;rw[ix e h.num,À]
 by_cases f:ö b=0
 ·have j:=(ú b).1 f;rw[Ö (by simp[ine,f]),Ò (by omega),Am.iff_true,Ò (by omega),Am.iff_true,Ò (by omega),Am.iff_true,Ò (by omega),Am.iff_true,Ò (by omega),Am.iff_true,if_neg (show ¬(ö b≠0) from fun h=>h f)];refine Ġ b.2.2.2.2.1 (fun _=>b.2.2.2.2.1) _ rfl (fun i d hi hd kn=>?_) (fun kn=>?_)
  ·dsimp only;unfold rL;obtain⟨m,l⟩:=e.piles d (List.mem_of_getElem? hd)
   have g:b.2.2.2.2.1.set i d=b.2.2.2.2.1:=by
    obtain⟨h,rfl⟩:=ca.1 hd;exact List.set_getElem_self h
   rw[Ó hi,jj hi,ž hd,Ò (by omega),Am.iff_true,Ò (by omega),Am.iff_true,jj hi,ž hd,cp];rw[show(d.1,d.2.1,d.2.2.1,d.2.2.2)=d from rfl,g,jj hi,qU hd,Í hi (by omega)];rw[show(d.1,d.2.1,d.2.2.1,d.2.2.2.1,d.2.2.2.2)=d from rfl,g]
  ·try dsimp only
   unfold rL;rw[á];dsimp only;rw[Ò (by simp only[List.length_singleton]; omega),Am.iff_true];rw[show Ā (b.1,b.2.1,b.2.2.1,b.2.2.2.1,b.2.2.2.2.1,b.2.2.2.2.2++[n])=Ā (l9 b n) from rfl,ix (Xm j n) h.num,À]
   by_cases a:ö (l9 b n)=0
   ·rw[Ö (by simp[ine,a]),if_neg (show ¬(ö (l9 b n)≠0) from fun h=>h a)];rfl
   ·rw[à (by simp[ine,a]),if_pos a];rfl
 ·rw[à (by simp[ine,f]),if_pos f];rfl
section
variable {b:Ý}
def acR:off b b.2.1.length=(Õ b).length:=by unfold off Õ; rw[List.take_length]
def aaf:∀n,n<=b.2.1.length->∀j,j<off b n->∃(i:Nat) (g:é) (k:Nat),b.2.1[i]?=some g/\k<(ß b g).length/\j=off b i+k:=by
 intro n
 induction n with
 |zero=>intro _ j a; simp[off] at a
 |succ n e =>
  intro f j a;have d:b.2.1[n]?=some b.2.1[n]:=bY (by omega);rw[aae d] at a
  by_cases h:j<off b n
  ·exact e (by omega) j h
  ·exact⟨n,_,j-off b n,d,by omega,by omega⟩
def Jd {v:Int} (h0:1<=v) (e:v<((Õ b).length+1:Nat)):∃(i:Nat) (g:é) (k:Nat),b.2.1[i]?=some g/\k<(ß b g).length/\v=(off b i:Int)+k+1:=by
 obtain⟨i,g,k,h2,a,d⟩:=aaf (b:=b) b.2.1.length (bX _) (v-1).toNat (by rw[acR]; omega);exact⟨i,g,k,h2,a,by omega⟩
def GL (b:Ý) (L:y5 Lk):Prop:=∀(i:Nat) (g:é),b.2.1[i]?=some g->∀l∈ó b g,l∈L
def SV:GL b (þ b):=fun i g d l a=>mY.2 (.inl ⟨i,g,d,a⟩)
def act {L:y5 Lk} (h:Ğ b) (o:GL b L) {v:Int} (h0:0<=v) (y:v<((Õ b).length+1:Nat)):∃vs d,Wl L (fun u=>u=0) vs v d/\d<=4503599627370496:=by
 by_cases s:v=0
 ·exact⟨[],0,.nil s,by omega⟩
 obtain⟨i,g,k,j,m,rfl⟩:=Jd (by omega) y;have n:=h.gaugeR (ci j);have C:=n.2.2.2.2.2.1;have z:=n.2.2.2.2.2.2.1
 have l:∀k:Nat,k<(ß b g).length->∃vs,Wl L (fun u=>u=0) vs ((off b i:Int)+k+1) (g.2.2.1+g.2.2.2.1.2):=by
  intro k
  induction k with
  |zero =>
   intro _;have a:Wl L (fun u=>u=0) [0] ((off b i:Int)+1) (0+(g.2.2.1+g.2.2.2.1.2)):=Wl.step (.nil rfl) (o i g j _ ((ĥ h j).2 (.inl rfl)));rw[Int.zero_add] at a;exact⟨[0],by simpa using a⟩
  |succ k r =>
   intro m;obtain⟨vs,a⟩:=r (by omega);have f:=Wl.step a (o i g j _ ((ĥ h j).2 (.inr (.inr ⟨k,_,_,bY (show k<_ by omega),bY m,.inl rfl⟩))));rw[fS] at f
   have e:(off b i:Int)+((k+1:Nat):Int)+1=(off b i:Int)+k+2:=by push_cast; omega
   exact⟨_,by rw[e]; exact f⟩
 obtain⟨vs,a⟩:=l k m;exact⟨vs,_,a,by omega⟩
def VI {L:y5 Lk} (h:Ğ b) (s:GL b L) {v:Int} (h0:0<=v) (E:v<((Õ b).length+1:Nat)):∃vs d,Wl L (fun u=>u=v) vs 0 d/\d<=4503599627370496:=by
 by_cases z:v=0
 ·exact⟨[],0,.nil z.symm,by omega⟩
 obtain⟨i,g,k,l,J,rfl⟩:=Jd (by omega) E;have a:=ci l;have r:=h.gaugeR a;have H:=r.2.2.2.2.2.1;have G:=r.2.2.2.2.2.2.1;have hd:=LK h a
 have n:∀m:Nat,m<=k->∃vs d,Wl L (fun u=>u=(off b i:Int)+k+1) vs ((off b i:Int)+(k-m:Nat)+1) d/\d<=m*(12*(20001*1048576)+40*1048576):=by
  intro m
  induction m with
  |zero=>intro _; exact⟨[],0,.nil (by simp),by simp⟩
  |succ m y =>
   intro I;obtain⟨vs,d,j,hd⟩:=y (by omega)
   have K:((k-m:Nat):Int)=((k-(m+1):Nat):Int)+1:=by omega
   have C:(((off b i:Int)+(k-(m+1):Nat)+2,(off b i:Int)+(k-(m+1):Nat)+1,iN b g ((ß b g)[k-(m+1)]'(by omega)) ((ß b g)[k-(m+1)+1]'(by omega))):Lk)∈L :=
    s i g l _ ((ĥ h l).2 (.inr (.inr ⟨k-(m+1),_,_,bY (by omega),bY (by omega),.inr rfl⟩)))
   have hb:=rM h a (f:=(ß b g)[k-(m+1)]'(by omega)) (t:=(ß b g)[k-(m+1)+1]'(by omega)) (h.day a (fh _)).2.1
   have F:(off b i:Int)+(k-m:Nat)+1=(off b i:Int)+(k-(m+1):Nat)+2:=by omega
   rw[F] at j;exact⟨_,_,.step j C,by push_cast; omega⟩
 obtain⟨vs,d,j,D⟩:=n k (bX _)
 have e:(off b i:Int)+(k-k:Nat)+1=(off b i:Int)+1:=by omega
 rw[e] at j;have o:=Wl.step j (s i g l _ ((ĥ h l).2 (.inr (.inl rfl))));exact⟨_,_,o,by omega⟩
end
structure Be (L:y5 Lk) (N:Nat):Prop where
 to:∀v:Int,0<=v->v<N->∃vs d,Wl L (fun u=>u=0) vs v d/\d<=4503599627370496
 from':∀v:Int,0<=v->v<N->∃vs d,Wl L (fun u=>u=v) vs 0 d/\d<=4503599627370496
def Ğ.tied {b:Ý} (h:Ğ b):Be (þ b) ((Õ b).length+1):=⟨fun v h0 a=>act h SV h0 a,fun v h0 a=>VI h SV h0 a⟩
section
variable {L:y5 Lk} {N:Nat}
def ES {L:y5 Lk} {s:Int} {vs:y5 Int} {v d:Int}:Wl L (fun v=>WE s v=true) vs v d↔Wl L (fun u=>u=s) vs v d :=
 ⟨fun h=>h.mono fun u a=>by simpa[WE] using a,fun h=>h.mono fun u a=>by simpa[WE] using a⟩
def Vh (h:Η L N) (e:Be L N) (g:ŷ L N=true) {v:Int} (h0:0<=v) (i:v<N):gv (mi L N 0) v<=4503599627370496:=by
 have h2:=h.n60;have j:=h.n1;obtain⟨p,f⟩:=(Ţ h.links (by omega)).1 g;obtain⟨vs,d,a,hd⟩:=e.to v h0 i;have:=(ι h.links (by omega) f (s:=0) ⟨by omega,by omega⟩).low v vs d (ES.2 a);omega
def Vg (h:Η L N) (f:Be L N) (i:ŷ L N=true) {v:Int} (h0:0<=v) (a:v<N):gv (mi L N v) 0<=4503599627370496:=by
 have h2:=h.n60;have j:=h.n1;obtain⟨p,g⟩:=(Ţ h.links (by omega)).1 i;obtain⟨vs,d,e,hd⟩:=f.from' v h0 a;have:=(ι h.links (by omega) g (s:=v) ⟨h0,a⟩).low 0 vs d (ES.2 e);omega
def Q5 (h:Η L N) (g:ŷ L N=true) {v:Int} (h0:0<=v) (d:v<N):gv (mi L N v) v=0:=by
 have h2:=h.n60;obtain⟨p,a⟩:=(Ţ h.links (by omega)).1 g;have hd:=ι h.links (by omega) a (s:=v) ⟨h0,d⟩;have j:=hd.low v [] 0 (.nil (by simp[WE]));obtain⟨vs,e⟩:=hd.att v h0 d (by unfold ň; omega);obtain⟨s,f,i⟩:=(ES.1 e).pot a;subst f;omega
end
def Vf {b:Ý}:∀i,i<=b.2.2.2.2.1.length->((b.2.2.2.2.1.take i).flatMap (Ī b)).length=2*i/\(((b.2.2.2.2.1.take i).mapIdx fun i _=>[((3:Int),(i:Int)),((3:Int),(i:Int))]).flatten).length=2*i:=by
 intro i
 induction i with
 |zero=>intro _; simp
 |succ i a =>
  intro hi;have a:=a (by omega);have d:b.2.2.2.2.1[i]?=some b.2.2.2.2.1[i]:=bY hi;rw[kw _ d,take_succ d,fo,fp,b7,b7];simp only[cH,fH,cn,fD,fZ,Ī,cj,cz];omega
section
variable {L:y5 Lk} {N:Nat}
def Bg (h:Η L N):ū ((N:Int),L)=some (ŷ L N,0):=by
 have h2:=h.n60;unfold ū wC;rw[mQ h,À];dsimp only;rw[Ö (by rfl),Eu h.links h.n1 (by omega),À]
 cases ŷ L N<;>rfl
end
def mr (b:Ý) (n:Int×Int):Ý×Int:=if ur b n.1 n.2≠0 then(b,0) else if ö (l9 b n)≠0 then(Hk,ö (l9 b n)) else(l9 b n,0)
def Ŷ:Ý->y5 (Int×Int)->Ý×Int
 |b,[]=>(b,0)
 |b,n::t=>if (mr b n).2≠0 then(Hk,(mr b n).2) else Ŷ (mr b n).1 t
def iw (b:Ý) (ns:y5 (Int×Int)):Ý×Int :=
 if ö b≠0 then(Hk,ö b) else if (Ŷ b ns).2≠0 then(Hk,(Ŷ b ns).2) else
 if ŷ (þ (Ŷ b ns).1) ((Õ (Ŷ b ns).1).length+1) then((Ŷ b ns).1,0) else(Hk,9)
def MD {b:Ý} (h:Ğ b) {n:Int×Int} (e:(mr b n).2=0):Ğ (mr b n).1:=by
 unfold mr at e ⊢
 split
 ·exact h
 ·rename_i a;rw[if_neg a] at e
  split
  ·rename_i h2;rw[if_pos h2] at e;exact absurd e h2
  ·rename_i h2;exact(ú _).1 (by simpa using h2)
def PO {b:Ý} {n:Int×Int} (e:(mr b n).2=0):(mr b n).1.2.1=b.2.1:=by
 unfold mr at e ⊢
 split
 ·rfl
 ·rename_i a;rw[if_neg a] at e
  split
  ·rename_i h2;rw[if_pos h2] at e;exact absurd e h2
  ·rfl
def EC:∀{ns:y5 (Int×Int)} {b:Ý},Ğ b->(Ŷ b ns).2=0->Ğ (Ŷ b ns).1
 |[],b,h,_=>h
 |n::t,b,h,e=>by
  unfold Ŷ at e ⊢
  split
  ·rename_i a; rw[if_pos a] at e; exact absurd e a
  ·rename_i a;rw[if_neg a] at e;exact EC (MD h (by simpa using a)) e
def qR:∀{ns:y5 (Int×Int)} {b:Ý},(Ŷ b ns).2=0->(Ŷ b ns).1.2.1=b.2.1
 |[],b,_=>rfl
 |n::t,b,e=>by
  unfold Ŷ at e ⊢
  split
  ·rename_i a; rw[if_pos a] at e; exact absurd e a
  ·rename_i a;rw[if_neg a] at e;rw[qR e,PO (by simpa using a)]
def Ğ.inn {b:Ý} (h:Ğ b) (a:∀g∈b.2.1,I64 g.2.2.2.2.1.1):In b:=⟨h.size,a⟩
def lV {b:Ý} (h:Ğ b):Md b=((((Õ b).length:Int)+1,þ b),Ŋ b,0):=by
 unfold Md;rw[if_neg (by simp[(ú b).2 h])]
def yd {b:Ý} (h:Ğ b) (n:Int×Int):TJ b n=if ur b n.1 n.2=0 then(0,5) else(ur b n.1 n.2,0):=by
 unfold TJ;rw[if_neg (by simp[(ú b).2 h])]
abbrev Zu:Type:=Int×Int×y5 é×y5 (Int×Int)×y5 vW×y5 Cmp×y5 (Int×Int)
def flat (b:Ý):Zu:=(b.1.1,b.1.2,b.2.1,b.2.2.1,b.2.2.2.1,b.2.2.2.2.1,b.2.2.2.2.2)
def QH (b:Ý):(((flat b).1,(flat b).2.1),(flat b).2.2)=b:=rfl
section
variable {ρ:Type}
def acB (ns:y5 (Int×Int)) (m:Int×Zu->x9 ρ) (l:Zu->x9 ρ) (b:Ý):x9 ρ :=
 Î (fun(v:Int×Zu) j=>Β (Û ns) ns v.1 v.2.1 v.2.2.1 v.2.2.2.1 v.2.2.2.2.1 v.2.2.2.2.2.1 v.2.2.2.2.2.2.1 v.2.2.2.2.2.2.2 (fun u1 i g f e d a u8=>j (u1,i,g,f,e,d,a,u8)) (fun z=>m z) (fun z=>l z)) ((0:Int),b.1.1,b.1.2,b.2.1,b.2.2.1,b.2.2.2.1,b.2.2.2.2.1,b.2.2.2.2.2)
def Wc {ns:y5 (Int×Int)} (E:ns.length<=1000) {u:Int×Zu->x9 ρ} {l:Zu->x9 ρ} (R:Int->x9 ρ) (D:∀z,z.1≠0->u z=R z.1) {b:Ý} (C:Ğ b) (y:∀g∈b.2.1,I64 g.2.2.2.2.1.1) :
 acB ns u l b=if (Ŷ b ns).2≠0 then R (Ŷ b ns).2 else l (flat (Ŷ b ns).1):=by
 unfold acB
 refine Lh ns (fun(i:Nat) (s:Zu) (t:y5 (Int×Int))=>if (Ŷ ((s.1,s.2.1),s.2.2) t).2≠0 then R (Ŷ ((s.1,s.2.1),s.2.2) t).2 else l (flat (Ŷ ((s.1,s.2.1),s.2.2) t).1))
  (fun i s=>Ğ ((s.1,s.2.1),s.2.2)/\∀g∈s.2.2.1,I64 g.2.2.2.2.1.1) (fun s m kn=>?_) (fun i n t s hd hi ha m kn o=>?_) (s:=flat b) ⟨C,y⟩
 ·dsimp only;unfold Β;rw[á];rfl
 ·dsimp only;unfold Β;obtain⟨a,d⟩:=m;have f:In ((s.1,s.2.1),s.2.2):=a.inn d;rw[Ó hi,jj hi,ž ha];rw[show gZ ((s.1,s.2.1),s.2.2.1,s.2.2.2.1,s.2.2.2.2.1,s.2.2.2.2.2.1,s.2.2.2.2.2.2) n=gZ ((s.1,s.2.1),s.2.2) n from rfl,Hr f,À];rw[show sa ((s.1,s.2.1),s.2.2.1,s.2.2.2.1,s.2.2.2.2.1,s.2.2.2.2.2.1,s.2.2.2.2.2.2) n=sa ((s.1,s.2.1),s.2.2) n from rfl,adV f,À];rw[yd a];generalize r:(((s.1,s.2.1),s.2.2):Ý)=B at a f ⊢
  have v:Ŷ B (n::t)=if (mr B n).2≠0 then(Hk,(mr B n).2) else Ŷ (mr B n).1 t:=rfl
  rw[v]
  by_cases h0:ur B n.1 n.2=0
  ·rw[if_pos h0,Ö (by rfl)]
   by_cases h2:ö (l9 B n)=0
   ·have e:mr B n=(l9 B n,0):=by unfold mr; rw[if_neg (by simp[h0]),if_neg (by simp[h2])]
    have j:Vl B n=(l9 B n,0):=by unfold Vl; rw[if_neg (by simp[(ú B).2 a]),if_neg (by simp[h2])]
    rw[j,e,Ö (by rfl),Í hi (by omega),if_neg (show ¬((0:Int)≠0) by simp)];subst r;exact o (s.1,s.2.1,s.2.2.1,s.2.2.2.1,s.2.2.2.2.1,s.2.2.2.2.2.1,s.2.2.2.2.2.2++[n]) ⟨(ú _).1 h2,d⟩
   ·have e:mr B n=(Hk,ö (l9 B n)):=by unfold mr; rw[if_neg (by simp[h0]),if_pos h2]
    have j:Vl B n=(Hk,ö (l9 B n)):=by unfold Vl; rw[if_neg (by simp[(ú B).2 a]),if_pos h2]
    rw[j,e,à (by simp[ine,h2]),if_pos h2,if_pos h2];exact D _ h2
  ·have e:mr B n=(B,0):=by unfold mr; rw[if_pos h0]
   rw[if_neg h0,à (by rfl),Í hi (by omega),e,if_neg (show ¬((0:Int)≠0) by simp)];subst r;exact o s ⟨a,d⟩
def Sb {b:Ý} (hI:In b) {ns:y5 (Int×Int)} (y:ns.length<=1000) {v:Int->x9 ρ} {u:Int×Zu->x9 ρ} {E:Zu->Sys×y5 (Int×Int)×Int->x9 ρ} {o:Zu->Sys×y5 (Int×Int)×Int->Bool×Int->x9 ρ}
 {K:Zu->Sys×y5 (Int×Int)×Int->Bool×Int->x9 ρ} (R:Int->x9 ρ) (h0:∀e,e≠0->v e=R e) (D:∀z,z.1≠0->u z=R z.1) (C:∀z s r,o z s r=R 9) :
 Ã (Ā b) (fun m=>ifb (ine m (0:Int)) (v m) (acB ns u (fun z8=>Ã (gD ((z8.1,z8.2.1),z8.2.2)) fun i=>ifb (ine i.2.2 (0:Int)) (E z8 i) (Ã (ū i.1) fun a=>ifb (!a.1) (o z8 i a) (K z8 i a))) b)) =
 if (iw b ns).2≠0 then R (iw b ns).2 else K (flat (iw b ns).1) ((((Õ (iw b ns).1).length:Int)+1,þ (iw b ns).1),Ŋ (iw b ns).1,0) (true,0):=by
 rw[ix hI.size hI.num,À];unfold iw
 by_cases f:ö b=0
 ·have n:=(ú b).1 f;rw[Ö (by simp[ine,f]),if_neg (show ¬(ö b≠0) from fun h=>h f),Wc y R D n hI.num]
  by_cases d:(Ŷ b ns).2=0
  ·rw[if_neg (show ¬((Ŷ b ns).2≠0) from fun h=>h d),if_neg (show ¬((Ŷ b ns).2≠0) from fun h=>h d)];have l:=EC n d
   have j:∀g∈(Ŷ b ns).1.2.1,I64 g.2.2.2.2.1.1:=by rw[qR d]; exact hI.num
   generalize (Ŷ b ns).1=B at l j ⊢;rw[QH,uN (l.inn j),À,lV l,Ö (by rfl)];dsimp only;rw[show(((Õ B).length:Int)+1)=(((Õ B).length+1:Nat):Int) by push_cast; rfl,Bg l.sys,À]
   cases F:ŷ (þ B) ((Õ B).length+1) with
   |true =>
    rw[if_neg (by simp)];simp only[dj,ë];push_cast;rfl
   |false =>
    rw[if_pos (by simp)];simp only[Bool.not_false,Ĭ];rw[C];rfl
  ·rw[if_pos d,if_pos d,if_pos d]
 ·rw[à (by simp[ine,f]),h0 _ f,if_pos f,if_pos f]
end
def PE (b:Ý) (id a:Int):Bool:=b.2.2.1.any fun u=>u.1==id&&u.2==a
def Ym (b:Ý) (g:é) (d:Int):Int:=match vV b g.1 d with|some l=>l.2.2|none=>if PE b g.1 d then g.2.2.2.2.2 else 0
def Xp (l:vW) (id:Int) {f t:Int} (n:f<=t):(if l.1=id/\0<Ĉ l f (t+1) then Ĉ l f (t+1)*l.2.2 else 0)=(if l.1=id/\0<Ĉ l f t then Ĉ l f t*l.2.2 else 0)+(if l.1=id/\l.2.1.1<=t/\t<=l.2.1.2 then l.2.2 else 0):=by
 by_cases a:l.1=id
 ·by_cases g:l.2.1.1<=t/\t<=l.2.1.2
  ·have e:Ĉ l f (t+1)=Ĉ l f t+1:=by unfold Ĉ; omega
   have p:0<=Ĉ l f t:=by unfold Ĉ; omega
   rw[e,if_pos ⟨a,by omega⟩,if_pos (show l.1=id/\l.2.1.1<=t/\t<=l.2.1.2 from⟨a,g⟩),fN,fY]
   by_cases d:0<Ĉ l f t
   ·rw[if_pos ⟨a,d⟩]
   ·rw[if_neg (fun h=>d h.2)]
    have:Ĉ l f t=0:=by omega
    rw[this];omega
  ·rw[if_neg (show ¬(l.1=id/\l.2.1.1<=t/\t<=l.2.1.2) from fun h=>g h.2),fS]
   by_cases m:l.2.1.1<=t
   ·have e:Ĉ l f (t+1)=Ĉ l f t:=by unfold Ĉ; omega
    rw[e]
   ·have j:¬0<Ĉ l f (t+1):=by unfold Ĉ; omega
    have i:¬0<Ĉ l f t:=by unfold Ĉ; omega
    rw[if_neg (fun h=>j h.2),if_neg (fun h=>i h.2)]
 ·rw[if_neg (fun h=>a h.1),if_neg (fun h=>a h.1),if_neg (fun h=>a h.1)];rfl
def JF (id:Int) {f t:Int} (g:f<=t):∀{x:y5 vW},x.Pairwise (fun a c=>¬(a.1=c.1/\a.2.1.1<=c.2.1.2/\c.2.1.1<=a.2.1.2)) ->
 ù id f (t+1) x=ù id f t x+(match x.find? (fun l=>l.1==id&&inP t l.2.1.1 l.2.1.2) with|some l=>l.2.2|none=>0)
 |[],_=>rfl
 |l::r,j=>by
  rw[cO] at j;have m:=JF id g j.2;simp only[ù];rw[m,Xp l id g,fQ]
  by_cases d:l.1=id/\l.2.1.1<=t/\t<=l.2.1.2
  ·have e:(l.1==id&&inP t l.2.1.1 l.2.1.2)=true:=by simp[inP,d.1,d.2.1,d.2.2]
   have n:r.find? (fun l=>l.1==id&&inP t l.2.1.1 l.2.1.2)=none:=by
    rw[eD];intro c o i;simp only[inP,bZ,beq_iff_eq,decide_eq_true_eq] at i;exact j.1 c o ⟨by rw[d.1,i.1],by omega,by omega⟩
   rw[if_pos d,e,n];simp only;omega
  ·have e:(l.1==id&&inP t l.2.1.1 l.2.1.2)=false:=by
    rw[dQ];intro h;simp only[inP,bZ,beq_iff_eq,decide_eq_true_eq] at h;exact d h
   rw[if_neg d,e];simp only;omega
section
variable {b:Ý}
def Ğ.apart (h:Ğ b):b.2.2.2.1.Pairwise (fun a c=>¬(a.1=c.1/\a.2.1.1<=c.2.1.2/\c.2.1.1<=a.2.1.2)):=by
 rw[List.pairwise_iff_getElem];intro i j hi f g ⟨m,h2,l⟩;have e:=h.loans j _ (List.getElem?_eq_getElem f);unfold DE at e
 have d:(b.2.2.2.1.take j).any (fun x=>x.1==b.2.2.2.1[j].1&&(decide (x.2.1.1<=b.2.2.2.1[j].2.1.2)&&decide (b.2.2.2.1[j].2.1.1<=x.2.1.2)))=true:=by
  rw[dY];exact⟨b.2.2.2.1[i],cm.2 ⟨i,by rw[cw]; omega,by rw[eF]⟩,by simp[m,h2,l]⟩
 rw[d] at e
 (repeat' split at e)<;>first|omega|simp_all
def Ğ.notUsed (h:Ğ b) {id d:Int} {l:vW} (m:vV b id d=some l):PE b id d=false:=by
 have n:=List.mem_of_find?_eq_some m;have i:=List.find?_some m;simp only[inP,bZ,beq_iff_eq,decide_eq_true_eq] at i;obtain⟨j,o,rfl⟩:=cm.1 n;have f:=h.loans j _ (bY o);rw[dQ];intro g;obtain⟨u,g,a⟩:=dY.1 g;simp only[bZ,beq_iff_eq] at a
 have e:b.2.2.1.any (fun u=>u.1==b.2.2.2.1[j].1&&inP u.2 b.2.2.2.1[j].2.1.1 b.2.2.2.1[j].2.1.2)=true:=by
  rw[dY];exact⟨u,g,by simp only[inP,bZ,beq_iff_eq,decide_eq_true_eq]; exact⟨by rw[a.1,i.1],by omega,by omega⟩⟩
 unfold DE at f;rw[e] at f
 (repeat' split at f)<;>first|omega|simp_all
def Mq {id f t:Int} (j:f<=t):Ml (ť b id f (t+1))=Ml (ť b id f t)++if PE b id t then[t] else[]:=by
 have i:∀t x,x∈ť b id f t↔PE b id x=true/\f<=x/\x<t:=by
  intro t x;unfold ť PE;simp only[List.mem_map,List.mem_filter,List.any_eq_true,inP,Bool.and_eq_true,beq_iff_eq,decide_eq_true_eq];constructor
  ·rintro⟨u,⟨d,h2,e,n⟩,rfl⟩;exact⟨⟨u,d,h2,rfl⟩,e,by omega⟩
  ·rintro⟨⟨u,d,h2,rfl⟩,e,n⟩;exact⟨u,⟨d,h2,e,by omega⟩,rfl⟩
 refine Ze (Ex _) ?_ fun x=>?_
 ·rw[List.pairwise_append]
  refine⟨Ex _,by split<;>simp,fun a ha c m=>?_⟩
  rw[oh,i] at ha
  split at m
  ·rw[ce] at m; omega
  ·cases m
 ·rw[oh,i,b8,oh,i]
  by_cases g:PE b id t=true
  ·rw[if_pos g,ce];constructor
   ·rintro⟨d,h2,e⟩
    by_cases l:x=t
    ·exact .inr l
    ·exact .inl ⟨d,h2,by omega⟩
   ·rintro(⟨d,h2,e⟩|rfl)
    ·exact⟨d,h2,by omega⟩
    ·exact⟨g,j,by omega⟩
  ·rw[if_neg g];constructor
   ·rintro⟨d,h2,e⟩;refine .inl ⟨d,h2,?_⟩
    by_cases l:x=t
    ·rw[l] at d; exact absurd d g
    ·omega
   ·rintro(⟨d,h2,e⟩|h)
    ·exact⟨d,h2,by omega⟩
    ·cases h
def Oc (h:Ğ b) (g:é) {f t:Int} (a:f<=t):iN b g f (t+1)=iN b g f t+Ym b g t:=by
 unfold iN Ym;rw[JF g.1 a h.apart,Mq a];show ù g.1 f t b.2.2.2.1+(match vV b g.1 t with|some l=>l.2.2|none=>0)+_=_
 cases ha:vV b g.1 t with
 |some l =>
  rw[h.notUsed ha];simp only[cA,if_false,cn];omega
 |none =>
  simp only
  cases PE b g.1 t with
  |true=>simp only[if_true,b7,cX,Int.natCast_add,fN]; omega
  |false=>simp only[cA,if_false,cn]; omega
def Od (g:é) {f t:Int} (d:t<=f):iN b g f t=0:=by
 unfold iN
 have j:∀x:y5 vW,ù g.1 f t x=0:=by
  intro x
  induction x with
  |nil=>rfl
  |cons l r a =>
   simp only[ù];rw[a,if_neg (by unfold Ĉ; omega)];rfl
 have h2:ť b g.1 f t=[]:=by
  unfold ť
  rw[List.filter_eq_nil_iff.2 fun u m e=>by
   simp only[inP,bZ,beq_iff_eq,decide_eq_true_eq] at e
   omega]
  rfl
 rw[j,h2];have i:Ml ([]:y5 Int)=[]:=rfl;rw[i];simp
end
section
variable {b:Ý}
def D5 (h:Ğ b) (g:é) {f t u:Int} (d:f<=t) (h2:t<=u):iN b g f u=iN b g f t+iN b g t u:=by
 obtain⟨n,rfl⟩:∃n:Nat,u=t+n:=⟨(u-t).toNat,by omega⟩;clear h2
 induction n with
 |zero=>simp[Od]
 |succ n a =>
  have e:t+((n+1:Nat):Int)=(t+n)+1:=by omega
  rw[e,Oc h g (show f<=t+(n:Int) by omega),Oc h g (show t<=t+(n:Int) by omega),a];omega
def xQ (h:Ğ b) {g:é} (a:g∈b.2.1) {f t:Int} (d:0<=f):0<=iN b g f t:=(rM h a d).1
def Ÿ (b:Ý) (id d:Int):Int:=match iC (Õ b) id d with|some j=>(j:Int)+1|none=>0
def ol (h:Ğ b) {i:Nat} {g:é} (e:b.2.1[i]?=some g) {k:Nat} {d:Int} (a:(ß b g)[k]?=some d):Ÿ b g.1 d=(off b i:Int)+k+1:=by
 unfold Ÿ;rw[KK h e a];simp only;omega
structure qM (b:Ý) (p:Int->Int) (g:é):Prop where
 hi:p (Ÿ b g.1 g.2.1)<=p 0+(g.2.2.1+g.2.2.2.1.2)
 lo:p 0+(g.2.2.1+g.2.2.2.1.1)<=p (Ÿ b g.1 g.2.1)
 down:∀d e,d∈ß b g->e∈ß b g->d<=e->p (Ÿ b g.1 e)<=p (Ÿ b g.1 d)
 loss:∀d e,d∈ß b g->e∈ß b g->d<=e->p (Ÿ b g.1 d)<=p (Ÿ b g.1 e)+iN b g d e
def rR (h:Ğ b) {i:Nat} {g:é} (j:b.2.1[i]?=some g) {p:Int->Int}:(∀l∈ó b g,p l.2.1<=p l.1+l.2.2)↔qM b p g:=by
 have G:=ci j;obtain⟨V,E⟩:=OU h G
 have h0:Ÿ b g.1 g.2.1=(off b i:Int)+1:=by
  have:=ol h j (k:=0) (d:=g.2.1) (by rw[E]; rfl);rw[this];omega
 constructor
 ·intro r;have U:=r _ ((ĥ h j).2 (.inl rfl));have T:=r _ ((ĥ h j).2 (.inr (.inl rfl)));simp only at U T
  have step:∀(k:Nat) (d e:Int),(ß b g)[k]?=some d->(ß b g)[k+1]?=some e->p (Ÿ b g.1 e)<=p (Ÿ b g.1 d)/\p (Ÿ b g.1 d)<=p (Ÿ b g.1 e)+iN b g d e:=by
   intro k d e hd a;have s:=r _ ((ĥ h j).2 (.inr (.inr ⟨k,d,e,hd,a,.inl rfl⟩)));have o:=r _ ((ĥ h j).2 (.inr (.inr ⟨k,d,e,hd,a,.inr rfl⟩)));simp only at s o;rw[ol h j hd,ol h j a]
   have z:(off b i:Int)+((k+1:Nat):Int)+1=(off b i:Int)+k+2:=by omega
   rw[z];exact⟨by omega,o⟩
  have pair:∀(n k:Nat) (d e:Int),(ß b g)[k]?=some d->(ß b g)[k+n]?=some e->p (Ÿ b g.1 e)<=p (Ÿ b g.1 d)/\p (Ÿ b g.1 d)<=p (Ÿ b g.1 e)+iN b g d e:=by
   intro n
   induction n with
   |zero =>
    intro k d e hd a;rw[eN,hd] at a;cases a;rw[Od g (cZ _)];omega
   |succ n Q =>
    intro k d e hd a;have v:=(ca.1 a).1;have u:(ß b g)[k+n]?=some ((ß b g)[k+n]'(by omega)):=bY (by omega);obtain⟨s,o⟩:=Q k d _ hd u;obtain⟨a3,D⟩:=step (k+n) _ e u a
    have P:d<=(ß b g)[k+n]'(by omega):=by
     obtain⟨F,y⟩:=ca.1 hd;rcases fA n with rfl|W
     ·rw[<-y]; exact Int.le_of_eq (by congr 1)
     ·have:=(cM.1 (uI b g)) k (k+n) F (by omega) (by omega);rw[y] at this; omega
    have O:(ß b g)[k+n]'(by omega)<=e:=by
     obtain⟨I,J⟩:=ca.1 a;have:=(cM.1 (uI b g)) (k+n) (k+(n+1)) (by omega) I (by omega);rw[J] at this; omega
    have:=D5 h g P O;omega
  have any:∀d e,d∈ß b g->e∈ß b g->d<=e->p (Ÿ b g.1 e)<=p (Ÿ b g.1 d)/\p (Ÿ b g.1 d)<=p (Ÿ b g.1 e)+iN b g d e:=by
   intro d e hd a f;obtain⟨k,K,rfl⟩:=cm.1 hd;obtain⟨m,u,rfl⟩:=cm.1 a
   have R:k<=m:=by
    rcases cW m k with v|H
    ·have:=(cM.1 (uI b g)) m k u K v; omega
    ·exact H
   exact pair (m-k) k _ _ (bY K) (by rw[show k+(m-k)=m by omega]; exact bY u)
  exact⟨by rw[h0]; omega,by rw[h0]; omega,fun d e hd a f=>(any d e hd a f).1,fun d e hd a f=>(any d e hd a f).2⟩
 ·intro C l r;rcases(ĥ h j).1 r with rfl|rfl|⟨k,d,e,hd,a,rfl|rfl⟩
  ·have:=C.hi; rw[h0] at this; simp only; omega
  ·have:=C.lo; rw[h0] at this; simp only; omega
  ·have f:d<=e:=by
    obtain⟨s,o⟩:=ca.1 hd;obtain⟨a3,D⟩:=ca.1 a;have:=(cM.1 (uI b g)) k (k+1) s a3 (by omega);rw[o,D] at this; omega
   have:=C.down d e (ci hd) (ci a) f;rw[ol h j hd,ol h j a] at this
   have z:(off b i:Int)+((k+1:Nat):Int)+1=(off b i:Int)+k+2:=by omega
   rw[z] at this;simp only;omega
  ·have f:d<=e:=by
    obtain⟨s,o⟩:=ca.1 hd;obtain⟨a3,D⟩:=ca.1 a;have:=(cM.1 (uI b g)) k (k+1) s a3 (by omega);rw[o,D] at this; omega
   have:=C.loss d e (ci hd) (ci a) f;rw[ol h j hd,ol h j a] at this
   have z:(off b i:Int)+((k+1:Nat):Int)+1=(off b i:Int)+k+2:=by omega
   rw[z] at this;simp only;exact this
def Wo (h:Ğ b) {p:Int->Int}:Pot (þ b) p↔(∀g∈b.2.1,qM b p g)/\∀c∈b.2.2.2.2.1,p (cx b c)<=p (cy b c)+(pH b c).2/\p (cy b c)+(pH b c).1<=p (cx b c):=by
 constructor
 ·intro f;refine⟨fun g j=>?_,fun c e=>?_⟩
  ·obtain⟨i,hi,rfl⟩:=cm.1 j;exact(rR h (bY hi)).1 fun l a=>f l.1 l.2.1 l.2.2 (mY.2 (.inl ⟨i,_,bY hi,a⟩))
  ·have o:=f _ _ _ (mY.2 (.inr ⟨c,e,.inl rfl⟩));have r:=f _ _ _ (mY.2 (.inr ⟨c,e,.inr rfl⟩));omega
 ·rintro⟨j,e⟩ u v m a;rcases mY.1 a with⟨i,g,d,a⟩|⟨c,n,a⟩
  ·exact(rR h d).2 (j g (ci d)) (u,v,m) a
  ·obtain⟨o,r⟩:=e c n;rcases a with a|a
   ·obtain⟨rfl,rfl,rfl⟩:u=cy b c/\v=cx b c/\m=(pH b c).2:=by simpa using a
    exact o
   ·obtain⟨rfl,rfl,rfl⟩:u=cx b c/\v=cy b c/\m = -(pH b c).1:=by simpa using a
    omega
end
def abX:y5 Int->Int
 |[]=>0
 |[a]=>a
 |a::b::t=>max a (abX (b::t))
def NA:∀{l:y5 Int},l≠[]->(∀a∈l,a<=abX l)/\abX l∈l
 |[],h=>absurd rfl h
 |[a],_=>⟨fun x d=>by rw[ce] at d; rw[d]; exact cZ _,by simp[abX]⟩
 |a::b::t,_=>by
  obtain⟨f,h2⟩:=NA (l:=b::t) (by simp);have e:abX (a::b::t)=max a (abX (b::t)):=rfl;rw[e];constructor
  ·intro x d;rcases b9.1 d with rfl|d
   ·omega
   ·have:=f x d; omega
  ·rcases Int.le_total a (abX (b::t)) with h|h
   ·rw[Int.max_eq_right h]; exact eE _ h2
   ·rw[Int.max_eq_left h]; exact List.mem_cons_self
section
variable {b:Ý}
def Py (b:Ý) (f:Int->Int->Int) (z:Int) (v:Int):Int:=if v=0 then z else match (Õ b)[(v-1).toNat]? with|some n=>f n.1 n.2|none=>0
def tD (f:Int->Int->Int) (z:Int):Py b f z 0=z:=by unfold Py; rw[if_pos rfl]
def EG (h:Ğ b) (f:Int->Int->Int) (z:Int) {g:é} (m:g∈b.2.1) {d:Int} (hd:d∈ß b g):Py b f z (Ÿ b g.1 d)=f g.1 d:=by
 obtain⟨i,hi,rfl⟩:=List.mem_iff_getElem.1 m;obtain⟨k,l,rfl⟩:=List.mem_iff_getElem.1 hd;have a:=List.getElem?_eq_getElem hi;have j:=List.getElem?_eq_getElem l;rw[ol h a j];unfold Py
 have e:((off b i:Int)+k+1-1).toNat=off b i+k:=by omega
 rw[if_neg (by omega),e,aaj a j]
def Pf (b:Ý) (l:y5 Int) (d:Int):Int:=match l with|[]=>0|x::_=>Ÿ b x d
def TC (l:y5 Int) (d:Int):atP (Õ b) l d=Pf b l d:=by
 unfold atP Pf Ÿ
 cases l<;>rfl
def Yo (c:Cmp):cx b c=Pf b (Ě c.2.2.1 c.2.2.2.1) c.2.1:=TC _ _
def Yn (c:Cmp):cy b c=Pf b (Ě c.2.2.2.1 c.2.2.1) c.2.1:=TC _ _
def Lq (h:Ğ b) {c:Cmp} (m:c∈b.2.2.2.2.1) {x:Int} (f:x∈Ě c.2.2.1 c.2.2.2.1\/x∈Ě c.2.2.2.1 c.2.2.1):∃g∈b.2.1,g.1=x/\c.2.1∈ß b g:=by
 have d:(x∈c.2.2.1/\x∉c.2.2.2.1)\/(x∈c.2.2.2.1/\x∉c.2.2.1):=by
  rcases f with f|f
  ·exact .inl (iO.1 f)
  ·exact .inr (iO.1 f)
 have n:x∈c.2.2.1++c.2.2.2.1:=by rw[b8]; exact d.imp (·.1) (·.1)
 obtain⟨⟨g,o,_⟩,_⟩:=h.pile m n;obtain⟨j,i⟩:=ţ o;refine⟨g,j,i,lT.2 (.inr (.inl ⟨c,m,?_,rfl⟩))⟩;rw[i];intro l;rw[eI,gg,gg] at l;rcases d with⟨a,e⟩|⟨a,e⟩
 ·exact e (l.1 a)
 ·exact e (l.2 a)
def fill (b:Ý) (p:Int->Int) (g:é) (d:Int):Int:=abX ((ß b g).map fun e=>if d<=e then p (Ÿ b g.1 e) else p (Ÿ b g.1 e)-iN b g e d)
def GI {p:Int->Int} {g:é} (d:Int):(∀e∈ß b g,(if d<=e then p (Ÿ b g.1 e) else p (Ÿ b g.1 e)-iN b g e d)<=fill b p g d)/\∃e∈ß b g,fill b p g d=if d<=e then p (Ÿ b g.1 e) else p (Ÿ b g.1 e)-iN b g e d:=by
 have a:((ß b g).map fun e=>if d<=e then p (Ÿ b g.1 e) else p (Ÿ b g.1 e)-iN b g e d)≠[]:=by
  intro h;have:=List.map_eq_nil_iff.1 h;have h2:=sd (b:=b) g;rw[this] at h2;cases h2
 obtain⟨j,h2⟩:=NA a;refine⟨fun e f=>j _ (cR.2 ⟨e,f,rfl⟩),?_⟩;obtain⟨e,f,i⟩:=cR.1 h2;exact⟨e,f,i.symm⟩
def Tc (h:Ğ b) {p:Int->Int} {g:é} (m:g∈b.2.1) (f:qM b p g) {d:Int} (hd:d∈ß b g):fill b p g d=p (Ÿ b g.1 d):=by
 obtain⟨l,e,i,h2⟩:=GI (b:=b) (p:=p) (g:=g) d;have j:=l d hd;rw[if_pos (cZ _)] at j
 have n:fill b p g d<=p (Ÿ b g.1 d):=by
  rw[h2]
  split
  ·rename_i a;exact f.down d e hd i a
  ·rename_i a;have:=f.loss e d i hd (by omega);omega
 omega
def OK (h:Ğ b) {p:Int->Int} {g:é} (a:g∈b.2.1) (E:qM b p g) {d e:Int} (h0:g.2.1<=d) (j:d<=e):fill b p g e<=fill b p g d/\fill b p g d<=fill b p g e+iN b g d e:=by
 obtain⟨z,x,n,v⟩:=GI (b:=b) (p:=p) (g:=g) d;obtain⟨s,y,m,r⟩:=GI (b:=b) (p:=p) (g:=g) e;have C:=(h.gaugeR a).2.2.2.2.1;have D:=xQ h a (f:=d) (t:=e) (by omega);have F:=h.day a n;have o:=h.day a m;constructor
 ·have q:=z y m;rw[r]
  by_cases i:e<=y
  ·rw[if_pos i];rw[if_pos (by omega)] at q;exact q
  ·rw[if_neg i]
   by_cases l:d<=y
   ·rw[if_pos l] at q;have:=xQ h a (f:=y) (t:=e) o.2.1;omega
   ·rw[if_neg l] at q;have:=D5 h g (f:=y) (t:=d) (u:=e) (by omega) j;omega
 ·have q:=s x n;rw[v]
  by_cases i:d<=x
  ·rw[if_pos i]
   by_cases l:e<=x
   ·rw[if_pos l] at q;omega
   ·rw[if_neg l] at q;have:=D5 h g (f:=d) (t:=x) (u:=e) i (by omega);have:=xQ h a (f:=d) (t:=x) (by omega);omega
  ·rw[if_neg i];rw[if_neg (by omega)] at q;have:=D5 h g (f:=x) (t:=d) (u:=e) (by omega) j;omega
end
section
variable {b:Ý} {c:Cmp}
def Ve {d:Ý} (h':Ğ d) {l:y5 Int} {a:Int} (f:Int->Int->Int) (z:Int) (e:∀x∈l,∃g∈d.2.1,g.1=x/\a∈ß d g):Py d f z (Pf d l a)=match l with|[]=>z|x::_=>f x a:=by
 unfold Pf
 cases l with
 |nil=>exact tD f z
 |cons x t =>
  obtain⟨g,i,rfl,hd⟩:=e x (by simp);exact EG h' f z i hd
end
section
variable {L:y5 Lk} {N:Nat}
def Wl.app {u v:Int} {vs:y5 Int} {d:Int} (g:Wl L (fun x=>x=u) vs v d) {ws:y5 Int} {w e:Int} (h2:Wl L (fun x=>x=v) ws w e):∃xs,Wl L (fun x=>x=u) xs w (d+e):=by
 induction h2 with
 |nil h=>subst h; exact⟨vs,by rw[fS]; exact g⟩
 |step i f a =>
  obtain⟨xs,hi⟩:=a;have:=Wl.step hi f;rw[Int.add_assoc] at this;exact⟨_,this⟩
def dst (L:y5 Lk) (N:Nat) (s t:Int):Int:=gv (mi L N s) t
def Yb (h:Η L N) (g:Be L N) (n:ŷ L N=true) {s t:Int} (a:0<=s/\s<N) (f:0<=t/\t<N):dst L N s t<=9007199254740992:=by
 have h2:=h.n60;obtain⟨p,m⟩:=(Ţ h.links (by omega)).1 n;obtain⟨vs,d,l,hd⟩:=g.from' s a.1 a.2;obtain⟨ws,e,j,o⟩:=g.to t f.1 f.2;obtain⟨xs,i⟩:=Wl.app l j;have:=(ι h.links (by omega) m a).low t xs _ (ES.2 i);unfold dst;omega
def OS (h:Η L N) (d:Be L N) (f:ŷ L N=true) {s t:Int} (e:0<=s/\s<N) (a:0<=t/\t<N):dst L N s t≠ň:=by
 have:=Yb h d f e a;unfold ň;omega
def X9 (h:Η L N) (f:Be L N) (d:ŷ L N=true) {s:Int} (a:0<=s/\s<N):Pot L (dst L N s):=by
 have h2:=h.n60;obtain⟨p,i⟩:=(Ţ h.links (by omega)).1 d;intro u v m e;have g:=h.inr _ e;exact(ι h.links (by omega) i a).pot h.inr e (OS h f d a g.1)
def Tf (h:Η L N) (d:ŷ L N=true) {s:Int} (a:0<=s/\s<N):dst L N s s=0:=Q5 h d a.1 a.2
def LH (h:Η L N) (j:Be L N) (l:ŷ L N=true) {s t:Int} (d:0<=s/\s<N) (a:0<=t/\t<N) {p:Int->Int} (e:Pot L p):p t-p s<=dst L N s t:=by
 have h2:=h.n60;obtain⟨vs,g⟩:=(ι h.links (by omega) e d).att t a.1 a.2 (OS h j l d a);obtain⟨u,i,f⟩:=(ES.1 g).pot e;subst i;exact f
def adB (h:Η L N) (f:Be L N) (a:ŷ L N=true) {x y:Int} (e:0<=x/\x<N) (d:0<=y/\y<N) {t:Int} (i : -(dst L N x y)<=t) (h2:t<=dst L N y x):∃p,Pot L p/\p x-p y=t:=by
 refine⟨fun v=>min (dst L N y v) (dst L N x v+t),fun u v m g=>?_,?_⟩
 ·have o:=X9 h f a d u v m g;have n:=X9 h f a e u v m g;show min _ _<=min _ _+m;omega
 ·have l:=Tf h a e;have j:=Tf h a d;show min (dst L N y x) (dst L N x x+t)-min (dst L N y y) (dst L N x y+t)=t;omega
def GS (h:Η L N) (f:Be L N) (a:ŷ L N=true) {x y:Int} (e:0<=x/\x<N) (d:0<=y/\y<N) : -(dst L N x y)<=dst L N y x:=by
 have h2:=h.n60;obtain⟨p,g⟩:=(Ţ h.links (by omega)).1 a;have j:=LH h f a e d g;have i:=LH h f a d e g;omega
def dst_bd (h:Η L N) (d:Be L N) (f:ŷ L N=true) {s t:Int} (e:0<=s/\s<N) (a:0<=t/\t<N) : -9007199254740992<=dst L N s t/\dst L N s t<=9007199254740992:=by
 have i:=Yb h d f e a;have g:=Yb h d f a e;have a3:=GS h d f a e;omega
def Kg (h:Η L N) (f:Be L N) {s t:Int} (g:0<=s/\s<N) (e:0<=t/\t<N):lY L N s t=if ŷ L N then(dst L N s t,0) else(0,9):=by
 unfold lY
 by_cases a:ŷ L N=true
 ·have d:=OS h f a g e;unfold dst at d ⊢;rw[if_neg (by simp[a]),if_neg d,if_pos a]
 ·rw[if_pos (by simpa using a),if_neg a]
end
structure acl (B:Ý):Prop where
 good:Ğ B
 op:ŷ (þ B) ((Õ B).length+1)=true
 num:∀g∈B.2.1,I64 g.2.2.2.2.1.1
theorem yK {b:Ý} (hI:In b) {ns:y5 (Int×Int)} (e:(iw b ns).2=0):acl (iw b ns).1/\(iw b ns).1=(Ŷ b ns).1/\(Ŷ b ns).2=0/\Ğ b:=by
 unfold iw at e ⊢
 by_cases d:ö b=0
 ·rw[if_neg (by simp[d])] at e ⊢
  by_cases a:(Ŷ b ns).2=0
  ·rw[if_neg (by simp[a])] at e ⊢
   cases f:ŷ (þ (Ŷ b ns).1) ((Õ (Ŷ b ns).1).length+1) with
   |true =>
    rw[if_pos rfl];exact⟨⟨EC ((ú b).1 d) a,f,by rw[qR a]; exact hI.num⟩,rfl,a,(ú b).1 d⟩
   |false=>rw[f] at e; simp at e
  ·rw[if_pos a] at e; exact absurd e a
 ·rw[if_pos d] at e; exact absurd e d
theorem me (B:Ý) (n:Int×Int):0<=ur B n.1 n.2/\ur B n.1 n.2<((Õ B).length+1:Nat):=by
 unfold ur
 cases h:iC (Õ B) n.1 n.2 with
 |none=>dsimp only; omega
 |some j=>have:=(jo h).1; dsimp only; omega
theorem Zc {B:Ý} (h:Ğ B) (a:∀g∈B.2.1,I64 g.2.2.2.2.1.1) (s:Sys) (n:Int×Int):kQ (B,s) n=some (ur B n.1 n.2):=by
 unfold kQ Fh;rw[show gZ (B,s).1 n=gZ B n from rfl,Hr (h.inn a),À,yd h]
 split
 ·rename_i e; rw[e]
 ·rfl
theorem Y3 {B:Ý} {L:y5 Lk} {N:Nat} (h:Η L N) {to a:Int} (d:0<=to/\to<N) (h2:0<=a/\a<N):gB (B,(N:Int),L) to a=some (lY L N a to).1:=by
 unfold gB wu;rw[show(B,(N:Int),L).2=((N:Int),L) from rfl,TN h h2 d,À]
def Vr (B:Ý):Sys:=(((Õ B).length:Int)+1,þ B)
def Mn (B:Ý) (s t:Int):Int:=dst (þ B) ((Õ B).length+1) s t
def ivR (B:Ý) (n:Int×Int):Int×Int:=(-(Mn B (ur B n.1 n.2) 0),Mn B 0 (ur B n.1 n.2))
theorem Kj (B:Ý):Vr B=((((Õ B).length+1:Nat):Int),þ B):=by unfold Vr; push_cast; rfl
theorem iU (B:Ý):0<=(0:Int)/\(0:Int)<((Õ B).length+1:Nat):=by omega
section
variable {B:Ý} (h:acl B)
include h
theorem adC {s t:Int} (d:0<=s/\s<((Õ B).length+1:Nat)) (a:0<=t/\t<((Õ B).length+1:Nat)) : -9007199254740992<=Mn B s t/\Mn B s t<=9007199254740992 :=
 dst_bd h.good.sys h.good.tied h.op d a
theorem J9 {to a:Int} (d:0<=to/\to<((Õ B).length+1:Nat)) (h2:0<=a/\a<((Õ B).length+1:Nat)):gB (B,Vr B) to a=some (Mn B a to):=by
 rw[Kj,Y3 h.good.sys d h2,Kg h.good.sys h.good.tied h2 d,if_pos h.op];rfl
theorem JL (n:Int×Int):Ū (B,Vr B) n=some (-(Mn B (ur B n.1 n.2) 0)):=by
 unfold Ū wt;have hb:=adC h (me B n) (iU B);rw[Zc h.good h.num,À,J9 h (iU B) (me B n),À,ð (by omega) (by omega)];congr 1;omega
theorem AF (n:Int×Int):Ε (B,Vr B) n=some (Mn B 0 (ur B n.1 n.2)):=by
 unfold Ε pU;rw[Zc h.good h.num,À,J9 h (me B n) (iU B),À]
theorem Lv (n:Int×Int):iq (B,Vr B) n=some (ivR B n):=by
 unfold iq kz;rw[JL h,À,AF h,À];rfl
end
def ka (b:Ý) (n:Int×Int):(Int×Int)×Int:=if (iw b [n]).2≠0 then((0,0),(iw b [n]).2) else(ivR (iw b [n]).1 n,0)
theorem Ri {b:Ý} (hI:In b) (n:Int×Int):oY b n=some (ka b n):=by
 unfold oY CM ka;refine(Sb hI (ns:=[n]) (by simp) (fun e=>some (((0,0):Int×Int),e)) (fun e a=>by rw[Į (by simp[ine,a])]) (fun z a=>by rw[Į (by simp[ine,a])]) (fun _ _ _=>rfl)).trans ?_
 split
 ·rfl
 ·rename_i e;have d:=(yK hI (by simpa using e)).1;dsimp only;rw[QH,show((((Õ (iw b [n]).1).length:Int)+1,þ (iw b [n]).1):Sys)=Vr (iw b [n]).1 from rfl,Lv d,À]
def OE (a:y5 (y5 Int)) (i:Nat):(a.take i).flatten.length<=a.flatten.length:=by
 conv=>rhs; rw[<-List.take_append_drop i a,fp,b7]
 omega
def Vp {a:y5 (y5 Int)} (v:a.length<=1000000) (y:a.flatten.length<=1000000):Ċ a=some a.flatten:=by
 have r:∀n:Nat,n<=4000000->∀(f:Int->x9 (y5 Int)),ck (n:Int) f=f n:=fun n h f=>ð (by omega) (by omega) f
 have d:Î (fun(m:fy) e=>å a (Û a) m.1 m.2 (fun j g=>e (j,g)) (fun z8=>some z8)) ((0:Int),([]:y5 Int))=some a.flatten:=by
  refine Ġ a (fun i=>(a.take i).flatten) (some a.flatten) (f:=fun(m:fy) e=>å a (Û a) m.1 m.2 (fun j g=>e (j,g)) (fun z8=>some z8)) rfl (fun i x hi l kn=>?_) (fun kn=>?_)
  ·try dsimp only
   unfold å;have o:=OE a (i+1);rw[take_succ l,List.flatten_append,List.length_append] at o;simp only[List.flatten_cons,List.flatten_nil,List.append_nil] at o;rw[Ó hi,Ç l,Í hi (by omega),take_succ l,List.flatten_append];have:Ú ((List.take i a).flatten.length+x.length)=true:=Ò (by omega);rw[Į this];simp
  ·try dsimp only
   unfold å;rw[á];simp
 unfold Ċ jO;refine gL (fun x:Int×Int=>∃i:Nat,i<=a.length/\x=(((a.take i).flatten.length:Int),(i:Int))) (fun x=>a.length-x.2.toNat) ?_ ⟨0,by omega,rfl⟩;rintro x ⟨i,hi,rfl⟩;rcases Nat.lt_or_ge i a.length with h2|h2
 ·refine .inr ⟨(((a.take (i+1)).flatten.length:Int),(i:Int)+1),⟨i+1,h2,by simp⟩,by simp; omega,fun kn=>?_⟩;obtain⟨x,l⟩:∃x,a[i]?=some x:=⟨_,bY h2⟩;have o:=OE a (i+1);rw[take_succ l,fp,b7] at o;simp only[fD,fZ,cn] at o
  try dsimp only
  unfold ğ;rw[Ó h2,Ç l,è]
  have u:(((List.take i a).flatten.length:Int)+(x.length:Int))=((List.take i a).flatten.length+x.length:Nat):=by omega
  rw[u,r _ (by omega)]
  have:ilt ((((List.take i a).flatten.length+x.length:Nat)):Int) 0=false:=by simp[ilt]; omega
  rw[Ö this,Í h2 (by omega),take_succ l];simp
 ·refine .inl fun kn=>?_
  obtain rfl:i=a.length:=by omega
  try dsimp only
  unfold ğ;rw[á,List.take_length];have s:ilt ((a.flatten.length:Nat):Int) 0=false:=decide_eq_false (by omega);dsimp only;rw[Ö s,Int.sub_zero,r _ (by omega)];rcases Nat.eq_zero_or_pos a.flatten.length with h0|h0
  ·have:igt (a.flatten.length:Int) 0=false:=decide_eq_false (by omega);rw[Ö this];exact d
  ·have:igt (a.flatten.length:Int) 0=true:=decide_eq_true (by omega);rw[à this]
   have:((ilt (0:Int) (a.flatten.length:Int))&&(Ú (Int.toNat (a.flatten.length:Int))))=true:=by
    rw[cp,Ò (by omega),fM];exact decide_eq_true (by omega)
   rw[Į this];have:ile 0 (ē (List.replicate (Int.toNat (a.flatten.length:Int)) (0:Int)))=true:=decide_eq_true (Int.natCast_nonneg _);rw[Į this];exact d
def uz {α:Type} (p:α->Bool) (l:y5 α) (i:Nat):((l.take i).filter p).length<=l.length:=by
 have a:=dm p (l.take i);rw[cw] at a;omega
def Jh (x y:Int) (g:Bool):∀m:y5 (Int×Bool),pO (k:=tI) (v:=.bool) x (DZ (k:=tI) (v:=.bool) y g m)=if x=y then some g else pO (k:=tI) (v:=.bool) x m
 |[]=>by
  unfold DZ pO ji pO
  by_cases h:x=y<;>simp[h]
 |e::m=>by
  unfold DZ
  by_cases h:y=e.1
  ·have:ji tI y e.1=true:=by simp[ji,h]
   rw[this]
   try dsimp only
   unfold pO ji
   by_cases h2:x=y
   ·simp[h2]
   ·have:¬x=e.1:=fun a=>h2 (a.trans h.symm);simp[h2,this]
  ·have:ji tI y e.1=false:=by simp[ji,h]
   rw[this]
   try dsimp only
   have d:=Jh x y g m;unfold pO
   by_cases h2:x=e.1
   ·have:ji tI x e.1=true:=by simp[ji,h2]
    rw[this];have:¬x=y:=fun a=>h (a.symm.trans h2);simp[this]
   ·have:ji tI x e.1=false:=by simp[ji,h2]
    rw[this];exact d
def Hy (l:y5 Int):y5 (Int×Bool):=l.foldl (fun m x=>DZ (k:=tI) (v:=.bool) x true m) []
def tz (l:y5 Int) (x:Int):Hy (l++[x])=DZ (k:=tI) (v:=.bool) x true (Hy l):=by unfold Hy; rw[List.foldl_append]; rfl
def Nz (x:Int):∀(l:y5 Int) (m:y5 (Int×Bool)),pO (k:=tI) (v:=.bool) x (l.foldl (fun m x=>DZ (k:=tI) (v:=.bool) x true m) m)=if l.contains x then some true else pO (k:=tI) (v:=.bool) x m
 |[],m=>by simp
 |y::l,m=>by
  rw[ej,Nz x l,Jh]
  by_cases h:x=y
  ·subst h; simp
  ·simp[h]
def Nx (l:y5 Int) (x:Int):pO (k:=tI) (v:=.bool) x (Hy l)=if l.contains x then some true else none:=Nz x l []
def tk (b:Ý) (s:Int×Int):y5 Int:=if s.1=3 then(match b.2.2.2.2.1[s.2.toNat]? with|some c=>c.2.2.1++c.2.2.2.1|none=>[]) else(match b.2.1[s.2.toNat]? with|some g=>[g.1]|none=>[])
def A1 (b:Ý) (ss looks:y5 (Int×Int)):y5 Int:=ss.flatMap (tk b)++looks.map fun n=>n.1
def vG (ss:y5 (Int×Int)):y5 Int:=(ss.filter fun s=>s.1==3).map fun s=>s.2
def pu (w:y5 Int):Nat->y5 Cmp->y5 Cmp
 |_,[]=>[]
 |i,c::t=>if w.contains (i:Int) then c::pu w (i+1) t else pu w (i+1) t
def A2 (b:Ý) (ss looks:y5 (Int×Int)):Ý :=
 (b.1,b.2.1.filter fun g=>(A1 b ss looks).contains g.1,b.2.2.1.filter fun u=>(A1 b ss looks).contains u.1,b.2.2.2.1.filter fun l=>(A1 b ss looks).contains l.1,pu (vG ss) 0 b.2.2.2.2.1,looks)
def Zi (b:Ý) (s:Int×Int):Prop:=((s.1=1\/s.1=2)/\0<=s.2/\s.2<b.2.1.length)\/(s.1=3/\0<=s.2/\s.2<b.2.2.2.2.1.length)
def JM (w:y5 Int) (c:Cmp):∀(l:y5 Cmp) (i:Nat),pu w i (l++[c])=pu w i l++if w.contains ((i+l.length:Nat):Int) then[c] else[]
 |[],i=>by simp only[dL,pu,cz,eN]
 |a::l,i=>by
  have e:((i+1+l.length:Nat):Int)=((i+(l.length+1):Nat):Int):=by congr 1; omega
  simp only[dw,pu,JM w c l (i+1),cj,e]
  split<;>rfl
def Gg (w:y5 Int):∀(l:y5 Cmp) (i:Nat),(pu w i l).length<=l.length
 |[],i=>by simp[pu]
 |a::l,i=>by
  have:=Gg w l (i+1);simp only[pu]
  split<;>simp only[cj]<;>omega
def un {ρ:Type} (x:Int) (l:y5 Int) (f:Bool->x9 ρ) (g:x9 ρ):Mm (k:=tI) (v:=.bool) x (Hy l) f g=if l.contains x then f true else g:=by
 unfold Mm;rw[Nx]
 by_cases h:l.contains x=true
 ·rw[if_pos h,if_pos h]
 ·rw[if_neg h,if_neg h]
section
variable {ρ:Type}
def cut_L3 (l:y5 (Int×Int)) (j:l.length<=1000) (ids:y5 Int) (K:y5 (Int×Int)->x9 ρ):Î (fun(d:(Val (.pair tI (.slice Â)))) e=>pZ l (Û l) (Hy ids) d.1 d.2 (fun g f=>e (g,f)) K) ((0:Int),[])=K (l.filter fun u=>ids.contains u.1):=by
 refine Ġ l (fun i=>(l.take i).filter fun u=>ids.contains u.1) _ rfl (fun i a hi ha kn=>?_) (fun kn=>?_)
 ·try dsimp only
  unfold pZ;have m:=uz (fun u:Int×Int=>ids.contains u.1) l i;rw[Ó hi,Ç ha,un,take_succ ha,List.filter_append]
  by_cases h:ids.contains a.1=true
  ·rw[if_pos h,Ĭ,Į (Ò (by simp only[cX]; omega)),Í hi (by omega)];simp only[dz,dH,h,if_pos]
  ·rw[if_neg h,Í hi (by omega)];simp only[dz,dH,h,if_neg,cA,not_false_eq_true,cn]
 ·try dsimp only
  unfold pZ;rw[á,List.take_length]
def cut_L4 (l:y5 vW) (j:l.length<=1000) (ids:y5 Int) (K:y5 vW->x9 ρ):Î (fun(d:(Val (.pair tI (.slice Ŏ)))) e=>pY l (Û l) (Hy ids) d.1 d.2 (fun g f=>e (g,f)) K) ((0:Int),[])=K (l.filter fun u=>ids.contains u.1):=by
 refine Ġ l (fun i=>(l.take i).filter fun u=>ids.contains u.1) _ rfl (fun i a hi ha kn=>?_) (fun kn=>?_)
 ·try dsimp only
  unfold pY;have m:=uz (fun u:vW=>ids.contains u.1) l i;rw[Ó hi,Ç ha,un,take_succ ha,List.filter_append]
  by_cases h:ids.contains a.1=true
  ·rw[if_pos h,Ĭ,Į (Ò (by simp only[cX]; omega)),Í hi (by omega)];simp only[dz,dH,h,if_pos]
  ·rw[if_neg h,Í hi (by omega)];simp only[dz,dH,h,if_neg,cA,not_false_eq_true,cn]
 ·try dsimp only
  unfold pY;rw[á,List.take_length]
def cut_L5 (l:y5 Cmp) (n:l.length<=1000) (m:∀c∈l,c.2.2.1.length<=1000/\c.2.2.2.1.length<=1000) (w:y5 Int) (K:y5 Cmp->x9 ρ):Î (fun(d:(Val (.pair tI (.slice Ü)))) f=>pX l (Û l) (Hy w) d.1 d.2 (fun j g=>f (j,g)) K) ((0:Int),[])=K (pu w 0 l):=by
 refine Ġ l (fun i=>pu w 0 (l.take i)) _ rfl (fun i a hi ha kn=>?_) (fun kn=>?_)
 ·try dsimp only
  unfold pX;have o:=Gg w (l.take i) 0;have h2:=m a (List.mem_of_getElem? ha)
  have e:(l.take i).length=i:=by rw[cw]; omega
  rw[Ó hi,Ç ha,un,take_succ ha,JM,e,cF]
  by_cases h:w.contains (i:Int)=true
  ·rw[if_pos h,if_pos h,Ĭ,Į (Ò (by omega)),Į (Ò (by omega)),Į (Ò (by simp only[cX]; omega)),Í hi (by omega)]
  ·rw[if_neg h,if_neg h,Í hi (by omega)];simp only[cn]
 ·try dsimp only
  unfold pX;rw[á,List.take_length]
def cut_L2 (looks:y5 (Int×Int)) (j:looks.length<=1000) (ids:y5 Int) (K:y5 (Int×Bool)->x9 ρ):Î (fun(d:(Val (.pair tI (.map tI .bool)))) e=>qd looks (Û looks) d.1 d.2 (fun g f=>e (g,f)) K) ((0:Int),Hy ids)=K (Hy (ids++looks.map fun n=>n.1)):=by
 refine Ġ looks (fun i=>Hy (ids++(looks.take i).map fun n=>n.1)) _ (by simp) (fun i a hi ha kn=>?_) (fun kn=>?_)
 ·try dsimp only
  unfold qd;rw[Ó hi,Ç ha,Í hi (by omega),take_succ ha,List.map_append,<-List.append_assoc,List.map_singleton,tz]
 ·try dsimp only
  unfold qd;rw[á,List.take_length]
def cut_L1 (xs:y5 Int) (j:xs.length<=10000) (ids:y5 Int) (K:y5 (Int×Bool)->x9 ρ):Î (fun(d:(Val (.pair tI (.map tI .bool)))) e=>qe xs (Û xs) d.1 d.2 (fun g f=>e (g,f)) K) ((0:Int),Hy ids)=K (Hy (ids++xs)):=by
 refine Ġ xs (fun i=>Hy (ids++xs.take i)) _ (by simp) (fun i a hi ha kn=>?_) (fun kn=>?_)
 ·try dsimp only
  unfold qe;rw[Ó hi,Ç ha,Í hi (by omega),take_succ ha,<-List.append_assoc,tz]
 ·try dsimp only
  unfold qe;rw[á,List.take_length]
end
def kK {ρ α:Type} {l:y5 α} {i:Int} (h0:0<=i) {a:α} (h:l[i.toNat]?=some a) (f:α->x9 ρ):ă l i f=f a:=by
 obtain⟨n,rfl⟩:=fV h0;exact Ç (by simpa using h) f
def ab9 {b:Ý} (d:j7 b) {ss looks:y5 (Int×Int)} (F:ss.length<=1000) (h2:looks.length<=1000) (o:∀s∈ss,Zi b s):GJ b ss looks=some (A2 b ss looks):=by
 have H:=d.gauges; have C:=d.uses; have z:=d.loans; have y:=d.compares; have G:=d.looks;unfold GJ W7 zE;refine Ġ ss (fun i=>(Hy ((ss.take i).flatMap (tk b)),Hy (vG (ss.take i)))) _ rfl (fun i s hi ha kn=>?_) (fun kn=>?_)
 ·try dsimp only
  unfold vf;have j:=o s (List.mem_of_getElem? ha);rw[Ó hi,Ç ha,take_succ ha,List.flatMap_append]
  have E:vG (ss.take i++[s])=vG (ss.take i)++if s.1=3 then[s.2] else[]:=by
   unfold vG;rw[List.filter_append,List.map_append];congr 1
   by_cases h:s.1=3<;>simp[h]
  rw[E];rcases j with⟨a,h0,u⟩|⟨a,h0,u⟩
  ·have e:b.2.1[s.2.toNat]?=some b.2.1[s.2.toNat]:=bY (by omega);generalize b.2.1[s.2.toNat]=g at e
   have m:tk b s=[g.1]:=by
    unfold tk;rw[if_neg (by omega),e]
   have l:List.flatMap (tk b) [s]=[g.1]:=by simp[m]
   rw[Ö (decide_eq_false (by omega)),if_neg (by omega),cn,l,tz];rcases a with a|a
   ·rw[à (decide_eq_true a),kK h0 e,Í hi (by omega)]
   ·rw[Ö (decide_eq_false (by omega)),à (decide_eq_true a),kK h0 e,Í hi (by omega)]
  ·have f:b.2.2.2.2.1[s.2.toNat]?=some b.2.2.2.2.1[s.2.toNat]:=bY (by omega);have r:=d.piles b.2.2.2.2.1[s.2.toNat] (fh _);generalize b.2.2.2.2.1[s.2.toNat]=c at f r
   have m:tk b s=c.2.2.1++c.2.2.2.1:=by
    unfold tk;rw[if_pos a,f]
   have l:List.flatMap (tk b) [s]=c.2.2.1++c.2.2.2.1:=by simp[m]
   rw[Ö (decide_eq_false (by omega)),Ö (decide_eq_false (by omega)),Ö (decide_eq_false (by omega)),Į (decide_eq_true a),if_pos a,l,kK h0 f,kK h0 f,Vp (by simp) (by simp; omega),À];rw[show([c.2.2.1,c.2.2.2.1]:y5 (y5 Int)).flatten=c.2.2.1++c.2.2.2.1 by simp];refine(cut_L1 (c.2.2.1++c.2.2.2.1) (by simp; omega) _ _).trans ?_;rw[tz,Í hi (by omega)]
 ·try dsimp only
  unfold vf;rw[á];dsimp only;rw[List.take_length];refine(cut_L2 looks h2 _ _).trans ?_;rw[show(ss.flatMap (tk b)++looks.map fun n=>n.1)=A1 b ss looks from rfl];unfold vp
  try dsimp only
  rw[Į (Ò (by omega)),À]
  have D:(List.filter (fun g=>(pO (k:=tI) (v:=.bool) g.1 (Hy (A1 b ss looks))).getD false) b.2.1)=b.2.1.filter fun g=>(A1 b ss looks).contains g.1:=by
   refine List.filter_congr fun g _=>?_;rw[Nx]
   cases(A1 b ss looks).contains g.1<;>rfl
  rw[D];unfold lC;dsimp only;refine(cut_L3 b.2.2.1 C _ _).trans ?_;refine(cut_L4 b.2.2.2.1 z _ _).trans ?_;refine(cut_L5 b.2.2.2.2.1 y d.piles _ _).trans ?_;rfl
end Go.Proofs.ZzM
end
