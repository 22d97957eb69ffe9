/- lemmas -/
import Derived.Test.YtiochmbenflhhaaGreatAmG
import Derived.Test.YtiochmbenflhhaaGreatMdTA
set_option linter.all false
set_option linter.unusedSectionVars false
set_option linter.unusedVariables false
set_option linter.unusedSimpArgs false
noncomputable section
namespace Go.Am
section
variable {ρ:Type}
def Α {α β:Type} (e:Nat→α→Option β):Nat→List α→Option β
 |_,[]=>none
 |i,a::t=>match e i a with
  |some b=>some b
  |none=>Α e (i+1) t
def sN {α β:Type} (l:List α) (e:Nat→α→Option β) (k0:β→Option ρ) (k1:Option ρ) {f:Int→(Int→Option ρ)→Option ρ}
 (h:∀(i:Nat) (a:α),i<l.length→l[i]?=some a→∀kn,f i kn=match e i a with|some b=>k0 b|none=>kn ((i:Int)+1))
 (hn:∀kn,f l.length kn=k1):Í f 0=match Α e 0 l with|some b=>k0 b|none=>k1:=by
 refine aca l (fun i t=>match Α e i t with|some b=>k0 b|none=>k1) hn fun i a t hd hi ha kn hk=>?_;rw[h i a hi ha kn,hk,Α]
 cases e i a<;>rfl
def Ą {α σ:Type} (l:List α) (g:Nat→σ) (r:Option ρ) {f:Int×σ→(Int×σ→Option ρ)→Option ρ} {s0:σ} (h0:g 0=s0)
 (h:∀(i:Nat) (a:α),i<l.length→l[i]?=some a→∀kn,f (i,g i) kn=kn ((i:Int)+1,g (i+1)))
 (hn:∀kn,f (l.length,g l.length) kn=r):Í f (0,s0)=r:=by
 subst h0
 have hs:∀s,(s=g 0)→Í f (0,s)=r:=fun s e=>JQ l (fun _ _ _=>r) (fun i s=>s=g i) (fun s hs kn=>by rw[hs]; exact hn kn) (fun i a t s hd hi ha hI kn hk=>by
  rw[hI,h i a hi ha kn]; exact hk _ rfl) e
 exact hs _ rfl
def Ñ {i n:Nat} (h:i<n) (hn:n≤1000000000) (f:Int→Option ρ):ck ((i:Int)+1) f=f ((i:Int)+1):=Û (by omega) (by omega) f
def ifb_lt {i n:Nat} (h:i<n) (x y:Option ρ):ifb (ilt (i:Int) (aaR n)) x y=x:=by simp[Ĵ,KG,h]
def ê (n:Nat) (x y:Option ρ):ifb (ilt (n:Int) (aaR n)) x y=y:=by simp[Ĵ,KG]
def Ö {α:Type} {l:List α} {i:Nat} (h:i<l.length) (x y:Option ρ):ifb (ilt (i:Int) (Ô l)) x y=x:=ifb_lt h x y
def Mx {α:Type} (p:α→Bool):∀(i:Nat) (l:List α),Α (fun i a=>bif p a then some (i:Int) else none) i l=(l.findIdx? p).map fun j=>((i+j:Nat):Int)
 |_,[]=>rfl
 |i,a::t=>by
  simp only[Α,List.findIdx?_cons]
  cases hp:p a with
  |true=>simp
  |false =>
   simp only[cond_false,cR,if_false];rw[Mx p (i+1) t]
   cases t.findIdx? p with
   |none=>rfl
   |some j=>simp only[dH]; congr 1; omega
def lV {α β:Type} {e:Nat→α→Option β}:∀{i:Nat} {l:List α},Α e i l=none↔∀j a,l[j]?=some a→e (i+j) a=none
 |_,[]=>by simp[Α]
 |i,a::t=>by
  simp only[Α];constructor
  ·intro h j b hb
   cases he:e i a with
   |some c=>rw[he] at h; cases h
   |none =>
    rw[he] at h
    cases j with
    |zero=>simp at hb; subst hb; simpa using he
    |succ j=>have:=(lV.1 h) j b (by simpa using hb); rw[←this]; congr 1; omega
  ·intro h;have h0:=h 0 a (by simp);simp only[fk] at h0;rw[h0]
   exact lV.2 fun j b hb=>by have:=h (j+1) b (by simpa using hb); rw[←this]; congr 1; omega
def take_succ {α:Type} {l:List α} {i:Nat} {a:α} (h:l[i]?=some a):l.take (i+1)=l.take i++[a]:=by rw[List.take_succ,h]; rfl
end
end Go.Am
end

noncomputable section
namespace Go.Proofs.ZzM
open Go Go.Am
section
variable {ρ:Type}
def ť {τ:Type} {f:τ→(τ→Option ρ)→Option ρ} {r:Option ρ} (I:τ→Prop) (μ:τ→Nat)
 (h:∀x,I x→(∀kn,f x kn=r)∨∃y,I y∧μ y<μ x∧∀kn,f x kn=kn y) {x:τ} (hx:I x):Í f x=r :=
 sO (F:=fun _=>r) I μ (fun x hx kn hk=>by
  rcases h x hx with h1|⟨y,h1,h2,h3⟩
  ·exact h1 kn
  ·rw[h3,hk y h1 h2]) hx
def iX {α:Type} (l:List α) (p:α→Bool) (k0:Int→Option ρ) (k1:Option ρ) {f:Int→(Int→Option ρ)→Option ρ}
 (h:∀(i:Nat) (a:α),i<l.length→l[i]?=some a→∀kn,f i kn=if p a then k0 i else kn ((i:Int)+1))
 (hn:∀kn,f l.length kn=k1):Í f 0=match l.findIdx? p with|some j=>k0 j|none=>k1:=by
 rw[sN l (fun i a=>bif p a then some (i:Int) else none) k0 k1 (fun i a hi ha kn=>by rw[h i a hi ha kn]; cases p a<;>rfl) hn,Mx]
 cases l.findIdx? p with
 |none=>rfl
 |some j=>simp
def gK {α:Type} (l:List α) (p:α→Bool) (k0:Int→Option ρ) (K k1:Option ρ) {f:Int→(Int→Option ρ)→Option ρ} (hK:∀j:Nat,k0 j=K)
 (h:∀(i:Nat) (a:α),i<l.length→l[i]?=some a→∀kn,f i kn=if p a then k0 i else kn ((i:Int)+1))
 (hn:∀kn,f l.length kn=k1):Í f 0=if l.any p then K else k1:=by
 rw[iX l p k0 k1 h hn]
 cases hf:l.findIdx? p with
 |none =>
  have:l.any p=false:=by
   rw[eN];intro x hx;have:=ee.1 hf x hx;simp[this]
  simp[this]
 |some j =>
  have:l.any p=true:=by
   have:=dG.1 hf;obtain⟨hj,hp,_⟩:=this;exact gr.2 ⟨_,dP hj,hp⟩
  simp[this,hK]
end
abbrev ù:Type:=Int×Int×Int×(Int×Int)×((Int×Int)×Int)
abbrev JZ:Type:=Int×((Int×Int)×Int)
abbrev Cmp:Type:=Int×Int×List Int×List Int×Int×(Int×(Int×Int))
abbrev Ü:Type:=(Int×Int)×List ù×List (Int×Int)×List JZ×List Cmp×List (Int×Int)
abbrev Sys:Type:=Int×List (Int×Int×Int)
abbrev Maker:Type:=Ü×List (Int×Int)×Sys×List (Int×Int)
section
variable {ρ:Type}
def Þ {b:Bool} (h:b=true) (x y:Option ρ):ifb b x y=x:=by rw[h]; rfl
def Õ {b:Bool} (h:b=false) (x y:Option ρ):ifb b x y=y:=by rw[h]; rfl
end
def I64 (n:Int):Prop:=-9223372036854775808≤n∧n≤9223372036854775807
def inP (n lo hi:Int):Bool:=decide (lo≤n)&&decide (n≤hi)
def S7 (n:Int):Bool:=inP n 0 20000
def pr (s:Int×Int) (lo hi:Int):Bool:=decide (lo≤s.1)&&(decide (s.1≤s.2)&&decide (s.2≤hi))
def Ι (n lo hi:Int):ď n lo hi=some (inP n lo hi):=by
 unfold ď Gq inP ile
 cases decide (lo≤n)<;>rfl
def Sh (n:Int):mO n=some (S7 n):=by
 unfold mO L6;rw[Ι]; rfl
def EO (s:Int×Int) (lo hi:Int):Θ s lo hi=some (pr s lo hi):=by
 unfold Θ Gx pr ile
 cases decide (lo≤s.1)<;>cases decide (s.1≤s.2)<;>rfl
def Qk {n:Int} (h:I64 n):qE n=some (n.natAbs:Int):=by
 obtain⟨h1,h2⟩:=h;unfold qE Ru
 by_cases hn:n<0
 ·have:ilt n 0=true:=by simpa using hn
  rw[Þ this];congr 1;simp only[IntKind.wrap,IntKind.bits,IntKind.signed];simp;omega
 ·have:ilt n 0=false:=by simpa using hn
  rw[Õ this];congr 1;simp only[IntKind.wrap,IntKind.bits,IntKind.signed];simp;omega
def afC (a b:Nat):MB a b=some ((Nat.gcd a b:Nat):Int):=by
 unfold MB Xh;refine ť (fun x:Int×Int=>∃c d:Nat,x=((c:Int),(d:Int))∧Nat.gcd c d=Nat.gcd a b) (fun x=>x.2.toNat) ?_ ⟨a,b,rfl,rfl⟩;rintro x ⟨c,d,rfl,hg⟩
 cases d with
 |zero =>
  refine .inl fun kn=>?_;rw[Nat.gcd_zero_right] at hg;unfold ym;simp[hg,ine]
 |succ d =>
  refine .inr ⟨(((d+1:Nat):Int),((c % (d+1):Nat):Int)),⟨d+1,c % (d+1),rfl,?_⟩,?_,fun kn=>?_⟩
  ·rw[←hg,Nat.gcd_comm c (d+1),Nat.gcd_rec (d+1) c,Nat.gcd_comm]
  ·have:=Nat.mod_lt c (gD d);simp only[dc];omega
  ·unfold ym
   have h1:ine ((d+1:Nat):Int) 0=true:=by simp[ine]; omega
   have h2:ĩ ((d+1:Nat):Int) 0=false:=by simp[ĩ]; omega
   simp only[h1,Þ Õ h2];congr 1
def Np (r:Int×Int):Bool :=
 decide (1≤r.2)&&(decide (r.2≤2147483647)&&(decide ((r.1.natAbs:Int)≤2147483647)&&decide (Nat.gcd r.1.natAbs r.2.natAbs=1)))
def SU {r:Int×Int} (h:I64 r.1):sX r=some (Np r):=by
 unfold sX LL Np
 by_cases h1:1≤r.2
 ·by_cases h2:r.2≤2147483647
  ·have h3:I64 r.2:=⟨by omega,by omega⟩
   have e1:ige r.2 1=true:=by simp[ige,h1]
   have e2:ile r.2 2147483647=true:=by simp[ile,h2]
   rw[Þ e1,Þ e2,Qk h,À]
   by_cases h4:(r.1.natAbs:Int)≤2147483647
   ·have e4:ile (r.1.natAbs:Int) 2147483647=true:=by simp[ile,h4]
    rw[Þ e4,À,Qk h3,À,afC,À];congr 1;rw[eZ];simp only[ieq,beq_iff_eq,h1,h2,h4,decide_true,dF,decide_eq_true_eq];omega
   ·have e4:ile (r.1.natAbs:Int) 2147483647=false:=by simp[ile]; omega
    rw[Õ e4];simp[h4]
  ·have e1:ige r.2 1=true:=by simp[ige,h1]
   have e2:ile r.2 2147483647=false:=by simp[ile]; omega
   rw[Þ e1,Õ e2];simp[h2]
 ·have e1:ige r.2 1=false:=by simp[ige]; omega
  rw[Õ e1];simp[h1]
def Ax (g:ù):Bool :=
 Np g.2.2.2.2.1&&inP g.2.2.2.2.1.1 (-1000) 1000&&decide (g.2.2.2.2.1.2≤100)&&inP g.1 1 1099511627776&&S7 g.2.1&&inP g.2.2.1 1 1125899906842624&&pr g.2.2.2.1 (-1073741824) 1073741824&&inP g.2.2.2.2.2 0 1048576
def aad {g:ù} (h:I64 g.2.2.2.2.1.1):uO g=some (Ax g):=by
 unfold uO BM Ax;rw[SU h,Ι,Ι,Sh,Ι,EO,Ι];generalize Np g.2.2.2.2.1=x1;generalize inP g.2.2.2.2.1.1 (-1000) 1000=x2;generalize inP g.1 1 1099511627776=x3;generalize S7 g.2.1=x4;generalize inP g.2.2.1 1 1125899906842624=x5;generalize pr g.2.2.2.1 (-1073741824) 1073741824=x6;generalize inP g.2.2.2.2.2 0 1048576=x7;unfold ile;generalize decide (g.2.2.2.2.1.2≤100)=x8
 cases x1<;>cases x2<;>cases x3<;>cases x4<;>cases x5<;>cases x6<;>cases x8<;>rfl
section
variable {ρ:Type}
def Vn {α:Type} {l:List α} {i:Nat} {a:α} (h0:0<i) (h:l[i-1]?=some a) (f:α→Option ρ):û l ((i:Int)-1) f=f a:=by
 have:((i:Int)-1)=((i-1:Nat):Int):=by omega
 rw[this,Ì h]
def ac5 {i:Nat} (h:0<i) (hn:i≤1000000000) (f:Int→Option ρ):ck ((i:Int)-1) f=f ((i:Int)-1):=Û (by omega) (by omega) f
def iH {i n:Nat} (h:i<n) (x:Option ρ):ç ((ile 0 (i:Int))&&(ilt (i:Int) (n:Int))) x=x:=by
 have:((ile 0 (i:Int))&&(ilt (i:Int) (n:Int)))=true:=by simp[ile,ilt,h]
 rw[this,Am.iff_true]
def Ū {α:Type} {l:List α} {i:Nat} {a:α} (h:l[i]?=some a) (f:α→Option ρ):ĭ l (Int.toNat (i:Int)) f=f a:=by
 rw[dc]; exact tv h f
end
def M8 {α:Type} (key:α→Int) (l:List α) (i:Nat) (a:α):Bool :=
 decide (0<i)&&(l[i-1]?).any fun q=>decide (key a≤key q)
def TG {α:Type} {l:List α} {i:Nat} (hi:i<l.length) (h0:0<i):∃q,l[i-1]?=some q :=
 ⟨l[i-1],cD (by omega)⟩
def Zu {α:Type} (key:α→Int) (l:List α):(∀i a,l[i]?=some a→M8 key l i a=false)↔l.Pairwise (fun a b=>key a<key b):=by
 rw[dz];constructor
 ·intro h
  have step:∀i (h1:i+1<l.length),key l[i]<key l[i+1]:=by
   intro i h1;have:=h (i+1) l[i+1] (cD h1);simp only[M8,Nat.add_sub_cancel,gD,decide_true,dF,cD (show i<l.length by omega),Option.any_some,decide_eq_false_iff_not] at this;omega
  intro i j hi hj hij
  induction j with
  |zero=>omega
  |succ j ih =>
   have:=step j hj;rcases dt i j with hlt|hge
   ·have:=ih (by omega) hlt; omega
   ·have:i=j:=by omega
    subst this; assumption
 ·intro h i a ha;obtain⟨hi,rfl⟩:=List.getElem?_eq_some_iff.1 ha;unfold M8
  cases i with
  |zero=>rfl
  |succ i =>
   have:=h i (i+1) (by omega) hi (by omega);simp only[Nat.add_sub_cancel,gD,decide_true,dF,cD (show i<l.length by omega),Option.any_some,decide_eq_false_iff_not];omega
def xF (l:List ù) (i:Nat) (g:ù):Option Int :=
 if !Ax g then some 1 else if M8 (fun g=>g.1) l i g then some 6 else none
def nc (b:Ü):Int:=(Α (xF b.2.1) 0 b.2.1).getD 0
def OE {b:Ü} (hr:∀g∈b.2.1,I64 g.2.2.2.2.1.1) (hn:b.2.1.length≤1000):ŵ b=some (nc b):=by
 unfold ŵ oT;refine Eq.trans (sN b.2.1 (xF b.2.1) some (some 0) (fun i a hi ha kn=>?_) (fun kn=>?_)) ?_
 ·try dsimp only
  unfold iO;rw[Ö hi,Ì ha,aad (hr a (List.mem_of_getElem? ha)),À];unfold xF
  cases hg:Ax a with
  |false=>simp
  |true =>
   simp only[dI,ã,cR,if_false];rcases fQ i with h0|h0
   ·subst h0
    have:igt ((0:Nat):Int) 0=false:=by simp[igt]
    rw[Õ this,Ñ hi (by omega)];simp[M8]
   ·obtain⟨q,hq⟩:=TG hi h0
    have h1:igt (i:Int) 0=true:=by simp[igt]; omega
    rw[Þ h1,ac5 h0 (by omega),Vn h0 hq];simp only[M8,h0,decide_true,Bool.true_and,hq,Option.any_some];unfold ile
    cases h2:decide (a.1≤q.1) with
    |true=>simp
    |false =>
     rw[ã,Ñ hi (by omega)];simp
 ·try dsimp only
  unfold iO;rw[ê]
 ·unfold nc
  cases Α (xF b.2.1) 0 b.2.1<;>rfl
def Ts (l:List ù):List (Int×ù):=l.foldl (fun m g=>JJ (k:=tI) (v:=Ï) g.1 g m) []
def oe (b:Ü):List (Int×ù):=Ts b.2.1
def OV {b:Ü} (hn:b.2.1.length≤1000):θ b=some (oe b):=by
 unfold θ BJ;refine Ą b.2.1 (fun i=>Ts (b.2.1.take i)) _ rfl (fun i a hi ha kn=>?_) (fun kn=>?_)
 ·try dsimp only
  unfold mc;rw[Ö hi,Ì ha,Ñ hi (by omega),take_succ ha];simp only[Ts,List.foldl_append,List.foldl_cons,List.foldl_nil]
 ·try dsimp only
  unfold mc;rw[ê,List.take_length];rfl
def T8 (x y:Int) (g:ù):∀m:List (Int×ù),rI (k:=tI) (v:=Ï) x (JJ (k:=tI) (v:=Ï) y g m)=if x=y then some g else rI (k:=tI) (v:=Ï) x m
 |[]=>by
  unfold JJ rI jQ rI
  by_cases h:x=y<;>simp[h]
 |e::m=>by
  unfold JJ
  by_cases h:y=e.1
  ·have:jQ tI y e.1=true:=by simp[jQ,h]
   rw[this]
   try dsimp only
   unfold rI jQ
   by_cases h2:x=y
   ·simp[h2]
   ·have:¬x=e.1:=fun h3=>h2 (h3.trans h.symm);simp[h2,this]
  ·have:jQ tI y e.1=false:=by simp[jQ,h]
   rw[this]
   try dsimp only
   have ih:=T8 x y g m;unfold rI
   by_cases h2:x=e.1
   ·have:jQ tI x e.1=true:=by simp[jQ,h2]
    rw[this];have:¬x=y:=fun h3=>h (h3.symm.trans h2);simp[this]
   ·have:jQ tI x e.1=false:=by simp[jQ,h2]
    rw[this];exact ih
def kJ (b:Ü) (id:Int):Option ù:=b.2.1.find? fun g=>g.1==id
def WU (x:Int) (l:List ù):rI (k:=tI) (v:=Ï) x (Ts l)=l.reverse.find? fun g=>g.1==x:=by
 unfold Ts;rw[←List.foldr_reverse]
 induction l.reverse with
 |nil=>rfl
 |cons g t ih =>
  rw[fP,T8,ih,gc]
  by_cases h:x=g.1
  ·simp[h]
  ·have:(g.1==x)=false:=by simp; exact fun h2=>h h2.symm
   simp[h,this]
def VD {l:List ù} (h:l.Pairwise fun a b=>a.1<b.1) (x:Int):l.reverse.find? (fun g=>g.1==x)=l.find? fun g=>g.1==x:=by
 induction l with
 |nil=>rfl
 |cons g t ih =>
  rw[dv] at h;rw[List.reverse_cons,List.find?_append,ih h.2,gc]
  by_cases hx:g.1=x
  ·have:t.find? (fun g=>g.1==x)=none:=eP.2 fun y hy=>by have:g.1<y.1:=h.1 y hy; simp; omega
   rw[this]; simp[hx]
  ·have:(g.1==x)=false:=by simp[hx]
   simp[this]
def Pg {b:Ü} (h:b.2.1.Pairwise fun a b=>a.1<b.1) (x:Int):rI (k:=tI) (v:=Ï) x (oe b)=kJ b x:=by
 unfold oe kJ;rw[WU,VD h]
def qK (s:List (Int×ù)) (id day:Int):Int :=
 match rI (k:=tI) (v:=Ï) id s with
 |some g=>if day<g.2.1 then 4 else 0
 |none=>5
def WW (s:List (Int×ù)) (id day:Int):iF s id day=some (qK s id day):=by
 unfold iF rf qK
 cases h:rI (k:=tI) (v:=Ï) id s with
 |none=>simp only[S6,h]
 |some g =>
  simp only[S6,h];rw[Ĵ]
  by_cases h2:day<g.2.1<;>simp[h2]
def adW (s:List (Int×ù)) (id day:Int):Int:=if !S7 day then 1 else qK s id day
def TO (s:List (Int×ù)) (id day:Int):ĸ id day s=some (adW s id day):=by
 unfold ĸ BL adW;rw[Sh,À,WW,À]
 cases S7 day<;>rfl
def XA (b:Ü) (s:List (Int×ù)) (i:Nat) (l:JZ):Int :=
 if !pr l.2.1 0 20000 then 1 else if !inP l.2.2 0 1048576 then 1 else if qK s l.1 l.2.1.1 != 0 then qK s l.1 l.2.1.1 else
 if (b.2.2.2.1.take i).any (fun x=>x.1==l.1&&(decide (x.2.1.1≤l.2.1.2)&&decide (l.2.1.1≤x.2.1.2))) then 9 else
 if b.2.2.1.any (fun u=>u.1==l.1&&inP u.2 l.2.1.1 l.2.1.2) then 9 else 0
def VP {b:Ü} (hn:b.2.2.2.1.length≤1000) (hu:b.2.2.1.length≤1000) (s:List (Int×ù)) {i:Nat} {l:JZ} (hl:b.2.2.2.1[i]?=some l):Τ b s i=some (XA b s i l):=by
 unfold Τ uA XA;have hi:i<b.2.2.2.1.length:=(List.getElem?_eq_some_iff.1 hl).1;rw[Ì hl,EO,À,Ι,À,WW,À]
 cases pr l.2.1 0 20000 with
 |false=>rfl
 |true =>
 cases inP l.2.2 0 1048576 with
 |false=>rfl
 |true =>
 cases hm:(qK s l.1 l.2.1.1 != 0) with
 |true =>
  have:ine (qK s l.1 l.2.1.1) 0=true:=hm;simp[this]
 |false =>
 have hm':ine (qK s l.1 l.2.1.1) 0=false:=hm
 have hg:((ile (0:Int) (i:Int))&&(ile (i:Int) (ą b.2.2.2.1)))=true:=by simp[ile,ą]; omega
 simp only[dI,ã,hm',cR,if_false];rw[ģ hg,dc]
 have inner:∀(k:Int→Option Int),Í (fun(v:Int) kk=>Η b.2.2.1 (Ô b.2.2.1) l.1 l.2.1.1 l.2.1.2 v (fun u=>kk u) (fun z=>ifb (ige z 0) (k 9) (k 0)) (fun _=>k 0)) (0:Int)=if b.2.2.1.any (fun u=>u.1==l.1&&inP u.2 l.2.1.1 l.2.1.2) then k 9 else k 0:=by
  intro k;refine gK b.2.2.1 _ (fun z=>ifb (ige z 0) (k 9) (k 0)) (k 9) (k 0) (fun j=>?_) (fun j a hj ha kn=>?_) (fun kn=>?_)
  ·have:ige (j:Int) 0=true:=by simp[ige]
   rw[Þ this]
  ·try dsimp only
   unfold Η;rw[Ö hj,Ì ha,Ι,À,Ñ hj (by omega)]
   cases h1:(a.1==l.1) with
   |false =>
    have:ieq a.1 l.1=false:=h1;simp[this]
   |true =>
    have:ieq a.1 l.1=true:=h1;rw[this]
    cases inP a.2 l.2.1.1 l.2.1.2<;>simp
  ·try dsimp only
   unfold Η;rw[ê]
 rw[inner];refine fG (gK (b.2.2.2.1.take i) (fun x=>x.1==l.1&&(decide (x.2.1.1≤l.2.1.2)&&decide (l.2.1.1≤x.2.1.2))) (fun z=>ifb (ige z 0) (some 9) (if b.2.2.1.any (fun u=>u.1==l.1&&inP u.2 l.2.1.1 l.2.1.2) then some 9 else some 0)) (some 9) (if b.2.2.1.any (fun u=>u.1==l.1&&inP u.2 l.2.1.1 l.2.1.2) then some 9 else some 0) (fun j=>?_) (fun j a hj ha kn=>?_) (fun kn=>?_)) ?_
 ·have:ige (j:Int) 0=true:=by simp[ige]
  rw[Þ this]
 ·try dsimp only
  unfold jB
  have hj':j≤1000:=by rw[cW] at hj; omega
  rw[Ö hj,Ì ha,Ñ hj (by rw[cW]; omega)]
  cases h1:(a.1==l.1) with
  |false =>
   have:ieq a.1 l.1=false:=h1;simp[this]
  |true =>
   have:ieq a.1 l.1=true:=h1;rw[this]
   cases h2:decide (a.2.1.1≤l.2.1.2)<;>cases h3:decide (l.2.1.1≤a.2.1.2)<;>simp[ile,h2,h3,Ĵ]<;>simp_all
 ·try dsimp only
  unfold jB;rw[ê]
 ·cases List.any (b.2.2.2.1.take i) _<;>cases b.2.2.1.any _<;>rfl
def adJ {l:List Int} (hn:l.length≤1000000) (x:Int):jf l x=some (match l.findIdx? (·==x) with|some j=>(j:Int)|none=>-1):=by
 unfold jf lC;refine Eq.trans (iX l (·==x) some (some (-1)) (fun i a hi ha kn=>?_) (fun kn=>?_)) ?_
 ·try dsimp only
  unfold gH;rw[Ö hi,Ì ha,Ñ hi (by omega),Ĵ]
  by_cases h:x=a
  ·subst h; simp[ieq]
  ·have h2:¬a=x:=fun e=>h e.symm;simp[ieq,h,h2]
 ·try dsimp only
  unfold gH;rw[ê]
 ·cases l.findIdx? (·==x)<;>rfl
def kf {l:List Int} (hn:l.length≤1000000) (x:Int):đ l x=some (l.contains x):=by
 unfold đ jl;rw[adJ hn,À];congr 1
 cases h:l.findIdx? (·==x) with
 |none =>
  have:l.contains x=false:=by
   rw[ez];intro hc;have:=ee.1 h x (by simpa using hc);simp at this
  rw[this]; rfl
 |some j =>
  obtain⟨hj,hp,_⟩:=dG.1 h
  have:l.contains x=true:=by
   have h2:l[j]=x:=by simpa using hp
   rw[←h2]; simp
  rw[this];simp[ige]
def Ď (a b:List Int):List Int:=a.filter fun x=>!b.contains x
def ri {a b:List Int} (ha:a.length≤1000000) (hb:b.length≤1000000):Ŧ a b=some (Ď a b):=by
 unfold Ŧ RK;rw[Ø (by omega),Am.iff_true]
 have second:∀z:Nat,z<a.length→Ď (a.take z) b=a.take z→b.contains (a[z]?.getD 0)=true →
  Í (fun(v13:(Val (.pair tI (.pair tI (.slice tI))))) kk17=>jO b v13.1 v13.2.1 v13.2.2 (fun u14 u15 u16=>kk17 (u14,u15,u16)) (fun z12=>ç ((ile (0:Int) z12.1)&&(ile z12.1 (ą z12.2))) (ç ((ile (0:Int) z12.1)&&(ile z12.1 (ą (List.take (Int.toNat z12.1) z12.2++List.replicate (List.length z12.2-(Int.toNat z12.1)) (0:Int)++List.drop ((Int.toNat z12.1)+(List.length z12.2-(Int.toNat z12.1))) z12.2)))) (some (List.take (Int.toNat z12.1) (List.drop 0 (List.take (Int.toNat z12.1) z12.2++List.replicate (List.length z12.2-(Int.toNat z12.1)) (0:Int)++List.drop ((Int.toNat z12.1)+(List.length z12.2-(Int.toNat z12.1))) z12.2))))))) ((z:Int),((z:Int)+1),a)=some (Ď a b):=by
  intro z hz hp hc
  refine ť (fun x:Int×Int×List Int=>∃i j:Nat,x.1=i∧x.2.1=j∧i<j∧j≤a.length∧x.2.2.length=a.length∧x.2.2.take i=Ď (a.take j) b∧x.2.2.drop j=a.drop j) (fun x=>a.length-x.2.1.toNat) ?_
   ⟨z,z+1,rfl,by simp,by omega,by omega,rfl,?_,rfl⟩
  ·rintro⟨x1,x2,s⟩ ⟨i,j,h1,h2,hij,hja,hl,ht,hd⟩;simp only at h1 h2 hl ht hd;subst h1 h2;rcases dt j a.length with hj|hj
   ·refine .inr ?_
    have hsj:s[j]?=some a[j]:=by
     have h3:(s.drop j)[0]?=(a.drop j)[0]?:=by rw[hd]
     rw[eR,eR] at h3;simpa[cD hj] using h3
    have hjs:j<s.length:=by omega
    have hta:Ď (a.take (j+1)) b=Ď (a.take j) b++if b.contains a[j] then[] else[a[j]]:=by
     rw[take_succ (cD hj),Ď,Ď,List.filter_append];congr 1
     cases h:b.contains a[j] with
     |true=>simp only[dN,h,dI,cR,if_false,dU,if_true]
     |false=>simp only[dN,h,gi,cR,if_false,dU,if_true]
    cases h:b.contains a[j] with
    |true =>
     refine⟨(i,(j:Int)+1,s),⟨i,j+1,rfl,by simp,by omega,by omega,hl,?_,?_⟩,by simp; omega,fun kn=>?_⟩
     ·rw[hta,h]; simpa using ht
     ·have:=congrArg (List.drop 1) hd;simpa[fU,Nat.add_comm] using this
     ·try dsimp only
      unfold jO;rw[Ö hjs,iH hjs,Ū hsj,kf hb,À,h];simp only[Bool.not_true,ã];rw[Ñ hjs (by omega)]
    |false =>
     have his:i<s.length:=by omega
     refine⟨((i:Int)+1,(j:Int)+1,s.set i a[j]),⟨i+1,j+1,by simp,by simp,by omega,by omega,by simpa using hl,?_,?_⟩,by simp; omega,fun kn=>?_⟩
     ·show List.take (i+1) (s.set i a[j])=_;rw[hta,h,List.take_succ,fT,List.take_set_of_le (cE i),ht];simp[his]
     ·show List.drop (j+1) (s.set i a[j])=_;rw[List.drop_set_of_lt (by omega)];have:=congrArg (List.drop 1) hd;simpa[fU,Nat.add_comm] using this
     ·try dsimp only
      unfold jO;rw[Ö hjs,iH hjs,Ū hsj,kf hb,À,h];simp only[Bool.not_false,Ĥ];rw[iH his,Ū (List.getElem?_eq_getElem his),Ñ his (by omega),Ñ hjs (by omega),Int.toNat_natCast]
   ·refine .inl fun kn=>?_
    have hje:j=s.length:=by omega
    try dsimp only
    unfold jO;rw[hje,ê];dsimp only
    have g1:((ile (0:Int) (i:Int))&&(ile (i:Int) (ą s)))=true:=by simp[ile,ą]; omega
    rw[ģ g1]
    have g2:((ile (0:Int) (i:Int))&&(ile (i:Int) (ą (List.take (Int.toNat (i:Int)) s++List.replicate (List.length s-(Int.toNat (i:Int))) (0:Int)++List.drop ((Int.toNat (i:Int))+(List.length s-(Int.toNat (i:Int)))) s))))=true:=by
     simp[ile,ą]; omega
    rw[ģ g2,dc,List.drop_zero,dh,List.take_append_of_le_length (by simp; omega),List.take_take,Nat.min_self,ht];rw[dS (by omega)]
  ·show List.take z a=Ď (a.take (z+1)) b;have hz':a[z]?=some a[z]:=cD hz;rw[take_succ hz',Ď,List.filter_append];rw[hz'] at hc;simp only[fI] at hc
   have:List.filter (fun x=>!b.contains x) [a[z]]=[]:=by simp only[dN,hc,dI,cR,if_false,dU]
   rw[this,dE];exact hp.symm
 refine fG (iX a (fun x=>b.contains x) (fun z4=>ifb (ieq z4 (-1:Int)) (some a) (ck (z4+(1:Int)) fun n5=>Í (fun(v13:(Val (.pair tI (.pair tI (.slice tI))))) kk17=>jO b v13.1 v13.2.1 v13.2.2 (fun u14 u15 u16=>kk17 (u14,u15,u16)) (fun z12=>ç ((ile (0:Int) z12.1)&&(ile z12.1 (ą z12.2))) (ç ((ile (0:Int) z12.1)&&(ile z12.1 (ą (List.take (Int.toNat z12.1) z12.2++List.replicate (List.length z12.2-(Int.toNat z12.1)) (0:Int)++List.drop ((Int.toNat z12.1)+(List.length z12.2-(Int.toNat z12.1))) z12.2)))) (some (List.take (Int.toNat z12.1) (List.drop 0 (List.take (Int.toNat z12.1) z12.2++List.replicate (List.length z12.2-(Int.toNat z12.1)) (0:Int)++List.drop ((Int.toNat z12.1)+(List.length z12.2-(Int.toNat z12.1))) z12.2))))))) (z4,n5,a))) (some a) (fun i x hi hx kn=>?_) (fun kn=>?_)) ?_
 ·try dsimp only
  unfold ut;rw[Ö hi,iH hi,Ū hx,kf hb,À,Ñ hi (by omega),Ĵ]
 ·try dsimp only
  unfold ut;rw[ê]
 ·cases h:a.findIdx? (fun x=>b.contains x) with
  |none =>
   have:Ď a b=a:=by
    rw[Ď,List.filter_eq_self];intro x hx;have:=ee.1 h x hx;simpa using this
   rw[this]
  |some z =>
   obtain⟨hz,hc,hlt⟩:=dG.1 h
   have h1:ieq (z:Int) (-1)=false:=by simp[ieq]
   try dsimp only
   rw[Õ h1,Ñ hz (by omega)];refine second z hz ?_ ?_
   ·rw[Ď,List.filter_eq_self];intro x hx;obtain⟨j,hj,rfl⟩:=cX.1 hx;rw[cW] at hj;rw[List.getElem_take];have:=hlt j (by omega);simpa using this
   ·rw[cD hz]; exact hc
def IM (l:List Int) (i:Nat) (a:Int):Option Bool:=if !inP a 1 1099511627776 then some false else if M8 (fun x=>x) l i a then some false else none
def iR (l:List Int):Bool:=match Α (IM l) 0 l with|some _=>false|none=>decide (l.length≤6)
def EN {l:List Int} (hn:l.length≤1000000):lW l=some (iR l):=by
 unfold lW Gw;refine Eq.trans (sN l (IM l) some (some (decide (l.length≤6))) (fun i a hi ha kn=>?_) (fun kn=>?_)) ?_
 ·try dsimp only
  unfold nv;rw[Ö hi,Ì ha,Ι,À];unfold IM
  cases inP a 1 1099511627776 with
  |false=>rfl
  |true =>
   simp only[dI,ã,cR,if_false];rcases fQ i with h0|h0
   ·subst h0
    have:igt ((0:Nat):Int) 0=false:=by simp[igt]
    rw[Õ this,Ñ hi (by omega)];simp[M8]
   ·obtain⟨q,hq⟩:=TG hi h0
    have h1:igt (i:Int) 0=true:=by simp[igt]; omega
    rw[Þ h1,ac5 h0 (by omega),Vn h0 hq];simp only[M8,h0,decide_true,Bool.true_and,hq,Option.any_some];unfold ile
    cases h2:decide (a≤q) with
    |true=>rfl
    |false =>
     rw[ã,Ñ hi (by omega)];rfl
 ·try dsimp only
  unfold nv;rw[ê,á];simp[ile];omega
 ·have hb:∀x,Α (IM l) 0 l=some x→x=false:=by
   have:∀(m:List Int) (j:Nat) (x:Bool),Α (IM l) j m=some x→x=false:=by
    intro m
    induction m with
    |nil=>intro j x h; cases h
    |cons a m ih =>
     intro j x h;unfold Α at h
     cases hp:IM l j a with
     |none=>rw[hp] at h; exact ih _ _ h
     |some y =>
      rw[hp] at h;cases h;unfold IM at hp
      split at hp
      ·cases hp; rfl
      ·split at hp
       ·cases hp; rfl
       ·cases hp
   exact this l 0
  unfold iR
  cases h:Α (IM l) 0 l with
  |none=>rfl
  |some x=>rw[hb x h]
def TK (l:List Int):iR l=true↔(∀x∈l,1≤x∧x≤1099511627776)∧l.Pairwise (·<·)∧l.length≤6:=by
 have h0:Α (IM l) 0 l=none↔(∀x∈l,1≤x∧x≤1099511627776)∧l.Pairwise (·<·):=by
  rw[lV,←Zu (fun x=>x) l];constructor
  ·intro h
   have h1:∀(j:Nat) (a:Int),l[j]?=some a→inP a 1 1099511627776=true∧M8 (fun x=>x) l j a=false:=by
    intro j a ha;have:=h j a ha;rw[Nat.zero_add] at this;unfold IM at this
    split at this
    ·cases this
    ·split at this
     ·cases this
     ·rename_i h1 h2;exact⟨by simpa using h1,by simpa using h2⟩
   refine⟨fun x hx=>?_,fun i a ha=>(h1 i a ha).2⟩;obtain⟨j,hj,rfl⟩:=cX.1 hx;have:=(h1 j l[j] (cD hj)).1;simpa[inP] using this
  ·rintro⟨h1,h2⟩ j a ha;rw[dk];have h3:=h1 a (cM ha)
   have:inP a 1 1099511627776=true:=by simpa[inP] using h3
   simp[IM,this,h2 j a ha]
 unfold iR
 cases h:Α (IM l) 0 l with
 |none =>
  obtain⟨h1,h2⟩:=h0.1 h;simp only[decide_eq_true_eq];exact⟨fun h3=>⟨h1,h2,h3⟩,fun h3=>h3.2.2⟩
 |some x =>
  constructor
  ·intro h2; cases h2
  ·rintro⟨h1,h2,h3⟩;rw[h0.2 ⟨h1,h2⟩] at h; cases h
def adK {a b:List Int} (ha:a.length≤1000000) (hb:b.length≤1000000):ì [a,b]=some (a++b):=by
 have hk:∀n:Nat,n≤4000000→∀(f:Int→Option (List Int)),ck (n:Int) f=f n:=fun n h f=>Û (by omega) (by omega) f
 have second:Í (fun(v9:(Val (.pair tI (.slice tI)))) kk12=>î [a,b] (Ô [a,b]) v9.1 v9.2 (fun u10 u11=>kk12 (u10,u11)) (fun z8=>some z8)) ((0:Int),([]:List Int))=some (a++b):=by
  refine Ą [a,b] (fun i=>([a,b].take i).flatten) (some (a++b)) (f:=fun(v9:(Val (.pair tI (.slice tI)))) kk12=>î [a,b] (Ô [a,b]) v9.1 v9.2 (fun u10 u11=>kk12 (u10,u11)) (fun z8=>some z8)) rfl (fun i x hi hx kn=>?_) (fun kn=>?_)
  ·try dsimp only
   unfold î;rw[Ö hi,Ì hx,Ñ hi (by simp),take_succ hx,List.flatten_append]
   have:è ((List.take i [a,b]).flatten.length+x.length)=true:=by
    refine Ø ?_
    have h1:x.length≤1000000:=by
     have:=cM hx;simp at this
     rcases this with rfl|rfl<;>assumption
    have h2:(List.take i [a,b]).flatten.length≤2000000:=by
     have:i=0∨i=1:=by simp at hi; omega
     rcases this with rfl|rfl<;>simp<;>omega
    omega
   rw[ģ this];simp
  ·try dsimp only
   unfold î;rw[ê];simp
 unfold ì iM;refine ť (fun x:Int×Int=>∃i:Nat,i≤2∧x=((([a,b].take i).flatten.length:Int),(i:Int))) (fun x=>2-x.2.toNat) ?_ ⟨0,by omega,rfl⟩;rintro x ⟨i,hi,rfl⟩;rcases Nat.lt_or_ge i 2 with h2|h2
 ·refine .inr ⟨((([a,b].take (i+1)).flatten.length:Int),(i:Int)+1),⟨i+1,h2,by simp⟩,by simp; omega,fun kn=>?_⟩;have hi':i<[a,b].length:=h2;obtain⟨x,hx⟩:∃x,[a,b][i]?=some x:=⟨_,cD hi'⟩
  have hxl:x.length≤1000000:=by
   have:=cM hx;simp at this
   rcases this with rfl|rfl<;>assumption
  have h3:(List.take i [a,b]).flatten.length≤2000000:=by
   have:i=0∨i=1:=by omega
   rcases this with rfl|rfl<;>simp<;>omega
  try dsimp only
  unfold Ī;rw[Ö hi',Ì hx,á]
  have e1:(((List.take i [a,b]).flatten.length:Int)+(x.length:Int))=((List.take i [a,b]).flatten.length+x.length:Nat):=by omega
  rw[e1,hk _ (by omega)]
  have:ilt ((((List.take i [a,b]).flatten.length+x.length:Nat)):Int) 0=false:=by simp[ilt]; omega
  rw[Õ this,Ñ hi' (by simp),take_succ hx];simp
 ·refine .inl fun kn=>?_
  obtain rfl:i=2:=by omega
  try dsimp only
  unfold Ī;rw[show((2:Nat):Int)=(([a,b].length:Nat):Int) from rfl,ê]
  have e1:((List.take 2 [a,b]).flatten.length:Int)=((a.length+b.length:Nat):Int):=by simp
  have e2:ilt (((a.length+b.length:Nat)):Int) 0=false:=by simp[ilt]; omega
  rw[e1];dsimp only;rw[Õ e2,Int.sub_zero,hk _ (by omega)];rcases Nat.eq_zero_or_pos (a.length+b.length) with h0|h0
  ·have:igt (((a.length+b.length:Nat)):Int) 0=false:=by simp[igt]; omega
   rw[Õ this];exact second
  ·have:igt (((a.length+b.length:Nat)):Int) 0=true:=by simp[igt]; omega
   rw[Þ this]
   have:((ilt (0:Int) (((a.length+b.length:Nat)):Int))&&(è (Int.toNat (((a.length+b.length:Nat)):Int))))=true:=by
    rw[dc,Ø (by omega)];simp[ilt]; omega
   rw[ģ this]
   have:ile 0 (ą (List.replicate (Int.toNat (((a.length+b.length:Nat)):Int)) (0:Int)))=true:=by simp[ile]
   rw[ģ this];exact second
def Js (b:Ü) (id day:Int):Option JZ:=b.2.2.2.1.find? fun l=>l.1==id&&inP day l.2.1.1 l.2.1.2
def Y7 {α:Type} (p:α→Bool):∀l:List α,l.find? p=(match l.findIdx? p with|some j=>l[j]?|none=>none)
 |[]=>rfl
 |a::l=>by
  rw[gc,List.findIdx?_cons]
  cases h:p a with
  |true=>simp
  |false =>
   simp only[cR,if_false];rw[Y7 p l]
   cases l.findIdx? p<;>simp
def agM {b:Ü} (hn:b.2.2.2.1.length≤1000) (id day:Int):yB b id day=some (match Js b id day with|some l=>(l,true)|none=>((0,(0,0),0),false)):=by
 unfold yB RT;refine Eq.trans (iX b.2.2.2.1 (fun l=>l.1==id&&inP day l.2.1.1 l.2.1.2) (fun z5=>ifb (ilt z5 (0:Int)) (some (((0:Int),((0:Int),(0:Int)),(0:Int)),false)) (û b.2.2.2.1 z5 fun e6=>some (e6,true))) (some ((0,(0,0),0),false)) (fun i a hi ha kn=>?_) (fun kn=>?_)) ?_
 ·try dsimp only
  unfold uB;rw[Ö hi,Ì ha,Ι,À,Ñ hi (by omega)]
  cases h1:(a.1==id) with
  |false =>
   have:ieq a.1 id=false:=h1;simp[this]
  |true =>
   have:ieq a.1 id=true:=h1;rw[this]
   cases inP day a.2.1.1 a.2.1.2<;>simp
 ·try dsimp only
  unfold uB;rw[ê]
 ·unfold Js;rw[Y7]
  cases h:b.2.2.2.1.findIdx? (fun l=>l.1==id&&inP day l.2.1.1 l.2.1.2) with
  |none=>rfl
  |some j =>
   obtain⟨hj,_,_⟩:=dG.1 h
   have:ilt (j:Int) 0=false:=by simp[ilt]
   try dsimp only
   rw[Õ this,Ì (cD hj),cD hj]
def agi (a:Int):List Int→List Int
 |[]=>[a]
 |b::t=>if a≤b then a::b::t else b::agi a t
def PJ:List Int→List Int
 |[]=>[]
 |a::t=>agi a (PJ t)
def vZ (p:Option Int):List Int→List Int
 |[]=>[]
 |a::t=>if p=some a then vZ (some a) t else a::vZ (some a) t
def Wo (l:List Int):List Int:=vZ none (PJ l)
def Ml (a:Int):∀l,(agi a l).Perm (a::l)
 |[]=>fi _
 |b::t=>by
  unfold agi
  split
  ·exact fi _
  ·exact((Ml a t).cons b).trans (List.Perm.swap a b t)
def uG:∀l,(PJ l).Perm l
 |[]=>fi _
 |a::t=>(Ml a _).trans ((uG t).cons a)
def Mk (a:Int):∀{l:List Int},l.Pairwise (·≤·)→(agi a l).Pairwise (·≤·)
 |[],_=>by simp[agi]
 |b::t,h=>by
  rw[List.pairwise_cons] at h;unfold agi
  split
  ·rename_i hab;refine dv.2 ⟨fun x hx=>?_,dv.2 h⟩;rcases cJ.1 hx with rfl|hx
   ·exact hab
   ·have:=h.1 x hx; omega
  ·rename_i hab;refine dv.2 ⟨fun x hx=>?_,Mk a h.2⟩;rcases cJ.1 ((Ml a t).mem_iff.1 hx) with rfl|hx
   ·omega
   ·exact h.1 x hx
def uF:∀l:List Int,(PJ l).Pairwise (·≤·)
 |[]=>List.Pairwise.nil
 |a::t=>Mk a (uF t)
def ad1 (l:List Int):Cg l=PJ l:=by
 have h1:(Cg l).Pairwise (·≤·):=by
  have:=List.pairwise_mergeSort (le:=fun a b:Int=>decide (a≤b)) (fun a b c h1 h2=>by simp at *; omega) (fun a b=>by simp; omega) l
  exact this.imp fun h=>by simpa using h
 exact List.Perm.eq_of_pairwise (le:=(·≤·)) (fun a b _ _ h1 h2=>by omega) h1 (uF l) ((List.mergeSort_perm l _).trans (uG l).symm)
def OO (a:Int):∀(l:List Int) (p:Option Int),vZ p (l++[a])=vZ p l++(if (match l.getLast? with|some b=>some b|none=>p)=some a then[] else[a])
 |[],p=>by simp only[fq,vZ,List.getLast?_nil]; rfl
 |b::t,p=>by
  have ih:=OO a t (some b)
  have e:(match (b::t).getLast? with|some c=>some c|none=>p)=(match t.getLast? with|some c=>some c|none=>some b):=by
   cases t with
   |nil=>rfl
   |cons c t =>
    rw[List.getLast?_cons_cons]
    cases h:(c::t).getLast? with
    |none=>simp at h
    |some x=>rfl
  rw[e];simp only[d8,vZ,ih]
  split<;>simp
def AA (l:List Int):∀m,m≤l.length→Lib.compactUpTo l.toArray m=vZ none (l.take m)
 |0,_=>by simp[Lib.compactUpTo,vZ]
 |m+1,h=>by
  have hm:m<l.length:=h;rw[Lib.compactUpTo_succ,AA l m (by omega),take_succ (cD hm),OO];congr 1
  have e1:l.toArray[m]! = l[m]:=by simp[getElem!_pos,hm]
  rw[e1];unfold Lib.keeps;rw[e1]
  cases m with
  |zero=>simp
  |succ m =>
   have hm':m<l.length:=by omega
   have e2:l.toArray[m+1-1]! = l[m]:=by simp[getElem!_pos,hm']
   rw[e2]
   have e3:(l.take (m+1)).getLast?=some l[m]:=by rw[take_succ (cD hm'),List.getLast?_append]; rfl
   rw[e3]
   by_cases hne:l[m+1]=l[m]
   ·simp[hne]
   ·have:¬l[m]=l[m+1]:=fun h=>hne h.symm;simp[hne,this]
def XR (l:List Int):yG l=vZ none l:=by
 unfold yG Lib.compact;rw[AA l l.length (Nat.le_refl _),List.take_length]
def abk (l:List Int):yG (Cg l)=Wo l:=by rw[ad1,XR]; rfl
def Te:∀{l:List Int} {p:Option Int} {x:Int},p≠some x→(x∈vZ p l↔x∈l)
 |[],_,_,_=>Iff.rfl
 |a::t,p,x,hp=>by
  unfold vZ
  by_cases hx:x=a
  ·subst hx;rw[if_neg hp]; simp
  ·have ih:=Te (l:=t) (p:=some a) (x:=x) (fun e=>hx (by cases e; rfl))
   split<;>simp[ih,hx]
def Yp:∀{l:List Int} {p:Option Int},l.Pairwise (·≤·)→(∀q,p=some q→∀x∈l,q≤x)→(vZ p l).Pairwise (·<·)∧∀q,p=some q→∀x∈vZ p l,q<x
 |[],p,_,_=>⟨List.Pairwise.nil,fun _ _ _ h=>by cases h⟩
 |a::t,p,h,hp=>by
  rw[List.pairwise_cons] at h;obtain⟨i1,i2⟩:=Yp (l:=t) (p:=some a) h.2 (fun q hq x hx=>by cases hq; exact h.1 x hx);unfold vZ
  split
  ·rename_i e;exact⟨i1,fun q hq x hx=>by rw[e] at hq; cases hq; exact i2 _ rfl x hx⟩
  ·rename_i e;refine⟨dv.2 ⟨fun x hx=>i2 _ rfl x hx,i1⟩,fun q hq x hx=>?_⟩;have:=hp q hq a (by simp);have hne:q≠a:=fun h=>e (by rw[hq,h]);rcases cJ.1 hx with rfl|hx
   ·omega
   ·have:=i2 _ rfl x hx; omega
def yb {l:List Int} {x:Int}:x∈Wo l↔x∈l:=by
 unfold Wo;rw[Te (by simp),(uG l).mem_iff]
def WD (l:List Int):(Wo l).Pairwise (·<·):=(Yp (uF l) (fun q hq=>by cases hq)).1
def Tf:∀(l:List Int) (p:Option Int),(vZ p l).length≤l.length
 |[],_=>cE _
 |a::t,p=>by
  have:=Tf t (some a);unfold vZ
  split<;>simp<;>omega
def JD (l:List Int):(Wo l).length≤l.length:=by
 unfold Wo;have:=Tf (PJ l) none
 rwa [(uG l).length_eq] at this
def agO {l m:List Int} (hl:l.Pairwise (·<·)) (hm:m.Pairwise (·<·)) (h:∀x,x∈l↔x∈m):l=m:=by
 induction l generalizing m with
 |nil =>
  cases m with
  |nil=>rfl
  |cons a t=>have:=(h a).2 (by simp); cases this
 |cons a t ih =>
  rw[dv] at hl
  cases m with
  |nil=>have:=(h a).1 (by simp); cases this
  |cons b u =>
   rw[dv] at hm
   have hab:a=b:=by
    rcases cJ.1 ((h a).1 (by simp)) with h1|h1
    ·exact h1
    ·rcases cJ.1 ((h b).2 (by simp)) with h2|h2
     ·exact h2.symm
     ·have:=hm.1 a h1; have:=hl.1 b h2; omega
   subst hab;rw[ih hl.2 hm.2 fun x=>?_];constructor
   ·intro hx;rcases cJ.1 ((h x).1 (by simp[hx])) with h1|h1
    ·have:=hl.1 x hx; omega
    ·exact h1
   ·intro hx;rcases cJ.1 ((h x).2 (by simp[hx])) with h1|h1
    ·have:=hm.1 x hx; omega
    ·exact h1
def Hs (b:Ü) (s:List (Int×ù)) (c:Cmp):Int :=
 if (c.2.2.1++c.2.2.2.1).any (fun id=>qK s id c.2.1==5) then 5 else
 if (c.2.2.1++c.2.2.2.1).any (fun id=>qK s id c.2.1==4) then 4 else
 if (c.2.2.1++c.2.2.2.1).any (fun id=>(Js b id c.2.1).isSome) then 9 else
 if 1<(Ď c.2.2.1 c.2.2.2.1).length then 1 else if 1<(Ď c.2.2.2.1 c.2.2.1).length then 1 else
 if (Ď c.2.2.1 c.2.2.2.1).length+(Ď c.2.2.2.1 c.2.2.1).length=0 then 1 else 0
def ZY (c:Cmp):Bool :=
 inP c.1 1 1099511627776&&(S7 c.2.1&&(inP c.2.2.2.2.1 (-1125899906842624) 1125899906842624&&(inP c.2.2.2.2.2.1 0 1073741824&&(pr c.2.2.2.2.2.2 (-10000) 10000&&(iR c.2.2.1&&iR c.2.2.2.1)))))
def yF (b:Ü) (s:List (Int×ù)) (i:Nat) (c:Cmp):Int :=
 if !ZY c then 1 else if (b.2.2.2.2.1.take i).any (fun x=>x.1==c.1) then 6 else Hs b s c
def Vh (a b:List Int):(Ď a b).length≤a.length:=dw _ _
set_option maxHeartbeats 1000000 in
def MQ {b:Ü} (hn:b.2.2.2.2.1.length≤1000) (hl:b.2.2.2.1.length≤1000) (s:List (Int×ù)) {i:Nat} {c:Cmp} (hA:c.2.2.1.length≤1000) (hB:c.2.2.2.1.length≤1000)
 (hc:b.2.2.2.2.1[i]?=some c):Ļ b s i=some (yF b s i c):=by
 have hi:i<b.2.2.2.2.1.length:=(List.getElem?_eq_some_iff.1 hc).1;unfold Ļ mZ yF ZY;rw[Ì hc,Ι,À]
 cases inP c.1 1 1099511627776 with
 |false=>rfl
 |true =>
 rw[Sh,À]
 cases S7 c.2.1 with
 |false=>rfl
 |true =>
 rw[Ι,À]
 cases inP c.2.2.2.2.1 (-1125899906842624) 1125899906842624 with
 |false=>rfl
 |true =>
 rw[Ι,À]
 cases inP c.2.2.2.2.2.1 0 1073741824 with
 |false=>rfl
 |true =>
 rw[EO,À]
 cases pr c.2.2.2.2.2.2 (-10000) 10000 with
 |false=>rfl
 |true =>
 rw[EN (by omega),À]
 cases iR c.2.2.1 with
 |false=>rfl
 |true =>
 rw[EN (by omega),À]
 cases iR c.2.2.2.1 with
 |false=>rfl
 |true =>
 have hg:((ile (0:Int) (i:Int))&&(ile (i:Int) (ą b.2.2.2.2.1)))=true:=by simp[ile,ą]; omega
 simp only[dI,ã,Bool.and_self,cR,if_false];rw[ģ hg,dc]
 -- what comes behind the IDs
 have rest:(Â (ì ([c.2.2.1,c.2.2.2.1])) fun r12=>Í (fun(v36:Int) kk38=>ň s r12 (Ô ([(5:Int),(4:Int)])) c.2.1 ([(5:Int),(4:Int)]) v36 (fun u37=>kk38 u37) (fun z23=>some z23) (fun _=>Í (fun(v33:Int) kk35=>Ň r12 (Ô r12) b.1.1 b.1.2 b.2.1 b.2.2.1 b.2.2.2.1 b.2.2.2.2.1 b.2.2.2.2.2 c.2.1 v33 (fun u34=>kk35 u34) (fun z28=>some z28) (fun _=>Â (Ŧ c.2.2.1 c.2.2.2.1) fun r30=>Â (Ŧ c.2.2.2.1 c.2.2.1) fun r31=>ifb (igt (Ô r30) (1:Int)) (some (1:Int)) (ifb (igt (Ô r31) (1:Int)) (some (1:Int)) (ck ((Ô r30)+(Ô r31)) fun n32=>ifb (ieq n32 (0:Int)) (some (1:Int)) (some (0:Int)))))) (0:Int))) (0:Int))=some (Hs b s c):=by
  rw[adK (by omega) (by omega),À]
  have hall:(c.2.2.1++c.2.2.2.1).length≤2000:=by simp; omega
  have last:(Â (Ŧ c.2.2.1 c.2.2.2.1) fun r30=>Â (Ŧ c.2.2.2.1 c.2.2.1) fun r31=>ifb (igt (Ô r30) (1:Int)) (some (1:Int)) (ifb (igt (Ô r31) (1:Int)) (some (1:Int)) (ck ((Ô r30)+(Ô r31)) fun n32=>ifb (ieq n32 (0:Int)) (some (1:Int)) (some (0:Int))))) =
   some (if 1<(Ď c.2.2.1 c.2.2.2.1).length then 1 else if 1<(Ď c.2.2.2.1 c.2.2.1).length then 1 else if (Ď c.2.2.1 c.2.2.2.1).length+(Ď c.2.2.2.1 c.2.2.1).length=0 then 1 else 0):=by
   rw[ri (by omega) (by omega),À,ri (by omega) (by omega),À];have l1:=Vh c.2.2.1 c.2.2.2.1;have l2:=Vh c.2.2.2.1 c.2.2.1;rw[á,á,Û (by omega) (by omega)]
   by_cases c1:1<(Ď c.2.2.1 c.2.2.2.1).length
   ·rw[Þ (by simp[igt]; omega),if_pos c1]
   rw[Õ (by simp[igt]; omega),if_neg c1]
   by_cases c2:1<(Ď c.2.2.2.1 c.2.2.1).length
   ·rw[Þ (by simp[igt]; omega),if_pos c2]
   rw[Õ (by simp[igt]; omega),if_neg c2]
   by_cases c3:(Ď c.2.2.1 c.2.2.2.1).length+(Ď c.2.2.2.1 c.2.2.1).length=0
   ·rw[Þ (by simp[ieq]; omega),if_pos c3]
   rw[Õ (by simp[ieq]; omega),if_neg c3]
  refine fG (sN [(5:Int),4] (fun _ want=>if (c.2.2.1++c.2.2.2.1).any (fun id=>qK s id c.2.1==want) then some want else none) some (some (if (c.2.2.1++c.2.2.2.1).any (fun id=>(Js b id c.2.1).isSome) then 9 else if 1<(Ď c.2.2.1 c.2.2.2.1).length then 1 else if 1<(Ď c.2.2.2.1 c.2.2.1).length then 1 else if (Ď c.2.2.1 c.2.2.2.1).length+(Ď c.2.2.2.1 c.2.2.1).length=0 then 1 else 0)) (fun j want hj hw kn=>?_) (fun kn=>?_)) ?_
  ·try dsimp only
   unfold ň;rw[Ö hj,iH hj,Ū hw];refine Eq.trans (gK (c.2.2.1++c.2.2.2.1) (fun id=>qK s id c.2.1==want) (fun _=>some want) (some want) (kn ((j:Int)+1)) (fun _=>rfl) (fun k a hk ha kn'=>?_) (fun kn'=>?_)) ?_
   ·try dsimp only
    unfold ij;rw[Ö hk,Ì ha,WW,À,Ñ hk (by omega),Ĵ]
   ·try dsimp only
    unfold ij;rw[ê,Ñ hj (by simp)]
   ·cases List.any (c.2.2.1++c.2.2.2.1) (fun id=>qK s id c.2.1==want)<;>rfl
  ·try dsimp only
   unfold ň;rw[ê];refine Eq.trans (gK (c.2.2.1++c.2.2.2.1) (fun id=>(Js b id c.2.1).isSome) (fun _=>some 9) (some 9) (some (if 1<(Ď c.2.2.1 c.2.2.2.1).length then 1 else if 1<(Ď c.2.2.2.1 c.2.2.1).length then 1 else if (Ď c.2.2.1 c.2.2.2.1).length+(Ď c.2.2.2.1 c.2.2.1).length=0 then 1 else 0)) (fun _=>rfl) (fun k a hk ha kn'=>?_) (fun kn'=>?_)) ?_
   ·try dsimp only
    unfold Ň;have haw:=agM hl a c.2.1;rw[Ö hk,Ì ha,Ñ hk (by omega)];rw[show yB ((b.1.1,b.1.2),b.2.1,b.2.2.1,b.2.2.2.1,b.2.2.2.2.1,b.2.2.2.2.2) a c.2.1=yB b a c.2.1 from rfl,haw,À]
    cases Js b a c.2.1<;>rfl
   ·try dsimp only
    unfold Ň;rw[ê,last]
   ·cases List.any (c.2.2.1++c.2.2.2.1) (fun id=>(Js b id c.2.1).isSome)<;>rfl
  ·unfold Hs Α Α Α
   try dsimp only
   cases List.any (c.2.2.1++c.2.2.2.1) (fun id=>qK s id c.2.1==5) with
   |true=>rfl
   |false =>
   cases List.any (c.2.2.1++c.2.2.2.1) (fun id=>qK s id c.2.1==4)<;>rfl
 refine fG (gK (b.2.2.2.2.1.take i) (fun x=>x.1==c.1) (fun z11=>ifb (ige z11 (0:Int)) (some 6) (some (Hs b s c))) (some 6) (some (Hs b s c)) (fun j=>?_) (fun j a hj ha kn=>?_) (fun kn=>?_)) ?_
 ·have:ige (j:Int) 0=true:=by simp[ige]
  rw[Þ this]
 ·try dsimp only
  unfold ik;rw[rest,Ö hj,Ì ha,Ñ hj (by rw[List.length_take]; omega),Ĵ]
 ·try dsimp only
  unfold ik;rw[ê,rest]
 ·cases List.any (b.2.2.2.2.1.take i) (fun x=>x.1==c.1)<;>rfl
def Sw (b:Ü) (g:ù):List Int :=
 [g.2.1]++(b.2.2.2.2.1.filter fun c=>!(c.2.2.1.contains g.1==c.2.2.2.1.contains g.1)).map (fun c=>c.2.1)++(b.2.2.2.2.2.filter fun n=>n.1==g.1).map (fun n=>n.2)
def é (b:Ü) (g:ù):List Int:=Wo (Sw b g)
structure ke (b:Ü):Prop where
 gauges:b.2.1.length≤1000
 uses:b.2.2.1.length≤1000
 loans:b.2.2.2.1.length≤1000
 compares:b.2.2.2.2.1.length≤1000
 looks:b.2.2.2.2.2.length≤1000
 piles:∀c∈b.2.2.2.2.1,c.2.2.1.length≤1000∧c.2.2.2.1.length≤1000
def Tp (l:List Int):(Cg l).length=l.length:=List.length_mergeSort l
def VJ {b:Ü} (hs:ke b) (g:ù):(Sw b g).length≤2001:=by
 have h1:=hs.compares;have h2:=hs.looks;have h3:=dw (fun c:Cmp=>!(c.2.2.1.contains g.1==c.2.2.2.1.contains g.1)) b.2.2.2.2.1;have h4:=dw (fun n:Int×Int=>n.1==g.1) b.2.2.2.2.2;simp only[Sw,cG,eE,dm];omega
def acU {b:Ü} (hs:ke b) (g:ù):nD b g=some (é b g):=by
 unfold nD RS;have hr:=VJ hs g
 have hd:(é b g).length≤2001:=by
  unfold é;have:=JD (Sw b g);omega
 have hcl:=hs.compares;have hll:=hs.looks;refine Ą b.2.2.2.2.1 (fun i=>[g.2.1]++((b.2.2.2.2.1.take i).filter fun c=>!(c.2.2.1.contains g.1==c.2.2.2.1.contains g.1)).map (fun c=>c.2.1)) _ rfl (fun i c hi hc kn=>?_) (fun kn=>?_)
 ·try dsimp only
  unfold uz;obtain⟨p1,p2⟩:=hs.piles c (List.mem_of_getElem? hc);rw[Ö hi,Ì hc,kf (by omega),À,kf (by omega),À,Ñ hi (by omega),Ñ hi (by omega),take_succ hc,List.filter_append,List.map_append]
  have hlen:([g.2.1]++((b.2.2.2.2.1.take i).filter fun c=>!(c.2.2.1.contains g.1==c.2.2.2.1.contains g.1)).map (fun c=>c.2.1)).length≤1001:=by
   have h3:=dw (fun c:Cmp=>!(c.2.2.1.contains g.1==c.2.2.2.1.contains g.1)) (b.2.2.2.2.1.take i);rw[cW] at h3;simp only[cG,eE,dm];omega
  rw[Ø (by simp only[dm]; omega),Am.iff_true]
  cases h:(c.2.2.1.contains g.1==c.2.2.2.1.contains g.1) with
  |true=>simp only[dI,ã,dN,h,cR,if_false,dU,fo,dE]
  |false=>simp only[gi,Ĥ,dN,h,if_true,dU,dW,fo,dh]
 ·try dsimp only
  unfold uz;rw[ê,List.take_length];refine Ą b.2.2.2.2.2 (fun i=>[g.2.1]++(b.2.2.2.2.1.filter fun c=>!(c.2.2.1.contains g.1==c.2.2.2.1.contains g.1)).map (fun c=>c.2.1)++((b.2.2.2.2.2.take i).filter fun n=>n.1==g.1).map (fun n=>n.2)) _ (by simp) (fun i n hi hn kn=>?_) (fun kn=>?_)
  ·try dsimp only
   unfold uw;rw[Ö hi,Ì hn,Ñ hi (by omega),Ñ hi (by omega),take_succ hn,List.filter_append,List.map_append]
   have hlen:([g.2.1]++(b.2.2.2.2.1.filter fun c=>!(c.2.2.1.contains g.1==c.2.2.2.1.contains g.1)).map (fun c=>c.2.1)++((b.2.2.2.2.2.take i).filter fun n=>n.1==g.1).map (fun n=>n.2)).length≤2001:=by
    have h3:=dw (fun c:Cmp=>!(c.2.2.1.contains g.1==c.2.2.2.1.contains g.1)) b.2.2.2.2.1;have h4:=dw (fun n:Int×Int=>n.1==g.1) (b.2.2.2.2.2.take i);rw[cW] at h4;simp only[cG,eE,dm];omega
   rw[Ø (by simp only[dm]; omega),Am.iff_true]
   cases h:(n.1==g.1) with
   |true =>
    have:ieq n.1 g.1=true:=h;simp[h,this]
   |false =>
    have:ieq n.1 g.1=false:=h;simp[h,this]
  ·try dsimp only
   unfold uw;rw[ê,List.take_length];rw[show([g.2.1]++(b.2.2.2.2.1.filter fun c=>!(c.2.2.1.contains g.1==c.2.2.2.1.contains g.1)).map (fun c=>c.2.1)++(b.2.2.2.2.2.filter fun n=>n.1==g.1).map (fun n=>n.2))=Sw b g from rfl];dsimp only;rw[Ø (by omega),Am.iff_true,Ø (by rw[Tp]; omega),Am.iff_true,abk];rfl
def Ë (b:Ü):List (Int×Int):=b.2.1.flatMap fun g=>(é b g).map fun d=>((g.1,d):Int×Int)
def ML {b:Ü} (hs:ke b) (g:ù):(é b g).length≤2001:=by
 unfold é;have:=JD (Sw b g);have:=VJ hs g;omega
def B4 {α β:Type} (f:α→List β) (n:Nat) (h:∀a,(f a).length≤n):∀l:List α,(l.flatMap f).length≤l.length*n
 |[]=>by simp
 |a::l=>by
  have:=B4 f n h l;have:=h a;simp only[dQ,cG,cN,dg,fg];omega
def QI {b:Ü} (hs:ke b):pf b=some (Ë b):=by
 unfold pf L1;have hg:=hs.gauges
 have hlen:∀l:List ù,(l.flatMap fun g=>(é b g).map fun d=>((g.1,d):Int×Int)).length≤l.length*2001:=fun l =>
  B4 _ 2001 (fun g=>by rw[eE]; exact ML hs g) l
 refine Ą b.2.1 (fun i=>(b.2.1.take i).flatMap fun g=>(é b g).map fun d=>((g.1,d):Int×Int)) _ rfl (fun i g hi hg' kn=>?_) (fun kn=>?_)
 ·try dsimp only
  unfold qt;rw[Ö hi,Ì hg'];rw[show nD ((b.1.1,b.1.2),b.2.1,b.2.2.1,b.2.2.2.1,b.2.2.2.2.1,b.2.2.2.2.2) g=nD b g from rfl,acU hs,À];have hd:=ML hs g;have hi2:=hlen (b.2.1.take i)
  have htl:(b.2.1.take i).length≤1000:=by rw[cW]; omega
  refine Ą (é b g) (fun j=>((b.2.1.take i).flatMap fun g=>(é b g).map fun d=>((g.1,d):Int×Int))++((é b g).take j).map fun d=>((g.1,d):Int×Int)) _ (by simp) (fun j d hj hd' kn'=>?_) (fun kn'=>?_)
  ·try dsimp only
   unfold qr;rw[Ö hj,Ì hd',Ñ hj (by omega),take_succ hd',List.map_append];rw[Ø (by simp only[List.length_append,List.length_map,List.length_take,List.length_singleton]; omega),Am.iff_true];simp
  ·try dsimp only
   unfold qr;rw[ê,List.take_length];dsimp only;rw[Ñ hi (by omega),take_succ hg',List.flatMap_append];simp
 ·try dsimp only
  unfold qt;rw[ê,List.take_length];rfl
def Ht (b:Ü) (s:List (Int×ù)):List Int :=
 b.2.2.1.map (fun u=>adW s u.1 u.2)++(b.2.2.2.1.mapIdx (fun i l=>XA b s i l)++(b.2.2.2.2.1.mapIdx (fun i c=>yF b s i c)++b.2.2.2.2.2.map (fun u=>adW s u.1 u.2)))
def Uf {α:Type} {f:Int→Option Int} {g:Nat→α→Int} (l:List α) (h:∀(i:Nat) (a:α),l[i]?=some a→f i=some (g i a)):KN f (vY l.length)=some (l.mapIdx g):=by
 have h1:∀i,i<l.length→f (i:Int)=some ((l.mapIdx g)[i]?.getD 0):=by
  intro i hi;rw[h i l[i] (cD hi)];simp[hi]
 have h2:∀x∈vY l.length,f x=some ((l.mapIdx g)[x.toNat]?.getD 0):=by
  intro x hx;unfold vY at hx;obtain⟨i,hi,rfl⟩:=List.mem_map.1 hx;rw[h1 i (by simpa using hi)];rfl
 rw[CE h2];congr 1;refine List.ext_getElem (by simp[vY]) fun i h3 h4=>?_
 have h5:i<l.length:=by simpa using h4
 simp[vY,h5]
def aee {b:Ü} (hs:ke b) (s:List (Int×ù)):mK b s=some (Ht b s):=by
 unfold mK Ht
 rw[CE (fun u _=>TO s u.1 u.2),À,Uf b.2.2.2.1 (fun i l hl=>VP hs.loans hs.uses s hl),À,
  Uf b.2.2.2.2.1 (fun i c hc=>MQ hs.compares hs.loans s (hs.piles c (cM hc)).1 (hs.piles c (cM hc)).2 hc),À,CE (fun u _=>TO s u.1 u.2),À]
def ß (b:Ü):Int :=
 if !pr b.1 0 1000000 then 1 else
 if 12<b.2.1.length then 2 else if 40<b.2.2.1.length then 2 else if 12<b.2.2.2.1.length then 2 else if 40<b.2.2.2.2.1.length then 2 else if 10<b.2.2.2.2.2.length then 2 else
 if nc b != 0 then nc b else
 match (Ht b (oe b)).find? (fun e=>e != 0) with
 |some e=>e
 |none=>if 59<(Ë b).length then 2 else if 300<2*b.2.1.length+2*((Ë b).length-b.2.1.length:Int)+2*b.2.2.2.2.1.length then 2 else 0
def FP {b:Ü} (hs:ke b):(Ë b).length≤2001000:=by
 have:=B4 (fun g:ù=>(é b g).map fun d=>((g.1,d):Int×Int)) 2001 (fun g=>by rw[List.length_map]; exact ML hs g) b.2.1;have h2:=hs.gauges;unfold Ë;omega
def Φ {b:Ü} (hs:ke b) (hr:∀g∈b.2.1,I64 g.2.2.2.2.1.1):ñ b=some (ß b):=by
 unfold ñ Mc ß;rw[EO,À]
 cases pr b.1 0 1000000 with
 |false=>rfl
 |true =>
 have h1:=hs.gauges;have h2:=hs.compares;have h3:=FP hs;rw[Õ (show(!true)=false from rfl),if_neg (by simp)];simp only[á]
 by_cases c0:12<b.2.1.length
 ·rw[Þ (by simp[igt]; omega),if_pos c0]
 rw[Õ (by simp[igt]; omega),if_neg c0]
 by_cases c1:40<b.2.2.1.length
 ·rw[Þ (by simp[igt]; omega),if_pos c1]
 rw[Õ (by simp[igt]; omega),if_neg c1]
 by_cases c2:12<b.2.2.2.1.length
 ·rw[Þ (by simp[igt]; omega),if_pos c2]
 rw[Õ (by simp[igt]; omega),if_neg c2]
 by_cases c3:40<b.2.2.2.2.1.length
 ·rw[Þ (by simp[igt]; omega),if_pos c3]
 rw[Õ (by simp[igt]; omega),if_neg c3]
 by_cases c4:10<b.2.2.2.2.2.length
 ·rw[Þ (by simp[igt]; omega),if_pos c4]
 rw[Õ (by simp[igt]; omega),if_neg c4];rw[OE hr h1,À]
 cases hm:(nc b != 0) with
 |true =>
  have:ine (nc b) 0=true:=hm;rw[Þ this,if_pos rfl]
 |false =>
 have:ine (nc b) 0=false:=hm;rw[Õ this,if_neg (by simp)];rw[OV h1,À];unfold TE;rw[aee hs,À]
 cases(Ht b (oe b)).find? (fun e=>e != 0) with
 |some e=>rfl
 |none =>
 dsimp only;rw[QI hs,À]
 by_cases c5:59<(Ë b).length
 ·rw[Þ (by simp[igt]; omega),if_pos c5]
 rw[Õ (by simp[igt]; omega),if_neg c5];rw[Û (by omega) (by omega),Û (by omega) (by omega),Û (by omega) (by omega),Û (by omega) (by omega),Û (by omega) (by omega),Û (by omega) (by omega)]
 by_cases c6:300<2*b.2.1.length+2*((Ë b).length-b.2.1.length:Int)+2*b.2.2.2.2.1.length
 ·rw[Þ (by simp[igt]; omega),if_pos c6]
 rw[Õ (by simp[igt]; omega),if_neg c6]
def wrapU {n:Nat} (h:n<18446744073709551616):IntKind.wrap .u64 (n:Int)=n:=by
 simp only[IntKind.wrap,IntKind.bits,IntKind.signed];simp;omega
def wrapI {n:Nat} (h:n<9223372036854775808):IntKind.wrap .i64 (n:Int)=n:=by
 simp only[IntKind.wrap,IntKind.bits,IntKind.signed];simp;omega
def jk (l:List (Int×Int)) (x d:Int):Option Nat:=l.findIdx? fun n=>decide (x=n.1)&&decide (d=n.2)
def Wc {l:List (Int×Int)} (hn:l.length≤100000000) (x d:Int):ö l (x,d)=some (match jk l x d with|some j=>(j:Int)|none=>-1):=by
 unfold ö ű;refine Eq.trans (iX l (fun n=>decide (x=n.1)&&decide (d=n.2)) some (some (-1)) (fun i a hi ha kn=>?_) (fun kn=>?_)) ?_
 ·try dsimp only
  unfold Ģ;rw[Ö hi,Ì ha,Ñ hi (by omega),Ĵ,Bool.and_true]
 ·try dsimp only
  unfold Ģ;rw[ê]
 ·unfold jk
  cases List.findIdx? (fun n=>decide (x=n.1)&&decide (d=n.2)) l<;>rfl
def atP (l:List (Int×Int)) (p:List Int) (d:Int):Int :=
 match p with
 |[]=>0
 |x::_=>match jk l x d with|some j=>(j:Int)+1|none=>0
def jU {l:List (Int×Int)} {x d:Int} {j:Nat} (h:jk l x d=some j):j<l.length∧l[j]?=some (x,d):=by
 unfold jk at h;obtain⟨hj,hp,_⟩:=List.findIdx?_eq_some_iff_getElem.1 h;refine⟨hj,?_⟩;rw[List.getElem?_eq_getElem hj];simp only[Bool.and_eq_true,decide_eq_true_eq] at hp;congr 1;exact Prod.ext hp.1.symm hp.2.symm
def adu (m:Maker) (p:List Int) (d:Int) (hn:m.2.1.length≤100000000):g9 m p d=some (atP m.2.1 p d):=by
 unfold g9 xu atP
 cases p with
 |nil=>simp[á,ieq]
 |cons x p =>
  have h:ieq (Ô (x::p)) 0=false:=by
   rw[á];simp only[ieq,cN,beq_eq_false_iff_ne,ne_eq];omega
  rw[h,ã,show(0:Int)=((0:Nat):Int) from rfl,Ì (a:=x) rfl,Wc hn,À]
  cases hx:jk m.2.1 x d with
  |none=>dsimp only; rw[Û (by omega) (by omega)]; simp only[hx]; rfl
  |some j =>
   have:=(jU hx).1;dsimp only;rw[Û (by omega) (by omega)];simp only[hx]
def IL (s:List (Int×ù)) (p:List Int):Int×Int :=
 match p with
 |[]=>(0,1)
 |x::_=>match rI (k:=tI) (v:=Ï) x s with
  |some g=>g.2.2.2.2.1
  |none=>(0,0)
def TD (s:List (Int×ù)) (p:List Int):iB s p=some (IL s p):=by
 unfold iB mY IL
 cases p with
 |nil=>simp[á,ieq]
 |cons x p =>
  have h:ieq (Ô (x::p)) 0=false:=by
   rw[á];simp only[ieq,cN,beq_eq_false_iff_ne,ne_eq];omega
  rw[h,ã,show(0:Int)=((0:Nat):Int) from rfl,Ì (a:=x) rfl]
  cases hx:rI (k:=tI) (v:=Ï) x s with
  |none=>simp only[S6,hx]
  |some g=>simp only[S6,hx]
def Ym {l:List (Int×Int)} (hr:∀r∈l,I64 r.1) (hn:l.length≤1000):jw l=some (if l.any (fun r=>!Np r) then 1 else 0):=by
 unfold jw LC;refine Eq.trans (gK l (fun r=>!Np r) (fun _=>some 1) (some 1) (some 0) (fun _=>rfl) (fun i a hi ha kn=>?_) (fun kn=>?_)) ?_
 ·try dsimp only
  unfold qn;rw[Ö hi,Ì ha,SU (hr a (List.mem_of_getElem? ha)),À,Ñ hi (by omega),Ĵ]
 ·try dsimp only
  unfold qn;rw[ê]
 ·cases l.any (fun r=>!Np r)<;>rfl
def uW (n d:Int):Int×Int:=(n / (Nat.gcd n.natAbs d.natAbs:Nat),d / (Nat.gcd n.natAbs d.natAbs:Nat))
def nq (r:Int×Int):Np r=true↔1≤r.2∧r.2≤2147483647∧(r.1.natAbs:Int)≤2147483647∧Nat.gcd r.1.natAbs r.2.natAbs=1:=by
 simp[Np]
def Qp {n d:Int} (hd:0<d):∃g:Nat,0<g∧g=Nat.gcd n.natAbs d.natAbs∧n=(uW n d).1*g∧d=(uW n d).2*g:=by
 have hg:0<Nat.gcd n.natAbs d.natAbs:=Nat.gcd_pos_of_pos_right _ (by omega);refine⟨_,hg,rfl,?_,?_⟩
 ·exact(Int.ediv_mul_cancel (Int.ofNat_dvd_left.2 (Nat.gcd_dvd_left _ _))).symm
 ·exact(Int.ediv_mul_cancel (Int.ofNat_dvd_left.2 (Nat.gcd_dvd_right _ _))).symm
def WN {n d:Int} (hd:0<d) (hn:n.natAbs≤2147483647) (hd2:d≤2147483647):Np (uW n d)=true:=by
 obtain⟨g,h0,hg,h1,h2⟩:=Qp (n:=n) hd;rw[nq]
 have a1:n.natAbs=(uW n d).1.natAbs*g:=by conv=>lhs; rw[h1]; rw[fu,fA]
 have a2:d.natAbs=(uW n d).2.natAbs*g:=by conv=>lhs; rw[h2]; rw[fu,fA]
 have p2:0<(uW n d).2:=by
  rcases Int.lt_trichotomy (uW n d).2 0 with h|h|h
  ·have:=Int.mul_neg_of_neg_of_pos h (show(0:Int)<g by omega); omega
  ·rw[h] at h2; simp at h2; omega
  ·exact h
 have b1:(uW n d).1.natAbs≤n.natAbs:=by rw[a1]; exact fO _ h0
 have b2:(uW n d).2.natAbs≤d.natAbs:=by rw[a2]; exact fO _ h0
 refine⟨by omega,by omega,by omega,?_⟩;have:=Nat.gcd_mul_right (uW n d).1.natAbs g (uW n d).2.natAbs;rw[←a1,←a2,←hg] at this
 have h3:(Nat.gcd (uW n d).1.natAbs (uW n d).2.natAbs)*g=1*g:=by omega
 exact Nat.eq_of_mul_eq_mul_right h0 h3
def O0 {n d:Int} (hd:0<d) (hn:n.natAbs≤2147483647) (hd2:d≤2147483647):pd n d=some (uW n d,0):=by
 obtain⟨g,h0,hg,h1,h2⟩:=Qp (n:=n) hd;have hr:=(nq _).1 (WN hd hn hd2);unfold pd BH;rw[Qk ⟨by omega,by omega⟩,À,Qk ⟨by omega,by omega⟩,À,afC,À,←hg]
 have a1:n.natAbs=(uW n d).1.natAbs*g:=by conv=>lhs; rw[h1]; rw[fu,fA]
 have a2:d.natAbs=(uW n d).2.natAbs*g:=by conv=>lhs; rw[h2]; rw[fu,fA]
 have q1:Int.tdiv (n.natAbs:Int) (g:Int)=((uW n d).1.natAbs:Int):=by
  rw[a1,gB]; exact Int.mul_tdiv_cancel _ (by omega)
 have q2:Int.tdiv (d.natAbs:Int) (g:Int)=((uW n d).2.natAbs:Int):=by
  rw[a2,gB]; exact Int.mul_tdiv_cancel _ (by omega)
 have z:ĩ (g:Int) 0=false:=by simp[ĩ]; omega
 have g1:igt ((uW n d).1.natAbs:Int) 2147483647=false:=by simp[igt]; omega
 have g2:igt ((uW n d).2.natAbs:Int) 2147483647=false:=by simp[igt]; omega
 rw[Õ z,Õ z,q1,q2,wrapU (by omega),wrapU (by omega),wrapI (by omega),wrapI (by omega),Õ g1,Õ g2]
 have hd0:ilt d 0=false:=by simp[ilt]; omega
 rw[hd0]
 have e2:((uW n d).2.natAbs:Int)=(uW n d).2:=by omega
 rw[e2]
 by_cases hneg:n<0
 ·have hn0:ilt n 0=true:=by simp[ilt,hneg]
  have:(uW n d).1≤0:=by
   rcases Int.lt_or_le 0 (uW n d).1 with h|h
   ·have:=Int.mul_pos h (show(0:Int)<g by omega); omega
   ·exact h
  rw[hn0];rw[show(!true==false)=true from rfl,Ĥ,Û (by omega) (by omega)]
  have:0-((uW n d).1.natAbs:Int)=(uW n d).1:=by omega
  rw[this]
 ·have hn0:ilt n 0=false:=by simp[ilt]; omega
  have:0≤(uW n d).1:=by
   rcases Int.lt_or_le (uW n d).1 0 with h|h
   ·have:=Int.mul_neg_of_neg_of_pos h (show(0:Int)<g by omega); omega
   ·exact h
  rw[hn0];rw[show(!false==false)=false from rfl,ã]
  have:((uW n d).1.natAbs:Int)=(uW n d).1:=by omega
  rw[this]
structure tf (r:Int×Int) (n d:Int):Prop where
 rat:Np r=true
 num : -n≤r.1∧r.1≤n
 den:r.2≤d
def tf.pos {r:Int×Int} {n d:Int} (h:tf r n d):1≤r.2:=((nq r).1 h.rat).1
def tf.i64 {r:Int×Int} {n d:Int} (h:tf r n d):I64 r.1:=by
 have:=((nq r).1 h.rat).2.2.1;exact⟨by omega,by omega⟩
def aa2 {x y:Int×Int} (hx:Np x=true) (hy:Np y=true):jw [x,y]=some 0:=by
 rw[Ym]
 ·simp[hx,hy]
 ·intro r hr
  have:Np r=true:=by simp at hr; rcases hr with rfl|rfl<;>assumption
  have:=((nq r).1 this).2.2.1;exact⟨by omega,by omega⟩
 ·simp
def pF {a b m n:Int} (h1 : -m≤a∧a≤m) (h2 : -n≤b∧b≤n) : -(m*n)≤a*b∧a*b≤m*n:=by
 have hm:0≤m:=by omega
 have hn:0≤n:=by omega
 have h3:(a*b).natAbs≤(m*n).natAbs:=by
  rw[fu,fu];exact fW (by omega) (by omega)
 have h4:0≤m*n:=fh hm hn;omega
def subP (x y:Int×Int):Int×Int:=uW (x.1*y.2-y.1*x.2) (x.2*y.2)
def OQ {x y:Int×Int} (hx:tf x 1000 100) (hy:tf y 1000 100):(x.1*y.2-y.1*x.2).natAbs≤200000∧0<x.2*y.2∧x.2*y.2≤10000:=by
 have h1:=pF hx.num (show -100≤y.2∧y.2≤100 from⟨by have:=hy.pos; omega,hy.den⟩);have h2:=pF hy.num (show -100≤x.2∧x.2≤100 from⟨by have:=hx.pos; omega,hx.den⟩);have h3:=pF (show -100≤x.2∧x.2≤100 from⟨by have:=hx.pos; omega,hx.den⟩) (show -100≤y.2∧y.2≤100 from⟨by have:=hy.pos; omega,hy.den⟩);have h4:=Int.mul_pos (show 0<x.2 by have:=hx.pos; omega) (show 0<y.2 by have:=hy.pos; omega);refine⟨by omega,h4,by omega⟩
def Sub_ok {x y:Int×Int} (hx:tf x 1000 100) (hy:tf y 1000 100):Ss x y=some (subP x y,0):=by
 obtain⟨b1,b2,b3⟩:=OQ hx hy;have h1:=pF hx.num (show -100≤y.2∧y.2≤100 from⟨by have:=hy.pos; omega,hy.den⟩);have h2:=pF hy.num (show -100≤x.2∧x.2≤100 from⟨by have:=hx.pos; omega,hx.den⟩);unfold Ss Xl;rw[aa2 hx.rat hy.rat,À];rw[show ine (0:Int) 0=false from rfl,ã,Û (by omega) (by omega),Û (by omega) (by omega),Û (by omega) (by omega),Û (by omega) (by omega),O0 b2 (by omega) (by omega),À];rfl
def abz {n d:Int} (hd:0<d):(uW n d).1.natAbs≤n.natAbs∧(uW n d).2≤d:=by
 obtain⟨g,h0,hg,h1,h2⟩:=Qp (n:=n) hd
 have a1:n.natAbs=(uW n d).1.natAbs*g:=by conv=>lhs; rw[h1]; rw[fu,fA]
 have a2:d.natAbs=(uW n d).2.natAbs*g:=by conv=>lhs; rw[h2]; rw[fu,fA]
 have b1:(uW n d).1.natAbs≤n.natAbs:=by rw[a1]; exact fO _ h0
 have b2:(uW n d).2.natAbs≤d.natAbs:=by rw[a2]; exact fO _ h0
 exact⟨b1,by omega⟩
def Qe {x y:Int×Int} (hx:tf x 1000 100) (hy:tf y 1000 100):tf (subP x y) 200000 10000:=by
 obtain⟨b1,b2,b3⟩:=OQ hx hy;obtain⟨c1,c2⟩:=abz (n:=x.1*y.2-y.1*x.2) b2;exact⟨WN b2 (by omega) (by omega),by unfold subP; omega,by unfold subP; omega⟩
def aaS (k:Int×Int) (n:Int):Int×Int:=uW (k.1*n) k.2
def Pf {k:Int×Int} (hk:tf k 200000 10000) {n:Int} (hn : -10000≤n∧n≤10000):(k.1*n).natAbs≤2000000000:=by
 have:=pF hk.num hn;omega
def XC {n:Int} (hn : -10000≤n∧n≤10000):Np (n,1)=true:=by
 rw[nq];exact⟨by simp,by simp,by simp; omega,by simp⟩
def afP {k:Int×Int} (hk:tf k 200000 10000) {n:Int} (hn : -10000≤n∧n≤10000):ME k (n,1)=some (aaS k n,0):=by
 have b:=Pf hk hn;have p:=hk.pos;have q:=hk.den;unfold ME Xn;rw[aa2 hk.rat (XC hn),À];rw[show ine (0:Int) 0=false from rfl,ã,Û (by simp only; omega) (by simp only; omega),Int.mul_one,Û (by omega) (by omega),O0 (by omega) (by simp only; omega) (by omega),À];rfl
def QN {k:Int×Int} (hk:tf k 200000 10000) {n:Int} (hn : -10000≤n∧n≤10000):tf (aaS k n) 2000000000 10000:=by
 have b:=Pf hk hn;have p:=hk.pos;have q:=hk.den;obtain⟨c1,c2⟩:=abz (n:=k.1*n) (show 0<k.2 by omega);exact⟨WN (by omega) (by omega) (by omega),by unfold aaS; omega,by unfold aaS; omega⟩
def cmpP (x y:Int×Int):Int:=if x=y then 0 else if x.1*y.2<y.1*x.2 then -1 else if y.1*x.2<x.1*y.2 then 1 else 0
def afI {x y:Int×Int} {m d:Int} (hx:tf x m d) (hy:tf y m d) (hm:m≤2000000000) (hd:d≤10000):MC x y=some (cmpP x y):=by
 have h1:=pF hx.num (show -d≤y.2∧y.2≤d from⟨by have:=hy.pos; have:=hy.den; omega,hy.den⟩);have h2:=pF hy.num (show -d≤x.2∧x.2≤d from⟨by have:=hx.pos; have:=hx.den; omega,hx.den⟩);have h0:0≤m∧0≤d:=⟨by have:=hx.num; omega,by have:=hx.pos; have:=hx.den; omega⟩;have h3:m*d≤2000000000*10000:=Int.mul_le_mul hm hd h0.2 (by omega);unfold MC Xj cmpP;rw[Û (by omega) (by omega),Û (by omega) (by omega)];simp only[Ĵ,Bool.and_true,Bool.and_eq_true,decide_eq_true_eq,ĩ,ilt,igt,gt_iff_lt];have:(x.1=y.1∧x.2=y.2)↔x=y:=⟨fun h=>Prod.ext h.1 h.2,fun h=>by rw[h]; exact⟨rfl,rfl⟩⟩;simp only[this]
 (repeat' split)<;>rfl
def ZT (k:Int×Int) (heat:Int×Int):(Int×Int)×(Int×Int) :=
 if 0<cmpP (aaS k heat.1) (aaS k heat.2) then(aaS k heat.2,aaS k heat.1) else(aaS k heat.1,aaS k heat.2)
def af6 {k heat:Int×Int} (hk:tf k 200000 10000) (hh:pr heat (-10000) 10000=true):nB k heat=some (ZT k heat):=by
 simp only[pr,Bool.and_eq_true,decide_eq_true_eq] at hh;obtain⟨h1,h2,h3⟩:=hh;have n1 : -10000≤heat.1∧heat.1≤10000:=⟨by omega,by omega⟩;have n2 : -10000≤heat.2∧heat.2≤10000:=⟨by omega,by omega⟩;have r1:tf (heat.1,1) 10000 10000:=⟨XC n1,n1,by simp⟩;have r2:tf (heat.2,1) 10000 10000:=⟨XC n2,n2,by simp⟩;unfold nB ue MD LN ro re;rw[aa2 r1.rat r2.rat,À];have:ieq 0 0=true:=rfl;rw[Þ this,afI r1 r2 (by omega) (by omega),À]
 have hc:ile (cmpP (heat.1,1) (heat.2,1)) 0=true:=by
  unfold cmpP;simp only[ile,decide_eq_true_eq,Int.mul_one]
  split
  ·omega
  ·split
   ·omega
   ·rw[if_neg (by omega)]; omega
 rw[hc,À];simp only[Bool.not_true,ã];rw[SU hk.i64,hk.rat,À];simp only[Bool.not_true,ã];rw[afP hk n1,À,afP hk n2,À];simp only[show ine (0:Int) 0=false from rfl,ã];rw[afI (QN hk n1) (QN hk n2) (by omega) (by omega),À];unfold ZT;rw[Ĵ]
 by_cases h:0<cmpP (aaS k heat.1) (aaS k heat.2)
 ·rw[if_pos h,if_pos (by simpa[igt] using h)]; rfl
 ·rw[if_neg h,if_neg (by simpa[igt] using h)]; rfl
def rateK (s:List (Int×ù)) (c:Cmp):Int×Int:=subP (IL s (Ď c.2.2.1 c.2.2.2.1)) (IL s (Ď c.2.2.2.1 c.2.2.1))
def Ľ (b:Ü) (c:Cmp):(Int×Int)×(Int×Int):=ZT (rateK (oe b) c) c.2.2.2.2.2.2
def Vt {b:Ü} (hs:ke b) {c:Cmp} (hA:c.2.2.1.length≤1000) (hB:c.2.2.2.1.length≤1000)
 (h1:tf (IL (oe b) (Ď c.2.2.1 c.2.2.2.1)) 1000 100) (h2:tf (IL (oe b) (Ď c.2.2.2.1 c.2.2.1)) 1000 100) (hh:pr c.2.2.2.2.2.2 (-10000) 10000=true):nY b c=some (Ľ b c):=by
 unfold nY Gy;rw[OV hs.gauges,À,ri (by omega) (by omega),À,TD,À,ri (by omega) (by omega),À,TD,À];unfold uN uf;rw[Sub_ok h1 h2,À,À]
 try dsimp only
 rw[af6 (Qe h1 h2) hh,À];rfl
def j7 (b:Ü) (c:Cmp):Int×Int :=
 (((c.2.2.1.length-1:Nat):Int)*b.1.1-((c.2.2.2.1.length-1:Nat):Int)*b.1.2,((c.2.2.1.length-1:Nat):Int)*b.1.2-((c.2.2.2.1.length-1:Nat):Int)*b.1.1)
def Y8 {b:Ü} {c:Cmp} (hA:c.2.2.1.length≤1000) (hB:c.2.2.2.1.length≤1000) (h1:0≤b.1.1) (h2:b.1.1≤1000000) (h3:0≤b.1.2) (h4:b.1.2≤1000000):sZ b c=some (j7 b c):=by
 unfold sZ L8 j7
 have e:∀n:Nat,Ir 0 ((n:Int)-1)=((n-1:Nat):Int):=by
  intro n;unfold Ir
  split<;>omega
 have bd:∀(n:Nat) (x:Int),n≤1000→0≤x→x≤1000000→0≤((n-1:Nat):Int)*x∧((n-1:Nat):Int)*x≤1000000000:=by
  intro n x hn h0 hx;refine⟨fh (by omega) h0,?_⟩;have:=eG (show((n-1:Nat):Int)≤1000 by omega) hx h0 (by omega);omega
 have b1:=bd _ _ hA h1 h2;have b2:=bd _ _ hA h3 h4;have b3:=bd _ _ hB h1 h2;have b4:=bd _ _ hB h3 h4;simp only[á];rw[Û (by omega) (by omega),Û (by omega) (by omega)];simp only[e];rw[Û (by omega) (by omega),Û (by omega) (by omega),Û (by omega) (by omega),Û (by omega) (by omega),Û (by omega) (by omega),Û (by omega) (by omega)]
def Y6 {n d:Int} (hd:1≤d) (hn : -4000000000≤n∧n≤4000000000):xM n d=some (n / d):=by
 unfold xM LI
 have z:ĩ d 0=false:=by simp[ĩ]; omega
 rw[Õ z];have t:=Int.mul_tdiv_add_tmod n d
 have b1 : -4000000000≤Int.tdiv n d∧Int.tdiv n d≤4000000000:=by
  have:=Int.natAbs_tdiv_le_natAbs n d;omega
 rw[Û (by omega) (by omega),Õ z,Ĵ]
 by_cases h:Int.tmod n d<0
 ·rw[if_pos (by simpa[ilt] using h),Û (by omega) (by omega)];congr 1
  have h5 : -d<Int.tmod n d:=by
   have h6:=Int.natAbs_tmod n d;have h7:=Nat.mod_lt n.natAbs (show 0<d.natAbs by omega);omega
  refine(Int.ediv_eq_iff_of_pos (by omega)).2 ⟨?_,?_⟩ |>.symm
  ·rw[Int.sub_mul,gE]; omega
  ·rw[Int.sub_mul,gE (Int.tdiv n d)]; omega
 ·rw[if_neg (by simpa[ilt] using h)];congr 1
  have h5:Int.tmod n d<d:=by
   have h6:=Int.natAbs_tmod n d;have h7:=Nat.mod_lt n.natAbs (show 0<d.natAbs by omega);omega
  refine(Int.ediv_eq_iff_of_pos (by omega)).2 ⟨?_,?_⟩ |>.symm
  ·rw[gE]; omega
  ·rw[gE (Int.tdiv n d)]; omega
def afr {x:Int×Int} (hx:Np x=true):jw [x]=some 0:=by
 rw[Ym]
 ·simp[hx]
 ·intro r hr
  have:Np r=true:=by simp at hr; subst hr; assumption
  have:=((nq r).1 this).2.2.1;exact⟨by omega,by omega⟩
 ·simp
def MT (r:Int×Int):Int:=-(-r.1 / r.2)
def ZD {r:Int×Int} (h:Np r=true):xN r=some (r.1 / r.2,0):=by
 unfold xN LQ;have:=(nq r).1 h;rw[afr h,À];rw[show ine (0:Int) 0=false from rfl,ã,Y6 (by omega) (by omega),À]
def G1 {n d:Int} (hd:1≤d):(n / d).natAbs≤n.natAbs:=by
 exact Int.natAbs_ediv_le_natAbs n d
def adL {r:Int×Int} (h:Np r=true):E9 r=some (MT r,0):=by
 unfold E9 RA MT;have:=(nq r).1 h;rw[afr h,À];rw[show ine (0:Int) 0=false from rfl,ã,Û (by omega) (by omega),Y6 (by omega) (by omega),À];have hb:=G1 (n:=0-r.1) (show 1≤r.2 by omega);rw[Û (by omega) (by omega),Int.zero_sub,Int.zero_sub]
def ω (b:Ü) (c:Cmp):Int×Int :=
 (c.2.2.2.2.1-c.2.2.2.2.2.1-(j7 b c).2-(Ľ b c).2.1 / (Ľ b c).2.2,c.2.2.2.2.1+c.2.2.2.2.2.1-(j7 b c).1-MT (Ľ b c).1)
structure Ğ (b:Ü):Prop where
 film:0≤b.1.1∧b.1.1≤b.1.2∧b.1.2≤1000000
 nG:b.2.1.length≤12
 nU:b.2.2.1.length≤40
 nL:b.2.2.2.1.length≤12
 nC:b.2.2.2.2.1.length≤40
 nK:b.2.2.2.2.2.length≤10
 gauge:∀g∈b.2.1,Ax g=true
 ids:b.2.1.Pairwise fun a b=>a.1<b.1
 uses:∀u∈b.2.2.1,adW (oe b) u.1 u.2=0
 loans:∀i l,b.2.2.2.1[i]?=some l→XA b (oe b) i l=0
 compares:∀i c,b.2.2.2.2.1[i]?=some c→yF b (oe b) i c=0
 looks:∀u∈b.2.2.2.2.2,adW (oe b) u.1 u.2=0
 nodes:(Ë b).length≤59
 links:2*(Ë b).length+2*b.2.2.2.2.1.length≤300
def Mp (b:Ü):nc b=0↔(∀g∈b.2.1,Ax g=true)∧b.2.1.Pairwise fun a b=>a.1<b.1:=by
 have h0:Α (xF b.2.1) 0 b.2.1=none↔(∀g∈b.2.1,Ax g=true)∧b.2.1.Pairwise fun a b=>a.1<b.1:=by
  rw[lV,←Zu (fun g:ù=>g.1) b.2.1];constructor
  ·intro h
   have h1:∀(j:Nat) (a:ù),b.2.1[j]?=some a→Ax a=true∧M8 (fun g:ù=>g.1) b.2.1 j a=false:=by
    intro j a ha;have:=h j a ha;rw[Nat.zero_add] at this;unfold xF at this
    split at this
    ·cases this
    ·split at this
     ·cases this
     ·rename_i h1 h2;exact⟨by simpa using h1,by simpa using h2⟩
   refine⟨fun x hx=>?_,fun i a ha=>(h1 i a ha).2⟩;obtain⟨j,hj,rfl⟩:=cX.1 hx;exact(h1 j _ (cD hj)).1
  ·rintro⟨h1,h2⟩ j a ha;rw[dk];simp[xF,h1 a (cM ha),h2 j a ha]
 rw[←h0];unfold nc
 cases h:Α (xF b.2.1) 0 b.2.1 with
 |none=>simp
 |some e =>
  have:∀(m:List ù) (j:Nat) (x:Int),Α (xF b.2.1) j m=some x→x≠0:=by
   intro m
   induction m with
   |nil=>intro j x h; cases h
   |cons a m ih =>
    intro j x h;unfold Α at h
    cases hp:xF b.2.1 j a with
    |none=>rw[hp] at h; exact ih _ _ h
    |some y =>
     rw[hp] at h;cases h;unfold xF at hp
     split at hp
     ·cases hp; omega
     ·split at hp
      ·cases hp; omega
      ·cases hp
  simp[this _ _ _ h]
def à (b:Ü):ß b=0↔Ğ b:=by
 unfold ß;constructor
 ·intro h
  split at h
  ·omega
  rename_i h1
  (repeat' split at h)<;>try omega
  ·rename_i hg
   have hg':nc b≠0:=by simpa using hg
   exact(hg' h).elim
  ·rename_i hf;have:=gC hf;rename_i e;simp at this;exact(this h).elim
  ·rename_i hn1 hn2 hn3 hn4 hn5 hg e hf hn6 hn7
   have hg0:nc b=0:=by simpa using hg
   obtain⟨g1,g2⟩:=(Mp b).1 hg0
   have hall:∀x∈Ht b (oe b),x=0:=fun x hx=>by
    have:=eP.1 hf x hx;simpa using this
   simp only[Ht,cI] at hall
   have hs:pr b.1 0 1000000=true:=by simpa using h1
   simp only[pr,cF,decide_eq_true_eq] at hs;refine⟨⟨hs.1,hs.2.1,hs.2.2⟩,by omega,by omega,by omega,by omega,by omega,g1,g2,fun u hu=>hall _ (.inl (dX.2 ⟨u,hu,rfl⟩)),fun i l hl=>?_,fun i c hc=>?_,fun u hu=>hall _ (.inr (.inr (.inr (dX.2 ⟨u,hu,rfl⟩)))),by omega,by omega⟩
   ·obtain⟨hi,rfl⟩:=cH.1 hl;exact hall _ (.inr (.inl (List.mem_mapIdx.2 ⟨i,hi,rfl⟩)))
   ·obtain⟨hi,rfl⟩:=cH.1 hc;exact hall _ (.inr (.inr (.inl (List.mem_mapIdx.2 ⟨i,hi,rfl⟩))))
 ·intro h
  have hs:pr b.1 0 1000000=true:=by simp[pr,h.film.1,h.film.2.1,h.film.2.2]
  have hg:nc b=0:=(Mp b).2 ⟨h.gauge,h.ids⟩
  have hall:(Ht b (oe b)).find? (fun e=>e != 0)=none:=by
   rw[eP];intro x hx;simp only[Ht,cI,dX,List.mem_mapIdx] at hx
   have:x=0:=by
    rcases hx with⟨u,hu,rfl⟩|⟨i,hi,rfl⟩|⟨i,hi,rfl⟩|⟨u,hu,rfl⟩
    ·exact h.uses u hu
    ·exact h.loans i _ (cD hi)
    ·exact h.compares i _ (cD hi)
    ·exact h.looks u hu
   simp[this]
  have:=h.nG; have:=h.nU; have:=h.nL; have:=h.nC; have:=h.nK; have:=h.nodes; have:=h.links;rw[hs,hg,hall];simp only[dI,cR,if_false,bne_self_eq_false];rw[if_neg (by omega),if_neg (by omega),if_neg (by omega),if_neg (by omega),if_neg (by omega),if_neg (by omega),if_neg (by omega)]
section
variable {b:Ü}
def Κ {l:List Int} (h:iR l=true):l.length≤6:=((TK l).1 h).2.2
def Ğ.nums (h:Ğ b) {c:Cmp} (hc:c∈b.2.2.2.2.1):ZY c=true:=by
 obtain⟨i,hi,rfl⟩:=List.mem_iff_getElem.1 hc;have:=h.compares i _ (List.getElem?_eq_getElem hi);unfold yF at this
 split at this
 ·omega
 ·rename_i h; simpa using h
def Ğ.pilesOf (h:Ğ b) {c:Cmp} (hc:c∈b.2.2.2.2.1):Hs b (oe b) c=0:=by
 obtain⟨i,hi,rfl⟩:=List.mem_iff_getElem.1 hc;have:=h.compares i _ (List.getElem?_eq_getElem hi);unfold yF at this
 split at this
 ·omega
 ·split at this
  ·omega
  ·exact this
def km (c:Cmp):ZY c=true↔(1≤c.1∧c.1≤1099511627776)∧(0≤c.2.1∧c.2.1≤20000)∧(-1125899906842624≤c.2.2.2.2.1∧c.2.2.2.2.1≤1125899906842624)∧(0≤c.2.2.2.2.2.1∧c.2.2.2.2.2.1≤1073741824)∧pr c.2.2.2.2.2.2 (-10000) 10000=true∧iR c.2.2.1=true∧iR c.2.2.2.1=true:=by
 simp[ZY,inP,S7,and_assoc]
def Ğ.size (h:Ğ b):ke b:=by
 have h1:=h.nG; have h2:=h.nU; have h3:=h.nL; have h4:=h.nC; have h5:=h.nK;refine⟨by omega,by omega,by omega,by omega,by omega,fun c hc=>?_⟩;have:=(km c).1 (h.nums hc);have a:=Κ this.2.2.2.2.2.1;have b:=Κ this.2.2.2.2.2.2;omega
def PQ (g:ù):Ax g=true↔Np g.2.2.2.2.1=true∧(-1000≤g.2.2.2.2.1.1∧g.2.2.2.2.1.1≤1000)∧g.2.2.2.2.1.2≤100∧(1≤g.1∧g.1≤1099511627776)∧(0≤g.2.1∧g.2.1≤20000)∧(1≤g.2.2.1∧g.2.2.1≤1125899906842624)∧(-1073741824≤g.2.2.2.1.1∧g.2.2.2.1.1≤g.2.2.2.1.2∧g.2.2.2.1.2≤1073741824)∧(0≤g.2.2.2.2.2∧g.2.2.2.2.2≤1048576):=by
 simp[Ax,inP,S7,pr,and_assoc]
def qB {id:Int} {g:ù} (h:kJ b id=some g):g∈b.2.1∧g.1=id:=by
 unfold kJ at h;exact⟨List.mem_of_find?_eq_some h,by simpa using List.find?_some h⟩
def BX (hi:b.2.1.Pairwise fun a b=>a.1<b.1) {g:ù} (hg:g∈b.2.1):kJ b g.1=some g:=by
 unfold kJ
 induction hl:b.2.1 generalizing b with
 |nil=>rw[hl] at hg; cases hg
 |cons a t ih =>
  rw[hl] at hg hi;rw[dv] at hi;rw[gc];rcases cJ.1 hg with rfl|hg
  ·simp
  ·have h1:=hi.1 g hg
   have:(a.1==g.1)=false:=by simp; omega
   rw[this];have:=ih (b:=(b.1,t,b.2.2)) hi.2 hg rfl;exact this
def FQ (h:Ğ b) {id day:Int} (hm:qK (oe b) id day=0):∃g,kJ b id=some g∧g.2.1≤day:=by
 unfold qK at hm;rw[Pg h.ids] at hm
 split at hm
 ·rename_i g hg
  split at hm
  ·omega
  ·exact⟨g,hg,by omega⟩
 ·omega
def WX (s:List (Int×ù)) (id day:Int):qK s id day=0∨qK s id day=4∨qK s id day=5:=by
 unfold qK
 split
 ·split<;>simp
 ·simp
def Ğ.pile (h:Ğ b) {c:Cmp} (hc:c∈b.2.2.2.2.1) {x:Int} (hx:x∈c.2.2.1++c.2.2.2.1):(∃g,kJ b x=some g∧g.2.1≤c.2.1)∧Js b x c.2.1=none:=by
 have hp:=h.pilesOf hc;unfold Hs at hp
 split at hp
 ·omega
 rename_i h5
 split at hp
 ·omega
 rename_i h4
 split at hp
 ·omega
 rename_i h9;have a5:=(eN.1 (ez.2 h5)) x hx;have a4:=(eN.1 (ez.2 h4)) x hx;have a9:=(eN.1 (ez.2 h9)) x hx;simp at a5 a4 a9;refine⟨FQ h ?_,a9⟩;rcases WX (oe b) x c.2.1 with h0|h0|h0
 ·exact h0
 ·exact(a4 h0).elim
 ·exact(a5 h0).elim
def Ğ.lefts (h:Ğ b) {c:Cmp} (hc:c∈b.2.2.2.2.1):(Ď c.2.2.1 c.2.2.2.1).length≤1∧(Ď c.2.2.2.1 c.2.2.1).length≤1∧(Ď c.2.2.1 c.2.2.2.1).length+(Ď c.2.2.2.1 c.2.2.1).length≠0:=by
 have hp:=h.pilesOf hc;unfold Hs at hp
 (repeat' split at hp)<;>first|omega|exact⟨by omega,by omega,by omega⟩
def mJ {a c:List Int} {x:Int}:x∈Ď a c↔x∈a∧x∉c:=by
 simp[Ď]
def Ğ.rate (h:Ğ b) {p:List Int} (hp:∀x∈p,∃g,kJ b x=some g):tf (IL (oe b) p) 1000 100:=by
 unfold IL
 cases p with
 |nil =>
  have:tf (0,1) 1000 100:=⟨by decide,by decide,by decide⟩;exact this
 |cons x t =>
  obtain⟨g,hg⟩:=hp x (by simp)
  try dsimp only
  rw[Pg h.ids,hg];have:=(PQ g).1 (h.gauge g (qB hg).1);exact⟨this.1,this.2.1,this.2.2.1⟩
def Ğ.rates (h:Ğ b) {c:Cmp} (hc:c∈b.2.2.2.2.1):tf (IL (oe b) (Ď c.2.2.1 c.2.2.2.1)) 1000 100∧tf (IL (oe b) (Ď c.2.2.2.1 c.2.2.1)) 1000 100:=by
 constructor
 ·exact h.rate fun x hx=>by
   obtain⟨⟨g,hg,_⟩,_⟩:=h.pile hc (dJ _ (mJ.1 hx).1);exact⟨g,hg⟩
 ·exact h.rate fun x hx=>by
   obtain⟨⟨g,hg,_⟩,_⟩:=h.pile hc (du _ (mJ.1 hx).1);exact⟨g,hg⟩
def Ğ.growth (h:Ğ b) {c:Cmp} (hc:c∈b.2.2.2.2.1):nY b c=some (Ľ b c):=by
 obtain⟨r1,r2⟩:=h.rates hc;have hn:=(km c).1 (h.nums hc);have a:=Κ hn.2.2.2.2.2.1;have b:=Κ hn.2.2.2.2.2.2;exact Vt h.size (by omega) (by omega) r1 r2 hn.2.2.2.2.1
def Ğ.films (h:Ğ b) {c:Cmp} (hA:c.2.2.1.length≤1000) (hB:c.2.2.2.1.length≤1000):sZ b c=some (j7 b c):=by
 have:=h.film;exact Y8 hA hB (by omega) (by omega) (by omega) (by omega)
def QF {k heat:Int×Int} (hk:tf k 200000 10000) (hh:pr heat (-10000) 10000=true):tf (ZT k heat).1 2000000000 10000∧tf (ZT k heat).2 2000000000 10000:=by
 simp only[pr,Bool.and_eq_true,decide_eq_true_eq] at hh;have r1:=QN hk (n:=heat.1) ⟨by omega,by omega⟩;have r2:=QN hk (n:=heat.2) ⟨by omega,by omega⟩;unfold ZT
 split
 ·exact⟨r2,r1⟩
 ·exact⟨r1,r2⟩
def B5 {c:Cmp} (hA:c.2.2.1.length≤1000) (hB:c.2.2.2.1.length≤1000) (h1:0≤b.1.1) (h2:b.1.1≤1000000) (h3:0≤b.1.2) (h4:b.1.2≤1000000) :
 (-1000000000≤(j7 b c).1∧(j7 b c).1≤1000000000)∧(-1000000000≤(j7 b c).2∧(j7 b c).2≤1000000000):=by
 have bd:∀(n:Nat) (x:Int),n≤1000→0≤x→x≤1000000→0≤((n-1:Nat):Int)*x∧((n-1:Nat):Int)*x≤1000000000:=by
  intro n x hn h0 hx;refine⟨fh (by omega) h0,?_⟩;have:=eG (show((n-1:Nat):Int)≤1000 by omega) hx h0 (by omega);omega
 have b1:=bd _ _ hA h1 h2;have b2:=bd _ _ hA h3 h4;have b3:=bd _ _ hB h1 h2;have b4:=bd _ _ hB h3 h4;unfold j7
 try dsimp only
 omega
def B0 {r:Int×Int} (h:tf r 2000000000 10000) : -2000000000≤r.1 / r.2∧r.1 / r.2≤2000000000:=by
 have:=G1 (n:=r.1) h.pos;have:=h.num;omega
def G7 {r:Int×Int} (h:tf r 2000000000 10000) : -2000000000≤MT r∧MT r≤2000000000:=by
 have:=G1 (n:=-r.1) h.pos;have:=h.num;unfold MT;omega
def Ğ.says (h:Ğ b) {c:Cmp} (hc:c∈b.2.2.2.2.1):uM b c=some (ω b c):=by
 obtain⟨r1,r2⟩:=h.rates hc;have hn:=(km c).1 (h.nums hc);have ha:=Κ hn.2.2.2.2.2.1;have hb:=Κ hn.2.2.2.2.2.2;have hf:=h.film;obtain⟨g1,g2⟩:=QF (Qe r1 r2) hn.2.2.2.2.1;have fb:=B5 (b:=b) (c:=c) (by omega) (by omega) (by omega) (by omega) (by omega) (by omega);have q1:tf (Ľ b c).1 2000000000 10000:=g1;have q2:tf (Ľ b c).2 2000000000 10000:=g2;have c1:=G7 q1;have c2:=B0 q2;unfold uM RE ω;rw[h.growth hc,À,h.films (by omega) (by omega),À,ZD q2.rat,À,adL q1.rat,À]
 try dsimp only
 have n3:=hn.2.2.1;have n4:=hn.2.2.2.1;rw[Û (by omega) (by omega),Û (by omega) (by omega),Û (by omega) (by omega),Û (by omega) (by omega),Û (by omega) (by omega),Û (by omega) (by omega)]
end
def ĕ (l:JZ) (f t:Int):Int:=min l.2.1.2 (t-1)-max l.2.1.1 f+1
def Į (id f t:Int):List JZ→Int
 |[]=>0
 |l::r=>(if l.1=id∧0<ĕ l f t then ĕ l f t*l.2.2 else 0)+Į id f t r
def xA (id f t:Int):∀(x y:List JZ),Į id f t (x++y)=Į id f t x+Į id f t y
 |[],y=>by simp[Į]
 |l::r,y=>by
  simp only[d8,Į,xA id f t r y];omega
def iG (b:Ü) (id f t:Int):List Int:=(b.2.2.1.filter fun u=>u.1==id&&inP u.2 f (t-1)).map fun u=>u.2
def jP (b:Ü) (g:ù) (f t:Int):Int:=Į g.1 f t b.2.2.2.1+(Wo (iG b g.1 f t)).length*g.2.2.2.2.2
def GO (a c:Int):Cb a c=min a c:=by unfold Cb; split<;>omega
def GP (a c:Int):Ir a c=max a c:=by unfold Ir; split<;>omega
def GG {b:Ü} (h:Ğ b) {l:JZ} (hl:l∈b.2.2.2.1):(0≤l.2.1.1∧l.2.1.1≤l.2.1.2∧l.2.1.2≤20000)∧(0≤l.2.2∧l.2.2≤1048576):=by
 obtain⟨i,hi,rfl⟩:=List.mem_iff_getElem.1 hl;have:=h.loans i _ (List.getElem?_eq_getElem hi);unfold XA at this
 split at this
 ·omega
 rename_i h1
 split at this
 ·omega
 rename_i h2;simp only[eA,Bool.not_eq_false,pr,inP,cF,decide_eq_true_eq] at h1 h2;exact⟨h1,h2⟩
def PB {l:JZ} (h:(0≤l.2.1.1∧l.2.1.1≤l.2.1.2∧l.2.1.2≤20000)∧(0≤l.2.2∧l.2.2≤1048576)) {f t:Int} (hf:0≤f) (hd:0<ĕ l f t):0≤ĕ l f t*l.2.2∧ĕ l f t*l.2.2≤20001*1048576:=by
 refine⟨Int.mul_nonneg (by omega) h.2.1,Int.mul_le_mul ?_ h.2.2 h.2.1 (by omega)⟩;unfold ĕ;omega
def rh {id f t:Int} (hf:0≤f):∀{x:List JZ},(∀l∈x,(0≤l.2.1.1∧l.2.1.1≤l.2.1.2∧l.2.1.2≤20000)∧(0≤l.2.2∧l.2.2≤1048576))→0≤Į id f t x∧Į id f t x≤x.length*(20001*1048576)
 |[],_=>by simp[Į]
 |l::r,h=>by
  have ih:=rh (id:=id) (t:=t) hf (x:=r) fun l hl=>h l (by simp[hl]);simp only[Į,cN,gu,fS,fZ]
  split
  ·rename_i hc;have:=PB (h l (by simp)) hf hc.2;omega
  ·omega
def agf {b:Ü} (h:Ğ b) {g:ù} (hg:0≤g.2.2.2.2.2∧g.2.2.2.2.2≤1048576) {f t:Int} (hf:0≤f∧f≤100000) (ht:0≤t∧t≤100000):yA b g f t=some (jP b g f t):=by
 have hL:=h.nL;have hU:=h.nU
 have hlb:∀i,0≤Į g.1 f t (b.2.2.2.1.take i)∧Į g.1 f t (b.2.2.2.1.take i)≤12*(20001*1048576):=by
  intro i;have h1:=rh (id:=g.1) (t:=t) hf.1 (x:=b.2.2.2.1.take i) fun l hl=>GG h (List.mem_of_mem_take hl);have h2:((b.2.2.2.1.take i).length:Int)*(20001*1048576)≤12*(20001*1048576):=fp (by rw[cW]; omega) (by omega);omega
 unfold yA RH;refine ť (fun x:Int×Int=>∃i:Nat,i≤b.2.2.2.1.length∧x=(Į g.1 f t (b.2.2.2.1.take i),(i:Int))) (fun x=>b.2.2.2.1.length-x.2.toNat) ?_ ⟨0,by omega,rfl⟩;rintro x ⟨i,hi,rfl⟩;rcases Nat.lt_or_ge i b.2.2.2.1.length with hlt|hge
 ·have hl:b.2.2.2.1[i]?=some b.2.2.2.1[i]:=cD hlt;have hz:=GG h (cM hl);refine .inr ⟨(Į g.1 f t (b.2.2.2.1.take (i+1)),(i:Int)+1),⟨i+1,hlt,by simp⟩,by simp; omega,fun kn=>?_⟩
  try dsimp only
  unfold ur;have b1:=hlb i;have b2:=hlb (i+1)
  have e1:Į g.1 f t (b.2.2.2.1.take (i+1))=Į g.1 f t (b.2.2.2.1.take i)+(if b.2.2.2.1[i].1=g.1∧0<ĕ b.2.2.2.1[i] f t then ĕ b.2.2.2.1[i] f t*b.2.2.2.1[i].2.2 else 0):=by
   rw[take_succ hl,xA]; simp[Į]
  rw[Ö hlt,Ì hl,Û (by omega) (by omega),GO,GP,Û (by omega) (by omega),Û (by omega) (by omega)];rw[show min b.2.2.2.1[i].2.1.2 (t-1)-max b.2.2.2.1[i].2.1.1 f+1=ĕ b.2.2.2.1[i] f t from rfl,Ĵ]
  by_cases hid:b.2.2.2.1[i].1=g.1
  ·rw[if_pos (by simpa[ieq] using hid),Ĵ]
   by_cases hd:0<ĕ b.2.2.2.1[i] f t
   ·have lb:=PB hz hf.1 hd;rw[if_pos ⟨hid,hd⟩] at e1;rw[if_pos (by simpa[igt] using hd),Û (by omega) (by omega),Û (by omega) (by omega),Ñ hlt (by omega),e1]
   ·rw[if_neg (fun hc=>hd hc.2)] at e1;rw[if_neg (by simpa[igt] using hd),Ñ hlt (by omega),e1,gg]
  ·rw[if_neg (fun hc=>hid hc.1)] at e1;rw[if_neg (by simpa[ieq] using hid),Ñ hlt (by omega),e1,gg]
 ·refine .inl fun kn=>?_
  have:i=b.2.2.2.1.length:=by omega
  subst this
  try dsimp only
  unfold ur;rw[ê,List.take_length]
  have hud:∀x:List (Int×Int),x.length≤40→((x.filter fun u=>u.1==g.1&&inP u.2 f (t-1)).map fun u=>u.2).length≤40:=by
   intro x hx;rw[eE];exact dj (dw _ _) hx
  refine Ą b.2.2.1 (fun i=>((b.2.2.1.take i).filter fun u=>u.1==g.1&&inP u.2 f (t-1)).map fun u=>u.2) _ rfl (fun i u hi hu kn'=>?_) (fun kn'=>?_)
  ·try dsimp only
   unfold uq;have hx:=hud (b.2.2.1.take i) (by rw[List.length_take]; omega);rw[Ö hi,Ì hu,Û (by omega) (by omega),Ι,À,Ø (by simp only[List.length_singleton]; omega),Am.iff_true,Ñ hi (by omega),Ñ hi (by omega),take_succ hu,List.filter_append,List.map_append]
   cases h1:(u.1==g.1) with
   |false =>
    have:ieq u.1 g.1=false:=h1;simp only[this,ã,dN,h1,Bool.false_and,cR,if_false,dU,fo,dE]
   |true =>
    have:ieq u.1 g.1=true:=h1;rw[this]
    cases h2:inP u.2 f (t-1) with
    |false=>simp only[Ĥ,ã,dN,h1,h2,dF,cR,if_false,dU,fo,dE]
    |true=>simp only[Ĥ,dN,h1,h2,dF,if_true,dU,fo,dW]
  ·try dsimp only
   unfold uq;rw[ê,List.take_length];rw[show((b.2.2.1.filter fun u=>u.1==g.1&&inP u.2 f (t-1)).map fun u=>u.2)=iG b g.1 f t from rfl];have h40:(iG b g.1 f t).length≤40:=hud _ hU
   have hc40:(Wo (iG b g.1 f t)).length≤40:=by
    have:=JD (iG b g.1 f t);omega
   have hm:0≤((Wo (iG b g.1 f t)).length:Int)*g.2.2.2.2.2∧((Wo (iG b g.1 f t)).length:Int)*g.2.2.2.2.2≤40*1048576 :=
    ⟨fh (by omega) hg.1,eG (by omega) hg.2 hg.1 (by omega)⟩
   have b1:=hlb b.2.2.2.1.length;rw[List.take_length] at b1;dsimp only;rw[Ø (by omega),Am.iff_true,Ø (by rw[Tp]; omega),Am.iff_true,abk,á,Û (by omega) (by omega),Û (by omega) (by omega)];rfl
abbrev Lk:Type:=Int×Int×Int
inductive Wl (L:List Lk) (S:Int→Prop):List Int→Int→Int→Prop
 |nil {v:Int}:S v→Wl L S [] v 0
 |step {vs:List Int} {u v m d:Int}:Wl L S vs u d→(u,v,m)∈L→Wl L S (u::vs) v (d+m)
def Pot (L:List Lk) (p:Int→Int):Prop:=∀u v m,(u,v,m)∈L→p v≤p u+m
def InR (L:List Lk) (N:Nat):Prop:=∀l∈L,(0≤l.1∧l.1<N)∧(0≤l.2.1∧l.2.1<N)
section
variable {L:List Lk} {S:Int→Prop} {N:Nat} {p:Int→Int}
def Wl.cut (hp:Pot L p) {vs:List Int} {v d:Int} (h:Wl L S vs v d):∀x∈vs,∃vs1 d1,Wl L S vs1 x d1∧(x::vs1) <:+ vs∧d1+(p v-p x)≤d:=by
 induction h with
 |nil h=>intro x hx; cases hx
 | @step vs u v m d hw hl ih =>
  intro x hx;have h1:=hp u v m hl;rcases cJ.1 hx with rfl|hx
  ·exact⟨vs,d,hw,List.suffix_refl _,by omega⟩
  ·obtain⟨vs1,d1,g1,g2,g3⟩:=ih x hx;exact⟨vs1,d1,g1,g2.trans (List.suffix_cons _ _),by omega⟩
def Wl.simple (hp:Pot L p) {vs:List Int} {v d:Int} (h:Wl L S vs v d):∃vs' d',Wl L S vs' v d'∧d'≤d∧(v::vs').Nodup:=by
 induction h with
 |nil h=>exact⟨[],0,.nil h,dM _,by simp⟩
 | @step vs u v m d hw hl ih =>
  obtain⟨vs1,d1,g1,g2,g3⟩:=ih;have hw1:=Wl.step g1 hl
  by_cases hv:v∈u::vs1
  ·obtain⟨vs2,d2,k1,k2,k3⟩:=hw1.cut hp v hv;exact⟨vs2,d2,k1,by omega,g3.sublist k2.sublist⟩
  ·exact⟨u::vs1,d1+m,hw1,by omega,f7.2 ⟨hv,g3⟩⟩
def Wl.range (hL:InR L N) (hS:∀v,S v→0≤v∧v<N) {vs:List Int} {v d:Int} (h:Wl L S vs v d):(0≤v∧v<N)∧∀u∈vs,0≤u∧u<N:=by
 induction h with
 |nil h=>exact⟨hS _ h,fun u hu=>by cases hu⟩
 | @step vs u v m d hw hl ih =>
  refine⟨(hL _ hl).2,fun w hw'=>?_⟩;rcases cJ.1 hw' with rfl|h
  ·exact ih.1
  ·exact ih.2 w h
def YF:∀(N:Nat) (l:List Int),l.Nodup→(∀x∈l,0≤x∧x<N)→l.length≤N
 |0,l,_,h=>by
  cases l with
  |nil=>simp
  |cons a l=>have:=h a (by simp); omega
 |N+1,l,hn,h=>by
  have h1:(l.erase (N:Int)).length≤N:=YF N _ (hn.erase _) fun x hx=>by
   have h2:=(hn.mem_erase_iff).1 hx;have:=h x h2.2;have:=h2.1;omega
  have:=List.length_erase (a:=(N:Int)) (l:=l)
  split at this<;>omega
def Wl.short (hL:InR L N) (hS:∀v,S v→0≤v∧v<N) {vs:List Int} {v d:Int} (h:Wl L S vs v d) (hn:(v::vs).Nodup):vs.length+1≤N:=by
 have:=h.range hL hS
 exact YF N (v::vs) hn fun x hx=>by
  rcases cJ.1 hx with rfl|hx
  ·exact this.1
  ·exact this.2 x hx
def IR (f:Lk→Bool):List Lk→Int
 |[]=>0
 |l::t=>(if f l then min l.2.2 0 else 0)+IR f t
def abU (f:Lk→Bool):∀L:List Lk,IR (fun _=>true) L≤IR f L
 |[]=>dM _
 |l::t=>by
  have:=abU f t;simp only[IR,if_true]
  split<;>omega
def tx (f:Lk→Bool):∀L:List Lk,IR f L≤0
 |[]=>dM _
 |l::t=>by
  have:=tx f t;simp only[IR]
  split<;>omega
def YP {f:Lk→Bool} {l:Lk} (hf:f l=true):∀{L:List Lk},l∈L→IR f L≤l.2.2
 |a::t,h=>by
  simp only[IR];rcases cJ.1 h with rfl|h
  ·have:=tx f t;rw[if_pos hf]; omega
  ·have:=YP hf h
   split<;>omega
def abT {f g:Lk→Bool} (h:∀l,f l=true→g l=false):∀L:List Lk,IR (fun l=>f l||g l) L=IR f L+IR g L
 |[]=>rfl
 |l::t=>by
  have ih:=abT h t;simp only[IR,ih]
  by_cases hf:f l=true
  ·simp[hf,h l hf]; omega
  ·have hf':f l=false:=by simpa using hf
   by_cases hg:g l=true
   ·simp[hf',hg]; omega
   ·simp[hf',hg]
def Wl.low {vs:List Int} {v d:Int} (h:Wl L S vs v d):vs.Nodup→IR (fun l=>vs.contains l.1) L≤d:=by
 induction h with
 |nil h=>intro _; exact tx _ _
 | @step vs u v m d hw hl ih =>
  intro hn;rw[f7] at hn;have h1:=ih hn.2;have h2:IR (fun l=>l.1==u) L≤m:=YP (f:=fun l=>l.1==u) (l:=(u,v,m)) (by simp) hl
  have h3:=abT (f:=fun l:Lk=>l.1==u) (g:=fun l=>vs.contains l.1) (fun l hf=>by
   simp only[beq_iff_eq] at hf;rw[hf]
   simpa using hn.1) L
  have h4:(fun l:Lk=>(u::vs).contains l.1)=fun l=>(l.1==u)||vs.contains l.1:=by funext l; rw[List.contains_cons]
  rw[h4,h3];omega
def JH (L:List Lk):Int:=IR (fun _=>true) L
def Wl.low' (hp:Pot L p) {vs:List Int} {v d:Int} (h:Wl L S vs v d):JH L≤d:=by
 obtain⟨vs',d',h1,h2,h3⟩:=h.simple hp;have:=h1.low (List.nodup_cons.1 h3).2;have:=abU (fun l=>vs'.contains l.1) L;unfold JH;omega
def Wl.high {M:Int} (hM:∀l∈L,l.2.2≤M) {vs:List Int} {v d:Int} (h:Wl L S vs v d):d≤vs.length*M:=by
 induction h with
 |nil h=>simp
 | @step vs u v m d hw hl ih =>
  have:=hM _ hl;simp only[cN,gu,fS,fZ];simp only at this;omega
def Wl.mono {S':Int→Prop} (hS:∀v,S v→S' v) {vs:List Int} {v d:Int} (h:Wl L S vs v d):Wl L S' vs v d:=by
 induction h with
 |nil h=>exact .nil (hS _ h)
 |step hw hl ih=>exact .step ih hl
def Wl.pot (hp:Pot L p) {vs:List Int} {v d:Int} (h:Wl L S vs v d):∃s,S s∧p v-p s≤d:=by
 induction h with
 | @nil v h=>exact⟨v,h,by omega⟩
 | @step vs u v m d hw hl ih =>
  obtain⟨s,h1,h2⟩:=ih;have:=hp u v m hl;exact⟨s,h1,by omega⟩
end
abbrev ψ:Int:=1152921504606846976
structure aaW (L:List Lk) (S:Int→Prop) (N:Nat) (x:Int→Int):Prop where
 att:∀v:Int,0≤v→v<N→x v≠ψ→∃vs,Wl L S vs v (x v)
 low:∀v vs d,Wl L S vs v d→x v≤d
 bd:∀v:Int,0≤v→v<N→x v≤ψ
def aaW.uniq {L:List Lk} {S:Int→Prop} {N:Nat} {x y:Int→Int} (hx:aaW L S N x) (hy:aaW L S N y) {v:Int} (h0:0≤v) (h1:v<N):x v=y v:=by
 have key:∀{x y:Int→Int},aaW L S N x→aaW L S N y→x v≤y v:=by
  intro x y hx hy
  by_cases h:y v=ψ
  ·rw[h]; exact hx.bd v h0 h1
  ·obtain⟨vs,hw⟩:=hy.att v h0 h1 h;exact hx.low v vs _ hw
 exact Int.le_antisymm (key hx hy) (key hy hx)
def gv (x:List Int) (v:Int):Int:=x[v.toNat]?.getD 0
def Vr {x:List Int} {v:Int} (h:v.toNat<x.length):x[v.toNat]?=some (gv x v):=by
 unfold gv; rw[List.getElem?_eq_getElem h]; rfl
def xE {x:List Int} {u v:Int} (hu:0≤u) (hv:0≤v) (h:u.toNat<x.length) (y:Int):gv (x.set u.toNat y) v=if v=u then y else gv x v:=by
 unfold gv;rw[List.getElem?_set]
 by_cases hvu:v=u
 ·subst hvu; simp[h]
 ·have:¬u.toNat=v.toNat:=by omega
  simp[hvu,this]
def Y0 {x y:List Int} (hl:x.length=y.length) (h:∀v:Int,0≤v→v<x.length→gv x v=gv y v):x=y:=by
 refine List.ext_getElem hl fun i h1 h2=>?_;have:=h i (by omega) (by omega);unfold gv at this;simpa[h1,h2] using this
def la (x:List Int) (l:Lk):List Int:=if gv x l.1<ψ∧gv x l.1+l.2.2<gv x l.2.1 then x.set l.2.1.toNat (gv x l.1+l.2.2) else x
def IP (L:List Lk) (x:List Int):List Int:=L.foldl la x
def kj (L:List Lk):Nat→List Int→List Int
 |0,x=>x
 |n+1,x=>kj L n (IP L x)
def np (x:List Int) (l:Lk):(la x l).length=x.length:=by unfold la; split<;>simp
def wh (L:List Lk):∀x:List Int,(IP L x).length=x.length:=by
 induction L with
 |nil=>intro x; rfl
 |cons l t ih=>intro x; show(IP t (la x l)).length=_; rw[ih,np]
def ţ (L:List Lk):∀(n:Nat) (x:List Int),(kj L n x).length=x.length
 |0,x=>rfl
 |n+1,x=>by rw[kj,ţ L n,wh]
def AO (L:List Lk):∀(n:Nat) (x:List Int),kj L (n+1) x=IP L (kj L n x)
 |0,x=>rfl
 |n+1,x=>by rw[kj,AO L n]; rfl
section
variable {L0:List Lk} {S:Int→Prop} {N:Nat}
def TC {x:List Int} {l:Lk} (hl:(0≤l.1∧l.1<N)∧(0≤l.2.1∧l.2.1<N)) (hx:x.length=N) (v:Int) (hv:0≤v):gv (la x l) v≤gv x v:=by
 unfold la
 split
 ·rename_i h;rw[xE hl.2.1 hv (by omega)]
  split
  ·rename_i h2; subst h2; omega
  ·exact dM _
 ·exact dM _
def Cm:∀{L:List Lk},InR L N→∀{x:List Int},x.length=N→∀v,0≤v→gv (IP L x) v≤gv x v
 |[],_,x,_,v,_=>dM _
 |l::t,hL,x,hx,v,hv=>by
  have h1:=TC (hL l (by simp)) hx v hv;have h2:=Cm (L:=t) (fun l hl=>hL l (by simp[hl])) (x:=la x l) (by rw[np,hx]) v hv;show gv (IP t (la x l)) v≤_;omega
def FJ:∀{L:List Lk},InR L N→∀{x:List Int},x.length=N→∀u v m,(u,v,m)∈L→gv x u<ψ→gv (IP L x) v≤gv x u+m
 |l::t,hL,x,hx,u,v,m,hm,hf=>by
  have ht:InR t N:=fun l hl=>hL l (by simp[hl])
  have hx':(la x l).length=N:=by rw[np,hx]
  show gv (IP t (la x l)) v≤_;rcases cJ.1 hm with rfl|hm
  ·have hl:=hL (u,v,m) (by simp);have h2:=Cm ht hx' v hl.2.1
   have h3:gv (la x (u,v,m)) v≤gv x u+m:=by
    unfold la
    split
    ·rw[xE hl.2.1 hl.2.1 (by simp only at hl; simp only; omega),if_pos rfl]; exact dM _
    ·rename_i h; simp only[not_and,Int.not_lt] at h; exact h hf
   omega
  ·have hl:=hL (u,v,m) (by simp[hm]);have h1:=TC (hL l (by simp)) hx u hl.1.1;have:=FJ ht hx' u v m hm (by omega);omega
def Att (L0:List Lk) (S:Int→Prop) (N:Nat) (x:List Int):Prop:=∀v:Int,0≤v→v<N→gv x v<ψ→∃vs,Wl L0 S vs v (gv x v)
def ZR {x:List Int} {l:Lk} (hl:(0≤l.1∧l.1<N)∧(0≤l.2.1∧l.2.1<N)) (hm:l∈L0) (hx:x.length=N) (h:Att L0 S N x):Att L0 S N (la x l):=by
 unfold la
 split
 ·rename_i hc;intro v h0 h1 hf;rw[xE hl.2.1 h0 (by omega)] at hf ⊢
  split
  ·rename_i h2;obtain⟨vs,hw⟩:=h l.1 hl.1.1 hl.1.2 hc.1;exact⟨_,h2▸Wl.step hw hm⟩
  ·rename_i h2;rw[if_neg h2] at hf;exact h v h0 h1 hf
 ·exact h
def TN:∀{L:List Lk},InR L N→(∀l∈L,l∈L0)→∀{x:List Int},x.length=N→Att L0 S N x→Att L0 S N (IP L x)
 |[],_,_,_,_,h=>h
 |l::t,hL,hsub,x,hx,h=>TN (L:=t) (fun l hl=>hL l (by simp[hl])) (fun l hl=>hsub l (by simp[hl])) (x:=la x l) (by rw[np,hx]) (ZR (hL l (by simp)) (hsub l (by simp)) hx h)
def O3 (hL:InR L0 N):∀(n:Nat) {x:List Int},x.length=N→Att L0 S N x→Att L0 S N (kj L0 n x)
 |0,_,_,h=>h
 |n+1,x,hx,h=>O3 hL n (by rw[wh,hx]) (TN hL (fun _ h=>h) hx h)
def Cl (hL:InR L0 N):∀(n:Nat) {x:List Int},x.length=N→∀v,0≤v→gv (kj L0 n x) v≤gv x v
 |0,_,_,_,_=>dM _
 |n+1,x,hx,v,hv=>Int.le_trans (Cl hL n (by rw[wh,hx]) v hv) (Cm hL hx v hv)
def tj (S:Int→Bool) (N:Nat):List Int:=(List.range N).map fun(i:Nat)=>if S i then 0 else ψ
def iI (S:Int→Bool) {N:Nat} {v:Int} (h0:0≤v) (h1:v<N):gv (tj S N) v=if S v then 0 else ψ:=by
 unfold gv tj
 have:v.toNat<N:=by omega
 rw[gk,fJ this];simp only[dH,fI];rw[Int.toNat_of_nonneg h0]
def Ć (S:Int→Bool) (N:Nat):(tj S N).length=N:=by simp[tj]
end
def FI {L:List Lk} {S:Int→Bool} {N:Nat} {M:Int} (hL:InR L N) (hS:∀v,S v=true→0≤v∧v<N) (hM:∀l∈L,l.2.2≤M):∀(n:Nat),n*M<ψ→0≤M→∀vs v d,Wl L (fun v=>S v=true) vs v d→vs.length≤n→gv (kj L n (tj S N)) v≤d
 |0,_,_,vs,v,d,hw,hl=>by
  cases hw with
  |nil h =>
   have:=hS v h;rw[kj,iI S this.1 this.2,if_pos h]; exact dM _
  |step=>simp at hl
 |n+1,hn,hM0,vs,v,d,hw,hl=>by
  have hn':n*M<ψ:=by rw[gu,fS,fZ] at hn; omega
  have hlen:(kj L n (tj S N)).length=N:=by rw[ţ,Ć]
  rw[AO]
  cases hw with
  |nil h =>
   have h1:=Cm hL hlen v (hS v h).1;have h2:=FI hL hS hM n hn' hM0 [] v 0 (.nil h) (by simp);omega
  | @step vs u _ m d hw hlk =>
   have h2:=FI hL hS hM n hn' hM0 vs u d hw (by simpa using hl);have h3:=hw.high hM;have h4:(vs.length:Int)*M≤n*M:=fp (by simp at hl; omega) hM0;have:=FJ hL hlen u v m hlk (by omega);omega
def Kn {L:List Lk} {S:Int→Bool} {N:Nat} {M:Int} {p:Int→Int} (hp:Pot L p) (hL:InR L N) (hS:∀v,S v=true→0≤v∧v<N) (hM:∀l∈L,l.2.2≤M) (hM0:0≤M) (hN:N*M<ψ) (n:Nat) (hn:N≤n+1):aaW L (fun v=>S v=true) N (gv (kj L n (tj S N))):=by
 have hatt:Att L (fun v=>S v=true) N (tj S N):=fun v h0 h1 hf=>by
  rw[iI S h0 h1] at hf ⊢
  split
  ·rename_i h; exact⟨[],.nil h⟩
  ·rename_i h; rw[if_neg h] at hf; omega
 have hbd:∀v:Int,0≤v→v<N→gv (kj L n (tj S N)) v≤ψ:=fun v h0 h1=>by
  have:=Cl hL n (Ć S N) v h0;rw[iI S h0 h1] at this
  have hF:(0:Int)≤ψ:=by decide
  split at this<;>omega
 have hlow:∀(n:Nat),N≤n+1→∀v vs d,Wl L (fun v=>S v=true) vs v d→gv (kj L n (tj S N)) v≤d:=by
  intro n hn v vs d hw;obtain⟨vs',d',h1,h2,h3⟩:=hw.simple hp;have h4:=h1.short hL hS h3
  have hpos:0<N:=by omega
  obtain⟨k,rfl⟩:∃k,N=k+1:=⟨N-1,by omega⟩
  have hk:(k:Int)*M<ψ:=by rw[gu,fS,fZ] at hN; omega
  have h5:=FI hL hS hM k hk hM0 vs' v d' h1 (by omega);obtain⟨j,rfl⟩:∃j,n=k+j:=⟨n-k,by omega⟩
  have h6:∀(j:Nat),gv (kj L (k+j) (tj S (k+1))) v≤gv (kj L k (tj S (k+1))) v:=by
   intro j
   induction j with
   |zero=>exact dM _
   |succ j ih =>
    rw[←eT,AO];have:=Cm hL (x:=kj L (k+j) (tj S (k+1))) (by rw[ţ,Ć]) v (h1.range hL hS).1.1;omega
  have:=h6 j;omega
 exact⟨fun v h0 h1 hne=>O3 hL n (Ć S N) hatt v h0 h1 (by have:=hbd v h0 h1; omega),hlow n hn,hbd⟩
def aaW.pot {L:List Lk} {S:Int→Prop} {N:Nat} {x:Int→Int} (h:aaW L S N x) (hL:InR L N) {u v m:Int} (hl:(u,v,m)∈L) (hf:x u≠ψ):x v≤x u+m:=by
 obtain⟨vs,hw⟩:=h.att u (hL _ hl).1.1 (hL _ hl).1.2 hf;exact h.low v _ _ (.step hw hl)
def Ġ (b:Ü) (g:ù):List Lk :=
 [(0,atP (Ë b) [g.1] g.2.1,g.2.2.1+g.2.2.2.1.2),(atP (Ë b) [g.1] g.2.1,0,-(g.2.2.1+g.2.2.2.1.1))] ++
 (List.range ((é b g).length-1)).flatMap fun(k:Nat)=>[(atP (Ë b) [g.1] g.2.1+k,atP (Ë b) [g.1] g.2.1+k+1,0),(atP (Ë b) [g.1] g.2.1+k+1,atP (Ë b) [g.1] g.2.1+k,jP b g ((é b g)[k]?.getD 0) ((é b g)[k+1]?.getD 0))]
def cx (b:Ü) (c:Cmp):Int:=atP (Ë b) (Ď c.2.2.1 c.2.2.2.1) c.2.1
def cy (b:Ü) (c:Cmp):Int:=atP (Ë b) (Ď c.2.2.2.1 c.2.2.1) c.2.1
def ĉ (b:Ü) (c:Cmp):List Lk:=[(cy b c,cx b c,(ω b c).2),(cx b c,cy b c,-(ω b c).1)]
def Ý (b:Ü):List Lk:=b.2.1.flatMap (Ġ b)++b.2.2.2.2.1.flatMap (ĉ b)
def ī (b:Ü) (i:Nat) (g:ù):List (Int×Int):=[(1,(i:Int)),(1,(i:Int))]++(List.range ((é b g).length-1)).flatMap fun _=>[(2,(i:Int)),(2,(i:Int))]
def ŕ (b:Ü):List (Int×Int):=(b.2.1.mapIdx (ī b)).flatten++(b.2.2.2.2.1.mapIdx fun i _=>[(3,(i:Int)),(3,(i:Int))]).flatten
section
variable {b:Ü}
def aa3 (h:Ğ b) {id day:Int} (hu:adW (oe b) id day=0):(0≤day∧day≤20000)∧∃g,kJ b id=some g∧g.2.1≤day:=by
 unfold adW at hu
 split at hu
 ·omega
 ·rename_i hd;simp only[eA,Bool.not_eq_false,S7,inP,cF,decide_eq_true_eq] at hd;exact⟨hd,FQ h hu⟩
def mP {g:ù} {d:Int}:d∈é b g↔d=g.2.1∨(∃c∈b.2.2.2.2.1,(c.2.2.1.contains g.1)≠(c.2.2.2.1.contains g.1)∧c.2.1=d)∨(∃n∈b.2.2.2.2.2,n.1=g.1∧n.2=d):=by
 unfold é;rw[yb,Sw];simp only[List.mem_append,List.mem_singleton,List.mem_map,List.mem_filter];constructor
 ·rintro((h|⟨c,⟨h1,h2⟩,h3⟩)|⟨n,⟨h1,h2⟩,h3⟩)
  ·exact .inl h
  ·exact .inr (.inl ⟨c,h1,by simpa using h2,h3⟩)
  ·exact .inr (.inr ⟨n,h1,by simpa using h2,h3⟩)
 ·rintro(h|⟨c,h1,h2,h3⟩|⟨n,h1,h2,h3⟩)
  ·exact .inl (.inl h)
  ·exact .inl (.inr ⟨c,⟨h1,by simpa using h2⟩,h3⟩)
  ·exact .inr ⟨n,⟨h1,by simpa using h2⟩,h3⟩
def Ğ.gaugeR (h:Ğ b) {g:ù} (hg:g∈b.2.1):Np g.2.2.2.2.1=true∧(-1000≤g.2.2.2.2.1.1∧g.2.2.2.2.1.1≤1000)∧g.2.2.2.2.1.2≤100∧(1≤g.1∧g.1≤1099511627776)∧(0≤g.2.1∧g.2.1≤20000)∧(1≤g.2.2.1∧g.2.2.1≤1125899906842624)∧(-1073741824≤g.2.2.2.1.1∧g.2.2.2.1.1≤g.2.2.2.1.2∧g.2.2.2.1.2≤1073741824)∧(0≤g.2.2.2.2.2∧g.2.2.2.2.2≤1048576):=(PQ g).1 (h.gauge g hg)
def Ğ.day (h:Ğ b) {g:ù} (hg:g∈b.2.1) {d:Int} (hd:d∈é b g):g.2.1≤d∧0≤d∧d≤20000:=by
 have hr:=h.gaugeR hg;have hgo:=BX h.ids hg;rcases mP.1 hd with rfl|⟨c,hc,h1,rfl⟩|⟨n,hn,h1,rfl⟩
 ·have:=hr.2.2.2.2.1; omega
 ·have hn:=(km c).1 (h.nums hc)
  have hx:g.1∈c.2.2.1++c.2.2.2.1:=by
   rw[cI]
   by_cases h2:g.1∈c.2.2.1
   ·exact .inl h2
   ·refine .inr ?_
    have e1:c.2.2.1.contains g.1=false:=by simpa using h2
    rw[e1] at h1
    have:c.2.2.2.1.contains g.1=true:=by cases hh:c.2.2.2.1.contains g.1<;>simp_all
    simpa using this
  obtain⟨⟨g',h3,h4⟩,_⟩:=h.pile hc hx;rw[hgo] at h3; cases h3;have:=hn.2.1;omega
 ·obtain⟨h2,g',h3,h4⟩:=aa3 h (h.looks n hn);rw[h1,hgo] at h3; cases h3;omega
def mg (g:ù):g.2.1∈é b g:=mP.2 (.inl rfl)
def Sv (h:Ğ b) {g:ù} (hg:g∈b.2.1):(é b g).length≤59:=by
 have h1:∀l:List ù,g∈l→(é b g).length≤(l.flatMap fun g=>(é b g).map fun d=>((g.1,d):Int×Int)).length:=by
  intro l
  induction l with
  |nil=>intro hg; cases hg
  |cons a t ih =>
   intro hg;rw[dQ,cG,eE];rcases cJ.1 hg with rfl|hg
   ·omega
   ·have:=ih hg; omega
 have:=h1 b.2.1 hg;have:=h.nodes;unfold Ë at this;omega
def adw {p:List Int} {d:Int}:0≤atP (Ë b) p d∧atP (Ë b) p d≤(Ë b).length:=by
 unfold atP
 cases p with
 |nil=>simp
 |cons x t =>
  try dsimp only
  cases h:jk (Ë b) x d with
  |none=>simp
  |some j=>have:=(jU h).1; dsimp only; omega
def Kg (h:Ğ b) {c:Cmp} (hc:c∈b.2.2.2.2.1):(-1125904000000000≤(ω b c).1∧(ω b c).1≤1125904000000000)∧(-1125904000000000≤(ω b c).2∧(ω b c).2≤1125904000000000):=by
 obtain⟨r1,r2⟩:=h.rates hc;have hn:=(km c).1 (h.nums hc);have ha:=Κ hn.2.2.2.2.2.1;have hb:=Κ hn.2.2.2.2.2.2;have hf:=h.film;obtain⟨g1,g2⟩:=QF (Qe r1 r2) hn.2.2.2.2.1;have fb:=B5 (b:=b) (c:=c) (by omega) (by omega) (by omega) (by omega) (by omega) (by omega);have q1:tf (Ľ b c).1 2000000000 10000:=g1;have q2:tf (Ľ b c).2 2000000000 10000:=g2;have c1:=G7 q1;have c2:=B0 q2;have n3:=hn.2.2.1;have n4:=hn.2.2.2.1;unfold ω
 try dsimp only
 omega
def uE (h:Ğ b) {g:ù} (hg:g∈b.2.1) {f t:Int} (hf:0≤f):0≤jP b g f t∧jP b g f t≤12*(20001*1048576)+40*1048576:=by
 have hr:=(h.gaugeR hg).2.2.2.2.2.2.2;have h1:=rh (id:=g.1) (t:=t) hf (x:=b.2.2.2.1) fun l hl=>GG h hl;have h2:(b.2.2.2.1.length:Int)*(20001*1048576)≤12*(20001*1048576):=fp (by have:=h.nL; omega) (by omega)
 have h3:(iG b g.1 f t).length≤40:=by
  unfold iG;rw[List.length_map];exact Nat.le_trans (List.length_filter_le _ _) h.nU
 have h4:=JD (iG b g.1 f t)
 have hm:0≤((Wo (iG b g.1 f t)).length:Int)*g.2.2.2.2.2∧((Wo (iG b g.1 f t)).length:Int)*g.2.2.2.2.2≤40*1048576 :=
  ⟨fh (by omega) hr.1,eG (by omega) hr.2 hr.1 (by omega)⟩
 unfold jP;omega
end
def lz {α β:Type} (f:Nat→α→β) {l:List α} {i:Nat} {a:α} (h:l[i]?=some a):(l.take (i+1)).mapIdx f=(l.take i).mapIdx f++[f i a]:=by
 have hi:i<l.length:=(cH.1 h).1
 have:(l.take i).length=i:=by rw[cW]; omega
 rw[take_succ h,List.mapIdx_append];simp[this]
def FG {α:Type} (f:Nat→List α) (j:Nat):(List.range (j+1)).flatMap f=(List.range j).flatMap f++f j:=by
 rw[List.range_succ,ft]; simp
def jD {α:Type} (f:Nat→List α) (n:Nat) (h:∀k,(f k).length=2):((List.range n).flatMap f).length=2*n:=by
 induction n with
 |zero=>rfl
 |succ n ih=>rw[FG,cG,ih,h]; omega
set_option maxHeartbeats 2000000 in
def QQ {b:Ü} (h:Ğ b):yz b=some (b,Ë b,(((Ë b).length:Int)+1,Ý b),ŕ b):=by
 unfold yz RG;have hN:=h.nodes;have hG:=h.nG;have hC:=h.nC;rw[QI h.size,À,á,Û (by omega) (by omega)]
 -- lengths of what comes
 have gl:∀g∈b.2.1,(Ġ b g).length≤120∧∀i,(ī b i g).length≤120:=by
  intro g hg;have:=Sv h hg;constructor
  ·unfold Ġ;rw[List.length_append,jD _ _ (fun _=>rfl)];simp only[List.length_cons,List.length_nil]; omega
  ·intro i;unfold ī;rw[List.length_append,jD _ _ (fun _=>rfl)];simp only[List.length_cons,List.length_nil]; omega
 have gls:∀i,((b.2.1.take i).flatMap (Ġ b)).length≤1440∧(((b.2.1.take i).mapIdx (ī b)).flatten).length≤1440:=by
  intro i
  induction i with
  |zero=>simp
  |succ i ih =>
   have key:∀i,i≤b.2.1.length→((b.2.1.take i).flatMap (Ġ b)).length≤i*120∧(((b.2.1.take i).mapIdx (ī b)).flatten).length≤i*120:=by
    intro i
    induction i with
    |zero=>intro _; simp
    |succ i ih =>
     intro hi;have ih:=ih (by omega);have hg:b.2.1[i]?=some b.2.1[i]:=cD hi;have h2:=gl _ (cM hg);have h3:=h2.2 i;rw[lz _ hg,take_succ hg,ft,fK,cG,cG];simp only[dQ,List.flatMap_nil,dE,gn,gq];omega
   rcases dt b.2.1.length (i+1) with h1|h1
   ·rw[dS (by omega)];have:=key b.2.1.length (cE _);rw[List.take_length] at this;omega
   ·have:=key (i+1) h1;omega
 refine Ą b.2.1 (fun i=>((b.2.1.take i).flatMap (Ġ b),((b.2.1.take i).mapIdx (ī b)).flatten)) _ rfl (fun i g hi hg kn=>?_) (fun kn=>?_)
 ·try dsimp only
  unfold un;have hgm:=List.mem_of_getElem? hg;have hr:=h.gaugeR hgm;have hd:=Sv h hgm;have hls:=gls i;have hat:=adw (b:=b) (p:=[g.1]) (d:=g.2.1);rw[Ö hi,Ì hg];rw[show nD ((b.1.1,b.1.2),b.2.1,b.2.2.1,b.2.2.2.1,b.2.2.2.2.1,b.2.2.2.2.2) g=nD b g from rfl,acU h.size,À];rw[adu _ _ _ (by dsimp only; omega),À]
  try dsimp only
  have r1:=hr.2.2.2.2.2.1;have r2:=hr.2.2.2.2.2.2.1;rw[Û (by omega) (by omega),Û (by omega) (by omega),Û (by omega) (by omega),Ø (by simp only[cN,dn]; omega),Am.iff_true,Ø (by simp only[cN,dn]; omega),Am.iff_true]
  refine ť (fun x:Int×List Lk×List (Int×Int)=>∃j:Nat,j+1≤(é b g).length∧x.1=(j:Int)+1 ∧
   x.2.1=(b.2.1.take i).flatMap (Ġ b)++([(0,atP (Ë b) [g.1] g.2.1,g.2.2.1+g.2.2.2.1.2),(atP (Ë b) [g.1] g.2.1,0,-(g.2.2.1+g.2.2.2.1.1))] ++
    (List.range j).flatMap fun(k:Nat)=>[(atP (Ë b) [g.1] g.2.1+k,atP (Ë b) [g.1] g.2.1+k+1,0),(atP (Ë b) [g.1] g.2.1+k+1,atP (Ë b) [g.1] g.2.1+k,jP b g ((é b g)[k]?.getD 0) ((é b g)[k+1]?.getD 0))]) ∧
   x.2.2=((b.2.1.take i).mapIdx (ī b)).flatten++([(1,(i:Int)),(1,(i:Int))]++(List.range j).flatMap fun _=>[(2,(i:Int)),(2,(i:Int))])) (fun x=>(é b g).length-x.1.toNat) ?_
   ⟨0,List.length_pos_of_mem (mg g),rfl,by simp,by simp⟩
  rintro⟨x1,ls,ss⟩ ⟨j,hj,e1,e2,e3⟩;dsimp only at e1 e2 e3 ⊢;subst e1
  have hlls:ls.length≤1562:=by
   rw[e2,cG,cG,jD _ _ (fun _=>rfl)];simp only[cN,dn]; omega
  have hlss:ss.length≤1562:=by
   rw[e3,cG,cG,jD _ _ (fun _=>rfl)];simp only[cN,dn]; omega
  rcases dt (j+1) (é b g).length with hlt|hge
  ·refine .inr ⟨((j:Int)+1+1,_,_),⟨j+1,hlt,by push_cast; rfl,rfl,rfl⟩,by dsimp only; omega,fun kn'=>?_⟩
   try dsimp only
   unfold uk
   have g1:(é b g)[j]?=some ((é b g)[j]?.getD 0):=by rw[cD (by omega)]; rfl
   have g2:(é b g)[j+1]?=some ((é b g)[j+1]?.getD 0):=by rw[cD hlt]; rfl
   have d1:=h.day hgm (cM g1);have d2:=h.day hgm (cM g2);have lb:=uE h hgm (t:=(é b g)[j+1]?.getD 0) d1.2.1
   have ec:((j:Int)+1)=((j+1:Nat):Int):=by push_cast; rfl
   rw[ec,Ö hlt,Û (by omega) (by omega),Û (by omega) (by omega),Û (by omega) (by omega),Û (by omega) (by omega)];rw[show(((j+1:Nat):Int)-1)=((j:Nat):Int) by omega,Ì g1,Ì g2];rw[show yA ((b.1.1,b.1.2),b.2.1,b.2.2.1,b.2.2.2.1,b.2.2.2.2.1,b.2.2.2.2.2) (g.1,g.2.1,g.2.2.1,(g.2.2.2.1.1,g.2.2.2.1.2),(g.2.2.2.2.1.1,g.2.2.2.2.1.2),g.2.2.2.2.2) ((é b g)[j]?.getD 0) ((é b g)[j+1]?.getD 0)=yA b g ((é b g)[j]?.getD 0) ((é b g)[j+1]?.getD 0) from rfl];rw[agf h hr.2.2.2.2.2.2.2 ⟨by omega,by omega⟩ ⟨by omega,by omega⟩,À,Û (by omega) (by omega),Û (by omega) (by omega),Ø (by simp only[cN,dn]; omega),Am.iff_true,Ø (by simp only[cN,dn]; omega),Am.iff_true,Ñ hlt (by omega)];rw[FG,FG,e2,e3]
   have a1:atP (Ë b) [g.1] g.2.1+((j+1:Nat):Int)-1=atP (Ë b) [g.1] g.2.1+(j:Int):=by push_cast; omega
   have a2:atP (Ë b) [g.1] g.2.1+((j+1:Nat):Int)=atP (Ë b) [g.1] g.2.1+(j:Int)+1:=by push_cast; omega
   have a3:0-(0-jP b g ((é b g)[j]?.getD 0) ((é b g)[j+1]?.getD 0))=jP b g ((é b g)[j]?.getD 0) ((é b g)[j+1]?.getD 0):=by omega
   rw[a1,a2,a3];simp only[dh]
  ·refine .inl fun kn'=>?_
   have hje:j+1=(é b g).length:=by omega
   unfold uk;rw[show((j:Int)+1)=(((é b g).length:Nat):Int) by rw[←hje]; push_cast; rfl,ê];dsimp only;rw[Ñ hi (by omega)];rw[lz _ hg,take_succ hg,List.flatMap_append,List.flatten_append,e2,e3,show j=(é b g).length-1 by omega];simp only[List.flatMap_cons,List.flatMap_nil,List.append_nil,List.flatten_cons,List.flatten_nil];rfl
 ·try dsimp only
  unfold un;rw[ê,List.take_length];have hls:=gls b.2.1.length;rw[List.take_length] at hls
  have cl:∀i,i≤b.2.2.2.2.1.length→((b.2.2.2.2.1.take i).flatMap (ĉ b)).length=2*i∧(((b.2.2.2.2.1.take i).mapIdx fun i _=>[((3:Int),(i:Int)),((3:Int),(i:Int))]).flatten).length=2*i:=by
   intro i
   induction i with
   |zero=>intro _; simp
   |succ i ih =>
    intro hi;have ih:=ih (by omega);have hg:b.2.2.2.2.1[i]?=some b.2.2.2.2.1[i]:=cD hi;rw[lz _ hg,take_succ hg,ft,fK,cG,cG];simp only[dQ,List.flatMap_nil,dE,gn,gq,ĉ,cN,dn];omega
  refine Ą b.2.2.2.2.1 (fun i=>(b.2.1.flatMap (Ġ b)++(b.2.2.2.2.1.take i).flatMap (ĉ b),(b.2.1.mapIdx (ī b)).flatten++((b.2.2.2.2.1.take i).mapIdx fun i _=>[((3:Int),(i:Int)),((3:Int),(i:Int))]).flatten)) _ (by simp) (fun i c hi hc kn'=>?_) (fun kn'=>?_)
  ·try dsimp only
   unfold uj;have hcm:=List.mem_of_getElem? hc;have hn:=(km c).1 (h.nums hcm);have ha:=Κ hn.2.2.2.2.2.1;have hb:=Κ hn.2.2.2.2.2.2;have sb:=Kg h hcm;have c1:=cl i (by omega);rw[Ö hi,Ì hc,ri (by omega) (by omega),À,adu _ _ _ (by dsimp only; omega),À,ri (by omega) (by omega),À,adu _ _ _ (by dsimp only; omega),À];rw[show uM ((b.1.1,b.1.2),b.2.1,b.2.2.1,b.2.2.2.1,b.2.2.2.2.1,b.2.2.2.2.2) c=uM b c from rfl,h.says hcm,À];rw[Û (by omega) (by omega),Ø (by simp only[List.length_append,List.length_cons,List.length_nil]; omega),Am.iff_true,Ø (by simp only[List.length_append,List.length_cons,List.length_nil]; omega),Am.iff_true,Ñ hi (by omega),lz _ hc,take_succ hc,List.flatMap_append,List.flatten_append];simp only[List.flatMap_cons,List.flatMap_nil,List.append_nil,List.flatten_cons,List.flatten_nil,List.append_assoc,Int.zero_sub];rfl
  ·try dsimp only
   unfold uj;rw[ê,List.take_length];rfl
section
variable {ρ:Type}
def wv (w:List Bool) (v:Int):Bool:=w[v.toNat]?.getD false
def Yg {w:List Bool} {u v:Int} (hu:0≤u) (hv:0≤v) (h:u.toNat<w.length) (y:Bool):wv (w.set u.toNat y) v=if v=u then y else wv w v:=by
 unfold wv;rw[List.getElem?_set]
 by_cases hvu:v=u
 ·subst hvu; simp[h]
 ·have:¬u.toNat=v.toNat:=by omega
  simp[hvu,this]
def jF {x:List Int} {v:Int} (h:v.toNat<x.length) (f:Int→Option ρ):ĭ x v.toNat f=f (gv x v):=tv (Vr h) f
def QL {w:List Bool} {v:Int} (h:v.toNat<w.length) (f:Bool→Option ρ):ĭ w v.toNat f=f (wv w v):=by
 refine tv ?_ f;unfold wv; rw[List.getElem?_eq_getElem h]; rfl
def iZ {v:Int} {n:Nat} (h0:0≤v) (h1:v<n) (x:Option ρ):ç ((ile 0 v)&&(ilt v (n:Int))) x=x:=by
 have:((ile 0 v)&&(ilt v (n:Int)))=true:=by simp[ile,ilt,h0,h1]
 rw[this,Am.iff_true]
end
def oU (n least:Int):List Lk→List Int→List Bool→List Int→Bool×List Int×List Bool×List Int
 |[],x,w,q=>(true,x,w,q)
 |l::t,x,w,q =>
  if l.1≠n then oU n least t x w q else
  if gv x l.2.1≤gv x n+l.2.2 then oU n least t x w q else
  if gv x n+l.2.2<least then(false,x.set l.2.1.toNat (gv x n+l.2.2),w,q) else
  if wv w l.2.1 then oU n least t (x.set l.2.1.toNat (gv x n+l.2.2)) w q else oU n least t (x.set l.2.1.toNat (gv x n+l.2.2)) (w.set l.2.1.toNat true) (q++[l.2.1])
structure iv (L:List Lk) (N:Nat) (M:Int):Prop where
 inr:InR L N
 noloop:∀l∈L,l.1≠l.2.1
 most:∀l∈L,-M≤l.2.2∧l.2.2≤M
 len:L.length≤400
 nodes:N≤1000
 m0:0≤M
 m1:M≤4503599627370496
set_option maxHeartbeats 1000000 in
def aeB {ρ:Type} {L:List Lk} {N:Nat} {M:Int} (hL:iv L N M) {n least:Int} (hn:0≤n∧n<N) {x:List Int} {w:List Bool} {q:List Int} (hx:x.length=N) (hw:w.length=N) (hq:q.length≤1000000)
 (hb : -2305843009213693952≤gv x n∧gv x n≤2305843009213693952) (K0:(Val (.pair .bool (.pair (.slice tI) (.pair (.slice .bool) (.slice tI)))))→Option ρ) (K1:(Val (.pair (.slice tI) (.pair (.slice .bool) (.slice tI))))→Option ρ) :
 Í (fun(v47:(Val (.pair tI (.pair (.slice tI) (.pair (.slice .bool) (.slice tI)))))) kk52=>iV [] least n L (Ô L) v47.1 v47.2.1 v47.2.2.1 v47.2.2.2 (fun u48 u49 u50 u51=>kk52 (u48,u49,u50,u51)) K0 K1) ((0:Int),x,w,q) =
  match oU n least L x w q with
  |(true,r)=>K1 r
  |(false,r)=>K0 (false,r):=by
 have hlen:=hL.len
 refine JQ L (fun i (s:List Int×List Bool×List Int) t=>match oU n least t s.1 s.2.1 s.2.2 with|(true,r)=>K1 r|(false,r)=>K0 (false,r))
  (fun i s=>s.1.length=N∧s.2.1.length=N∧gv s.1 n=gv x n∧s.2.2.length≤1000000+i) (fun s hs kn=>?_) (fun i l t s hd hi hl hI kn hk=>?_) (s:=(x,w,q)) ⟨hx,hw,rfl,by simpa using hq⟩
 ·try dsimp only
  unfold iV;rw[ê];rfl
 ·obtain⟨y,u,p⟩:=s;obtain⟨h1,h2,h3,h4⟩:=hI;dsimp only at h1 h2 h3 h4 hk ⊢;have hmem:l∈L:=List.mem_of_getElem? hl;have hr:=hL.inr l hmem;have hm:=hL.most l hmem;have hm1:=hL.m1;have hnl:=hL.noloop l hmem;unfold iV;rw[Ö hi,Ì hl];unfold oU
  by_cases hln:l.1=n
  ·have e0:ine l.1 n=false:=by simp[ine,hln]
   rw[Õ e0];have e1:∀(f:Bool→Option ρ) (g:Option ρ),S6 (k:=tI) (v:=.bool) (i:Int) [] f g=g:=fun f g=>rfl;rw[e1,if_neg (by simp[hln])]
   have tn:n.toNat<y.length:=by omega
   have tt:l.2.1.toNat<y.length:=by omega
   have tu:l.2.1.toNat<u.length:=by omega
   rw[iZ hn.1 (by omega),jF tn,Û (by omega) (by omega),iZ hr.2.1 (by omega),jF tt,Ĵ]
   by_cases hge:gv y l.2.1≤gv y n+l.2.2
   ·rw[if_pos (by simpa[ige] using hge),if_pos hge,Ñ hi (by omega)];exact hk (y,u,p) ⟨h1,h2,h3,by dsimp only; omega⟩
   ·rw[if_neg (by simpa[ige] using hge),if_neg hge]
    have hset:gv (y.set l.2.1.toNat (gv y n+l.2.2)) n=gv x n:=by
     rw[xE hr.2.1 hn.1 tt,if_neg (fun h=>hnl (hln.trans h)),h3]
    have hself:gv (y.set l.2.1.toNat (gv y n+l.2.2)) l.2.1=gv y n+l.2.2:=by
     rw[xE hr.2.1 hr.2.1 tt,if_pos rfl]
    rw[iZ hn.1 (by omega),jF tn,Û (by omega) (by omega),iZ hr.2.1 (by omega),jF tt];rw[show(ą (List.set y l.2.1.toNat (gv y n+l.2.2)))=((y.length:Nat):Int) by simp[ą]];rw[iZ hr.2.1 (by omega),jF (by simpa using tt),hself,Ĵ]
    by_cases hlt:gv y n+l.2.2<least
    ·rw[if_pos (by simpa[ilt] using hlt),if_pos hlt]
    ·rw[if_neg (by simpa[ilt] using hlt),if_neg hlt,iZ hr.2.1 (by omega),QL tu,Ĵ]
     cases hwv:wv u l.2.1 with
     |true =>
      rw[if_neg (by simp),if_pos rfl,Ñ hi (by omega)];exact hk (y.set l.2.1.toNat (gv y n+l.2.2),u,p) ⟨by simpa using h1,h2,hset,by dsimp only; omega⟩
     |false =>
      rw[if_pos (by simp),if_neg (by simp),Ø (by simp only[dm]; omega),Am.iff_true,iZ hr.2.1 (by omega),QL tu,Ñ hi (by omega)];exact hk (y.set l.2.1.toNat (gv y n+l.2.2),u.set l.2.1.toNat true,p++[l.2.1]) ⟨by simpa using h1,by simpa using h2,hset,by simp only[cG,dm]; omega⟩
  ·have e0:ine l.1 n=true:=by simp[ine,hln]
   rw[Þ e0,if_pos hln,Ñ hi (by omega)];exact hk (y,u,p) ⟨h1,h2,h3,by dsimp only; omega⟩
structure afp (N:Nat) (n least:Int) (L:List Lk) (x:List Int) (q:List Int) (x':List Int) (w':List Bool) (q':List Int):Prop where
 lx:x'.length=N
 lw:w'.length=N
 same:gv x' n=gv x n
 le:∀v:Int,0≤v→v<N→gv x' v≤gv x v
 link:∀v m,(n,v,m)∈L→gv x' v≤gv x n+m
 chg:∀v:Int,0≤v→v<N→gv x' v=gv x v∨(v∈q'∧gv x' v<gv x v∧∃m,(n,v,m)∈L∧gv x' v=gv x n+m∧least≤gv x' v)
 new:∃l,q'=q++l∧∀v∈l,(0≤v∧v<N)∧gv x' v<gv x v
 nodup:q'.Nodup
 waits:∀v:Int,0≤v→v<N→(wv w' v=true↔v∈q')
def j6 {N:Nat} {n least:Int} (hn:0≤n∧n<N):∀{L:List Lk},InR L N→(∀l∈L,l.1≠l.2.1)→∀{x:List Int} {w:List Bool} {q:List Int},x.length=N→w.length=N→q.Nodup→(∀v:Int,0≤v→v<N→(wv w v=true↔v∈q)) →
 ∀{x':List Int} {w':List Bool} {q':List Int},oU n least L x w q=(true,x',w',q')→afp N n least L x q x' w' q'
 |[],_,_,x,w,q,hx,hw,hq,hwq,x',w',q',h=>by
  cases h;exact⟨hx,hw,rfl,fun _ _ _=>dM _,fun _ _ h=>(by cases h),fun _ _ _=>.inl rfl,⟨[],by simp,fun _ h=>by cases h⟩,hq,hwq⟩
 |l::t,hL,hnl,x,w,q,hx,hw,hq,hwq,x',w',q',h=>by
  have hLt:InR t N:=fun l hl=>hL l (by simp[hl]);have hnt:∀l∈t,l.1≠l.2.1:=fun l hl=>hnl l (by simp[hl]);have hr:=hL l (by simp);have hl0:=hnl l (by simp);unfold oU at h
  split at h
  ·rename_i hne;have a:=j6 hn hLt hnt hx hw hq hwq h
   exact⟨a.lx,a.lw,a.same,a.le,fun v m hm=>by
    rcases cJ.1 hm with rfl|hm
    ·exact(hne rfl).elim
    ·exact a.link v m hm,fun v h0 h1=>(a.chg v h0 h1).imp id fun⟨g1,g2,m,g3,g4⟩=>⟨g1,g2,m,by simp[g3],g4⟩,a.new,a.nodup,a.waits⟩
  ·rename_i hne
   have hln:l.1=n:=by simpa using hne
   split at h
   ·rename_i hle;have a:=j6 hn hLt hnt hx hw hq hwq h
    exact⟨a.lx,a.lw,a.same,a.le,fun v m hm=>by
     rcases cJ.1 hm with rfl|hm
     ·have:=a.le v hr.2.1 hr.2.2; simp only at hle; omega
     ·exact a.link v m hm,fun v h0 h1=>(a.chg v h0 h1).imp id fun⟨g1,g2,m,g3,g4⟩=>⟨g1,g2,m,by simp[g3],g4⟩,a.new,a.nodup,a.waits⟩
   ·rename_i hgt
    split at h
    ·cases h
    ·rename_i hls
     have tt:l.2.1.toNat<x.length:=by omega
     have tw:l.2.1.toNat<w.length:=by omega
     have hy:(x.set l.2.1.toNat (gv x n+l.2.2)).length=N:=by simpa using hx
     have hyn:gv (x.set l.2.1.toNat (gv x n+l.2.2)) n=gv x n:=by
      rw[xE hr.2.1 hn.1 tt,if_neg (fun h=>hl0 (hln.trans h))]
     have hyv:∀v,0≤v→gv (x.set l.2.1.toNat (gv x n+l.2.2)) v=if v=l.2.1 then gv x n+l.2.2 else gv x v:=fun v h0=>xE hr.2.1 h0 tt _
     have hlm:(n,l.2.1,l.2.2)∈l::t:=by rw[←hln]; simp
     -- what both ways have in common
     have fin:∀{w1:List Bool} {q1:List Int},afp N n least t (x.set l.2.1.toNat (gv x n+l.2.2)) q1 x' w' q'→l.2.1∈q1→(∃l',q1=q++l'∧∀v∈l',v=l.2.1)→afp N n least (l::t) x q x' w' q':=by
      intro w1 q1 a hmem hq1;obtain⟨new,hnew,hnv⟩:=a.new;obtain⟨l',hl',hlv⟩:=hq1
      have hto:gv x' l.2.1≤gv x n+l.2.2:=by
       have:=a.le l.2.1 hr.2.1 hr.2.2;rw[hyv _ hr.2.1,if_pos rfl] at this;exact this
      refine⟨a.lx,a.lw,a.same.trans hyn,fun v h0 h1=>?_,fun v m hm=>?_,fun v h0 h1=>?_,⟨l'++new,by rw[hnew,hl',dh],fun v hv=>?_⟩,a.nodup,a.waits⟩
      ·have:=a.le v h0 h1;rw[hyv v h0] at this
       split at this
       ·rename_i e; subst e; omega
       ·exact this
      ·rcases cJ.1 hm with rfl|hm
       ·exact hto
       ·have:=a.link v m hm
        rwa [hyn] at this
      ·rcases a.chg v h0 h1 with g|⟨g1,g2,m,g3,g4,g5⟩
       ·rw[hyv v h0] at g
        split at g
        ·rename_i e;subst e;exact .inr ⟨by rw[hnew]; exact dJ _ hmem,by omega,l.2.2,hlm,g,by omega⟩
        ·exact .inl g
       ·rw[hyv v h0] at g2;rw[hyn] at g4;refine .inr ⟨g1,?_,m,by simp[g3],g4,g5⟩
        split at g2
        ·rename_i e; subst e; omega
        ·exact g2
      ·rcases cI.1 hv with hv|hv
       ·rw[hlv v hv]; exact⟨hr.2,by omega⟩
       ·obtain⟨g1,g2⟩:=hnv v hv;rw[hyv v g1.1] at g2;refine⟨g1,?_⟩
        split at g2
        ·rename_i e; subst e; omega
        ·exact g2
     split at h
     ·rename_i hwt;exact fin (w1:=w) (j6 hn hLt hnt hy hw hq hwq h) ((hwq _ hr.2.1 hr.2.2).1 hwt) ⟨[],by simp,fun _ h=>by cases h⟩
     ·rename_i hwt;have hnq:l.2.1∉q:=fun hc=>hwt ((hwq _ hr.2.1 hr.2.2).2 hc);refine fin (w1:=w.set l.2.1.toNat true) (j6 hn hLt hnt hy (by simpa using hw) ?_ ?_ h) (by simp) ⟨[l.2.1],rfl,fun v hv=>by simpa using hv⟩
      ·rw[List.nodup_append];exact⟨hq,by simp,fun a ha b hb=>by simp at hb; subst hb; exact fun e=>hnq (e▸ha)⟩
      ·intro v h0 h1;rw[Yg hr.2.1 h0 tw]
       by_cases hv:v=l.2.1
       ·simp[hv]
       ·simp only[hv,if_false,cI,cQ,or_false];exact hwq v h0 h1
def mI {n least:Int}:∀{L:List Lk},(∀l∈L,l.1≠l.2.1)→(∀l∈L,0≤l.2.1)→0≤n→∀{x:List Int} {w:List Bool} {q:List Int} {r},oU n least L x w q=(false,r)→∃v m,(n,v,m)∈L∧gv x n+m<least
 |[],_,_,_,x,w,q,r,h=>by cases h
 |l::t,hnl,h0,hn,x,w,q,r,h=>by
  have hnt:∀l∈t,l.1≠l.2.1:=fun l hl=>hnl l (by simp[hl]);have h0t:∀l∈t,0≤l.2.1:=fun l hl=>h0 l (by simp[hl]);have up:(∃v m,(n,v,m)∈t∧gv x n+m<least)→∃v m,(n,v,m)∈l::t∧gv x n+m<least:=fun⟨v,m,g1,g2⟩=>⟨v,m,by simp[g1],g2⟩;unfold oU at h
  split at h
  ·exact up (mI hnt h0t hn h)
  ·rename_i hne
   have hln:l.1=n:=by simpa using hne
   split at h
   ·exact up (mI hnt h0t hn h)
   ·split at h
    ·rename_i hlt;exact⟨l.2.1,l.2.2,by rw[←hln]; simp,hlt⟩
    ·have hyn:gv (x.set l.2.1.toNat (gv x n+l.2.2)) n=gv x n:=by
      unfold gv;rw[List.getElem?_set];have h1:=hnl l (by simp);have h2:=h0 l (by simp)
      have:¬l.2.1.toNat=n.toNat:=by omega
      simp[this]
     split at h
     ·have:=mI hnt h0t hn h;rw[hyn] at this;exact up this
     ·have:=mI hnt h0t hn h;rw[hyn] at this;exact up this
def YO {ρ:Type} {L:List Lk} {N:Nat} {M:Int} (hL:iv L N M) {n least:Int} (hn:0≤n∧n<N) {x:List Int} {w:List Bool} {t rest:List Int} (hx:x.length=N) (hw:w.length=N) (ht:t.length=N) (hq:rest.length≤1000000)
 (hb : -2305843009213693952≤gv x n∧gv x n≤2305843009213693952) (htn:0≤gv t n∧gv t n≤1000000) (kn:List Int→List Bool→List Int→List Int→Option ρ) (k0:(Val (.pair .bool (.pair (.slice tI) (.pair (.slice .bool) (.pair (.slice tI) (.slice tI))))))→Option ρ) :
 Ħ [] least (N:Int) L x w t (n::rest) kn k0 =
  if (N:Int)+1<gv t n+1 then k0 (false,x,w.set n.toNat false,t.set n.toNat (gv t n+1),rest) else
  match oU n least L x (w.set n.toNat false) rest with
  |(true,x',w',q')=>kn x' w' (t.set n.toNat (gv t n+1)) q'
  |(false,x',w',q')=>k0 (false,x',w',t.set n.toNat (gv t n+1),q'):=by
 have hN:=hL.nodes
 have tn:n.toNat<x.length:=by omega
 have tw:n.toNat<w.length:=by omega
 have tt:n.toNat<t.length:=by omega
 unfold Ħ
 have e0:ieq (Ô (n::rest)) 0=false:=by
  rw[á];simp only[ieq,cN,beq_eq_false_iff_ne,ne_eq];omega
 have e1:ilt (0:Int) (ą (n::rest))=true:=by simp[ilt,ą]
 have e2:ile (1:Int) (ą (n::rest))=true:=by simp[ile,ą]; omega
 have e3:decide (1+(List.length (n::rest)-1)=List.length (n::rest))=true:=by simp; omega
 rw[Õ e0,ģ e1];rw[show ĭ (n::rest) 0=fun(f:Int→Option ρ)=>f n from rfl]
 try dsimp only
 rw[ģ e2,ģ e3,iZ hn.1 (by omega),QL tw,iZ hn.1 (by omega),jF tt,Û (by omega) (by omega),iZ hn.1 (by omega),jF tt];rw[show(ą (List.set t n.toNat (gv t n+1)))=((t.length:Nat):Int) by simp[ą]];rw[iZ hn.1 (by omega),jF (by simpa using tt),xE hn.1 hn.1 tt,if_pos rfl,Û (by omega) (by omega),Ĵ];rw[show List.drop 1 (n::rest)=rest from rfl]
 by_cases hlt:(N:Int)+1<gv t n+1
 ·rw[if_pos (by simpa[igt] using hlt),if_pos hlt]
 ·rw[if_neg (by simpa[igt] using hlt),if_neg hlt];rw[aeB hL hn hx (w:=w.set n.toNat false) (by simpa using hw) hq hb];generalize oU n least L x (w.set n.toNat false) rest=r;obtain⟨b,x',w',q'⟩:=r
  cases b<;>rfl
def abD {ρ:Type} {L:List Lk} {N:Int} {least:Int} {x:List Int} {w:List Bool} {t:List Int} (kn:List Int→List Bool→List Int→List Int→Option ρ) (k0:(Val (.pair .bool (.pair (.slice tI) (.pair (.slice .bool) (.pair (.slice tI) (.slice tI))))))→Option ρ) :
 Ħ [] least N L x w t [] kn k0=k0 (true,x,w,t,[]):=by
 unfold Ħ
 have e0:ieq (Ô ([]:List Int)) 0=true:=by rw[á]; rfl
 rw[Þ e0]
def Se (N:Nat) (t:List Int):Nat:=(t.map fun a=>((N:Int)+2-a).toNat).sum
def YW (N:Nat):∀(t:List Int) (i:Nat) (a b:Int),t[i]?=some a→a<b→a<(N:Int)+2→Se N (t.set i b)<Se N t
 |a0::t,0,a,b,h,h1,h2=>by
  simp at h; subst h;simp only[Se,List.set_cons_zero,dW,List.sum_cons];omega
 |a0::t,i+1,a,b,h,h1,h2=>by
  have:=YW N t i a b (by simpa using h) h1 h2;simp only[Se] at this;simp only[Se,List.set_cons_succ,dW,List.sum_cons];omega
def Vg {N:Nat} {t:List Int} {n:Int} (hn:n.toNat<t.length) (h:gv t n≤(N:Int)+1):Se N (t.set n.toNat (gv t n+1))<Se N t :=
 YW N t n.toNat (gv t n) _ (Vr hn) (by omega) (by omega)
structure aaV (L:List Lk) (S:Int→Prop) (N:Nat) (M:Int) (k:Nat) (A B:List Int) (x:List Int) (w:List Bool) (t q:List Int):Prop where
 q_eq:q=A++B
 lx:x.length=N
 lw:w.length=N
 lt:t.length=N
 nodup:q.Nodup
 rng:∀v∈q,0≤v∧v<N
 waits:∀v:Int,0≤v→v<N→(wv w v=true↔v∈q)
 t0:∀v:Int,0≤v→v<N→0≤gv t v∧gv t v≤(k:Int)+1
 tA:∀v∈A,gv t v≤k
 low:∀vs v d,Wl L S vs v d→vs.length≤k→gv x v≤d
 nxt:∀vs u d,Wl L S vs u d→vs.length≤k→u∉A→∀v m,(u,v,m)∈L→gv x v≤d+m
 rel:∀u:Int,0≤u→u<N→u∉q→gv x u≠ψ→∀v m,(u,v,m)∈L→gv x v≤gv x u+m
 att:∀v:Int,0≤v→v<N→gv x v≠ψ→∃vs,Wl L S vs v (gv x v)
 bd:∀v:Int,0≤v→v<N→gv x v=ψ∨gv x v≤((k:Int)+1)*M
 bA:∀v∈A,gv x v≤(k:Int)*M
 fin:∀v∈q,gv x v<ψ
 kN:k+1≤N
 last:k+1=N→B=[]
section
variable {L:List Lk} {S:Int→Prop} {N:Nat} {M:Int} {p:Int→Int} {k:Nat} {A B x:List Int} {w:List Bool} {t q:List Int}
def JI {a b:Nat} {M:Int} (h:a≤b) (hM:0≤M):(a:Int)*M≤(b:Int)*M:=fp (by omega) hM
def Wl.lt_free (hL:iv L N M) (hNM:N*M<ψ) {vs:List Int} {v d:Int} (hw:Wl L S vs v d) (h:vs.length≤N):d<ψ:=by
 have h1:=hw.high fun l hl=>(hL.most l hl).2;have h2:=JI h hL.m0;omega
def aaV.next (hL:iv L N M) (hNM:N*M<ψ) (hS:∀v,S v→0≤v∧v<N) (h:aaV L S N M k [] B x w t q) (hB:B≠[]):aaV L S N M (k+1) B [] x w t q:=by
 have hM:=hL.m0
 have hq:q=B:=by simpa using h.q_eq
 have hk:k+1≠N:=fun e=>hB (h.last e);have hkN:=h.kN
 have low':∀vs v d,Wl L S vs v d→vs.length≤k+1→gv x v≤d:=by
  intro vs v d hw hl
  cases hw with
  |nil hs=>exact h.low [] v 0 (.nil hs) (by simp)
  | @step vs u _ m d hw hlk=>exact h.nxt vs u d hw (by simpa using hl) (by simp) v m hlk
 refine⟨by simp[hq],h.lx,h.lw,h.lt,h.nodup,h.rng,h.waits,fun v h0 h1=>⟨(h.t0 v h0 h1).1,by have:=(h.t0 v h0 h1).2; push_cast; omega⟩,fun v hv=>?_,low',fun vs u d hw hl hu v m hlk=>?_,h.rel,h.att,fun v h0 h1=>?_,fun v hv=>?_,h.fin,by omega,fun _=>rfl⟩
 ·have:=h.rng v (by rw[hq]; exact hv);have:=(h.t0 v this.1 this.2).2;push_cast; omega
 ·have h1:=low' vs u d hw hl;have h2:=hw.lt_free hL hNM (by omega);have h3:=(hw.range hL.inr hS).1;have:=h.rel u h3.1 h3.2 (by rw[hq]; exact hu) (by omega) v m hlk;omega
 ·rcases h.bd v h0 h1 with h2|h2
  ·exact .inl h2
  ·refine .inr ?_;have:=JI (show k+1≤k+1+1 by omega) hM;push_cast at this ⊢;omega
 ·have h1:=h.rng v (by rw[hq]; exact hv);have h2:=h.fin v (by rw[hq]; exact hv);rcases h.bd v h1.1 h1.2 with h3|h3
  ·omega
  ·push_cast; exact h3
def aaV.step {n:Int} {A':List Int} {least:Int} {x':List Int} {w':List Bool} {q':List Int} (hL:iv L N M) (hNM:N*M<ψ) (hp:Pot L p) (hS:∀v,S v→0≤v∧v<N) (h:aaV L S N M k (n::A') B x w t q)
 (ha:afp N n least L x (A'++B) x' w' q'):∃B',aaV L S N M k A' B' x' w' (t.set n.toNat (gv t n+1)) q':=by
 have hM:=hL.m0
 have hq:q=n::(A'++B):=by simpa using h.q_eq
 have hkN:=h.kN;have hnr:=h.rng n (by rw[hq]; simp);have hnf:=h.fin n (by rw[hq]; simp)
 have hnd:n∉A'++B:=by have:=h.nodup; rw[hq,f7] at this; exact this.1
 have htn:n.toNat<t.length:=by have:=h.lt; omega
 have tset:∀v,0≤v→gv (t.set n.toNat (gv t n+1)) v=if v=n then gv t n+1 else gv t v:=fun v h0=>xE hnr.1 h0 htn _
 have hkM:((k:Int)+1)*M<ψ:=by
  have:=JI hkN hM;push_cast at this;omega
 have xle:∀v:Int,0≤v→v<N→gv x v≤ψ:=fun v h0 h1=>by rcases h.bd v h0 h1 with h2|h2<;>omega
 obtain⟨l,hl,hlv⟩:=ha.new
 have att':∀v:Int,0≤v→v<N→gv x' v≠ψ→∃vs,Wl L S vs v (gv x' v):=by
  intro v h0 h1 hne;rcases ha.chg v h0 h1 with g|⟨_,_,m,g3,g4,_⟩
  ·rw[g] at hne ⊢; exact h.att v h0 h1 hne
  ·obtain⟨vs,hw⟩:=h.att n hnr.1 hnr.2 (by omega);rw[g4]; exact⟨_,hw.step g3⟩
 refine⟨B++l,by rw[hl,dh],ha.lx,ha.lw,by rw[fc]; exact h.lt,ha.nodup,fun v hv=>?_,ha.waits,fun v h0 h1=>?_,fun v hv=>?_,fun vs v d hw hlen=>?_,fun vs u d hw hlen hu v m hlk=>?_,
  fun u h0 h1 hu hf v m hlk=>?_,att',fun v h0 h1=>?_,fun v hv=>?_,fun v hv=>?_,hkN,fun hk=>?_⟩
 ·rw[hl] at hv;rcases cI.1 hv with hv|hv
  ·exact h.rng v (by rw[hq]; simp only[cJ]; exact .inr hv)
  ·exact(hlv v hv).1
 ·rw[tset v h0];have h2:=h.t0 v h0 h1
  split
  ·have h3:=h.tA n (by simp);have h4:=h.t0 n hnr.1 hnr.2;omega
  ·exact h2
 ·have h1:=h.rng v (by rw[hq]; simp[hv]);rw[tset v h1.1,if_neg (fun e=>hnd (by rw[←e]; simp[hv]))];exact h.tA v (by simp[hv])
 ·have h1:=h.low vs v d hw hlen;have h2:=(hw.range hL.inr hS).1;have:=ha.le v h2.1 h2.2;omega
 ·have hvr:=(hL.inr _ hlk).2
  by_cases hun:u=n
  ·subst hun;have h1:=ha.link v m hlk;have h2:=h.low vs u d hw hlen;omega
  ·have h1:=h.nxt vs u d hw hlen (by simp[hun,hu]) v m hlk;have:=ha.le v hvr.1 hvr.2;omega
 ·have hvr:=(hL.inr _ hlk).2
  have heq:gv x' u=gv x u:=by
   rcases ha.chg u h0 h1 with g|⟨g,_⟩
   ·exact g
   ·exact(hu g).elim
  by_cases hun:u=n
  ·subst hun;have h1:=ha.link v m hlk;omega
  ·have hur:u∉q:=by
    rw[hq];intro hc;rcases cJ.1 hc with e|hc
    ·exact hun e
    ·exact hu (by rw[hl]; exact dJ _ hc)
   have h2:=h.rel u h0 h1 hur (by rw[←heq]; exact hf) v m hlk;have:=ha.le v hvr.1 hvr.2;omega
 ·rcases ha.chg v h0 h1 with g|⟨_,_,m,g3,g4,_⟩
  ·rw[g]; exact h.bd v h0 h1
  ·have h2:=h.bA n (by simp);have h3:=(hL.most _ g3).2;simp only at h3;refine .inr ?_;rw[g4,fS,fZ];omega
 ·have h1:=h.rng v (by rw[hq]; simp[hv]);have h2:=h.bA v (by simp[hv]);have:=ha.le v h1.1 h1.2;omega
 ·rw[hl] at hv;rcases cI.1 hv with hv|hv
  ·have h1:=h.rng v (by rw[hq]; simp only[cJ]; exact .inr hv);have h2:=h.fin v (by rw[hq]; simp only[cJ]; exact .inr hv);have:=ha.le v h1.1 h1.2;omega
  ·obtain⟨g1,g2⟩:=hlv v hv;have:=xle v g1.1 g1.2;omega
 ·rw[h.last hk]
  cases l with
  |nil=>rfl
  |cons v l =>
   exfalso;obtain⟨g1,g2⟩:=hlv v (by simp);have:=xle v g1.1 g1.2;obtain⟨vs,hw⟩:=att' v g1.1 g1.2 (by omega);obtain⟨vs',d',k1,k2,k3⟩:=hw.simple hp;have k4:=k1.short hL.inr hS k3;have:=h.low vs' v d' k1 (by omega);omega
def aaV.done (hL:iv L N M) (hNM:N*M<ψ) (hp:Pot L p) (hS:∀v,S v→0≤v∧v<N) (h:aaV L S N M k A B x w t []):aaW L S N (gv x):=by
 have hkN:=h.kN;have hM:=hL.m0
 have hkM:((k:Int)+1)*M<ψ:=by
  have:=JI hkN hM;push_cast at this;omega
 have key:∀vs v d,Wl L S vs v d→vs.length+1≤N→gv x v≤d:=by
  intro vs v d hw
  induction hw with
  |nil hs=>intro _; exact h.low [] _ 0 (.nil hs) (by simp)
  | @step vs u v m d hw hlk ih =>
   intro hlen;simp only[cN] at hlen;have h1:=ih (by omega);have h2:=hw.lt_free hL hNM (by omega);have h3:=(hw.range hL.inr hS).1;have:=h.rel u h3.1 h3.2 (by simp) (by omega) v m hlk;omega
 refine⟨h.att,fun v vs d hw=>?_,fun v h0 h1=>?_⟩
 ·obtain⟨vs',d',k1,k2,k3⟩:=hw.simple hp;have:=key vs' v d' k1 (k1.short hL.inr hS k3);omega
 ·rcases h.bd v h0 h1 with h2|h2<;>omega
def Tn {ρ:Type} {r:Option ρ} (hL:iv L N M) (hNM:N*M<ψ) (hp:Pot L p) (hS:∀v,S v→0≤v∧v<N) (k0:(Val (.pair .bool (.pair (.slice tI) (.pair (.slice .bool) (.pair (.slice tI) (.slice tI))))))→Option ρ)
 (hK:∀x w t q,x.length=N→aaW L S N (gv x)→k0 (true,x,w,t,q)=r) (h:aaV L S N M k A B x w t q) :
 Í (fun(v64:(Val (.pair (.slice tI) (.pair (.slice .bool) (.pair (.slice tI) (.slice tI)))))) kk69=>Ħ [] (JH L) (N:Int) L v64.1 v64.2.1 v64.2.2.1 v64.2.2.2 (fun u65 u66 u67 u68=>kk69 (u65,u66,u67,u68)) k0) (x,w,t,q)=r:=by
 refine ť (fun s:List Int×List Bool×List Int×List Int=>∃k A B,aaV L S N M k A B s.1 s.2.1 s.2.2.1 s.2.2.2) (fun s=>Se N s.2.2.1) ?_ ⟨k,A,B,h⟩;rintro⟨x,w,t,q⟩ ⟨k,A,B,h⟩;dsimp only at h ⊢;have hN:=hL.nodes
 cases q with
 |nil=>exact .inl fun kn=>by rw[abD]; exact hK x w t [] h.lx (h.done hL hNM hp hS)
 |cons n rest =>
  -- the phase in which the first one is
  have hph:∃k A' B,aaV L S N M k (n::A') B x w t (n::rest):=by
   cases A with
   |nil =>
    have hB:B=n::rest:=by simpa using h.q_eq.symm
    subst hB;exact⟨k+1,rest,[],h.next hL hNM hS (by simp)⟩
   |cons a A' =>
    have:=h.q_eq;simp only[d8,List.cons.injEq] at this;obtain⟨rfl,_⟩:=this;exact⟨k,A',B,h⟩
  clear h k A B;obtain⟨k,A',B,h⟩:=hph
  have hrest:rest=A'++B:=by have:=h.q_eq; simpa using this
  have hnr:=h.rng n (by simp);have hnf:=h.fin n (by simp);have hkN:=h.kN;have h1:=h.tA n (by simp);have h2:=h.t0 n hnr.1 hnr.2;obtain⟨vs,hw⟩:=h.att n hnr.1 hnr.2 (by omega);have hlow:=hw.low' hp
  have hneg : -(400*4503599627370496)≤JH L:=by
   have:∀L':List Lk,(∀l∈L',-M≤l.2.2)→-((L'.length:Int)*M)≤JH L':=by
    intro L'
    induction L' with
    |nil=>intro _; simp[JH,IR]
    |cons l t ih =>
     intro hh;have i1:=ih fun l hl=>hh l (by simp[hl]);have i2:=hh l (by simp);have i3:=hL.m0;unfold JH at i1 ⊢;simp only[IR,if_true,List.length_cons,Int.natCast_succ,Int.add_mul,Int.one_mul];omega
   have h3:=this L fun l hl=>(hL.most l hl).1;have h4:(L.length:Int)*M≤400*4503599627370496:=eG (by have:=hL.len; omega) hL.m1 hL.m0 (by omega);omega
  have hrl:rest.length≤1000000:=by
   have:=YF N (n::rest) h.nodup h.rng;simp only[cN] at this;omega
  refine .inr ?_
  have hw':(w.set n.toNat false).length=N:=by rw[fc]; exact h.lw
  cases hr:oU n (JH L) L x (w.set n.toNat false) rest with
  |mk b r' =>
  obtain⟨x',w',q'⟩:=r'
  cases b with
  |false =>
   exfalso;obtain⟨v,m,g1,g2⟩:=mI hL.noloop (fun l hl=>(hL.inr l hl).2.1) hnr.1 hr;have:=(hw.step g1).low' hp;omega
  |true =>
   have hnd:=h.nodup;rw[f7] at hnd
   have ha:=j6 hnr hL.inr hL.noloop h.lx hw' hnd.2 (fun v h0 h1=>by
    rw[Yg hnr.1 h0 (by have:=h.lw; omega)]
    by_cases hv:v=n
    ·subst hv; simp[hnd.1]
    ·rw[if_neg hv,h.waits v h0 h1]
     simp[hv]) hr
   rw[hrest] at ha;obtain⟨B',hB'⟩:=h.step hL hNM hp hS ha;refine⟨(x',w',t.set n.toNat (gv t n+1),q'),⟨k,A',B',hB'⟩,Vg (by have:=h.lt; omega) (by omega),fun kn=>?_⟩;have hF:ψ=1152921504606846976:=rfl
   rw[YO hL hnr h.lx h.lw h.lt hrl (by constructor<;>omega) (by constructor<;>omega),if_neg (by omega),hr]
end
def KE (f:Lk→Bool):∀(L L':List Lk),IR f (L++L')=IR f L+IR f L'
 |[],L'=>by simp[IR]
 |l::t,L'=>by
  simp only[d8,IR,KE f t L'];omega
def T4 {L:List Lk} {i:Nat} {l:Lk} (h:L[i]?=some l):JH (L.take (i+1))=JH (L.take i)+min l.2.2 0:=by
 rw[take_succ h,JH,JH,KE];simp[IR]
def imin0 (e:Int):Cb e 0=min e 0:=by
 unfold Cb
 split<;>omega
def QM {L:List Lk} {M:Int} (h:∀l∈L,-M≤l.2.2) (hM:0≤M) : -((L.length:Int)*M)≤JH L:=by
 induction L with
 |nil=>simp[JH,IR]
 |cons l t ih =>
  have i1:=ih fun l hl=>h l (by simp[hl]);have i2:=h l (by simp);unfold JH at i1 ⊢;simp only[IR,if_true,List.length_cons,Int.natCast_succ,Int.add_mul,Int.one_mul];omega
def agb (L:List Lk):JH L≤0:=tx _ L
section
variable {ρ:Type} {L:List Lk} {N:Nat} {M:Int}
def YX (hL:iv L N M) (k0:Int→Option ρ):Í (fun(v75:Val Ã) kk78=>gQ L (Ô L) v75.1 v75.2 (fun u76 u77=>kk78 (u76,u77)) k0) ((0:Int),(0:Int))=k0 (JH L):=by
 refine ť (fun x:Int×Int=>∃i:Nat,i≤L.length∧x=(JH (L.take i),(i:Int))) (fun x=>L.length-x.2.toNat) ?_ ⟨0,by omega,rfl⟩;rintro x ⟨i,hi,rfl⟩;have hlen:=hL.len;rcases dt i L.length with h|h
 ·have hl:L[i]?=some L[i]:=cD h;refine .inr ⟨(JH (L.take (i+1)),(i:Int)+1),⟨i+1,h,by simp⟩,by simp; omega,fun kn=>?_⟩
  try dsimp only
  unfold gQ
  have hb:∀j,j≤L.length→-(400*4503599627370496)≤JH (L.take j):=by
   intro j hj;have h1:=QM (L:=L.take j) (fun l hl=>(hL.most l (List.mem_of_mem_take hl)).1) hL.m0;have h2:((L.take j).length:Int)*M≤400*4503599627370496:=eG (by rw[cW]; omega) hL.m1 hL.m0 (by omega);omega
  have h1:=hb i hi;have h2:=hb (i+1) h;have h3:=agb (L.take i);rw[T4 hl] at h2;rw[Ö h,Ì hl,imin0,Û (by omega) (by omega),Ñ h (by omega),T4 hl]
 ·refine .inl fun kn=>?_
  have:i=L.length:=by omega
  subst this
  try dsimp only
  unfold gQ;rw[ê,List.take_length]
def abh {x:List Int} (hx:x.length=N) (hN:N≤1000) {r:Option ρ} (k0:(Val (.pair (.slice .bool) (.slice tI)))→Option ρ)
 (hK:∀(w:List Bool) (q:List Int),w.length=N→q.Nodup→(∀v∈q,0≤v∧v<N)→(∀v:Int,0≤v→v<N→(wv w v=true↔v∈q))→(∀v:Int,0≤v→v<N→(v∈q↔gv x v≠ψ))→k0 (w,q)=r) :
 Í (fun(v70:(Val (.pair tI (.pair (.slice .bool) (.slice tI))))) kk74=>Œ (N:Int) x v70.1 v70.2.1 v70.2.2 (fun u71 u72 u73=>kk74 (u71,u72,u73)) k0) ((0:Int),(List.replicate N false),([]:List Int))=r:=by
 refine ť (fun s:Int×List Bool×List Int=>∃i:Nat,i≤N∧s.1=i∧s.2.1.length=N∧s.2.2.Nodup∧s.2.2.length≤i∧(∀v∈s.2.2,0≤v∧v<i)∧(∀v:Int,0≤v→v<N→(wv s.2.1 v=true↔v∈s.2.2))∧(∀v:Int,0≤v→v<i→(v∈s.2.2↔gv x v≠ψ))) (fun s=>N-s.1.toNat) ?_
  ⟨0,by omega,rfl,by simp,by simp,by simp,by simp,fun v h0 h1=>?_,fun v h0 h1=>by omega⟩
 ·rintro⟨s,w,q⟩ ⟨i,hi,h1,h2,h3,h4,h5,h6,h7⟩;simp only at h1 h2 h3 h4 h5 h6 h7;subst h1;rcases dt i N with h|h
  ·refine .inr ?_
   have hix:i<x.length:=by omega
   have hiw:i<w.length:=by omega
   have hnq:((i:Int))∉q:=fun hc=>by have:=(h5 _ hc).2; omega
   by_cases hf:gv x i=ψ
   ·refine⟨((i:Int)+1,w,q),⟨i+1,h,by simp,h2,h3,by simp only; omega,fun v hv=>⟨(h5 v hv).1,by have:=(h5 v hv).2; push_cast; omega⟩,h6,fun v h0 h1=>?_⟩,by simp; omega,fun kn=>?_⟩
    ·by_cases hv:v=i
     ·subst hv; simp[hf,hnq]
     ·exact h7 v h0 (by push_cast at h1; omega)
    ·try dsimp only
     unfold Œ
     have e:ilt (i:Int) (N:Int)=true:=by simp[ilt,h]
     rw[Þ e,iH hix,jF (by simpa using hix)]
     have e2:ine (gv x i) 1152921504606846976=false:=by simp[ine,hf]
     rw[Õ e2,Ñ h (by omega)]
   ·refine⟨((i:Int)+1,w.set i true,q++[(i:Int)]),⟨i+1,h,by simp,by simpa using h2,?_,by simp; omega,fun v hv=>?_,fun v h0 h1=>?_,fun v h0 h1=>?_⟩,by simp; omega,fun kn=>?_⟩
    ·rw[List.nodup_append];exact⟨h3,by simp,fun a ha b hb=>by simp at hb; subst hb; exact fun e=>hnq (e▸ha)⟩
    ·rcases cI.1 hv with hv|hv
     ·exact⟨(h5 v hv).1,by have:=(h5 v hv).2; push_cast; omega⟩
     ·simp at hv; subst hv; push_cast; omega
    ·have:=Yg (w:=w) (u:=(i:Int)) (by omega) h0 (by simpa using hiw) true;rw[dc] at this;show wv (w.set i true) v=true↔v∈q++[(i:Int)];rw[this]
     by_cases hv:v=i
     ·simp[hv]
     ·simp only[hv,if_false,cI,cQ,or_false];exact h6 v h0 h1
    ·show v∈q++[(i:Int)]↔_
     by_cases hv:v=i
     ·subst hv; simp[hf]
     ·simp only[cI,cQ,hv,or_false];exact h7 v h0 (by push_cast at h1; omega)
    ·try dsimp only
     unfold Œ
     have e:ilt (i:Int) (N:Int)=true:=by simp[ilt,h]
     rw[Þ e,iH hix,jF (by simpa using hix)]
     have e2:ine (gv x i) 1152921504606846976=true:=by simp[ine,hf]
     rw[Þ e2,Ø (by simp only[dm]; omega),Am.iff_true,iH hiw,QL (by simpa using hiw),Ñ h (by omega),dc]
  ·refine .inl fun kn=>?_
   have:i=N:=by omega
   subst this
   try dsimp only
   unfold Œ
   have e:ilt (i:Int) (i:Int)=false:=by simp[ilt]
   rw[Õ e];exact hK w q h2 h3 h5 h6 h7
 ·have:wv (List.replicate N false) v=false:=by
   unfold wv;rw[List.getElem?_replicate]
   split<;>rfl
  simp[this]
def OT (hL:iv L N M) (hN:1≤N) {S:Int→Bool} (hS:∀v,S v=true→0≤v∧v<N) {w:List Bool} {q:List Int} (hw:w.length=N) (hq:q.Nodup) (hr:∀v∈q,0≤v∧v<N) (hwq:∀v:Int,0≤v→v<N→(wv w v=true↔v∈q)) (hqs:∀v:Int,0≤v→v<N→(v∈q↔gv (tj S N) v≠ψ)) :
 aaV L (fun v=>S v=true) N M 0 q [] (tj S N) w (List.replicate N 0) q:=by
 have ht:∀v:Int,0≤v→v<N→gv (List.replicate N (0:Int)) v=0:=by
  intro v h0 h1;unfold gv;rw[List.getElem?_replicate]
  split<;>rfl
 have hg:∀v:Int,0≤v→v<N→(v∈q↔S v=true):=by
  intro v h0 h1;rw[hqs v h0 h1,iI S h0 h1]
  cases S v<;>simp[ψ]
 have hM:=hL.m0;refine⟨by simp,Ć S N,hw,by simp,hq,hr,hwq,fun v h0 h1=>?_,fun v hv=>?_,fun vs v d hw hl=>?_,fun vs u d hw hl hu v m hlk=>?_,fun u h0 h1 hu hf v m hlk=>?_,fun v h0 h1 hf=>?_,fun v h0 h1=>?_,fun v hv=>?_,fun v hv=>?_,by omega,fun _=>rfl⟩
 ·rw[ht v h0 h1]; omega
 ·have:=hr v hv;rw[ht v this.1 this.2]; omega
 ·cases hw with
  |nil hs =>
   have:=hS v hs;rw[iI S this.1 this.2,if_pos hs]; omega
  |step=>simp at hl
 ·cases hw with
  |nil hs =>
   have:=hS u hs;exact(hu ((hg u this.1 this.2).2 hs)).elim
  |step=>simp at hl
 ·rw[iI S h0 h1] at hf;have:=mt (hg u h0 h1).2 hu;rw[if_neg this] at hf;exact(hf rfl).elim
 ·rw[iI S h0 h1] at hf ⊢
  split at hf
  ·rename_i hs;rw[if_pos hs]; exact⟨[],.nil hs⟩
  ·exact(hf rfl).elim
 ·rw[iI S h0 h1]
  split
  ·exact .inr (by simp[hM])
  ·exact .inl rfl
 ·have h1:=hr v hv;rw[iI S h1.1 h1.2,if_pos ((hg v h1.1 h1.2).1 hv)]; simp
 ·have h1:=hr v hv;rw[iI S h1.1 h1.2,if_pos ((hg v h1.1 h1.2).1 hv)]; simp[ψ]
structure Bad (L:List Lk) (N:Nat) (x:List Int) (w:List Bool) (t q:List Int):Prop where
 lx:x.length=N
 lw:w.length=N
 lt:t.length=N
 nodup:q.Nodup
 rng:∀v∈q,0≤v∧v<N
 waits:∀v:Int,0≤v→v<N→(wv w v=true↔v∈q)
 t0:∀v:Int,0≤v→v<N→0≤gv t v∧gv t v≤(N:Int)+1
 bd:∀v:Int,0≤v→v<N→-2305843009213693952≤gv x v∧gv x v≤0
 rel:∀u:Int,0≤u→u<N→u∉q→∀v m,(u,v,m)∈L→gv x v≤gv x u+m
def ad0 {r:Option ρ} {x:List Int} {w:List Bool} {t q:List Int} (hL:iv L N M) (hp:¬∃p,Pot L p) (k0:(Val (.pair .bool (.pair (.slice tI) (.pair (.slice .bool) (.pair (.slice tI) (.slice tI))))))→Option ρ)
 (hK:∀x w t q,k0 (false,x,w,t,q)=r) (h:Bad L N x w t q) :
 Í (fun(v64:(Val (.pair (.slice tI) (.pair (.slice .bool) (.pair (.slice tI) (.slice tI)))))) kk69=>Ħ [] (JH L) (N:Int) L v64.1 v64.2.1 v64.2.2.1 v64.2.2.2 (fun u65 u66 u67 u68=>kk69 (u65,u66,u67,u68)) k0) (x,w,t,q)=r:=by
 refine ť (fun s:List Int×List Bool×List Int×List Int=>Bad L N s.1 s.2.1 s.2.2.1 s.2.2.2) (fun s=>Se N s.2.2.1) ?_ h;rintro⟨x,w,t,q⟩ h;dsimp only at h ⊢;have hN:=hL.nodes
 cases q with
 |nil =>
  exfalso;exact hp ⟨gv x,fun u v m hl=>h.rel u (hL.inr _ hl).1.1 (hL.inr _ hl).1.2 (by simp) v m hl⟩
 |cons n rest =>
  have hnr:=h.rng n (by simp);have hb:=h.bd n hnr.1 hnr.2;have ht:=h.t0 n hnr.1 hnr.2
  have hrl:rest.length≤1000000:=by
   have:=YF N (n::rest) h.nodup h.rng;simp only[cN] at this;omega
  have hout:=fun(kn:List Int→List Bool→List Int→List Int→Option ρ)=>YO (ρ:=ρ) hL (least:=JH L) hnr h.lx h.lw h.lt hrl ⟨hb.1,by omega⟩ ⟨ht.1,by omega⟩ kn k0
  by_cases hlt:(N:Int)+1<gv t n+1
  ·exact .inl fun kn=>by rw[hout,if_pos hlt]; exact hK _ _ _ _
  ·have hw':(w.set n.toNat false).length=N:=by rw[fc]; exact h.lw
   cases hr:oU n (JH L) L x (w.set n.toNat false) rest with
   |mk b r' =>
   obtain⟨x',w',q'⟩:=r'
   cases b with
   |false=>exact .inl fun kn=>by rw[hout,if_neg hlt,hr]; exact hK _ _ _ _
   |true =>
    have hnd:=h.nodup;rw[f7] at hnd
    have htl:n.toNat<t.length:=by have:=h.lt; omega
    have ha:=j6 hnr hL.inr hL.noloop h.lx hw' hnd.2 (fun v h0 h1=>by
     rw[Yg hnr.1 h0 (by have:=h.lw; omega)]
     by_cases hv:v=n
     ·subst hv; simp[hnd.1]
     ·rw[if_neg hv,h.waits v h0 h1]
      simp[hv]) hr
    obtain⟨l,hl,hlv⟩:=ha.new;refine .inr ⟨(x',w',t.set n.toNat (gv t n+1),q'),⟨ha.lx,ha.lw,by rw[fc]; exact h.lt,ha.nodup,fun v hv=>?_,ha.waits,fun v h0 h1=>?_,fun v h0 h1=>?_,fun u h0 h1 hu v m hlk=>?_⟩,Vg htl (by omega),fun kn=>by rw[hout,if_neg hlt,hr]⟩
    ·dsimp only at hv;rw[hl] at hv;rcases List.mem_append.1 hv with hv|hv
     ·exact h.rng v (by simp[hv])
     ·exact(hlv v hv).1
    ·try dsimp only
     rw[xE hnr.1 h0 htl];have:=h.t0 v h0 h1
     split<;>omega
    ·try dsimp only
     have h2:=h.bd v h0 h1;rcases ha.chg v h0 h1 with g|⟨_,g2,m,g3,g4,g5⟩
     ·rw[g]; exact h2
     ·have h3:=QM (L:=L) (fun l hl=>(hL.most l hl).1) hL.m0;have h4:(L.length:Int)*M≤400*4503599627370496:=eG (by have:=hL.len; omega) hL.m1 hL.m0 (by omega);omega
    ·dsimp only at hu ⊢;have hvr:=(hL.inr _ hlk).2
     have heq:gv x' u=gv x u:=by
      rcases ha.chg u h0 h1 with g|⟨g,_⟩
      ·exact g
      ·exact(hu g).elim
     by_cases hun:u=n
     ·subst hun;have h1:=ha.link v m hlk;omega
     ·have hur:u∉n::rest:=by
       intro hc;rcases cJ.1 hc with e|hc
       ·exact hun e
       ·exact hu (by rw[hl]; exact dJ _ hc)
      have h2:=h.rel u h0 h1 hur v m hlk;have:=ha.le v hvr.1 hvr.2;omega
end
def aaU (N:Nat) (v:Int):Bool:=decide (0≤v)&&decide (v<(N:Int))
def abM (s:Int) (v:Int):Bool:=v==s
def Tm (N:Nat):tj (aaU N) N=List.replicate N 0:=by
 refine Y0 (by simp[Ć]) fun v h0 h1=>?_;rw[Ć] at h1;rw[iI _ h0 h1]
 have:aaU N v=true:=by simp[aaU,h0,h1]
 rw[if_pos this];unfold gv;rw[List.getElem?_replicate]
 split<;>rfl
def iJ (L:List Lk) (N:Nat):List Int:=kj L N (tj (aaU N) N)
def Ő (L:List Lk) (N:Nat):Bool:=decide (IP L (iJ L N)=iJ L N)
def rz (L:List Lk) (N:Nat) (s:Int):List Int:=kj L N (tj (abM s) N)
section
variable {L:List Lk} {N:Nat} {M:Int}
def aen (hL:iv L N M) (hN:N≤200):N*M<ψ:=by
 have:(N:Int)*M≤200*4503599627370496:=Int.mul_le_mul (by omega) hL.m1 hL.m0 (by omega);unfold ψ;omega
def FB {p:Int→Int} (hL:iv L N M) (hN:N≤200) (hp:Pot L p):aaW L (fun v=>aaU N v=true) N (gv (iJ L N)) :=
 Kn hp hL.inr (fun v h=>by simpa[aaU] using h) (fun l hl=>(hL.most l hl).2) hL.m0 (aen hL hN) N (by omega)
def i6 {p:Int→Int} (hL:iv L N M) (hN:N≤200) (hp:Pot L p) {s:Int} (hs:0≤s∧s<N):aaW L (fun v=>abM s v=true) N (gv (rz L N s)) :=
 Kn hp hL.inr (fun v h=>by simp[abM] at h; subst h; exact hs) (fun l hl=>(hL.most l hl).2) hL.m0 (aen hL hN) N (by omega)
def TM:∀{L:List Lk} {x:List Int},(∀u v m,(u,v,m)∈L→gv x u<ψ→gv x v≤gv x u+m)→IP L x=x
 |[],x,_=>rfl
 |l::t,x,h=>by
  have h1:la x l=x:=by
   unfold la
   split
   ·rename_i hc;have:=h l.1 l.2.1 l.2.2 (by simp) hc.1;omega
   ·rfl
  show IP t (la x l)=x;rw[h1];exact TM fun u v m hm=>h u v m (by simp[hm])
def Μ (hL:iv L N M) (hN:N≤200):Ő L N=true↔∃p,Pot L p:=by
 unfold Ő;rw[decide_eq_true_eq]
 have hle:∀v:Int,0≤v→v<N→gv (iJ L N) v≤0:=by
  intro v h0 h1;have:=Cl hL.inr N (Ć (aaU N) N) v h0;rw[iI _ h0 h1,if_pos (by simp[aaU,h0,h1])] at this;exact this
 constructor
 ·intro h;refine⟨gv (iJ L N),fun u v m hl=>?_⟩;have hr:=(hL.inr _ hl).1;have:=FJ hL.inr (x:=iJ L N) (by unfold iJ; rw[ţ,Ć]) u v m hl (by have:=hle u hr.1 hr.2; unfold ψ; omega)
  rwa [h] at this
 ·rintro⟨p,hp⟩;have hd:=FB hL hN hp;exact TM fun u v m hl hf=>hd.pot hL.inr hl (by omega)
end
section
variable {ρ:Type} {L:List Lk} {N:Nat} {M:Int}
def ER (hN:N≤1000) (x:Option ρ):ç ((ile (0:Int) (N:Int))&&(è (Int.toNat (N:Int)))) x=x:=by
 rw[dc,Ø (by omega)]
 have:((ile (0:Int) (N:Int))&&true)=true:=by simp[ile]
 rw[this,Am.iff_true]
def WL (hL:iv L N M) (h1:1≤N) (hN:N≤200) (k0:(Val (.pair .bool (.pair (.slice tI) (.pair (.slice .bool) (.pair (.slice tI) (.slice tI))))))→Option ρ) {rT rF:Option ρ}
 (hT:Ő L N=true→∀w t q,k0 (true,iJ L N,w,t,q)=rT) (hF:∀x w t q,k0 (false,x,w,t,q)=rF) :
 (Í (fun(v70:(Val (.pair tI (.pair (.slice .bool) (.slice tI))))) kk74=>Œ (N:Int) (List.replicate N (0:Int)) v70.1 v70.2.1 v70.2.2 (fun u71 u72 u73=>kk74 (u71,u72,u73)) (fun z9=>Í (fun(v64:(Val (.pair (.slice tI) (.pair (.slice .bool) (.pair (.slice tI) (.slice tI)))))) kk69=>Ħ [] (JH L) (N:Int) L v64.1 v64.2.1 v64.2.2.1 v64.2.2.2 (fun u65 u66 u67 u68=>kk69 (u65,u66,u67,u68)) k0) ((List.replicate N (0:Int)),z9.1,(List.replicate N (0:Int)),z9.2))) ((0:Int),(List.replicate N false),([]:List Int)))=if Ő L N then rT else rF:=by
 refine abh (by simp) (by omega) _ fun w q hw hq hr hwq hqs=>?_
 try dsimp only
 have hS:∀v,aaU N v=true→0≤v∧v<N:=fun v h=>by simpa[aaU] using h
 by_cases ho:Ő L N=true
 ·rw[if_pos ho];obtain⟨p,hp⟩:=(Μ hL hN).1 ho;have hs:=OT hL h1 hS hw hq hr hwq (fun v a b=>by rw[Tm]; exact hqs v a b);rw[Tm] at hs;refine Tn hL (aen hL hN) hp hS k0 (fun x w t q hx hd=>?_) hs
  have:x=iJ L N:=by
   refine Y0 (by rw[hx]; unfold iJ; rw[ţ,Ć]) fun v a b=>?_;exact hd.uniq (FB hL hN hp) a (by omega)
  rw[this]; exact hT ho w t q
 ·rw[if_neg ho];refine ad0 hL (fun hp=>ho ((Μ hL hN).2 hp)) k0 hF ?_
  have hg:∀v,gv (List.replicate N (0:Int)) v=0:=by
   intro v;unfold gv;rw[List.getElem?_replicate]
   split<;>rfl
  refine⟨by simp,hw,by simp,hq,hr,hwq,fun v a b=>?_,fun v a b=>?_,fun u a b hu v m hl=>?_⟩
  ·rw[hg]; omega
  ·rw[hg]; omega
  ·exact(hu ((hqs u a b).2 (by rw[hg]; unfold ψ; omega))).elim
end
def shift_ok {ρ:Type} {x:List Int} (f:Int) (hx:x.length≤1000) (hf : -2305843009213693952≤f∧f≤2305843009213693952) (hb:∀a∈x,-2305843009213693952≤a∧a≤2305843009213693952) (k0:List Int→Option ρ) :
 Í (fun(v60:(Val (.pair tI (.slice tI)))) kk63=>iU f (Ô x) v60.1 v60.2 (fun u61 u62=>kk63 (u61,u62)) k0) ((0:Int),x)=k0 (x.map fun a=>a-f):=by
 refine Ą x (fun i=>(x.take i).map (fun a=>a-f)++x.drop i) _ (by simp) (fun i a hi ha kn=>?_) (fun kn=>?_)
 ·try dsimp only
  unfold iU
  have hlen:((x.take i).map (fun a=>a-f)++x.drop i).length=x.length:=by simp; omega
  have hget:((x.take i).map (fun a=>a-f)++x.drop i)[i]?=some a:=by
   rw[fY (by simp; omega)];simp only[eE,cW,eR];rw[←ha]; congr 1; omega
  have hi':i<((x.take i).map (fun a=>a-f)++x.drop i).length:=by omega
  have ha':=hb a (cM ha);rw[Ö hi,iH hi',Ū hget,Û (by omega) (by omega),iH hi',Ū hget,Ñ hi (by omega),dc,take_succ ha];congr 2;rw[d9 hi,List.map_append,dh,List.set_append_right _ _ (by simp; omega)]
  have:i-(List.map (fun a=>a-f) (List.take i x)).length=0:=by simp; omega
  rw[this]
  have h1:x[i]=a:=by rw[cD hi] at ha; simpa using ha
  simp[h1]
 ·try dsimp only
  unfold iU;rw[ê];simp
section
variable {L:List Lk} {N:Nat} {M:Int}
def ad2 (hL:iv L N M) (hN:N≤200) (ho:Ő L N=true):∀a∈iJ L N,-2305843009213693952≤a∧a≤0:=by
 obtain⟨p,hp⟩:=(Μ hL hN).1 ho;have hd:=FB hL hN hp;intro a ha;obtain⟨i,hi,rfl⟩:=cX.1 ha
 have hlen:(iJ L N).length=N:=by unfold iJ; rw[ţ,Ć]
 have h0:gv (iJ L N) i=(iJ L N)[i]:=by unfold gv; simp[hi]
 have hle:=Cl hL.inr N (Ć (aaU N) N) (i:Int) (by omega);rw[iI _ (by omega) (by omega),if_pos (by simp[aaU]; omega)] at hle;have hle':gv (iJ L N) i≤0:=hle;obtain⟨vs,hw⟩:=hd.att i (by omega) (by omega) (by unfold ψ; omega);have h1:=hw.low' hp;have h3:=QM (L:=L) (fun l hl=>(hL.most l hl).1) hL.m0;have h4:(L.length:Int)*M≤400*4503599627370496:=Int.mul_le_mul (by have:=hL.len; omega) hL.m1 hL.m0 (by omega);omega
def solP (L:List Lk) (N:Nat):List Int:=(iJ L N).map fun a=>a-gv (iJ L N) 0
def AH (hL:iv L N M) (h1:1≤N) (hN:N≤200):j9 ((N:Int),L) []=some (if Ő L N then(solP L N,true) else([],false)):=by
 unfold j9 xa
 try dsimp only
 rw[ER (by omega),ER (by omega),ER (by omega),dc];refine fG (YX hL _) ?_;refine fG (WL hL h1 hN _ (rT:=some (solP L N,true)) (rF:=some ([],false)) (fun ho w t q=>?_) (fun x w t q=>?_)) ?_
 ·try dsimp only
  have hlen:(iJ L N).length=N:=by unfold iJ; rw[ţ,Ć]
  have hb:=ad2 hL hN ho;have h0:ilt (0:Int) (ą (iJ L N))=true:=decide_eq_true (show(0:Int)<((iJ L N).length:Int) by omega);have hg:(iJ L N)[0]?=some (gv (iJ L N) 0):=Vr (v:=0) (show 0<_ by omega);have hm:=hb _ (cM hg);rw[show(!true)=false from rfl,ã,ģ h0,tv hg];exact shift_ok _ (by omega) ⟨hm.1,by omega⟩ (fun a ha=>⟨(hb a ha).1,by have:=(hb a ha).2; omega⟩) _
 ·rfl
 ·cases Ő L N<;>rfl
structure gW (L:List Lk) (N:Nat):Prop where
 n1:1≤N
 n60:N≤60
 len:L.length≤300
 inr:InR L N
 noloop:∀l∈L,l.1≠l.2.1
 most:∀l∈L,-4503599627370496≤l.2.2∧l.2.2≤4503599627370496
def gW.links (h:gW L N):iv L N 4503599627370496 :=
 ⟨h.inr,h.noloop,h.most,by have:=h.len; omega,by have:=h.n60; omega,by omega,by omega⟩
def gW.sub {L':List Lk} (h:gW L N) (hs:∀l∈L',l∈L) (hl:L'.length≤L.length):gW L' N :=
 ⟨h.n1,h.n60,by have:=h.len; omega,fun l hm=>h.inr l (hs l hm),fun l hm=>h.noloop l (hs l hm),fun l hm=>h.most l (hs l hm)⟩
def KD (n:Int) (L:List Lk) (v:Int):qD (n,L) v=some (decide (0≤v)&&decide (v<n)):=by
 unfold qD Ri ige
 by_cases h:0≤v
 ·have:decide (v≥0)=true:=by simpa using h
  rw[Þ this]; simp[h]
 ·have:decide (v≥0)=false:=by simpa using h
  rw[Õ this]; simp[h]
def ji (h:gW L N):kP ((N:Int),L)=some (0,-1):=by
 have h1:=h.n1;have h2:=h.n60;have h3:=h.len;unfold kP Lu
 try dsimp only
 rw[Õ (by simp[ilt]; omega),Õ (by simp[igt]; omega),Õ (by rw[á]; simp[igt]; omega)];refine fG (iX L (fun _=>false) (fun i=>some (1,i)) (some (0,-1)) (fun i l hi hl kn=>?_) (fun kn=>?_)) ?_
 ·try dsimp only
  unfold qi;have hm:=List.mem_of_getElem? hl;have a:=h.inr l hm;have b:=h.noloop l hm;have c:=h.most l hm
  have e1:(decide (0≤l.1)&&decide (l.1<(N:Int)))=true:=by simp[a.1.1,a.1.2]
  have e2:(decide (0≤l.2.1)&&decide (l.2.1<(N:Int)))=true:=by simp[a.2.1,a.2.2]
  rw[Ö hi,Ì hl,KD,À,e1,KD,À,e2];simp only[dI,ã,cR,if_false];rw[Õ (by simp[ieq,b]),Õ (by simp[ilt]; omega),Õ (by simp[igt]; omega),Ñ hi (by omega)]
 ·try dsimp only
  unfold qi;rw[ê]
 ·rw[ee.2 (by simp)]
def m9 {ρ:Type} {x:List Int} {v:Int} (h0:0≤v) (h:v.toNat<x.length) (f:Int→Option ρ):û x v f=f (gv x v):=by
 obtain⟨i,rfl⟩:=fN h0;exact Ì (Vr h) f
def VC (L:List Lk) (x:List Int):Bool:=L.all fun l=>decide (gv x l.2.1≤gv x l.1+l.2.2)
def Wg (h:gW L N) {x:List Int} (hx:x.length=N) (hb:∀a∈x,-ψ≤a∧a≤ψ):JV ((N:Int),L) x=some (VC L x&&gv x 0==0,0):=by
 have h1:=h.n1;have h2:=h.n60;have h3:=h.len;unfold JV Ro;rw[ji h,À]
 try dsimp only
 rw[Õ (by rfl),Õ (by rw[á,hx]; simp[ine])]
 have second:Í (fun(v20:Int) kk22=>lP x L (Ô L) v20 (fun u21=>kk22 u21) (fun z17=>some (z17.1,z17.2)) (fun _=>û x (0:Int) fun e19=>some (ieq e19 (0:Int),(0:Int)))) (0:Int)=some (VC L x&&gv x 0==0,0):=by
  refine fG (gK L (fun l=>!decide (gv x l.2.1≤gv x l.1+l.2.2)) (fun _=>some (false,0)) (some (false,0)) (some (gv x 0==0,0)) (fun _=>rfl) (fun i l hi hl kn=>?_) (fun kn=>?_)) ?_
  ·try dsimp only
   unfold lP;have hm:=List.mem_of_getElem? hl;have a:=h.inr l hm;have c:=h.most l hm
   have g1:l.1.toNat<x.length:=by omega
   have hg:=hb _ (List.mem_of_getElem? (Vr g1));unfold ψ at hg;rw[Ö hi,Ì hl,m9 a.2.1 (by omega),m9 a.1.1 g1,Û (by omega) (by omega),Ñ hi (by omega),Ĵ]
   by_cases hle:gv x l.2.1≤gv x l.1+l.2.2
   ·rw[if_neg (by simp[igt]; omega),if_neg (by simp[hle])]
   ·rw[if_pos (by simp[igt]; omega),if_pos (by simp[hle])]
  ·try dsimp only
   unfold lP;rw[ê,m9 (by omega) (by rw[Int.toNat_zero]; omega)]
  ·unfold VC;rw[show(L.any fun l=>!decide (gv x l.2.1≤gv x l.1+l.2.2))=!(L.all fun l=>decide (gv x l.2.1≤gv x l.1+l.2.2)) from by rw[List.all_eq_not_any_not]; simp]
   cases(L.all fun l=>decide (gv x l.2.1≤gv x l.1+l.2.2))<;>rfl
 refine fG (gK x (fun _=>false) (fun z4=>ifb (ige z4 (0:Int)) (some (false,(1:Int))) (some (VC L x&&gv x 0==0,0))) (some (false,1)) (some (VC L x&&gv x 0==0,0)) (fun j=>?_) (fun i a hi ha kn=>?_) (fun kn=>?_)) ?_
 ·rw[Þ (by simp[ige])]
 ·try dsimp only
  unfold t7;have hg:=hb a (List.mem_of_getElem? ha);unfold ψ at hg;rw[Ö hi,Ì ha,Õ (by simp[ilt]; omega),Õ (by simp[igt]; omega),Ñ hi (by omega)];simp
 ·try dsimp only
  unfold t7;rw[ê];exact second
 ·simp
end
section
variable {b:Ü}
def B8 (b:Ü) (g:ù):(é b g).Pairwise (·<·):=WD _
def VI (h:Ğ b) {g:ù} (hg:g∈b.2.1):∃t,é b g=g.2.1::t:=by
 have h1:=B8 b g;have h2:=mg (b:=b) g;have h3:∀d∈é b g,g.2.1≤d:=fun d hd=>(h.day hg hd).1
 cases hd:é b g with
 |nil=>rw[hd] at h2; cases h2
 |cons a t =>
  rw[hd] at h1 h2 h3;rw[dv] at h1;rcases cJ.1 h2 with e|e
  ·exact⟨t,by rw[e]⟩
  ·have:=h1.1 _ e;have:=h3 a (by simp);omega
def off (b:Ü) (i:Nat):Nat:=((b.2.1.take i).flatMap fun g=>(é b g).map fun d=>((g.1,d):Int×Int)).length
def AX {i:Nat} {g:ù} (hg:b.2.1[i]?=some g):Ë b=((b.2.1.take i).flatMap fun g=>(é b g).map fun d=>((g.1,d):Int×Int))++(((é b g).map fun d=>((g.1,d):Int×Int))++((b.2.1.drop (i+1)).flatMap fun g=>(é b g).map fun d=>((g.1,d):Int×Int))):=by
 obtain⟨hi,rfl⟩:=cH.1 hg
 have h1:b.2.1=b.2.1.take i++(b.2.1[i]::b.2.1.drop (i+1)):=by
  rw[←d9 hi,List.take_append_drop]
 unfold Ë
 conv=>lhs; rw[h1]
 rw[ft,dQ]
def QK (h:Ğ b) {i:Nat} {g:ù} (hg:b.2.1[i]?=some g) {k:Nat} {d:Int} (hk:(é b g)[k]?=some d):jk (Ë b) g.1 d=some (off b i+k):=by
 obtain⟨hi,hgi⟩:=List.getElem?_eq_some_iff.1 hg;obtain⟨hkl,hkd⟩:=List.getElem?_eq_some_iff.1 hk;unfold jk;rw[AX hg,List.findIdx?_append,List.findIdx?_append]
 have h1:List.findIdx? (fun n:Int×Int=>decide (g.1=n.1)&&decide (d=n.2)) ((b.2.1.take i).flatMap fun g=>(é b g).map fun d=>((g.1,d):Int×Int))=none:=by
  rw[ee];intro x hx;obtain⟨g',hg',hx⟩:=df.1 hx;obtain⟨d',_,rfl⟩:=dX.1 hx;obtain⟨j,hj,rfl⟩:=cX.1 hg';rw[cW] at hj;rw[List.getElem_take];have:=(dz.1 h.ids) j i (by omega) hi (by omega);rw[hgi] at this;simp only[Bool.and_eq_false_iff,decide_eq_false_iff_not];exact .inl (by omega)
 have h2:List.findIdx? (fun n:Int×Int=>decide (g.1=n.1)&&decide (d=n.2)) ((é b g).map fun d=>((g.1,d):Int×Int))=some k:=by
  rw[dG];refine⟨by simpa using hkl,by simp[hkd],fun j hj=>?_⟩;have:=(dz.1 (B8 b g)) j k (by omega) hkl hj;rw[hkd] at this;simp only[List.getElem_map,cF,decide_eq_true_eq,not_and];intro _;omega
 rw[h1,h2];simp only[Option.map_some,Option.some_or,Option.none_or];unfold off;congr 1;omega
def ael {i:Nat} {g:ù} (hg:b.2.1[i]?=some g) {k:Nat} {d:Int} (hk:(é b g)[k]?=some d):(Ë b)[off b i+k]?=some (g.1,d):=by
 obtain⟨hkl,hkd⟩:=List.getElem?_eq_some_iff.1 hk;rw[AX hg,List.getElem?_append_right (by unfold off; omega),List.getElem?_append_left (by unfold off; simp; omega)];unfold off;simp[hk]
def aff (h:Ğ b) {i:Nat} {g:ù} (hg:b.2.1[i]?=some g):atP (Ë b) [g.1] g.2.1=(off b i:Int)+1:=by
 obtain⟨t,ht⟩:=VI h (List.mem_of_getElem? hg);have:=QK h hg (k:=0) (d:=g.2.1) (by rw[ht]; rfl);unfold atP;simp only[this];rfl
def af8 (h:Ğ b) {i:Nat} {g:ù} (hg:b.2.1[i]?=some g):off b i+(é b g).length≤(Ë b).length:=by
 rw[AX hg];unfold off;simp only[List.length_append,List.length_map];omega
def aej {i:Nat} {g:ù} (hg:b.2.1[i]?=some g):off b (i+1)=off b i+(é b g).length:=by
 unfold off;rw[take_succ hg,List.flatMap_append];simp
def T3 (h:Ğ b) {c:Cmp} (hc:c∈b.2.2.2.2.1) {x:Int} (hx:(x∈c.2.2.1∧x∉c.2.2.2.1)∨(x∈c.2.2.2.1∧x∉c.2.2.1)):∃j,jk (Ë b) x c.2.1=some j:=by
 have hm:x∈c.2.2.1++c.2.2.2.1:=by rw[cI]; exact hx.imp (·.1) (·.1)
 obtain⟨⟨g,hg,_⟩,_⟩:=h.pile hc hm;obtain⟨hgm,hgx⟩:=qB hg;obtain⟨i,hi,hgi⟩:=cX.1 hgm
 have hd:c.2.1∈é b g:=mP.2 (.inr (.inl ⟨c,hc,by
  rw[hgx];rcases hx with⟨h1,h2⟩|⟨h1,h2⟩
  ·have e1:c.2.2.1.contains x=true:=by simpa using h1
   have e2:c.2.2.2.1.contains x=false:=by simpa using h2
   rw[e1,e2]; simp
  ·have e1:c.2.2.2.1.contains x=true:=by simpa using h1
   have e2:c.2.2.1.contains x=false:=by simpa using h2
   rw[e1,e2]; simp,rfl⟩))
 obtain⟨k,hk,hkd⟩:=cX.1 hd;have:=QK h (g:=g) (i:=i) (by rw[cD hi,hgi]) (k:=k) (d:=c.2.1) (by rw[cD hk,hkd]);rw[hgx] at this;exact⟨_,this⟩
inductive aaM (b:Ü) (p:List Int) (d:Int) (n:Int):Prop
 |none:p=[]→n=0→aaM b p d n
 |one (x:Int) (j:Nat):p=[x]→jk (Ë b) x d=some j→n=(j:Int)+1→aaM b p d n
def Sy (h:Ğ b) {c:Cmp} (hc:c∈b.2.2.2.2.1):aaM b (Ď c.2.2.1 c.2.2.2.1) c.2.1 (cx b c):=by
 have hl:=(h.lefts hc).1
 cases hp:Ď c.2.2.1 c.2.2.2.1 with
 |nil=>exact .none rfl (by unfold cx atP; rw[hp])
 |cons x t =>
  rw[hp] at hl
  have:t=[]:=by cases t with|nil=>rfl|cons=>simp at hl
  subst this;obtain⟨j,hj⟩:=T3 h hc (x:=x) (.inl (mJ.1 (by rw[hp]; simp)));exact .one x j rfl hj (by unfold cx atP; rw[hp]; simp only[hj])
def MM (h:Ğ b) {c:Cmp} (hc:c∈b.2.2.2.2.1):aaM b (Ď c.2.2.2.1 c.2.2.1) c.2.1 (cy b c):=by
 have hl:=(h.lefts hc).2.1
 cases hp:Ď c.2.2.2.1 c.2.2.1 with
 |nil=>exact .none rfl (by unfold cy atP; rw[hp])
 |cons x t =>
  rw[hp] at hl
  have:t=[]:=by cases t with|nil=>rfl|cons=>simp at hl
  subst this;obtain⟨j,hj⟩:=T3 h hc (x:=x) (.inr (mJ.1 (by rw[hp]; simp)));exact .one x j rfl hj (by unfold cy atP; rw[hp]; simp only[hj])
def aaM.rng {p:List Int} {d n:Int} (h:aaM b p d n):0≤n∧n<((Ë b).length+1:Nat):=by
 rcases h with⟨_,h⟩|⟨x,j,_,h1,h2⟩
 ·omega
 ·have:=(jU h1).1;omega
def aeS (h:Ğ b) {c:Cmp} (hc:c∈b.2.2.2.2.1):cx b c≠cy b c:=by
 have hl:=(h.lefts hc).2.2;rcases Sy h hc with⟨h1,h2⟩|⟨x,j,h1,h2,h3⟩
 ·rcases MM h hc with⟨g1,g2⟩|⟨y,k,g1,g2,g3⟩
  ·rw[h1,g1] at hl; simp at hl
  ·omega
 ·rcases MM h hc with⟨g1,g2⟩|⟨y,k,g1,g2,g3⟩
  ·omega
  ·intro e
   have:j=k:=by omega
   subst this;have e1:=(jU h2).2;have e2:=(jU g2).2;rw[e1] at e2;simp only[Option.some.injEq,Prod.mk.injEq] at e2
   have m1:x∈Ď c.2.2.1 c.2.2.2.1:=by rw[h1]; simp
   have m2:y∈Ď c.2.2.2.1 c.2.2.1:=by rw[g1]; simp
   rw[e2.1] at m1;exact(mJ.1 m1).2 (mJ.1 m2).1
def Vf (h:Ğ b):(Ý b).length=2*(Ë b).length+2*b.2.2.2.2.1.length:=by
 have h1:∀l:List ù,(∀g∈l,g∈b.2.1)→(l.flatMap (Ġ b)).length=2*(l.flatMap fun g=>(é b g).map fun d=>((g.1,d):Int×Int)).length:=by
  intro l
  induction l with
  |nil=>intro _; rfl
  |cons g t ih =>
   intro hm;have:=ih fun g hg=>hm g (by simp[hg]);have hp:=List.length_pos_of_mem (mg (b:=b) g);simp only[List.flatMap_cons,List.length_append,List.length_map,this];unfold Ġ;rw[List.length_append,jD _ _ (fun _=>rfl)];simp only[List.length_cons,List.length_nil];omega
 have h2:∀l:List Cmp,(l.flatMap (ĉ b)).length=2*l.length:=by
  intro l
  induction l with
  |nil=>rfl
  |cons c t ih =>
   simp only[dQ,cG,ih,ĉ,cN,dn];omega
 unfold Ý;rw[List.length_append,h1 _ fun _ h=>h,h2];rfl
def Ķ (h:Ğ b) {i:Nat} {g:ù} (hg:b.2.1[i]?=some g) {l:Lk}:l∈Ġ b g ↔
 l=(0,(off b i:Int)+1,g.2.2.1+g.2.2.2.1.2)∨l=((off b i:Int)+1,0,-(g.2.2.1+g.2.2.2.1.1)) ∨
 ∃(k:Nat) (d e:Int),(é b g)[k]?=some d∧(é b g)[k+1]?=some e∧(l=((off b i:Int)+k+1,(off b i:Int)+k+2,0)∨l=((off b i:Int)+k+2,(off b i:Int)+k+1,jP b g d e)):=by
 unfold Ġ;rw[aff h hg];simp only[List.mem_append,List.mem_cons,List.not_mem_nil,or_false,List.mem_flatMap,List.mem_range];constructor
 ·rintro((h1|h1)|⟨k,hk,h1⟩)
  ·exact .inl h1
  ·exact .inr (.inl h1)
  ·refine .inr (.inr ⟨k,(é b g)[k],(é b g)[k+1],cD (by omega),cD (by omega),?_⟩);rw[cD (show k<(é b g).length by omega),cD (show k+1<(é b g).length by omega)] at h1;simp only[fI] at h1
   have e1:(off b i:Int)+1+k=(off b i:Int)+k+1:=by omega
   have e2:(off b i:Int)+k+1+1=(off b i:Int)+k+2:=by omega
   rw[e1,e2] at h1;exact h1
 ·rintro(h1|h1|⟨k,d,e,hd,he,h1⟩)
  ·exact .inl (.inl h1)
  ·exact .inl (.inr h1)
  ·obtain⟨h2,rfl⟩:=cH.1 hd;obtain⟨h3,rfl⟩:=cH.1 he;refine .inr ⟨k,by omega,?_⟩;rw[hd,he];simp only[fI]
   have e1:(off b i:Int)+1+k=(off b i:Int)+k+1:=by omega
   have e2:(off b i:Int)+k+1+1=(off b i:Int)+k+2:=by omega
   rw[e1,e2];exact h1
def nV {l:Lk}:l∈Ý b↔(∃(i:Nat) (g:ù),b.2.1[i]?=some g∧l∈Ġ b g)∨∃c∈b.2.2.2.2.1,l=(cy b c,cx b c,(ω b c).2)∨l=(cx b c,cy b c,-(ω b c).1):=by
 unfold Ý;simp only[List.mem_append,List.mem_flatMap,ĉ,List.mem_cons,List.not_mem_nil,or_false];constructor
 ·rintro(⟨g,hg,h⟩|h)
  ·obtain⟨i,hi,rfl⟩:=cX.1 hg;exact .inl ⟨i,_,cD hi,h⟩
  ·exact .inr h
 ·rintro(⟨i,g,hg,h⟩|h)
  ·exact .inl ⟨g,cM hg,h⟩
  ·exact .inr h
def Ğ.sys (h:Ğ b):gW (Ý b) ((Ë b).length+1):=by
 have hN:=h.nodes;have hL:=h.links
 have key:∀l∈Ý b,((0≤l.1∧l.1<((Ë b).length+1:Nat))∧(0≤l.2.1∧l.2.1<((Ë b).length+1:Nat)))∧l.1≠l.2.1∧(-4503599627370496≤l.2.2∧l.2.2≤4503599627370496):=by
  intro l hl;rcases nV.1 hl with⟨i,g,hg,hl⟩|⟨c,hc,hl⟩
  ·have hgm:=cM hg;have hr:=h.gaugeR hgm;have ho:=af8 h hg;have hp:=List.length_pos_of_mem (mg (b:=b) g);have r1:=hr.2.2.2.2.2.1;have r2:=hr.2.2.2.2.2.2.1;rcases(Ķ h hg).1 hl with rfl|rfl|⟨k,d,e,hd,he,h1⟩
   ·dsimp only; omega
   ·dsimp only; omega
   ·obtain⟨h2,_⟩:=cH.1 he;have d1:=h.day hgm (cM hd);have lb:=uE h hgm (t:=e) d1.2.1;rcases h1 with rfl|rfl
    ·dsimp only; omega
    ·dsimp only; omega
  ·have a:=(Sy h hc).rng;have b':=(MM h hc).rng;have ne:=aeS h hc;have sb:=Kg h hc;rcases hl with rfl|rfl
   ·dsimp only; omega
   ·dsimp only; omega
 exact⟨by omega,by omega,by rw[Vf h]; omega,fun l hl=>(key l hl).1,fun l hl=>(key l hl).2.1,fun l hl=>(key l hl).2.2⟩
end
def qy (b:Ü) (x:List Int):Bool:=decide (x.length=(Ë b).length)&&x.all fun n=>inP n (-4503599627370496) 4503599627370496
def aab {m:Maker} {x:List Int} (hn:m.2.1.length≤1000000):jg m x=some (if decide (x.length=m.2.1.length)&&x.all fun n=>inP n (-4503599627370496) 4503599627370496 then 0 else 1):=by
 unfold jg lQ
 by_cases hl:x.length=m.2.1.length
 ·rw[Õ (by rw[á,á,hl]; simp[ine])];refine fG (gK x (fun n=>!inP n (-4503599627370496) 4503599627370496) (fun z=>ifb (ige z 0) (some 1) (some 0)) (some 1) (some 0) (fun j=>?_) (fun i a hi ha kn=>?_) (fun kn=>?_)) ?_
  ·rw[Þ (by simp[ige])]
  ·try dsimp only
   unfold gJ;rw[Ö hi,Ì ha,Ι,À,Ñ hi (by omega),Ĵ]
  ·try dsimp only
   unfold gJ;rw[ê]
  ·rw[show(x.any fun n=>!inP n (-4503599627370496) 4503599627370496)=!(x.all fun n=>inP n (-4503599627370496) 4503599627370496) from by rw[List.all_eq_not_any_not]; simp]
   cases(x.all fun n=>inP n (-4503599627370496) 4503599627370496)<;>simp[hl]
 ·rw[Þ (by rw[á,á]; simp[ine]; omega)];simp[hl]
def aeG (b:Ü) (x:List Int):Bool:=VC (Ý b) (0::x)
def zl (b:Ü) (x:List Int):Bool×Int:=if ß b≠0 then(false,ß b) else if qy b x then(aeG b x,0) else(false,1)
def Ug {b:Ü} (h:Ğ b) {x:List Int} (hx:qy b x=true) (src:List (Int×Int)):mf (b,Ë b,(((Ë b).length:Int)+1,Ý b),src) x=some (aeG b x):=by
 simp only[qy,Bool.and_eq_true,decide_eq_true_eq,List.all_eq_true,inP] at hx;have hN:=h.nodes;unfold mf rg;rw[ģ (Ø (by simp only[List.length_singleton]; omega))]
 have:=Wg h.sys (x:=[0]++x) (by simp; omega) (fun a ha=>by
  unfold ψ;rcases List.mem_append.1 ha with ha|ha
  ·simp at ha; omega
  ·have:=hx.2 a ha; omega)
 rw[show(((Ë b).length:Int)+1)=(((Ë b).length+1:Nat):Int) by push_cast; rfl]
 try dsimp only
 rw[this,À];unfold aeG;have e:gv ([0]++x) 0=0:=rfl;rw[e];simp
def SW {b:Ü} (hs:ke b) (hr:∀g∈b.2.1,I64 g.2.2.2.2.1.1) (x:List Int):kQ b x=some (zl b x):=by
 unfold kQ RZ zl;rw[Φ hs hr,À]
 by_cases hc:ß b=0
 ·have h:=(à b).1 hc;have hN:=h.nodes;rw[Õ (by simp[ine,hc]),QQ h,À,aab (by dsimp only; omega),À,if_neg (show ¬(ß b≠0) from fun h=>h hc)];rw[show(decide (x.length=(b,Ë b,(((Ë b).length:Int)+1,Ý b),ŕ b).2.1.length)&&x.all fun n=>inP n (-4503599627370496) 4503599627370496)=qy b x from rfl]
  cases hl:qy b x with
  |false=>rfl
  |true =>
   rw[if_pos rfl,Õ (by rfl),Ug h hl,À,if_pos rfl]
 ·rw[Þ (by simp[ine,hc]),if_pos hc]
def adr {ρ:Type}:@tZ ρ=@gQ ρ:=rfl
def adq {ρ:Type}:@tY ρ=@Œ ρ:=rfl
def adp {ρ:Type}:@tX ρ=@Ħ ρ:=rfl
def Vo {ρ:Type} {N:Nat} (hN:N≤1000) (x:Option ρ):ç ((ile (0:Int) (N:Int))&&(è N)) x=x:=by
 have:=ER hN x
 rwa [dc] at this
section
variable {L:List Lk} {N:Nat} {M:Int}
def abg {s:Int} (hs:0≤s∧s<N):(List.replicate N ψ).set s.toNat 0=tj (abM s) N:=by
 refine Y0 (by simp[Ć]) fun v h0 h1=>?_
 have hv:v<N:=by simpa using h1
 rw[iI _ h0 hv,xE hs.1 h0 (by simp; omega)];unfold abM
 by_cases h:v=s
 ·simp[h]
 ·simp only[h,if_false,beq_iff_eq];unfold gv;rw[List.getElem?_replicate]
  have:v.toNat<N:=by omega
  simp[this]
def ado (hL:iv L N M) (h1:1≤N) (hN:N≤200) (ho:Ő L N=true) {s:Int} (hs:0≤s∧s<N):yy ((N:Int),L) [] s=some (rz L N s):=by
 obtain⟨p,hp⟩:=(Μ hL hN).1 ho;unfold yy Gk;rw[adr,adq,adp];dsimp only;rw[ER (by omega),Int.toNat_natCast];refine Ą (List.replicate N (0:Int)) (fun i=>List.replicate i ψ++List.replicate (N-i) 0) _ (by simp) (fun i a hi ha kn=>?_) (fun kn=>?_)
 ·dsimp only;unfold nu
  have hiN:i<N:=by simpa using hi
  have hl:i<(List.replicate i ψ++List.replicate (N-i) (0:Int)).length:=by simp; omega
  rw[Ö hi,iH hl,Ū (cD hl),Ñ hiN (by omega),dc];congr 2;rw[List.set_append_right _ _ (by simp)]
  have:N-i=(N-(i+1))+1:=by omega
  rw[this,fC,Nat.sub_self,f0,List.set_cons_zero,List.replicate_succ'];simp
 ·try dsimp only
  unfold nu;rw[ê];dsimp only
  have e0:List.replicate (List.replicate N (0:Int)).length ψ++List.replicate (N-(List.replicate N (0:Int)).length) 0=List.replicate N ψ:=by simp
  rw[e0]
  have hlen:s.toNat<(List.replicate N ψ).length:=by simp; omega
  rw[show ą (List.replicate N ψ)=((N:Nat):Int) by simp[ą],iZ hs.1 hs.2,jF hlen,Vo (by omega),Vo (by omega),abg hs];refine fG (YX hL _) ?_
  have hS:∀v,abM s v=true→0≤v∧v<N:=fun v h=>by simp[abM] at h; subst h; exact hs
  refine abh (Ć _ _) (by omega) _ fun w q hw hq hr hwq hqs=>?_;have hs0:=OT hL h1 hS hw hq hr hwq hqs;refine Tn hL (aen hL hN) hp hS _ (fun x w t q hx hd=>?_) hs0
  have:x=rz L N s:=by
   refine Y0 (by rw[hx]; unfold rz; rw[ţ,Ć]) fun v a b=>?_;exact hd.uniq (i6 hL hN hp hs) a (by omega)
  dsimp only;rw[this]
def gV (L:List Lk) (N:Nat) (s t:Int):Int×Int :=
 if !Ő L N then(0,9) else if gv (rz L N s) t=ψ then(0,5) else(gv (rz L N s) t,0)
def afg (h:gW L N) {ns:List Int} (hn:∀n∈ns,0≤n∧n<N) (hl:ns.length≤1000):E8 ((N:Int),L) ns=some (if Ő L N then 0 else 9):=by
 have h2:=h.n60;unfold E8 Ll;rw[ji h,À];dsimp only;rw[Õ (by rfl)];refine Eq.trans (iX ns (fun _=>false) (fun _=>some 1) (some (if Ő L N then 0 else 9)) (fun i n hi hm kn=>?_) (fun kn=>?_)) ?_
 ·try dsimp only
  unfold qf;have a:=hn n (List.mem_of_getElem? hm)
  have e:(decide (0≤n)&&decide (n<(N:Int)))=true:=by simp[a.1,a.2]
  rw[Ö hi,Ì hm,KD,À,e,Ñ hi (by omega)];simp
 ·try dsimp only
  unfold qf;rw[ê,AH h.links h.n1 (by omega),À]
  cases Ő L N<;>rfl
 ·rw[ee.2 (by simp)]
def J1 (h:gW L N) {s t:Int} (hs:0≤s∧s<N) (ht:0≤t∧t<N):pb ((N:Int),L) s t=some (gV L N s t):=by
 have h2:=h.n60;unfold pb LA gV
 rw[afg h (fun n hn=>by simp at hn; rcases hn with rfl|rfl<;>assumption) (by simp),À]
 by_cases ho:Ő L N=true
 ·rw[if_pos ho,Õ (by rfl),ado h.links h.n1 (by omega) ho hs,À,m9 ht.1 (by unfold rz; rw[ţ,Ć]; omega),Ĵ,if_neg (show ¬(!Ő L N)=true by simp[ho])]
  by_cases hf:gv (rz L N s) t=ψ
  ·rw[if_pos (by simpa[ieq] using hf),if_pos hf]
  ·rw[if_neg (by simpa[ieq] using hf),if_neg hf]
 ·rw[if_neg ho,Þ (by rfl),if_pos (show(!Ő L N)=true by simpa using ho)]
end
def ë (b:Ü) (c:Cmp):Ü:=(b.1,b.2.1,b.2.2.1,b.2.2.2.1,b.2.2.2.2.1++[c],b.2.2.2.2.2)
def nJ:Ü:=((0,0),[],[],[],[],[])
def xX (b:Ü) (c:Cmp):Ü×Int:=if ß b≠0 then(nJ,ß b) else if ß (ë b c)≠0 then(nJ,ß (ë b c)) else(ë b c,0)
def abZ {b:Ü} (h:Ğ b) {c:Cmp} (hA:c.2.2.1.length≤1000) (hB:c.2.2.2.1.length≤1000):ke (ë b c):=by
 have hs:=h.size;have:=h.nC;refine⟨hs.gauges,hs.uses,hs.loans,by simp[ë]; omega,hs.looks,fun d hd=>?_⟩;rcases cI.1 (show d∈b.2.2.2.2.1++[c] from hd) with hd|hd
 ·exact hs.piles d hd
 ·simp at hd; subst hd; exact⟨hA,hB⟩
def adA {b:Ü} (hs:ke b) (hr:∀g∈b.2.1,I64 g.2.2.2.2.1.1) {c:Cmp} (hA:c.2.2.1.length≤1000) (hB:c.2.2.2.1.length≤1000):nE b c=some (xX b c):=by
 unfold nE RU xX;have h1:=hs.gauges; have h2:=hs.uses; have h3:=hs.loans; have h4:=hs.compares; have h5:=hs.looks;rw[Ø (by omega),Am.iff_true,Ø (by omega),Am.iff_true,Φ hs hr,À]
 by_cases hc:ß b=0
 ·have h:=(à b).1 hc;rw[Õ (by simp[ine,hc]),Ø (by omega),Am.iff_true,Ø (by omega),Am.iff_true,Ø (by omega),Am.iff_true,Ø (by omega),Am.iff_true,Ø (by omega),Am.iff_true,if_neg (show ¬(ß b≠0) from fun h=>h hc)];refine Ą b.2.2.2.2.1 (fun _=>b.2.2.2.2.1) _ rfl (fun i d hi hd kn=>?_) (fun kn=>?_)
  ·dsimp only;unfold uC;obtain⟨p1,p2⟩:=hs.piles d (List.mem_of_getElem? hd)
   have e1:b.2.2.2.2.1.set i d=b.2.2.2.2.1:=by
    obtain⟨h,rfl⟩:=cH.1 hd;exact gA h
   rw[Ö hi,iH hi,Ū hd,Ø (by omega),Am.iff_true,Ø (by omega),Am.iff_true,iH hi,Ū hd,dc];rw[show(d.1,d.2.1,d.2.2.1,d.2.2.2)=d from rfl,e1,iH hi,tv hd,Ñ hi (by omega)];rw[show(d.1,d.2.1,d.2.2.1,d.2.2.2.1,d.2.2.2.2)=d from rfl,e1]
  ·try dsimp only
   unfold uC;rw[ê];dsimp only;rw[Ø (by simp only[List.length_singleton]; omega),Am.iff_true];rw[show ñ (b.1,b.2.1,b.2.2.1,b.2.2.2.1,b.2.2.2.2.1++[c],b.2.2.2.2.2)=ñ (ë b c) from rfl,Φ (abZ h hA hB) hr,À]
   by_cases hc2:ß (ë b c)=0
   ·rw[Õ (by simp[ine,hc2]),if_neg (show ¬(ß (ë b c)≠0) from fun h=>h hc2)];rfl
   ·rw[Þ (by simp[ine,hc2]),if_pos hc2];rfl
 ·rw[Þ (by simp[ine,hc]),if_pos hc];rfl
def È (c:Cmp):Cmp:=(c.1,c.2.1,c.2.2.1,c.2.2.2.1,0,c.2.2.2.2.2)
def Xz (b:Ü) (c:Cmp):Int:=MT (Ľ b c).1+(j7 b c).1-c.2.2.2.2.2.1
def BW (b:Ü) (c:Cmp):Int:=(Ľ b c).2.1 / (Ľ b c).2.2+(j7 b c).2+c.2.2.2.2.2.1
def Ke (b:Ü) (c:Cmp) (s:Int×Int):(Int×Int)×Int:=if BW b c<Xz b c then((0,0),5) else((s.1+Xz b c,s.2+BW b c),0)
structure afm (b:Ü) (c:Cmp):Prop where
 nums:ZY c=true
 r1:tf (IL (oe b) (Ď c.2.2.1 c.2.2.2.1)) 1000 100
 r2:tf (IL (oe b) (Ď c.2.2.2.1 c.2.2.1)) 1000 100
def Ğ.cmp {b:Ü} (h:Ğ b) {c:Cmp} (hc:c∈b.2.2.2.2.1):afm b c:=⟨h.nums hc,(h.rates hc).1,(h.rates hc).2⟩
def Hp {b:Ü} (hf:0≤b.1.1∧b.1.1≤b.1.2∧b.1.2≤1000000) {c:Cmp} (h:afm b c):tf (Ľ b c).1 2000000000 10000∧tf (Ľ b c).2 2000000000 10000∧(-3000000000≤MT (Ľ b c).1+(j7 b c).1∧MT (Ľ b c).1+(j7 b c).1≤3000000000) ∧
 (-3000000000≤(Ľ b c).2.1 / (Ľ b c).2.2+(j7 b c).2∧(Ľ b c).2.1 / (Ľ b c).2.2+(j7 b c).2≤3000000000)∧(0≤c.2.2.2.2.2.1∧c.2.2.2.2.2.1≤1073741824):=by
 have hn:=(km c).1 h.nums;have ha:=Κ hn.2.2.2.2.2.1;have hb:=Κ hn.2.2.2.2.2.2;obtain⟨g1,g2⟩:=QF (Qe h.r1 h.r2) hn.2.2.2.2.1;have fb:=B5 (b:=b) (c:=c) (by omega) (by omega) (by omega) (by omega) (by omega) (by omega);have q1:tf (Ľ b c).1 2000000000 10000:=g1;have q2:tf (Ľ b c).2 2000000000 10000:=g2;have c1:=G7 q1;have c2:=B0 q2;exact⟨q1,q2,by omega,by omega,hn.2.2.2.1⟩
def ad4 {b:Ü} (hs:ke b) (hf:0≤b.1.1∧b.1.1≤b.1.2∧b.1.2≤1000000) {c:Cmp} (h:afm b c) {s:Int×Int} (h1 : -2305843009213693952≤s.1∧s.1≤2305843009213693952) (h2 : -2305843009213693952≤s.2∧s.2≤2305843009213693952):sY b c s=some (Ke b c s):=by
 have hn:=(km c).1 h.nums;have ha:=Κ hn.2.2.2.2.2.1;have hb:=Κ hn.2.2.2.2.2.2;obtain⟨q1,q2,b1,b2,b3⟩:=Hp hf h;unfold sY LV Ke Xz BW;rw[Vt hs (by omega) (by omega) h.r1 h.r2 hn.2.2.2.2.1,À,Y8 (by omega) (by omega) (by omega) (by omega) (by omega) (by omega),À,adL q1.rat,À,ZD q2.rat,À];dsimp only;rw[Û (by omega) (by omega),Û (by omega) (by omega),Û (by omega) (by omega),Û (by omega) (by omega),Ĵ]
 by_cases hlt:(Ľ b c).2.1 / (Ľ b c).2.2+(j7 b c).2+c.2.2.2.2.2.1<MT (Ľ b c).1+(j7 b c).1-c.2.2.2.2.2.1
 ·rw[if_pos (by simpa[igt] using hlt),if_pos hlt]
 ·rw[if_neg (by simpa[igt] using hlt),if_neg hlt,Û (by omega) (by omega),Û (by omega) (by omega)]
def ô (b:Ü):List Lk:=(Ý b).take ((Ý b).length-2)
def į (b:Ü) (c:Cmp):(Int×Int)×Int :=
 if (xX b (È c)).2≠0 then((0,0),(xX b (È c)).2) else
 if (gV (ô (ë b (È c))) ((Ë (ë b (È c))).length+1) (cy (ë b (È c)) (È c)) (cx (ë b (È c)) (È c))).2≠0 then
  ((0,0),(gV (ô (ë b (È c))) ((Ë (ë b (È c))).length+1) (cy (ë b (È c)) (È c)) (cx (ë b (È c)) (È c))).2) else
 if (gV (ô (ë b (È c))) ((Ë (ë b (È c))).length+1) (cx (ë b (È c)) (È c)) (cy (ë b (È c)) (È c))).2≠0 then
  ((0,0),(gV (ô (ë b (È c))) ((Ë (ë b (È c))).length+1) (cx (ë b (È c)) (È c)) (cy (ë b (È c)) (È c))).2) else
 Ke b (È c) (-(gV (ô (ë b (È c))) ((Ë (ë b (È c))).length+1) (cx (ë b (È c)) (È c)) (cy (ë b (È c)) (È c))).1,
  (gV (ô (ë b (È c))) ((Ë (ë b (È c))).length+1) (cy (ë b (È c)) (È c)) (cx (ë b (È c)) (È c))).1)
def Wj {L:List Lk} {N:Nat} (h:gW L N) {s t:Int} (hs:0≤s∧s<N) (ht:0≤t∧t<N) : -2305843009213693952≤(gV L N s t).1∧(gV L N s t).1≤2305843009213693952:=by
 unfold gV;have h2:=h.n60
 split
 ·simp
 ·rename_i ho
  have ho':Ő L N=true:=by simpa using ho
  obtain⟨p,hp⟩:=(Μ h.links (by omega)).1 ho';have hd:=i6 h.links (by omega) hp hs
  split
  ·simp
  ·rename_i hne;dsimp only;have hb:=hd.bd t ht.1 ht.2;obtain⟨vs,hw⟩:=hd.att t ht.1 ht.2 hne;have h3:=hw.low' hp;have h4:=QM (L:=L) (fun l hl=>(h.most l hl).1) (M:=4503599627370496) (by omega);have h5:=h.len;unfold ψ at hb
   constructor<;>omega
def aaL {b:Ü} (hs:ke b) (hr:∀g∈b.2.1,I64 g.2.2.2.2.1.1) {c:Cmp} (hA:c.2.2.1.length≤1000) (hB:c.2.2.2.1.length≤1000):uP b c=some (į b c):=by
 unfold uP BS į;rw[show nE b (c.1,c.2.1,c.2.2.1,c.2.2.2.1,0,c.2.2.2.2.2)=nE b (È c) from rfl,adA hs hr (c:=È c) hA hB,À]
 by_cases hw:(xX b (È c)).2=0
 ·rw[Õ (by simp[ine,hw]),if_neg (show ¬((xX b (È c)).2≠0) from fun h=>h hw)]
  -- the book is valid, and so is the greater one
  have hb:ß b=0:=by
   unfold xX at hw
   split at hw
   ·rename_i h; exact(h hw).elim
   ·rename_i h; simpa using h
  have hm:ß (ë b (È c))=0:=by
   unfold xX at hw;rw[if_neg (by simp[hb])] at hw
   split at hw
   ·rename_i h; exact(h hw).elim
   ·rename_i h; simpa using h
  have he:xX b (È c)=(ë b (È c),0):=by
   unfold xX;rw[if_neg (by simp[hb]),if_neg (by simp[hm])]
  have g:=(à b).1 hb;have gm:=(à _).1 hm
  have hmem:È c∈(ë b (È c)).2.2.2.2.1:=by simp[ë]
  have hN:=gm.nodes;have hll:=Vf gm
  have hcl:(ë b (È c)).2.2.2.2.1.length=b.2.2.2.2.1.length+1:=by simp[ë]
  have hlk:=gm.links;have hsys:gW (ô (ë b (È c))) ((Ë (ë b (È c))).length+1):=gm.sys.sub (fun l hl=>List.mem_of_mem_take hl) (by unfold ô; rw[List.length_take]; omega);have hx:=(Sy gm hmem).rng;have hy:=(MM gm hmem).rng;have lA:c.2.2.1.length≤1000:=hA;rw[he];dsimp only;rw[QQ gm,À];dsimp only;rw[á,Û (by omega) (by omega)]
  have e1:((ile (0:Int) (((Ý (ë b (È c))).length:Int)-2))&&(ile (((Ý (ë b (È c))).length:Int)-2) (ą (Ý (ë b (È c))))))=true:=by
   simp[ile,ą]; omega
  have e2:(((Ý (ë b (È c))).length:Int)-2).toNat=(Ý (ë b (È c))).length-2:=by omega
  rw[ģ e1,ri (by omega) (by omega),À,adu _ _ _ (by dsimp only; omega),À,ri (by omega) (by omega),À,adu _ _ _ (by dsimp only; omega),À,e2]
  have e3:(((Ë (ë b (È c))).length:Int)+1)=(((Ë (ë b (È c))).length+1:Nat):Int):=by push_cast; rfl
  rw[e3];rw[show List.take ((Ý (ë b (È c))).length-2) (Ý (ë b (È c)))=ô (ë b (È c)) from rfl];dsimp only;rw[show atP (Ë (ë b (È c))) (Ď c.2.2.1 c.2.2.2.1) c.2.1=cx (ë b (È c)) (È c) from rfl,show atP (Ë (ë b (È c))) (Ď c.2.2.2.1 c.2.2.1) c.2.1=cy (ë b (È c)) (È c) from rfl];rw[J1 hsys hy hx,À,J1 hsys hx hy];have b1:=Wj hsys hy hx;have b2:=Wj hsys hx hy;generalize hB1:gV (ô (ë b (È c))) ((Ë (ë b (È c))).length+1) (cy (ë b (È c)) (È c)) (cx (ë b (È c)) (È c))=B1 at b1 ⊢;generalize hB2:gV (ô (ë b (È c))) ((Ë (ë b (È c))).length+1) (cx (ë b (È c)) (È c)) (cy (ë b (È c)) (È c))=B2 at b2 ⊢
  by_cases h1:B1.2=0
  ·rw[Õ (by simp[ine,h1]),if_neg (show ¬(B1.2≠0) from fun h=>h h1),À]
   by_cases h2:B2.2=0
   ·rw[Õ (by simp[ine,h2]),if_neg (show ¬(B2.2≠0) from fun h=>h h2),Û (by omega) (by omega)];have hck:afm b (È c):=⟨(gm.cmp hmem).nums,(gm.cmp hmem).r1,(gm.cmp hmem).r2⟩;rw[show sY b (c.1,c.2.1,c.2.2.1,c.2.2.2.1,0,c.2.2.2.2.2) (0-B2.1,B1.1)=sY b (È c) (0-B2.1,B1.1) from rfl,ad4 g.size g.film hck (by dsimp only; omega) (by dsimp only; omega),À,Int.zero_sub]
   ·rw[Þ (by simp[ine,h2]),if_pos h2]
  ·rw[Þ (by simp[ine,h1]),if_pos h1]
 ·rw[Þ (by simp[ine,hw]),if_pos hw]
structure In (b:Ü):Prop where
 size:ke b
 num:∀g∈b.2.1,I64 g.2.2.2.2.1.1
def SV (b:Ü):Sys×List (Int×Int)×Int:=if ß b≠0 then((0,[]),[],ß b) else((((Ë b).length:Int)+1,Ý b),ŕ b,0)
def pm {b:Ü} (h:In b):Đ b=some (SV b):=by
 unfold Đ GC SV;rw[Φ h.size h.num,À]
 by_cases hc:ß b=0
 ·rw[Õ (by simp[ine,hc]),QQ ((à b).1 hc),À,if_neg (show ¬(ß b≠0) from fun h=>h hc)]
 ·rw[Þ (by simp[ine,hc]),if_pos hc]
def cmp0:Cmp:=(0,0,[],[],0,0,0,0)
def rA (b:Ü) (i:Int):Cmp×Int:=if ß b≠0 then(cmp0,ß b) else if i<0∨(b.2.2.2.2.1.length:Int)≤i then(cmp0,1) else(b.2.2.2.2.1[i.toNat]?.getD cmp0,0)
def adU {b:Ü} (h:In b) (i:Int):Fc b i=some (rA b i):=by
 unfold Fc LS rA;rw[Φ h.size h.num,À]
 by_cases hc:ß b=0
 ·rw[Õ (by simp[ine,hc]),if_neg (show ¬(ß b≠0) from fun h=>h hc),á]
  by_cases h1:i<0
  ·rw[Þ (by simp[ilt,h1]),if_pos (.inl h1)]; rfl
  ·rw[Õ (by simp[ilt]; omega)]
   by_cases h2:(b.2.2.2.2.1.length:Int)≤i
   ·rw[Þ (by simp[ige,h2]),if_pos (.inr h2)]; rfl
   ·rw[Õ (by simp[ige]; omega),if_neg (by omega)];obtain⟨j,rfl⟩:=fN (show 0≤i by omega)
    have hj:j<b.2.2.2.2.1.length:=by omega
    rw[Ì (cD hj),dc,cD hj];rfl
 ·rw[Þ (by simp[ine,hc]),if_pos hc]; rfl
def Ws {b:Ü} {i:Int} (h:(rA b i).2=0):Ğ b∧(rA b i).1∈b.2.2.2.2.1∧b.2.2.2.2.1[i.toNat]?=some (rA b i).1∧0≤i:=by
 unfold rA at h ⊢
 split at h
 ·rename_i hc; exact(hc h).elim
 ·rename_i hc
  have hc0:ß b=0:=by simpa using hc
  split at h
  ·simp at h
  ·rename_i hi
   have hj:i.toNat<b.2.2.2.2.1.length:=by omega
   rw[if_neg hc,if_neg hi,cD hj];exact⟨(à b).1 hc0,dP hj,rfl,by omega⟩
def afj (b:Ü) (i:Int):(Int×Int)×Int:=if (rA b i).2≠0 then((0,0),(rA b i).2) else(ω b (rA b i).1,0)
def agQ {b:Ü} (h:In b) (i:Int):JW b i=some (afj b i):=by
 unfold JW RW afj;rw[adU h,À]
 by_cases hw:(rA b i).2=0
 ·obtain⟨g,hm,_,_⟩:=Ws hw;rw[Õ (by simp[ine,hw]),g.says hm,À,if_neg (show ¬((rA b i).2≠0) from fun h=>h hw)]
 ·rw[Þ (by simp[ine,hw]),if_pos hw]
def exB:Ü:=((0,2),[(1,0,1000,(-5,5),(1,10),1),(2,0,1000,(-50,50),(1,4),0)],[(1,10)],[(1,(20,29),3)],[(7,10,[1],[2],-20,1,100,200)],[])
def xO:In exB:=⟨⟨by decide,by decide,by decide,by decide,by decide,by decide⟩,by
 intro g hg;simp[exB] at hg
 rcases hg with rfl|rfl<;>exact⟨by decide,by decide⟩⟩
def exC:Cmp:=(8,10,[1],[2],0,0,0,0)
def jC (b:Ü) (x d:Int):Int:=match jk (Ë b) x d with|some j=>(j:Int)+1|none=>0
def vM (b:Ü) (n:Int×Int):Int×Int:=if ß b≠0 then(0,ß b) else if jC b n.1 n.2=0 then(0,5) else(jC b n.1 n.2,0)
def tg {b:Ü} (h:In b) (n:Int×Int):ĝ b n=some (vM b n):=by
 have hl:=FP h.size;unfold ĝ Mb vM;rw[Φ h.size h.num,À]
 by_cases hc:ß b=0
 ·rw[Õ (by simp[ine,hc]),if_neg (show ¬(ß b≠0) from fun h=>h hc),QI h.size,À,show ö (Ë b) n=ö (Ë b) (n.1,n.2) from rfl,Wc (by omega),À];unfold jC
  cases hx:jk (Ë b) n.1 n.2 with
  |none=>rfl
  |some j =>
   have:=(jU hx).1;simp only;rw[Õ (by simp[ilt]),Û (by omega) (by omega),if_neg (by omega)]
 ·rw[Þ (by simp[ine,hc]),if_pos hc]
def ki (b:Ü) (n:Int×Int):Ü:=(b.1,b.2.1,b.2.2.1,b.2.2.2.1,b.2.2.2.2.1,b.2.2.2.2.2++[n])
def acd {b:Ü} (h:Ğ b) (n:Int×Int):ke (ki b n):=by
 have hs:=h.size;have:=h.nK;exact⟨hs.gauges,hs.uses,hs.loans,hs.compares,by simp[ki]; omega,hs.piles⟩
def Ju (b:Ü) (n:Int×Int):Ü×Int:=if ß b≠0 then(nJ,ß b) else if ß (ki b n)≠0 then(nJ,ß (ki b n)) else(ki b n,0)
def Yb {b:Ü} (h:In b) (n:Int×Int):ŷ b n=some (Ju b n):=by
 have hs:=h.size;have h1:=hs.gauges; have h2:=hs.uses; have h3:=hs.loans; have h4:=hs.compares; have h5:=hs.looks;unfold ŷ RX Ju;rw[Φ hs h.num,À]
 by_cases hc:ß b=0
 ·have hg:=(à b).1 hc;rw[Õ (by simp[ine,hc]),Ø (by omega),Am.iff_true,Ø (by omega),Am.iff_true,Ø (by omega),Am.iff_true,Ø (by omega),Am.iff_true,Ø (by omega),Am.iff_true,if_neg (show ¬(ß b≠0) from fun h=>h hc)];refine Ą b.2.2.2.2.1 (fun _=>b.2.2.2.2.1) _ rfl (fun i d hi hd kn=>?_) (fun kn=>?_)
  ·dsimp only;unfold uD;obtain⟨p1,p2⟩:=hs.piles d (List.mem_of_getElem? hd)
   have e1:b.2.2.2.2.1.set i d=b.2.2.2.2.1:=by
    obtain⟨h,rfl⟩:=cH.1 hd;exact gA h
   rw[Ö hi,iH hi,Ū hd,Ø (by omega),Am.iff_true,Ø (by omega),Am.iff_true,iH hi,Ū hd,dc];rw[show(d.1,d.2.1,d.2.2.1,d.2.2.2)=d from rfl,e1,iH hi,tv hd,Ñ hi (by omega)];rw[show(d.1,d.2.1,d.2.2.1,d.2.2.2.1,d.2.2.2.2)=d from rfl,e1]
  ·try dsimp only
   unfold uD;rw[ê];dsimp only;rw[Ø (by simp only[List.length_singleton]; omega),Am.iff_true];rw[show ñ (b.1,b.2.1,b.2.2.1,b.2.2.2.1,b.2.2.2.2.1,b.2.2.2.2.2++[n])=ñ (ki b n) from rfl,Φ (acd hg n) h.num,À]
   by_cases hc2:ß (ki b n)=0
   ·rw[Õ (by simp[ine,hc2]),if_neg (show ¬(ß (ki b n)≠0) from fun h=>h hc2)];rfl
   ·rw[Þ (by simp[ine,hc2]),if_pos hc2];rfl
 ·rw[Þ (by simp[ine,hc]),if_pos hc];rfl
def Fw {b:Ü} {x:List Int}:zl b x=(true,0)↔Ğ b∧qy b x=true∧aeG b x=true:=by
 unfold zl;constructor
 ·intro h
  split at h
  ·cases h
  ·rename_i hc
   have hc0:ß b=0:=by simpa using hc
   split at h
   ·rename_i hl;simp only[Prod.mk.injEq,and_true] at h;exact⟨(à b).1 hc0,hl,h⟩
   ·cases h
 ·rintro⟨h1,h2,h3⟩;rw[if_neg (by simp[(à b).2 h1]),if_pos h2,h3]
def Im {b:Ü} {x:List Int}:qy b x=true↔x.length=(Ë b).length∧∀n∈x,-4503599627370496≤n∧n≤4503599627370496:=by
 simp[qy,inP]
def VA {L:List Lk} {x:List Int}:VC L x=true↔Pot L (gv x):=by
 simp only[VC,di,decide_eq_true_eq,Pot];exact⟨fun h u v m hl=>h (u,v,m) hl,fun h l hl=>h l.1 l.2.1 l.2.2 hl⟩
def agk (a:Int) (x:List Int) {v:Int} (hv:0≤v):gv (a::x) v=if v=0 then a else gv x (v-1):=by
 unfold gv
 by_cases h:v=0
 ·subst h; rfl
 ·obtain⟨n,rfl⟩:=fN hv
  cases n with
  |zero=>simp at h
  |succ n =>
   have e:(((n+1:Nat):Int)-1).toNat=n:=by omega
   rw[if_neg h,e];simp
section
variable {b:Ü}
def af9:off b b.2.1.length=(Ë b).length:=by unfold off Ë; rw[List.take_length]
def aek:∀n,n≤b.2.1.length→∀j,j<off b n→∃(i:Nat) (g:ù) (k:Nat),b.2.1[i]?=some g∧k<(é b g).length∧j=off b i+k:=by
 intro n
 induction n with
 |zero=>intro _ j hj; simp[off] at hj
 |succ n ih =>
  intro hn j hj;have hg:b.2.1[n]?=some b.2.1[n]:=cD (by omega);rw[aej hg] at hj
  by_cases h:j<off b n
  ·exact ih (by omega) j h
  ·exact⟨n,_,j-off b n,hg,by omega,by omega⟩
def Pb {v:Int} (h0:1≤v) (h1:v<((Ë b).length+1:Nat)):∃(i:Nat) (g:ù) (k:Nat),b.2.1[i]?=some g∧k<(é b g).length∧v=(off b i:Int)+k+1:=by
 obtain⟨i,g,k,h2,h3,h4⟩:=aek (b:=b) b.2.1.length (cE _) (v-1).toNat (by rw[af9]; omega);exact⟨i,g,k,h2,h3,by omega⟩
def GL (b:Ü) (L:List Lk):Prop:=∀(i:Nat) (g:ù),b.2.1[i]?=some g→∀l∈Ġ b g,l∈L
def Y1:GL b (Ý b):=fun i g hg l hl=>nV.2 (.inl ⟨i,g,hg,hl⟩)
def abb {L:List Lk} (h:Ğ b) (hL:GL b L) {v:Int} (h0:0≤v) (h1:v<((Ë b).length+1:Nat)):∃vs d,Wl L (fun u=>u=0) vs v d∧d≤4503599627370496:=by
 by_cases hv:v=0
 ·exact⟨[],0,.nil hv,by omega⟩
 obtain⟨i,g,k,hg,hk,rfl⟩:=Pb (by omega) h1;have hr:=h.gaugeR (cM hg);have r1:=hr.2.2.2.2.2.1;have r2:=hr.2.2.2.2.2.2.1
 have key:∀k:Nat,k<(é b g).length→∃vs,Wl L (fun u=>u=0) vs ((off b i:Int)+k+1) (g.2.2.1+g.2.2.2.1.2):=by
  intro k
  induction k with
  |zero =>
   intro _;have hw:Wl L (fun u=>u=0) [0] ((off b i:Int)+1) (0+(g.2.2.1+g.2.2.2.1.2)):=Wl.step (.nil rfl) (hL i g hg _ ((Ķ h hg).2 (.inl rfl)));rw[Int.zero_add] at hw;exact⟨[0],by simpa using hw⟩
  |succ k ih =>
   intro hk;obtain⟨vs,hw⟩:=ih (by omega);have hw':=Wl.step hw (hL i g hg _ ((Ķ h hg).2 (.inr (.inr ⟨k,_,_,cD (show k<_ by omega),cD hk,.inl rfl⟩))));rw[gg] at hw'
   have e:(off b i:Int)+((k+1:Nat):Int)+1=(off b i:Int)+k+2:=by push_cast; omega
   exact⟨_,by rw[e]; exact hw'⟩
 obtain⟨vs,hw⟩:=key k hk;exact⟨vs,_,hw,by omega⟩
def Tg {L:List Lk} (h:Ğ b) (hL:GL b L) {v:Int} (h0:0≤v) (h1:v<((Ë b).length+1:Nat)):∃vs d,Wl L (fun u=>u=v) vs 0 d∧d≤4503599627370496:=by
 by_cases hv:v=0
 ·exact⟨[],0,.nil hv.symm,by omega⟩
 obtain⟨i,g,k,hg,hk,rfl⟩:=Pb (by omega) h1;have hgm:=cM hg;have hr:=h.gaugeR hgm;have r1:=hr.2.2.2.2.2.1;have r2:=hr.2.2.2.2.2.2.1;have hd:=Sv h hgm
 have key:∀m:Nat,m≤k→∃vs d,Wl L (fun u=>u=(off b i:Int)+k+1) vs ((off b i:Int)+(k-m:Nat)+1) d∧d≤m*(12*(20001*1048576)+40*1048576):=by
  intro m
  induction m with
  |zero=>intro _; exact⟨[],0,.nil (by simp),by simp⟩
  |succ m ih =>
   intro hm;obtain⟨vs,d,hw,hd⟩:=ih (by omega)
   have e1:((k-m:Nat):Int)=((k-(m+1):Nat):Int)+1:=by omega
   have hl:(((off b i:Int)+(k-(m+1):Nat)+2,(off b i:Int)+(k-(m+1):Nat)+1,jP b g ((é b g)[k-(m+1)]'(by omega)) ((é b g)[k-(m+1)+1]'(by omega))):Lk)∈L :=
    hL i g hg _ ((Ķ h hg).2 (.inr (.inr ⟨k-(m+1),_,_,cD (by omega),cD (by omega),.inr rfl⟩)))
   have hb:=uE h hgm (f:=(é b g)[k-(m+1)]'(by omega)) (t:=(é b g)[k-(m+1)+1]'(by omega)) (h.day hgm (dP _)).2.1
   have e2:(off b i:Int)+(k-m:Nat)+1=(off b i:Int)+(k-(m+1):Nat)+2:=by omega
   rw[e2] at hw;exact⟨_,_,.step hw hl,by push_cast; omega⟩
 obtain⟨vs,d,hw,hdb⟩:=key k (cE _)
 have e:(off b i:Int)+(k-k:Nat)+1=(off b i:Int)+1:=by omega
 rw[e] at hw;have hw':=Wl.step hw (hL i g hg _ ((Ķ h hg).2 (.inr (.inl rfl))));exact⟨_,_,hw',by omega⟩
end
structure Jt (L:List Lk) (N:Nat):Prop where
 to:∀v:Int,0≤v→v<N→∃vs d,Wl L (fun u=>u=0) vs v d∧d≤4503599627370496
 from':∀v:Int,0≤v→v<N→∃vs d,Wl L (fun u=>u=v) vs 0 d∧d≤4503599627370496
def Ğ.tied {b:Ü} (h:Ğ b):Jt (Ý b) ((Ë b).length+1):=⟨fun v h0 h1=>abb h Y1 h0 h1,fun v h0 h1=>Tg h Y1 h0 h1⟩
def Ğ.tiedL {b:Ü} {L:List Lk} (h:Ğ b) (hL:GL b L):Jt L ((Ë b).length+1):=⟨fun v h0 h1=>abb h hL h0 h1,fun v h0 h1=>Tg h hL h0 h1⟩
section
variable {L:List Lk} {N:Nat}
def T2 {L:List Lk} {s:Int} {vs:List Int} {v d:Int}:Wl L (fun v=>abM s v=true) vs v d↔Wl L (fun u=>u=s) vs v d :=
 ⟨fun h=>h.mono fun u hu=>by simpa[abM] using hu,fun h=>h.mono fun u hu=>by simpa[abM] using hu⟩
def X6 (h:gW L N) (ho:Ő L N=true) {v:Int} (h0:0≤v) (h1:v<N):gv (rz L N v) v=0:=by
 have h2:=h.n60;obtain⟨p,hp⟩:=(Μ h.links (by omega)).1 ho;have hd:=i6 h.links (by omega) hp (s:=v) ⟨h0,h1⟩;have h3:=hd.low v [] 0 (.nil (by simp[abM]));obtain⟨vs,hw⟩:=hd.att v h0 h1 (by unfold ψ; omega);obtain⟨s,hs,hx⟩:=(T2.1 hw).pot hp;subst hs;omega
end
def aaG {b:Ü}:∀i,i≤b.2.2.2.2.1.length→((b.2.2.2.2.1.take i).flatMap (ĉ b)).length=2*i∧(((b.2.2.2.2.1.take i).mapIdx fun i _=>[((3:Int),(i:Int)),((3:Int),(i:Int))]).flatten).length=2*i:=by
 intro i
 induction i with
 |zero=>intro _; simp
 |succ i ih =>
  intro hi;have ih:=ih (by omega);have hg:b.2.2.2.2.1[i]?=some b.2.2.2.2.1[i]:=cD hi;rw[lz _ hg,take_succ hg,ft,fK,cG,cG];simp only[dQ,List.flatMap_nil,dE,gn,gq,ĉ,cN,dn];omega
section
variable {L:List Lk} {N:Nat}
def Fx (h:gW L N):þ ((N:Int),L)=some (Ő L N,0):=by
 have h2:=h.n60;unfold þ qY;rw[ji h,À];dsimp only;rw[Õ (by rfl),AH h.links h.n1 (by omega),À]
 cases Ő L N<;>rfl
end
def iQ (b:Ü) (n:Int×Int):Ü×Int:=if jC b n.1 n.2≠0 then(b,0) else if ß (ki b n)≠0 then(nJ,ß (ki b n)) else(ki b n,0)
def ũ:Ü→List (Int×Int)→Ü×Int
 |b,[]=>(b,0)
 |b,n::t=>if (iQ b n).2≠0 then(nJ,(iQ b n).2) else ũ (iQ b n).1 t
def Č (b:Ü) (ns:List (Int×Int)):Ü×Int :=
 if ß b≠0 then(nJ,ß b) else if (ũ b ns).2≠0 then(nJ,(ũ b ns).2) else
 if Ő (Ý (ũ b ns).1) ((Ë (ũ b ns).1).length+1) then((ũ b ns).1,0) else(nJ,9)
def Tk {b:Ü} (h:Ğ b) {n:Int×Int} (e:(iQ b n).2=0):Ğ (iQ b n).1:=by
 unfold iQ at e ⊢
 split
 ·exact h
 ·rename_i h1;rw[if_neg h1] at e
  split
  ·rename_i h2;rw[if_pos h2] at e;exact absurd e h2
  ·rename_i h2;exact(à _).1 (by simpa using h2)
def Wz {b:Ü} {n:Int×Int} (e:(iQ b n).2=0):(iQ b n).1.2.1=b.2.1:=by
 unfold iQ at e ⊢
 split
 ·rfl
 ·rename_i h1;rw[if_neg h1] at e
  split
  ·rename_i h2;rw[if_pos h2] at e;exact absurd e h2
  ·rfl
def Kh:∀{ns:List (Int×Int)} {b:Ü},Ğ b→(ũ b ns).2=0→Ğ (ũ b ns).1
 |[],b,h,_=>h
 |n::t,b,h,e=>by
  unfold ũ at e ⊢
  split
  ·rename_i h1; rw[if_pos h1] at e; exact absurd e h1
  ·rename_i h1;rw[if_neg h1] at e;exact Kh (Tk h (by simpa using h1)) e
def tp:∀{ns:List (Int×Int)} {b:Ü},(ũ b ns).2=0→(ũ b ns).1.2.1=b.2.1
 |[],b,_=>rfl
 |n::t,b,e=>by
  unfold ũ at e ⊢
  split
  ·rename_i h1; rw[if_pos h1] at e; exact absurd e h1
  ·rename_i h1;rw[if_neg h1] at e;rw[tp e,Wz (by simpa using h1)]
def Ğ.inn {b:Ü} (h:Ğ b) (hn:∀g∈b.2.1,I64 g.2.2.2.2.1.1):In b:=⟨h.size,hn⟩
def i7 {b:Ü} (h:Ğ b):SV b=((((Ë b).length:Int)+1,Ý b),ŕ b,0):=by
 unfold SV;rw[if_neg (by simp[(à b).2 h])]
def po {b:Ü} (h:Ğ b) (n:Int×Int):vM b n=if jC b n.1 n.2=0 then(0,5) else(jC b n.1 n.2,0):=by
 unfold vM;rw[if_neg (by simp[(à b).2 h])]
abbrev Flat:Type:=Int×Int×List ù×List (Int×Int)×List JZ×List Cmp×List (Int×Int)
def flat (b:Ü):Flat:=(b.1.1,b.1.2,b.2.1,b.2.2.1,b.2.2.2.1,b.2.2.2.2.1,b.2.2.2.2.2)
def uJ (b:Ü):(((flat b).1,(flat b).2.1),(flat b).2.2)=b:=rfl
section
variable {ρ:Type}
def aeb (ns:List (Int×Int)) (E1:Int×Flat→Option ρ) (K1:Flat→Option ρ) (b:Ü):Option ρ :=
 Í (fun(v:Int×Flat) kk=>ā (Ô ns) ns v.1 v.2.1 v.2.2.1 v.2.2.2.1 v.2.2.2.2.1 v.2.2.2.2.2.1 v.2.2.2.2.2.2.1 v.2.2.2.2.2.2.2 (fun u1 u2 u3 u4 u5 u6 u7 u8=>kk (u1,u2,u3,u4,u5,u6,u7,u8)) (fun z=>E1 z) (fun z=>K1 z)) ((0:Int),b.1.1,b.1.2,b.2.1,b.2.2.1,b.2.2.2.1,b.2.2.2.2.1,b.2.2.2.2.2)
def abv {ns:List (Int×Int)} (hl:ns.length≤1000) {E1:Int×Flat→Option ρ} {K1:Flat→Option ρ} (R:Int→Option ρ) (h1:∀z,z.1≠0→E1 z=R z.1) {b:Ü} (hg:Ğ b) (hn:∀g∈b.2.1,I64 g.2.2.2.2.1.1) :
 aeb ns E1 K1 b=if (ũ b ns).2≠0 then R (ũ b ns).2 else K1 (flat (ũ b ns).1):=by
 unfold aeb
 refine JQ ns (fun(i:Nat) (s:Flat) (t:List (Int×Int))=>if (ũ ((s.1,s.2.1),s.2.2) t).2≠0 then R (ũ ((s.1,s.2.1),s.2.2) t).2 else K1 (flat (ũ ((s.1,s.2.1),s.2.2) t).1))
  (fun i s=>Ğ ((s.1,s.2.1),s.2.2)∧∀g∈s.2.2.1,I64 g.2.2.2.2.1.1) (fun s hs kn=>?_) (fun i n t s hd hi ha hs kn hk=>?_) (s:=flat b) ⟨hg,hn⟩
 ·dsimp only;unfold ā;rw[ê];rfl
 ·dsimp only;unfold ā;obtain⟨hs1,hs2⟩:=hs;have hin:In ((s.1,s.2.1),s.2.2):=hs1.inn hs2;rw[Ö hi,iH hi,Ū ha];rw[show ĝ ((s.1,s.2.1),s.2.2.1,s.2.2.2.1,s.2.2.2.2.1,s.2.2.2.2.2.1,s.2.2.2.2.2.2) n=ĝ ((s.1,s.2.1),s.2.2) n from rfl,tg hin,À];rw[show ŷ ((s.1,s.2.1),s.2.2.1,s.2.2.2.1,s.2.2.2.2.1,s.2.2.2.2.2.1,s.2.2.2.2.2.2) n=ŷ ((s.1,s.2.1),s.2.2) n from rfl,Yb hin,À];rw[po hs1];generalize hB:(((s.1,s.2.1),s.2.2):Ü)=B at hs1 hin ⊢
  have hu:ũ B (n::t)=if (iQ B n).2≠0 then(nJ,(iQ B n).2) else ũ (iQ B n).1 t:=rfl
  rw[hu]
  by_cases h0:jC B n.1 n.2=0
  ·rw[if_pos h0,Õ (by rfl)]
   by_cases h2:ß (ki B n)=0
   ·have e:iQ B n=(ki B n,0):=by unfold iQ; rw[if_neg (by simp[h0]),if_neg (by simp[h2])]
    have e2:Ju B n=(ki B n,0):=by unfold Ju; rw[if_neg (by simp[(à B).2 hs1]),if_neg (by simp[h2])]
    rw[e2,e,Õ (by rfl),Ñ hi (by omega),if_neg (show ¬((0:Int)≠0) by simp)];subst hB;exact hk (s.1,s.2.1,s.2.2.1,s.2.2.2.1,s.2.2.2.2.1,s.2.2.2.2.2.1,s.2.2.2.2.2.2++[n]) ⟨(à _).1 h2,hs2⟩
   ·have e:iQ B n=(nJ,ß (ki B n)):=by unfold iQ; rw[if_neg (by simp[h0]),if_pos h2]
    have e2:Ju B n=(nJ,ß (ki B n)):=by unfold Ju; rw[if_neg (by simp[(à B).2 hs1]),if_pos h2]
    rw[e2,e,Þ (by simp[ine,h2]),if_pos h2,if_pos h2];exact h1 _ h2
  ·have e:iQ B n=(B,0):=by unfold iQ; rw[if_pos h0]
   rw[if_neg h0,Þ (by rfl),Ñ hi (by omega),e,if_neg (show ¬((0:Int)≠0) by simp)];subst hB;exact hk s ⟨hs1,hs2⟩
def pC {b:Ü} (hI:In b) {ns:List (Int×Int)} (hl:ns.length≤1000) {E0:Int→Option ρ} {E1:Int×Flat→Option ρ} {E2:Flat→Sys×List (Int×Int)×Int→Option ρ} {E3:Flat→Sys×List (Int×Int)×Int→Bool×Int→Option ρ}
 {K:Flat→Sys×List (Int×Int)×Int→Bool×Int→Option ρ} (R:Int→Option ρ) (h0:∀e,e≠0→E0 e=R e) (h1:∀z,z.1≠0→E1 z=R z.1) (h3:∀z s r,E3 z s r=R 9) :
 Â (ñ b) (fun r1=>ifb (ine r1 (0:Int)) (E0 r1) (aeb ns E1 (fun z8=>Â (Đ ((z8.1,z8.2.1),z8.2.2)) fun r9=>ifb (ine r9.2.2 (0:Int)) (E2 z8 r9) (Â (þ r9.1) fun r10=>ifb (!r10.1) (E3 z8 r9 r10) (K z8 r9 r10))) b)) =
 if (Č b ns).2≠0 then R (Č b ns).2 else K (flat (Č b ns).1) ((((Ë (Č b ns).1).length:Int)+1,Ý (Č b ns).1),ŕ (Č b ns).1,0) (true,0):=by
 rw[Φ hI.size hI.num,À];unfold Č
 by_cases hc:ß b=0
 ·have hg:=(à b).1 hc;rw[Õ (by simp[ine,hc]),if_neg (show ¬(ß b≠0) from fun h=>h hc),abv hl R h1 hg hI.num]
  by_cases hr:(ũ b ns).2=0
  ·rw[if_neg (show ¬((ũ b ns).2≠0) from fun h=>h hr),if_neg (show ¬((ũ b ns).2≠0) from fun h=>h hr)];have hB:=Kh hg hr
   have hBn:∀g∈(ũ b ns).1.2.1,I64 g.2.2.2.2.1.1:=by rw[tp hr]; exact hI.num
   generalize (ũ b ns).1=B at hB hBn ⊢;rw[uJ,pm (hB.inn hBn),À,i7 hB,Õ (by rfl)];dsimp only;rw[show(((Ë B).length:Int)+1)=(((Ë B).length+1:Nat):Int) by push_cast; rfl,Fx hB.sys,À]
   cases ho:Ő (Ý B) ((Ë B).length+1) with
   |true =>
    rw[if_neg (by simp)];simp only[dI,ã];push_cast;rfl
   |false =>
    rw[if_pos (by simp)];simp only[gi,Ĥ];rw[h3];rfl
  ·rw[if_pos hr,if_pos hr,if_pos hr]
 ·rw[Þ (by simp[ine,hc]),h0 _ hc,if_pos hc,if_pos hc]
end
def Wt (b:Ü) (id day:Int):Bool:=b.2.2.1.any fun u=>u.1==id&&u.2==day
def acW (b:Ü) (g:ù) (d:Int):Int:=match Js b g.1 d with|some l=>l.2.2|none=>if Wt b g.1 d then g.2.2.2.2.2 else 0
def acg (l:JZ) (id:Int) {f t:Int} (hft:f≤t):(if l.1=id∧0<ĕ l f (t+1) then ĕ l f (t+1)*l.2.2 else 0)=(if l.1=id∧0<ĕ l f t then ĕ l f t*l.2.2 else 0)+(if l.1=id∧l.2.1.1≤t∧t≤l.2.1.2 then l.2.2 else 0):=by
 by_cases hid:l.1=id
 ·by_cases h1:l.2.1.1≤t∧t≤l.2.1.2
  ·have e:ĕ l f (t+1)=ĕ l f t+1:=by unfold ĕ; omega
   have p:0≤ĕ l f t:=by unfold ĕ; omega
   rw[e,if_pos ⟨hid,by omega⟩,if_pos (show l.1=id∧l.2.1.1≤t∧t≤l.2.1.2 from⟨hid,h1⟩),fS,fZ]
   by_cases hp:0<ĕ l f t
   ·rw[if_pos ⟨hid,hp⟩]
   ·rw[if_neg (fun h=>hp h.2)]
    have:ĕ l f t=0:=by omega
    rw[this];omega
  ·rw[if_neg (show ¬(l.1=id∧l.2.1.1≤t∧t≤l.2.1.2) from fun h=>h1 h.2),gg]
   by_cases hlo:l.2.1.1≤t
   ·have e:ĕ l f (t+1)=ĕ l f t:=by unfold ĕ; omega
    rw[e]
   ·have p1:¬0<ĕ l f (t+1):=by unfold ĕ; omega
    have p2:¬0<ĕ l f t:=by unfold ĕ; omega
    rw[if_neg (fun h=>p1 h.2),if_neg (fun h=>p2 h.2)]
 ·rw[if_neg (fun h=>hid h.1),if_neg (fun h=>hid h.1),if_neg (fun h=>hid h.1)];rfl
def PA (id:Int) {f t:Int} (hft:f≤t):∀{x:List JZ},x.Pairwise (fun a c=>¬(a.1=c.1∧a.2.1.1≤c.2.1.2∧c.2.1.1≤a.2.1.2)) →
 Į id f (t+1) x=Į id f t x+(match x.find? (fun l=>l.1==id&&inP t l.2.1.1 l.2.1.2) with|some l=>l.2.2|none=>0)
 |[],_=>rfl
 |l::r,hp=>by
  rw[dv] at hp;have ih:=PA id hft hp.2;simp only[Į];rw[ih,acg l id hft,gc]
  by_cases hm:l.1=id∧l.2.1.1≤t∧t≤l.2.1.2
  ·have e:(l.1==id&&inP t l.2.1.1 l.2.1.2)=true:=by simp[inP,hm.1,hm.2.1,hm.2.2]
   have hn:r.find? (fun l=>l.1==id&&inP t l.2.1.1 l.2.1.2)=none:=by
    rw[eP];intro c hc hcm;simp only[inP,cF,beq_iff_eq,decide_eq_true_eq] at hcm;exact hp.1 c hc ⟨by rw[hm.1,hcm.1],by omega,by omega⟩
   rw[if_pos hm,e,hn];simp only;omega
  ·have e:(l.1==id&&inP t l.2.1.1 l.2.1.2)=false:=by
    rw[ez];intro h;simp only[inP,cF,beq_iff_eq,decide_eq_true_eq] at h;exact hm h
   rw[if_neg hm,e];simp only;omega
section
variable {b:Ü}
def Ğ.apart (h:Ğ b):b.2.2.2.1.Pairwise (fun a c=>¬(a.1=c.1∧a.2.1.1≤c.2.1.2∧c.2.1.1≤a.2.1.2)):=by
 rw[List.pairwise_iff_getElem];intro i j hi hj hij ⟨h1,h2,h3⟩;have hz:=h.loans j _ (List.getElem?_eq_getElem hj);unfold XA at hz
 have hany:(b.2.2.2.1.take j).any (fun x=>x.1==b.2.2.2.1[j].1&&(decide (x.2.1.1≤b.2.2.2.1[j].2.1.2)&&decide (b.2.2.2.1[j].2.1.1≤x.2.1.2)))=true:=by
  rw[gr];exact⟨b.2.2.2.1[i],cX.2 ⟨i,by rw[cW]; omega,by rw[List.getElem_take]⟩,by simp[h1,h2,h3]⟩
 rw[hany] at hz
 (repeat' split at hz)<;>first|omega|simp_all
def Ğ.notUsed (h:Ğ b) {id d:Int} {l:JZ} (hl:Js b id d=some l):Wt b id d=false:=by
 have hm:=f9 hl;have hp:=gC hl;simp only[inP,cF,beq_iff_eq,decide_eq_true_eq] at hp;obtain⟨j,hj,rfl⟩:=cX.1 hm;have hz:=h.loans j _ (cD hj);rw[ez];intro hu;obtain⟨u,hu,hue⟩:=gr.1 hu;simp only[cF,beq_iff_eq] at hue
 have hany:b.2.2.1.any (fun u=>u.1==b.2.2.2.1[j].1&&inP u.2 b.2.2.2.1[j].2.1.1 b.2.2.2.1[j].2.1.2)=true:=by
  rw[gr];exact⟨u,hu,by simp only[inP,cF,beq_iff_eq,decide_eq_true_eq]; exact⟨by rw[hue.1,hp.1],by omega,by omega⟩⟩
 unfold XA at hz;rw[hany] at hz
 (repeat' split at hz)<;>first|omega|simp_all
def Ta {id f t:Int} (hft:f≤t):Wo (iG b id f (t+1))=Wo (iG b id f t)++if Wt b id t then[t] else[]:=by
 have hm:∀t x,x∈iG b id f t↔Wt b id x=true∧f≤x∧x<t:=by
  intro t x;unfold iG Wt;simp only[List.mem_map,List.mem_filter,List.any_eq_true,inP,Bool.and_eq_true,beq_iff_eq,decide_eq_true_eq];constructor
  ·rintro⟨u,⟨h1,h2,h3,h4⟩,rfl⟩;exact⟨⟨u,h1,h2,rfl⟩,h3,by omega⟩
  ·rintro⟨⟨u,h1,h2,rfl⟩,h3,h4⟩;exact⟨u,⟨h1,h2,h3,by omega⟩,rfl⟩
 refine agO (WD _) ?_ fun x=>?_
 ·rw[List.pairwise_append]
  refine⟨WD _,by split<;>simp,fun a ha c hc=>?_⟩
  rw[yb,hm] at ha
  split at hc
  ·rw[cQ] at hc; omega
  ·cases hc
 ·rw[yb,hm,cI,yb,hm]
  by_cases hu:Wt b id t=true
  ·rw[if_pos hu,cQ];constructor
   ·rintro⟨h1,h2,h3⟩
    by_cases he:x=t
    ·exact .inr he
    ·exact .inl ⟨h1,h2,by omega⟩
   ·rintro(⟨h1,h2,h3⟩|rfl)
    ·exact⟨h1,h2,by omega⟩
    ·exact⟨hu,hft,by omega⟩
  ·rw[if_neg hu];constructor
   ·rintro⟨h1,h2,h3⟩;refine .inl ⟨h1,h2,?_⟩
    by_cases he:x=t
    ·rw[he] at h1; exact absurd h1 hu
    ·omega
   ·rintro(⟨h1,h2,h3⟩|h)
    ·exact⟨h1,h2,by omega⟩
    ·cases h
def U9 (h:Ğ b) (g:ù) {f t:Int} (hft:f≤t):jP b g f (t+1)=jP b g f t+acW b g t:=by
 unfold jP acW;rw[PA g.1 hft h.apart,Ta hft];show Į g.1 f t b.2.2.2.1+(match Js b g.1 t with|some l=>l.2.2|none=>0)+_=_
 cases ha:Js b g.1 t with
 |some l =>
  rw[h.notUsed ha];simp only[cR,if_false,dE];omega
 |none =>
  simp only
  cases Wt b g.1 t with
  |true=>simp only[if_true,cG,dm,Int.natCast_add,fS]; omega
  |false=>simp only[cR,if_false,dE]; omega
def Va (g:ù) {f t:Int} (hft:t≤f):jP b g f t=0:=by
 unfold jP
 have h1:∀x:List JZ,Į g.1 f t x=0:=by
  intro x
  induction x with
  |nil=>rfl
  |cons l r ih =>
   simp only[Į];rw[ih,if_neg (by unfold ĕ; omega)];rfl
 have h2:iG b g.1 f t=[]:=by
  unfold iG
  rw[List.filter_eq_nil_iff.2 fun u hu hc=>by
   simp only[inP,cF,beq_iff_eq,decide_eq_true_eq] at hc
   omega]
  rfl
 rw[h1,h2];have h3:Wo ([]:List Int)=[]:=rfl;rw[h3];simp
end
section
variable {b:Ü}
def JP (h:Ğ b) (g:ù) {f t u:Int} (h1:f≤t) (h2:t≤u):jP b g f u=jP b g f t+jP b g t u:=by
 obtain⟨n,rfl⟩:∃n:Nat,u=t+n:=⟨(u-t).toNat,by omega⟩;clear h2
 induction n with
 |zero=>simp[Va]
 |succ n ih =>
  have e:t+((n+1:Nat):Int)=(t+n)+1:=by omega
  rw[e,U9 h g (show f≤t+(n:Int) by omega),U9 h g (show t≤t+(n:Int) by omega),ih];omega
def BT (h:Ğ b) {g:ù} (hg:g∈b.2.1) {f t:Int} (hf:0≤f):0≤jP b g f t:=(uE h hg hf).1
def ů (b:Ü) (id d:Int):Int:=match jk (Ë b) id d with|some j=>(j:Int)+1|none=>0
def pE (h:Ğ b) {i:Nat} {g:ù} (hg:b.2.1[i]?=some g) {k:Nat} {d:Int} (hk:(é b g)[k]?=some d):ů b g.1 d=(off b i:Int)+k+1:=by
 unfold ů;rw[QK h hg hk];simp only;omega
structure pp (b:Ü) (p:Int→Int) (g:ù):Prop where
 hi:p (ů b g.1 g.2.1)≤p 0+(g.2.2.1+g.2.2.2.1.2)
 lo:p 0+(g.2.2.1+g.2.2.2.1.1)≤p (ů b g.1 g.2.1)
 down:∀d e,d∈é b g→e∈é b g→d≤e→p (ů b g.1 e)≤p (ů b g.1 d)
 loss:∀d e,d∈é b g→e∈é b g→d≤e→p (ů b g.1 d)≤p (ů b g.1 e)+jP b g d e
def nz (h:Ğ b) {i:Nat} {g:ù} (hg:b.2.1[i]?=some g) {p:Int→Int}:(∀l∈Ġ b g,p l.2.1≤p l.1+l.2.2)↔pp b p g:=by
 have hgm:=cM hg;obtain⟨tl,htl⟩:=VI h hgm
 have h0:ů b g.1 g.2.1=(off b i:Int)+1:=by
  have:=pE h hg (k:=0) (d:=g.2.1) (by rw[htl]; rfl);rw[this];omega
 constructor
 ·intro hl;have e1:=hl _ ((Ķ h hg).2 (.inl rfl));have e2:=hl _ ((Ķ h hg).2 (.inr (.inl rfl)));simp only at e1 e2
  have step:∀(k:Nat) (d e:Int),(é b g)[k]?=some d→(é b g)[k+1]?=some e→p (ů b g.1 e)≤p (ů b g.1 d)∧p (ů b g.1 d)≤p (ů b g.1 e)+jP b g d e:=by
   intro k d e hd he;have a1:=hl _ ((Ķ h hg).2 (.inr (.inr ⟨k,d,e,hd,he,.inl rfl⟩)));have a2:=hl _ ((Ķ h hg).2 (.inr (.inr ⟨k,d,e,hd,he,.inr rfl⟩)));simp only at a1 a2;rw[pE h hg hd,pE h hg he]
   have e3:(off b i:Int)+((k+1:Nat):Int)+1=(off b i:Int)+k+2:=by omega
   rw[e3];exact⟨by omega,a2⟩
  have pair:∀(n k:Nat) (d e:Int),(é b g)[k]?=some d→(é b g)[k+n]?=some e→p (ů b g.1 e)≤p (ů b g.1 d)∧p (ů b g.1 d)≤p (ů b g.1 e)+jP b g d e:=by
   intro n
   induction n with
   |zero =>
    intro k d e hd he;rw[fk,hd] at he;cases he;rw[Va g (dM _)];omega
   |succ n ih =>
    intro k d e hd he;have hlt:=(cH.1 he).1;have hm:(é b g)[k+n]?=some ((é b g)[k+n]'(by omega)):=cD (by omega);obtain⟨a1,a2⟩:=ih k d _ hd hm;obtain⟨a3,a4⟩:=step (k+n) _ e hm he
    have o1:d≤(é b g)[k+n]'(by omega):=by
     obtain⟨hkl,hkd⟩:=cH.1 hd;rcases fQ n with rfl|hn
     ·rw[←hkd]; exact Int.le_of_eq (by congr 1)
     ·have:=(dz.1 (B8 b g)) k (k+n) hkl (by omega) (by omega);rw[hkd] at this; omega
    have o2:(é b g)[k+n]'(by omega)≤e:=by
     obtain⟨hel,hee⟩:=cH.1 he;have:=(dz.1 (B8 b g)) (k+n) (k+(n+1)) (by omega) hel (by omega);rw[hee] at this; omega
    have:=JP h g o1 o2;omega
  have any:∀d e,d∈é b g→e∈é b g→d≤e→p (ů b g.1 e)≤p (ů b g.1 d)∧p (ů b g.1 d)≤p (ů b g.1 e)+jP b g d e:=by
   intro d e hd he hde;obtain⟨k,hk,rfl⟩:=cX.1 hd;obtain⟨m,hm,rfl⟩:=cX.1 he
   have hkm:k≤m:=by
    rcases dt m k with hlt|hge
    ·have:=(dz.1 (B8 b g)) m k hm hk hlt; omega
    ·exact hge
   exact pair (m-k) k _ _ (cD hk) (by rw[show k+(m-k)=m by omega]; exact cD hm)
  exact⟨by rw[h0]; omega,by rw[h0]; omega,fun d e hd he hde=>(any d e hd he hde).1,fun d e hd he hde=>(any d e hd he hde).2⟩
 ·intro hf l hl;rcases(Ķ h hg).1 hl with rfl|rfl|⟨k,d,e,hd,he,rfl|rfl⟩
  ·have:=hf.hi; rw[h0] at this; simp only; omega
  ·have:=hf.lo; rw[h0] at this; simp only; omega
  ·have hde:d≤e:=by
    obtain⟨a1,a2⟩:=cH.1 hd;obtain⟨a3,a4⟩:=cH.1 he;have:=(dz.1 (B8 b g)) k (k+1) a1 a3 (by omega);rw[a2,a4] at this; omega
   have:=hf.down d e (cM hd) (cM he) hde;rw[pE h hg hd,pE h hg he] at this
   have e3:(off b i:Int)+((k+1:Nat):Int)+1=(off b i:Int)+k+2:=by omega
   rw[e3] at this;simp only;omega
  ·have hde:d≤e:=by
    obtain⟨a1,a2⟩:=cH.1 hd;obtain⟨a3,a4⟩:=cH.1 he;have:=(dz.1 (B8 b g)) k (k+1) a1 a3 (by omega);rw[a2,a4] at this; omega
   have:=hf.loss d e (cM hd) (cM he) hde;rw[pE h hg hd,pE h hg he] at this
   have e3:(off b i:Int)+((k+1:Nat):Int)+1=(off b i:Int)+k+2:=by omega
   rw[e3] at this;simp only;exact this
def Qt (h:Ğ b) {p:Int→Int}:Pot (Ý b) p↔(∀g∈b.2.1,pp b p g)∧∀c∈b.2.2.2.2.1,p (cx b c)≤p (cy b c)+(ω b c).2∧p (cy b c)+(ω b c).1≤p (cx b c):=by
 constructor
 ·intro hp;refine⟨fun g hg=>?_,fun c hc=>?_⟩
  ·obtain⟨i,hi,rfl⟩:=cX.1 hg;exact(nz h (cD hi)).1 fun l hl=>hp l.1 l.2.1 l.2.2 (nV.2 (.inl ⟨i,_,cD hi,hl⟩))
  ·have a1:=hp _ _ _ (nV.2 (.inr ⟨c,hc,.inl rfl⟩));have a2:=hp _ _ _ (nV.2 (.inr ⟨c,hc,.inr rfl⟩));omega
 ·rintro⟨hg,hc⟩ u v m hl;rcases nV.1 hl with⟨i,g,hig,hl⟩|⟨c,hcm,hl⟩
  ·exact(nz h hig).2 (hg g (cM hig)) (u,v,m) hl
  ·obtain⟨a1,a2⟩:=hc c hcm;rcases hl with hl|hl
   ·obtain⟨rfl,rfl,rfl⟩:u=cy b c∧v=cx b c∧m=(ω b c).2:=by simpa using hl
    exact a1
   ·obtain⟨rfl,rfl,rfl⟩:u=cx b c∧v=cy b c∧m = -(ω b c).1:=by simpa using hl
    omega
end
def afz:List Int→Int
 |[]=>0
 |[a]=>a
 |a::b::t=>max a (afz (b::t))
def Ua:∀{l:List Int},l≠[]→(∀a∈l,a≤afz l)∧afz l∈l
 |[],h=>absurd rfl h
 |[a],_=>⟨fun x hx=>by rw[cQ] at hx; rw[hx]; exact dM _,by simp[afz]⟩
 |a::b::t,_=>by
  obtain⟨h1,h2⟩:=Ua (l:=b::t) (by simp);have e:afz (a::b::t)=max a (afz (b::t)):=rfl;rw[e];constructor
  ·intro x hx;rcases cJ.1 hx with rfl|hx
   ·omega
   ·have:=h1 x hx; omega
  ·rcases Int.le_total a (afz (b::t)) with h|h
   ·rw[Int.max_eq_right h]; exact dK _ h2
   ·rw[Int.max_eq_left h]; exact List.mem_cons_self
section
variable {b:Ü}
def Nr (b:Ü) (f:Int→Int→Int) (z:Int) (v:Int):Int:=if v=0 then z else match (Ë b)[(v-1).toNat]? with|some n=>f n.1 n.2|none=>0
def mi (f:Int→Int→Int) (z:Int):Nr b f z 0=z:=by unfold Nr; rw[if_pos rfl]
def wg (h:Ğ b) (f:Int→Int→Int) (z:Int) {g:ù} (hg:g∈b.2.1) {d:Int} (hd:d∈é b g):Nr b f z (ů b g.1 d)=f g.1 d:=by
 obtain⟨i,hi,rfl⟩:=List.mem_iff_getElem.1 hg;obtain⟨k,hk,rfl⟩:=List.mem_iff_getElem.1 hd;have hgi:=List.getElem?_eq_getElem hi;have hdk:=List.getElem?_eq_getElem hk;rw[pE h hgi hdk];unfold Nr
 have e:((off b i:Int)+k+1-1).toNat=off b i+k:=by omega
 rw[if_neg (by omega),e,ael hgi hdk]
def Jr (b:Ü) (l:List Int) (d:Int):Int:=match l with|[]=>0|x::_=>ů b x d
def Zv (l:List Int) (d:Int):atP (Ë b) l d=Jr b l d:=by
 unfold atP Jr ů
 cases l<;>rfl
def G3 (c:Cmp):cx b c=Jr b (Ď c.2.2.1 c.2.2.2.1) c.2.1:=Zv _ _
def G2 (c:Cmp):cy b c=Jr b (Ď c.2.2.2.1 c.2.2.1) c.2.1:=Zv _ _
def nw (h:Ğ b) {c:Cmp} (hc:c∈b.2.2.2.2.1) {x:Int} (hx:x∈Ď c.2.2.1 c.2.2.2.1∨x∈Ď c.2.2.2.1 c.2.2.1):∃g∈b.2.1,g.1=x∧c.2.1∈é b g:=by
 have hx':(x∈c.2.2.1∧x∉c.2.2.2.1)∨(x∈c.2.2.2.1∧x∉c.2.2.1):=by
  rcases hx with hx|hx
  ·exact .inl (mJ.1 hx)
  ·exact .inr (mJ.1 hx)
 have hm:x∈c.2.2.1++c.2.2.2.1:=by rw[cI]; exact hx'.imp (·.1) (·.1)
 obtain⟨⟨g,hg,_⟩,_⟩:=h.pile hc hm;obtain⟨hgm,hid⟩:=qB hg;refine⟨g,hgm,hid,mP.2 (.inr (.inl ⟨c,hc,?_,rfl⟩))⟩;rw[hid];intro he;rw[eZ,List.contains_iff_mem,List.contains_iff_mem] at he;rcases hx' with⟨a,e⟩|⟨a,e⟩
 ·exact e (he.1 a)
 ·exact e (he.2 a)
def fill (b:Ü) (p:Int→Int) (g:ù) (d:Int):Int:=afz ((é b g).map fun e=>if d≤e then p (ů b g.1 e) else p (ů b g.1 e)-jP b g e d)
def My {p:Int→Int} {g:ù} (d:Int):(∀e∈é b g,(if d≤e then p (ů b g.1 e) else p (ů b g.1 e)-jP b g e d)≤fill b p g d)∧∃e∈é b g,fill b p g d=if d≤e then p (ů b g.1 e) else p (ů b g.1 e)-jP b g e d:=by
 have hne:((é b g).map fun e=>if d≤e then p (ů b g.1 e) else p (ů b g.1 e)-jP b g e d)≠[]:=by
  intro h;have:=List.map_eq_nil_iff.1 h;have h2:=mg (b:=b) g;rw[this] at h2;cases h2
 obtain⟨h1,h2⟩:=Ua hne;refine⟨fun e he=>h1 _ (dX.2 ⟨e,he,rfl⟩),?_⟩;obtain⟨e,he,hx⟩:=dX.1 h2;exact⟨e,he,hx.symm⟩
def JT (h:Ğ b) {p:Int→Int} {g:ù} (hg:g∈b.2.1) (hf:pp b p g) {d:Int} (hd:d∈é b g):fill b p g d=p (ů b g.1 d):=by
 obtain⟨h1,e,he,h2⟩:=My (b:=b) (p:=p) (g:=g) d;have h3:=h1 d hd;rw[if_pos (dM _)] at h3
 have h4:fill b p g d≤p (ů b g.1 d):=by
  rw[h2]
  split
  ·rename_i hde;exact hf.down d e hd he hde
  ·rename_i hde;have:=hf.loss e d he hd (by omega);omega
 omega
def EX (h:Ğ b) {p:Int→Int} {g:ù} (hg:g∈b.2.1) (hf:pp b p g) {d e:Int} (h0:g.2.1≤d) (hde:d≤e):fill b p g e≤fill b p g d∧fill b p g d≤fill b p g e+jP b g d e:=by
 obtain⟨a1,x,hx,a2⟩:=My (b:=b) (p:=p) (g:=g) d;obtain⟨b1,y,hy,b2⟩:=My (b:=b) (p:=p) (g:=g) e;have hm:=(h.gaugeR hg).2.2.2.2.1;have hl:=BT h hg (f:=d) (t:=e) (by omega);have dx:=h.day hg hx;have dy:=h.day hg hy;constructor
 ·have q:=a1 y hy;rw[b2]
  by_cases c1:e≤y
  ·rw[if_pos c1];rw[if_pos (by omega)] at q;exact q
  ·rw[if_neg c1]
   by_cases c2:d≤y
   ·rw[if_pos c2] at q;have:=BT h hg (f:=y) (t:=e) dy.2.1;omega
   ·rw[if_neg c2] at q;have:=JP h g (f:=y) (t:=d) (u:=e) (by omega) hde;omega
 ·have q:=b1 x hx;rw[a2]
  by_cases c1:d≤x
  ·rw[if_pos c1]
   by_cases c2:e≤x
   ·rw[if_pos c2] at q;omega
   ·rw[if_neg c2] at q;have:=JP h g (f:=d) (t:=x) (u:=e) c1 (by omega);have:=BT h hg (f:=d) (t:=x) (by omega);omega
  ·rw[if_neg c1];rw[if_neg (by omega)] at q;have:=JP h g (f:=x) (t:=d) (u:=e) (by omega) hde;omega
end
section
variable {b:Ü} {c:Cmp}
def XG:ô (ë b c)=(ë b c).2.1.flatMap (Ġ (ë b c))++b.2.2.2.2.1.flatMap (ĉ (ë b c)):=by
 unfold ô
 have e:Ý (ë b c)=((ë b c).2.1.flatMap (Ġ (ë b c))++b.2.2.2.2.1.flatMap (ĉ (ë b c)))++ĉ (ë b c) c:=by
  unfold Ý;rw[show(ë b c).2.2.2.2.1=b.2.2.2.2.1++[c] from rfl,List.flatMap_append,List.append_assoc];simp
 rw[e,cG,show(ĉ (ë b c) c).length=2 from rfl,Nat.add_sub_cancel,List.take_left]
def JS (h':Ğ (ë b c)) {p:Int→Int}:Pot (ô (ë b c)) p↔(∀g∈b.2.1,pp (ë b c) p g)∧∀d∈b.2.2.2.2.1,p (cx (ë b c) d)≤p (cy (ë b c) d)+(ω b d).2∧p (cy (ë b c) d)+(ω b d).1≤p (cx (ë b c) d):=by
 rw[XG];constructor
 ·intro hp;refine⟨fun g hg=>?_,fun d hd=>?_⟩
  ·obtain⟨i,hi,rfl⟩:=cX.1 hg;exact(nz h' (i:=i) (cD hi)).1 fun l hl=>hp l.1 l.2.1 l.2.2 (cI.2 (.inl (df.2 ⟨_,dP hi,hl⟩)))
  ·have a1:=hp (cy (ë b c) d) (cx (ë b c) d) (ω (ë b c) d).2 (cI.2 (.inr (df.2 ⟨d,hd,by simp[ĉ]⟩)));have a2:=hp (cx (ë b c) d) (cy (ë b c) d) (-(ω (ë b c) d).1) (cI.2 (.inr (df.2 ⟨d,hd,by simp[ĉ]⟩)));have e:ω (ë b c) d=ω b d:=rfl;rw[e] at a1 a2;omega
 ·rintro⟨hg,hc⟩ u v m hl;rcases cI.1 hl with hl|hl
  ·obtain⟨g,hgm,hl⟩:=df.1 hl;obtain⟨i,hi,rfl⟩:=cX.1 hgm;exact(nz h' (i:=i) (cD hi)).2 (hg _ hgm) (u,v,m) hl
  ·obtain⟨d,hd,hl⟩:=df.1 hl;obtain⟨a1,a2⟩:=hc d hd;have e:ω (ë b c) d=ω b d:=rfl;simp only[ĉ,cJ,fX,or_false,e] at hl;rcases hl with hl|hl
   ·obtain⟨rfl,rfl,rfl⟩:u=cy (ë b c) d∧v=cx (ë b c) d∧m=(ω b d).2:=by simpa using hl
    exact a1
   ·obtain⟨rfl,rfl,rfl⟩:u=cx (ë b c) d∧v=cy (ë b c) d∧m = -(ω b d).1:=by simpa using hl
    omega
def s8 {g:ù} {d:Int} (hd:d∈é b g):d∈é (ë b c) g:=by
 rcases mP.1 hd with e|⟨x,hx,h1,h2⟩|hn
 ·exact mP.2 (.inl e)
 ·exact mP.2 (.inr (.inl ⟨x,cI.2 (.inl hx),h1,h2⟩))
 ·exact mP.2 (.inr (.inr hn))
def ab8 (g:ù) (f t:Int):jP (ë b c) g f t=jP b g f t:=rfl
def Hb {b':Ü} (h':Ğ b') {l:List Int} {day:Int} (f:Int→Int→Int) (z:Int) (hl:∀x∈l,∃g∈b'.2.1,g.1=x∧day∈é b' g):Nr b' f z (Jr b' l day)=match l with|[]=>z|x::_=>f x day:=by
 unfold Jr
 cases l with
 |nil=>exact mi f z
 |cons x t =>
  obtain⟨g,hg,rfl,hd⟩:=hl x (by simp);exact wg h' f z hg hd
def abK (h:Ğ b) (h':Ğ (ë b c)):(∃p,Pot (Ý b) p)↔∃p,Pot (ô (ë b c)) p:=by
 constructor
 ·rintro⟨p,hp⟩;obtain⟨hg,hc⟩:=(Qt h).1 hp
  let f:Int→Int→Int:=fun id d=>match kJ b id with|some g=>fill b p g d|none=>0
  have hfv:∀g∈b.2.1,∀d,f g.1 d=fill b p g d:=fun g hgm d=>by
   show(match kJ b g.1 with|some g=>fill b p g d|none=>0)=_;rw[BX h.ids hgm]
  have hq:∀g∈b.2.1,∀d∈é (ë b c) g,Nr (ë b c) f (p 0) (ů (ë b c) g.1 d)=fill b p g d:=fun g hgm d hd=>by
   rw[wg h' f (p 0) hgm hd,hfv g hgm d]
  refine⟨Nr (ë b c) f (p 0),(JS h').2 ⟨fun g hgm=>?_,fun d hd=>?_⟩⟩
  ·have gf:=hg g hgm;have hmade:g.2.1∈é b g:=mg g;have e0:=hq g hgm g.2.1 (mg g);rw[JT h hgm gf hmade] at e0;refine⟨?_,?_,fun x y hx hy hxy=>?_,fun x y hx hy hxy=>?_⟩
   ·rw[e0,mi]; exact gf.hi
   ·rw[e0,mi]; exact gf.lo
   ·rw[hq g hgm x hx,hq g hgm y hy];exact(EX h hgm gf (h'.day hgm hx).1 hxy).1
   ·rw[hq g hgm x hx,hq g hgm y hy,ab8];exact(EX h hgm gf (h'.day hgm hx).1 hxy).2
  ·have key:∀l:List Int,(∀x∈l,∃g∈b.2.1,g.1=x∧d.2.1∈é b g)→Nr (ë b c) f (p 0) (Jr (ë b c) l d.2.1)=p (Jr b l d.2.1):=by
    intro l hl;rw[Hb h' f (p 0) (fun x hx=>by obtain⟨g,q1,q2,q3⟩:=hl x hx; exact⟨g,q1,q2,s8 q3⟩)]
    cases l with
    |nil=>rfl
    |cons x t =>
     obtain⟨g,q1,rfl,q3⟩:=hl x (by simp);show f g.1 d.2.1=p (ů b g.1 d.2.1);rw[hfv g q1,JT h q1 (hg g q1) q3]
   rw[G3,G2,key _ (fun x hx=>nw h hd (.inl hx)),key _ (fun x hx=>nw h hd (.inr hx)),←G3,←G2];exact hc d hd
 ·rintro⟨p,hp⟩;obtain⟨hg,hc⟩:=(JS h').1 hp
  let f:Int→Int→Int:=fun id d=>p (ů (ë b c) id d)
  have hq:∀g∈b.2.1,∀d∈é b g,Nr b f (p 0) (ů b g.1 d)=p (ů (ë b c) g.1 d):=fun g hgm d hd=>wg h f (p 0) hgm hd;refine⟨Nr b f (p 0),(Qt h).2 ⟨fun g hgm=>?_,fun d hd=>?_⟩⟩
  ·have gf:=hg g hgm;have e0:=hq g hgm g.2.1 (mg g);refine⟨?_,?_,fun x y hx hy hxy=>?_,fun x y hx hy hxy=>?_⟩
   ·rw[e0,mi]; exact gf.hi
   ·rw[e0,mi]; exact gf.lo
   ·rw[hq g hgm x hx,hq g hgm y hy];exact gf.down x y (s8 hx) (s8 hy) hxy
   ·rw[hq g hgm x hx,hq g hgm y hy];exact gf.loss x y (s8 hx) (s8 hy) hxy
  ·have key:∀l:List Int,(∀x∈l,∃g∈b.2.1,g.1=x∧d.2.1∈é b g)→Nr b f (p 0) (Jr b l d.2.1)=p (Jr (ë b c) l d.2.1):=by
    intro l hl;rw[Hb h f (p 0) hl]
    cases l<;>rfl
   rw[G3,G2,key _ (fun x hx=>nw h hd (.inl hx)),key _ (fun x hx=>nw h hd (.inr hx)),←G3,←G2];exact hc d hd
end
end Go.Proofs.ZzM
end
