/- lemmas -/
import Derived.Test.YtmadligicacpkaaGreatAmG
import Derived.Test.YtmadligicacpkaaGreatMdTA
set_option linter.all false
set_option linter.unusedSectionVars false
set_option linter.unusedVariables false
set_option linter.unusedSimpArgs false
noncomputable section
namespace Go.Am
section
variable {ρ:Type}
def ĵ {α β:Type} (e:Nat→α→Option β):Nat→List α→Option β
 |_,[]=>none
 |i,a::t=>match e i a with
  |some b=>some b
  |none=>ĵ e (i+1) t
theorem afn {α β:Type} (l:List α) (e:Nat→α→Option β) (k0:β→Option ρ) (k1:Option ρ) {f:Int→(Int→Option ρ)→Option ρ}
 (h:∀(i:Nat) (a:α),i<l.length→l[i]?=some a→∀kn,f i kn=match e i a with|some b=>k0 b|none=>kn ((i:Int)+1))
 (hn:∀kn,f l.length kn=k1):Ì f 0=match ĵ e 0 l with|some b=>k0 b|none=>k1:=by
 refine aXc l (fun i t=>match ĵ e i t with|some b=>k0 b|none=>k1) hn fun i a t hd hi ha kn hk=>?_;rw[h i a hi ha kn,hk,ĵ]
 cases e i a<;>rfl
theorem ñ {α σ:Type} (l:List α) (g:Nat→σ) (r:Option ρ) {f:Int×σ→(Int×σ→Option ρ)→Option ρ} {s0:σ} (h0:g 0=s0)
 (h:∀(i:Nat) (a:α),i<l.length→l[i]?=some a→∀kn,f (i,g i) kn=kn ((i:Int)+1,g (i+1)))
 (hn:∀kn,f (l.length,g l.length) kn=r):Ì f (0,s0)=r:=by
 subst h0
 have hs:∀s,(s=g 0)→Ì f (0,s)=r:=fun s e=>awh l (fun _ _ _=>r) (fun i s=>s=g i) (fun s hs kn=>by rw[hs]; exact hn kn) (fun i a t s hd hi ha hI kn hk=>by
  rw[hI,h i a hi ha kn]; exact hk _ rfl) e
 exact hs _ rfl
theorem aXb {α σ:Type} (l:List α) (g:Nat→σ) (r:Option ρ) {f:Int×σ→(Int×σ→Option ρ)→Option ρ} {s0:σ} (P:Nat→Prop) (h0:g 0=s0) (hP:P 0)
 (h:∀(i:Nat) (a:α),i<l.length→l[i]?=some a→P i→∀kn,f (i,g i) kn=r∨(P (i+1)∧f (i,g i) kn=kn ((i:Int)+1,g (i+1))))
 (hn:P l.length→∀kn,f (l.length,g l.length) kn=r):Ì f (0,s0)=r:=by
 subst h0
 have hs:∀s,(s=g 0∧P 0)→Ì f (0,s)=r:=fun s e=>awh l (fun _ _ _=>r) (fun i s=>s=g i∧P i) (fun s hs kn=>by rw[hs.1]; exact hn hs.2 kn) (fun i a t s hd hi ha hI kn hk=>by
  rcases h i a hi ha hI.2 kn with h1|⟨h1,h2⟩
  ·rw[hI.1,h1]
  ·rw[hI.1,h2]; exact hk _ ⟨rfl,h1⟩) e
 exact hs _ ⟨rfl,hP⟩
theorem Ñ {i n:Nat} (h:i<n) (hn:n≤1000000000) (f:Int→Option ρ):ck ((i:Int)+1) f=f ((i:Int)+1):=Ø (by omega) (by omega) f
theorem ifb_lt {i n:Nat} (h:i<n) (x y:Option ρ):ifb (ilt (i:Int) (aV0 n)) x y=x:=by simp[Ĥ,aCH,h]
theorem ã (n:Nat) (x y:Option ρ):ifb (ilt (n:Int) (aV0 n)) x y=y:=by simp[Ĥ,aCH]
theorem Ö {α:Type} {l:List α} {i:Nat} (h:i<l.length) (x y:Option ρ):ifb (ilt (i:Int) (Û l)) x y=x:=ifb_lt h x y
theorem aFp {α:Type} (p:α→Bool):∀(i:Nat) (l:List α),ĵ (fun i a=>bif p a then some (i:Int) else none) i l=(l.findIdx? p).map fun j=>((i+j:Nat):Int)
 |_,[]=>rfl
 |i,a::t=>by
  simp only[ĵ,List.findIdx?_cons]
  cases hp:p a with
  |true=>simp
  |false =>
   simp only[cond_false,Bool.false_eq_true,if_false];rw[aFp p (i+1) t]
   cases t.findIdx? p with
   |none=>rfl
   |some j=>simp only[Option.map_some]; congr 1; omega
theorem adJ {α β:Type} {e:Nat→α→Option β}:∀{i:Nat} {l:List α},ĵ e i l=none↔∀j a,l[j]?=some a→e (i+j) a=none
 |_,[]=>by simp[ĵ]
 |i,a::t=>by
  simp only[ĵ];constructor
  ·intro h j b hb
   cases he:e i a with
   |some c=>rw[he] at h; cases h
   |none =>
    rw[he] at h
    cases j with
    |zero=>simp at hb; subst hb; simpa using he
    |succ j=>have:=(adJ.1 h) j b (by simpa using hb); rw[←this]; congr 1; omega
  ·intro h;have h0:=h 0 a (by simp);simp only[Nat.add_zero] at h0;rw[h0]
   exact adJ.2 fun j b hb=>by have:=h (j+1) b (by simpa using hb); rw[←this]; congr 1; omega
theorem take_succ {α:Type} {l:List α} {i:Nat} {a:α} (h:l[i]?=some a):l.take (i+1)=l.take i++[a]:=by rw[List.take_succ,h]; rfl
end
end Go.Am
end
noncomputable section
namespace Go.Proofs.ZzM
open Go Go.Am
section
variable {ρ:Type}
theorem ł {τ:Type} {f:τ→(τ→Option ρ)→Option ρ} {r:Option ρ} (I:τ→Prop) (μ:τ→Nat)
 (h:∀x,I x→(∀kn,f x kn=r)∨∃y,I y∧μ y<μ x∧∀kn,f x kn=kn y) {x:τ} (hx:I x):Ì f x=r :=
 als (F:=fun _=>r) I μ (fun x hx kn hk=>by
  rcases h x hx with h1|⟨y,h1,h2,h3⟩
  ·exact h1 kn
  ·rw[h3,hk y h1 h2]) hx
theorem adl {α:Type} (l:List α) (p:α→Bool) (k0:Int→Option ρ) (k1:Option ρ) {f:Int→(Int→Option ρ)→Option ρ}
 (h:∀(i:Nat) (a:α),i<l.length→l[i]?=some a→∀kn,f i kn=if p a then k0 i else kn ((i:Int)+1))
 (hn:∀kn,f l.length kn=k1):Ì f 0=match l.findIdx? p with|some j=>k0 j|none=>k1:=by
 rw[afn l (fun i a=>bif p a then some (i:Int) else none) k0 k1 (fun i a hi ha kn=>by rw[h i a hi ha kn]; cases p a<;>rfl) hn,aFp]
 cases l.findIdx? p with
 |none=>rfl
 |some j=>simp
theorem Ĺ {α:Type} (l:List α) (p:α→Bool) (k0:Int→Option ρ) (K k1:Option ρ) {f:Int→(Int→Option ρ)→Option ρ} (hK:∀j:Nat,k0 j=K)
 (h:∀(i:Nat) (a:α),i<l.length→l[i]?=some a→∀kn,f i kn=if p a then k0 i else kn ((i:Int)+1))
 (hn:∀kn,f l.length kn=k1):Ì f 0=if l.any p then K else k1:=by
 rw[adl l p k0 k1 h hn]
 cases hf:l.findIdx? p with
 |none =>
  have:l.any p=false:=by
   rw[List.any_eq_false];intro x hx;have:=List.findIdx?_eq_none_iff.1 hf x hx;simp[this]
  simp[this]
 |some j =>
  have:l.any p=true:=by
   have:=List.findIdx?_eq_some_iff_getElem.1 hf;obtain⟨hj,hp,_⟩:=this;exact List.any_eq_true.2 ⟨_,List.getElem_mem hj,hp⟩
  simp[this,hK]
end
abbrev î:Type:=Int×Int×Int×(Int×Int)×((Int×Int)×Int)
abbrev aAq:Type:=Int×((Int×Int)×Int)
abbrev Cmp:Type:=Int×Int×List Int×List Int×Int×(Int×(Int×Int))
abbrev â:Type:=(Int×Int)×List î×List (Int×Int)×List aAq×List Cmp×List (Int×Int)
abbrev Sys:Type:=Int×List (Int×Int×Int)
abbrev Maker:Type:=â×List (Int×Int)×Sys×List (Int×Int)
section
variable {ρ:Type}
theorem Ú {b:Bool} (h:b=true) (x y:Option ρ):ifb b x y=x:=by rw[h]; rfl
theorem Õ {b:Bool} (h:b=false) (x y:Option ρ):ifb b x y=y:=by rw[h]; rfl
end
def I64 (n:Int):Prop:=-9223372036854775808≤n∧n≤9223372036854775807
def inP (n lo hi:Int):Bool:=decide (lo≤n)&&decide (n≤hi)
def aw6 (n:Int):Bool:=inP n 0 20000
def aeE (s:Int×Int) (lo hi:Int):Bool:=decide (lo≤s.1)&&(decide (s.1≤s.2)&&decide (s.2≤hi))
theorem adg (n lo hi:Int):ğ n lo hi=some (inP n lo hi):=by
 unfold ğ ayk inP ile
 cases decide (lo≤n)<;>rfl
theorem aMq (n:Int):aho n=some (aw6 n):=by
 unfold aho aEX;rw[adg]; rfl
theorem awl (s:Int×Int) (lo hi:Int):Λ s lo hi=some (aeE s lo hi):=by
 unfold Λ ayq aeE ile
 cases decide (lo≤s.1)<;>cases decide (s.1≤s.2)<;>rfl
theorem aJL {n:Int} (h:I64 n):aka n=some (n.natAbs:Int):=by
 obtain⟨h1,h2⟩:=h;unfold aka aLG
 by_cases hn:n<0
 ·have:ilt n 0=true:=by simpa using hn
  rw[Ú this];congr 1;simp only[IntKind.wrap,IntKind.bits,IntKind.signed];simp;omega
 ·have:ilt n 0=false:=by simpa using hn
  rw[Õ this];congr 1;simp only[IntKind.wrap,IntKind.bits,IntKind.signed];simp;omega
theorem a1b (a b:Nat):aFu a b=some ((Nat.gcd a b:Nat):Int):=by
 unfold aFu aRT;refine ł (fun x:Int×Int=>∃c d:Nat,x=((c:Int),(d:Int))∧Nat.gcd c d=Nat.gcd a b) (fun x=>x.2.toNat) ?_ ⟨a,b,rfl,rfl⟩;rintro x ⟨c,d,rfl,hg⟩
 cases d with
 |zero =>
  refine .inl fun kn=>?_;rw[Nat.gcd_zero_right] at hg;unfold aqf;simp[hg,ine]
 |succ d =>
  refine .inr ⟨(((d+1:Nat):Int),((c % (d+1):Nat):Int)),⟨d+1,c % (d+1),rfl,?_⟩,?_,fun kn=>?_⟩
  ·rw[←hg,Nat.gcd_comm c (d+1),Nat.gcd_rec (d+1) c,Nat.gcd_comm]
  ·have:=Nat.mod_lt c (Nat.succ_pos d);simp only[Int.toNat_natCast];omega
  ·unfold aqf
   have h1:ine ((d+1:Nat):Int) 0=true:=by simp[ine]; omega
   have h2:Ă ((d+1:Nat):Int) 0=false:=by simp[Ă]; omega
   simp only[h1,Ú Õ h2];congr 1
def azd (r:Int×Int):Bool :=
 decide (1≤r.2)&&(decide (r.2≤2147483647)&&(decide ((r.1.natAbs:Int)≤2147483647)&&decide (Nat.gcd r.1.natAbs r.2.natAbs=1)))
theorem aM5 {r:Int×Int} (h:I64 r.1):alJ r=some (azd r):=by
 unfold alJ aEE azd
 by_cases h1:1≤r.2
 ·by_cases h2:r.2≤2147483647
  ·have h3:I64 r.2:=⟨by omega,by omega⟩
   have e1:ige r.2 1=true:=by simp[ige,h1]
   have e2:ile r.2 2147483647=true:=by simp[ile,h2]
   rw[Ú e1,Ú e2,aJL h,À]
   by_cases h4:(r.1.natAbs:Int)≤2147483647
   ·have e4:ile (r.1.natAbs:Int) 2147483647=true:=by simp[ile,h4]
    rw[Ú e4,À,aJL h3,À,a1b,À];congr 1;rw[Bool.eq_iff_iff];simp only[ieq,beq_iff_eq,h1,h2,h4,decide_true,Bool.true_and,decide_eq_true_eq];omega
   ·have e4:ile (r.1.natAbs:Int) 2147483647=false:=by simp[ile]; omega
    rw[Õ e4];simp[h4]
  ·have e1:ige r.2 1=true:=by simp[ige,h1]
   have e2:ile r.2 2147483647=false:=by simp[ile]; omega
   rw[Ú e1,Õ e2];simp[h2]
 ·have e1:ige r.2 1=false:=by simp[ige]; omega
  rw[Õ e1];simp[h1]
def aiV (g:î):Bool :=
 azd g.2.2.2.2.1&&inP g.2.2.2.2.1.1 (-1000) 1000&&decide (g.2.2.2.2.1.2≤100)&&inP g.1 1 1099511627776&&aw6 g.2.1&&inP g.2.2.1 1 1125899906842624&&aeE g.2.2.2.1 (-1073741824) 1073741824&&inP g.2.2.2.2.2 0 1048576
theorem aVe {g:î} (h:I64 g.2.2.2.2.1.1):am7 g=some (aiV g):=by
 unfold am7 ati aiV;rw[aM5 h,adg,adg,aMq,adg,awl,adg];generalize azd g.2.2.2.2.1=x1;generalize inP g.2.2.2.2.1.1 (-1000) 1000=x2;generalize inP g.1 1 1099511627776=x3;generalize aw6 g.2.1=x4;generalize inP g.2.2.1 1 1125899906842624=x5;generalize aeE g.2.2.2.1 (-1073741824) 1073741824=x6;generalize inP g.2.2.2.2.2 0 1048576=x7;unfold ile;generalize decide (g.2.2.2.2.1.2≤100)=x8
 cases x1<;>cases x2<;>cases x3<;>cases x4<;>cases x5<;>cases x6<;>cases x8<;>rfl
end Go.Proofs.ZzM
end
noncomputable section
namespace Go.Proofs.ZzM
open Go Go.Am
section
variable {ρ:Type}
theorem awn {α:Type} {l:List α} {i:Nat} {a:α} (h0:0<i) (h:l[i-1]?=some a) (f:α→Option ρ):ă l ((i:Int)-1) f=f a:=by
 have:((i:Int)-1)=((i-1:Nat):Int):=by omega
 rw[this,Ë h]
theorem aFG {i:Nat} (h:0<i) (hn:i≤1000000000) (f:Int→Option ρ):ck ((i:Int)-1) f=f ((i:Int)-1):=Ø (by omega) (by omega) f
theorem adn {i n:Nat} (h:i<n) (x:Option ρ):ï ((ile 0 (i:Int))&&(ilt (i:Int) (n:Int))) x=x:=by
 have:((ile 0 (i:Int))&&(ilt (i:Int) (n:Int)))=true:=by simp[ile,ilt,h]
 rw[this,Am.iff_true]
theorem Ĭ {α:Type} {l:List α} {i:Nat} {a:α} (h:l[i]?=some a) (f:α→Option ρ):Ň l (Int.toNat (i:Int)) f=f a:=by
 rw[Int.toNat_natCast]; exact afA h f
end
def atA {α:Type} (key:α→Int) (l:List α) (i:Nat) (a:α):Bool :=
 decide (0<i)&&(l[i-1]?).any fun q=>decide (key a≤key q)
theorem atU {α:Type} {l:List α} {i:Nat} (hi:i<l.length) (h0:0<i):∃q,l[i-1]?=some q :=
 ⟨l[i-1],List.getElem?_eq_getElem (by omega)⟩
theorem aMY {α:Type} (key:α→Int) (l:List α):(∀i a,l[i]?=some a→atA key l i a=false)↔l.Pairwise (fun a b=>key a<key b):=by
 rw[List.pairwise_iff_getElem];constructor
 ·intro h
  have step:∀i (h1:i+1<l.length),key l[i]<key l[i+1]:=by
   intro i h1;have:=h (i+1) l[i+1] (List.getElem?_eq_getElem h1);simp only[atA,Nat.add_sub_cancel,Nat.succ_pos,decide_true,Bool.true_and,List.getElem?_eq_getElem (show i<l.length by omega),Option.any_some,decide_eq_false_iff_not] at this;omega
  intro i j hi hj hij
  induction j with
  |zero=>omega
  |succ j ih =>
   have:=step j hj;rcases Nat.lt_or_ge i j with hlt|hge
   ·have:=ih (by omega) hlt; omega
   ·have:i=j:=by omega
    subst this; assumption
 ·intro h i a ha;obtain⟨hi,rfl⟩:=List.getElem?_eq_some_iff.1 ha;unfold atA
  cases i with
  |zero=>rfl
  |succ i =>
   have:=h i (i+1) (by omega) hi (by omega);simp only[Nat.add_sub_cancel,Nat.succ_pos,decide_true,Bool.true_and,List.getElem?_eq_getElem (show i<l.length by omega),Option.any_some,decide_eq_false_iff_not];omega
def ahL (l:List î) (i:Nat) (g:î):Option Int :=
 if !aiV g then some 1 else if atA (fun g=>g.1) l i g then some 6 else none
def aeh (b:â):Int:=(ĵ (ahL b.2.1) 0 b.2.1).getD 0
theorem aH1 {b:â} (hr:∀g∈b.2.1,I64 g.2.2.2.2.1.1) (hn:b.2.1.length≤1000):ź b=some (aeh b):=by
 unfold ź aiR;refine Eq.trans (afn b.2.1 (ahL b.2.1) some (some 0) (fun i a hi ha kn=>?_) (fun kn=>?_)) ?_
 ·try dsimp only
  unfold ad7;rw[Ö hi,Ë ha,aVe (hr a (List.mem_of_getElem? ha)),À];unfold ahL
  cases hg:aiV a with
  |false=>simp
  |true =>
   simp only[Bool.not_true,è,Bool.false_eq_true,if_false];rcases Nat.eq_zero_or_pos i with h0|h0
   ·subst h0
    have:igt ((0:Nat):Int) 0=false:=by simp[igt]
    rw[Õ this,Ñ hi (by omega)];simp[atA]
   ·obtain⟨q,hq⟩:=atU hi h0
    have h1:igt (i:Int) 0=true:=by simp[igt]; omega
    rw[Ú h1,aFG h0 (by omega),awn h0 hq];simp only[atA,h0,decide_true,Bool.true_and,hq,Option.any_some];unfold ile
    cases h2:decide (a.1≤q.1) with
    |true=>simp
    |false =>
     rw[è,Ñ hi (by omega)];simp
 ·try dsimp only
  unfold ad7;rw[ã]
 ·unfold aeh
  cases ĵ (ahL b.2.1) 0 b.2.1<;>rfl
def aNx (l:List î):List (Int×î):=l.foldl (fun m g=>aBM (k:=tI) (v:=Ó) g.1 g m) []
def ady (b:â):List (Int×î):=aNx b.2.1
theorem aId {b:â} (hn:b.2.1.length≤1000):ι b=some (ady b):=by
 unfold ι atf;refine ñ b.2.1 (fun i=>aNx (b.2.1.take i)) _ rfl (fun i a hi ha kn=>?_) (fun kn=>?_)
 ·try dsimp only
  unfold agW;rw[Ö hi,Ë ha,Ñ hi (by omega),take_succ ha];simp only[aNx,List.foldl_append,List.foldl_cons,List.foldl_nil]
 ·try dsimp only
  unfold agW;rw[ã,List.take_length];rfl
theorem aOm (x y:Int) (g:î):∀m:List (Int×î),akW (k:=tI) (v:=Ó) x (aBM (k:=tI) (v:=Ó) y g m)=if x=y then some g else akW (k:=tI) (v:=Ó) x m
 |[]=>by
  unfold aBM akW afe akW
  by_cases h:x=y<;>simp[h]
 |e::m=>by
  unfold aBM
  by_cases h:y=e.1
  ·have:afe tI y e.1=true:=by simp[afe,h]
   rw[this]
   try dsimp only
   unfold akW afe
   by_cases h2:x=y
   ·simp[h2]
   ·have:¬x=e.1:=fun h3=>h2 (h3.trans h.symm);simp[h2,this]
  ·have:afe tI y e.1=false:=by simp[afe,h]
   rw[this]
   try dsimp only
   have ih:=aOm x y g m;unfold akW
   by_cases h2:x=e.1
   ·have:afe tI x e.1=true:=by simp[afe,h2]
    rw[this];have:¬x=y:=fun h3=>h (h3.symm.trans h2);simp[this]
   ·have:afe tI x e.1=false:=by simp[afe,h2]
    rw[this];exact ih
def ū (b:â) (id:Int):Option î:=b.2.1.find? fun g=>g.1==id
theorem aRn (x:Int) (l:List î):akW (k:=tI) (v:=Ó) x (aNx l)=l.reverse.find? fun g=>g.1==x:=by
 unfold aNx;rw[←List.foldr_reverse]
 induction l.reverse with
 |nil=>rfl
 |cons g t ih =>
  rw[List.foldr_cons,aOm,ih,List.find?_cons]
  by_cases h:x=g.1
  ·simp[h]
  ·have:(g.1==x)=false:=by simp; exact fun h2=>h h2.symm
   simp[h,this]
theorem aP8 {l:List î} (h:l.Pairwise fun a b=>a.1<b.1) (x:Int):l.reverse.find? (fun g=>g.1==x)=l.find? fun g=>g.1==x:=by
 induction l with
 |nil=>rfl
 |cons g t ih =>
  rw[List.pairwise_cons] at h;rw[List.reverse_cons,List.find?_append,ih h.2,List.find?_cons]
  by_cases hx:g.1=x
  ·have:t.find? (fun g=>g.1==x)=none:=List.find?_eq_none.2 fun y hy=>by have:g.1<y.1:=h.1 y hy; simp; omega
   rw[this]; simp[hx]
  ·have:(g.1==x)=false:=by simp[hx]
   simp[this]
theorem ap9 {b:â} (h:b.2.1.Pairwise fun a b=>a.1<b.1) (x:Int):akW (k:=tI) (v:=Ó) x (ady b)=ū b x:=by
 unfold ady ū;rw[aRn,aP8 h]
def ag2 (s:List (Int×î)) (id day:Int):Int :=
 match akW (k:=tI) (v:=Ó) id s with
 |some g=>if day<g.2.1 then 4 else 0
 |none=>5
theorem aRp (s:List (Int×î)) (id day:Int):adY s id day=some (ag2 s id day):=by
 unfold adY aky ag2
 cases h:akW (k:=tI) (v:=Ó) id s with
 |none=>simp only[aNc,h]
 |some g =>
  simp only[aNc,h];rw[Ĥ]
  by_cases h2:day<g.2.1<;>simp[h2]
def aUA (s:List (Int×î)) (id day:Int):Int:=if !aw6 day then 1 else ag2 s id day
theorem aNP (s:List (Int×î)) (id day:Int):ń id day s=some (aUA s id day):=by
 unfold ń ath aUA;rw[aMq,À,aRp,À]
 cases aw6 day<;>rfl
def aHZ (b:â) (s:List (Int×î)) (i:Nat) (l:aAq):Int :=
 if !aeE l.2.1 0 20000 then 1 else if !inP l.2.2 0 1048576 then 1 else if ag2 s l.1 l.2.1.1 != 0 then ag2 s l.1 l.2.1.1 else
 if (b.2.2.2.1.take i).any (fun x=>x.1==l.1&&(decide (x.2.1.1≤l.2.1.2)&&decide (l.2.1.1≤x.2.1.2))) then 9 else
 if b.2.2.1.any (fun u=>u.1==l.1&&inP u.2 l.2.1.1 l.2.1.2) then 9 else 0
theorem aQm {b:â} (hn:b.2.2.2.1.length≤1000) (hu:b.2.2.1.length≤1000) (s:List (Int×î)) {i:Nat} {l:aAq} (hl:b.2.2.2.1[i]?=some l):Υ b s i=some (aHZ b s i l):=by
 unfold Υ amM aHZ;have hi:i<b.2.2.2.1.length:=(List.getElem?_eq_some_iff.1 hl).1;rw[Ë hl,awl,À,adg,À,aRp,À]
 cases aeE l.2.1 0 20000 with
 |false=>rfl
 |true =>
 cases inP l.2.2 0 1048576 with
 |false=>rfl
 |true =>
 cases hm:(ag2 s l.1 l.2.1.1 != 0) with
 |true =>
  have:ine (ag2 s l.1 l.2.1.1) 0=true:=hm;simp[this]
 |false =>
 have hm':ine (ag2 s l.1 l.2.1.1) 0=false:=hm
 have hg:((ile (0:Int) (i:Int))&&(ile (i:Int) (Đ b.2.2.2.1)))=true:=by simp[ile,Đ]; omega
 simp only[Bool.not_true,è,hm',Bool.false_eq_true,if_false];rw[ģ hg,Int.toNat_natCast]
 have inner:∀(k:Int→Option Int),Ì (fun(v:Int) kk=>Κ b.2.2.1 (Û b.2.2.1) l.1 l.2.1.1 l.2.1.2 v (fun u=>kk u) (fun z=>ifb (ige z 0) (k 9) (k 0)) (fun _=>k 0)) (0:Int)=if b.2.2.1.any (fun u=>u.1==l.1&&inP u.2 l.2.1.1 l.2.1.2) then k 9 else k 0:=by
  intro k;refine Ĺ b.2.2.1 _ (fun z=>ifb (ige z 0) (k 9) (k 0)) (k 9) (k 0) (fun j=>?_) (fun j a hj ha kn=>?_) (fun kn=>?_)
  ·have:ige (j:Int) 0=true:=by simp[ige]
   rw[Ú this]
  ·try dsimp only
   unfold Κ;rw[Ö hj,Ë ha,adg,À,Ñ hj (by omega)]
   cases h1:(a.1==l.1) with
   |false =>
    have:ieq a.1 l.1=false:=h1;simp[this]
   |true =>
    have:ieq a.1 l.1=true:=h1;rw[this]
    cases inP a.2 l.2.1.1 l.2.1.2<;>simp
  ·try dsimp only
   unfold Κ;rw[ã]
 rw[inner];refine Eq.trans (Ĺ (b.2.2.2.1.take i) (fun x=>x.1==l.1&&(decide (x.2.1.1≤l.2.1.2)&&decide (l.2.1.1≤x.2.1.2))) (fun z=>ifb (ige z 0) (some 9) (if b.2.2.1.any (fun u=>u.1==l.1&&inP u.2 l.2.1.1 l.2.1.2) then some 9 else some 0)) (some 9) (if b.2.2.1.any (fun u=>u.1==l.1&&inP u.2 l.2.1.1 l.2.1.2) then some 9 else some 0) (fun j=>?_) (fun j a hj ha kn=>?_) (fun kn=>?_)) ?_
 ·have:ige (j:Int) 0=true:=by simp[ige]
  rw[Ú this]
 ·try dsimp only
  unfold aeX
  have hj':j≤1000:=by rw[List.length_take] at hj; omega
  rw[Ö hj,Ë ha,Ñ hj (by rw[List.length_take]; omega)]
  cases h1:(a.1==l.1) with
  |false =>
   have:ieq a.1 l.1=false:=h1;simp[this]
  |true =>
   have:ieq a.1 l.1=true:=h1;rw[this]
   cases h2:decide (a.2.1.1≤l.2.1.2)<;>cases h3:decide (l.2.1.1≤a.2.1.2)<;>simp[ile,h2,h3,Ĥ]<;>simp_all
 ·try dsimp only
  unfold aeX;rw[ã]
 ·cases List.any (b.2.2.2.1.take i) _<;>cases b.2.2.1.any _<;>rfl
end Go.Proofs.ZzM
end
noncomputable section
namespace Go.Proofs.ZzM
open Go Go.Am
theorem aY5 {l:List Int} (hn:l.length≤1000000) (x:Int):aev l x=some (match l.findIdx? (·==x) with|some j=>(j:Int)|none=>-1):=by
 unfold aev ags;refine Eq.trans (adl l (·==x) some (some (-1)) (fun i a hi ha kn=>?_) (fun kn=>?_)) ?_
 ·try dsimp only
  unfold ω;rw[Ö hi,Ë ha,Ñ hi (by omega),Ĥ]
  by_cases h:x=a
  ·subst h; simp[ieq]
  ·have h2:¬a=x:=fun e=>h e.symm;simp[ieq,h,h2]
 ·try dsimp only
  unfold ω;rw[ã]
 ·cases l.findIdx? (·==x)<;>rfl
theorem ahs {l:List Int} (hn:l.length≤1000000) (x:Int):ĩ l x=some (l.contains x):=by
 unfold ĩ aeC;rw[aY5 hn,À];congr 1
 cases h:l.findIdx? (·==x) with
 |none =>
  have:l.contains x=false:=by
   rw[Bool.eq_false_iff];intro hc;have:=List.findIdx?_eq_none_iff.1 h x (by simpa using hc);simp at this
  rw[this]; rfl
 |some j =>
  obtain⟨hj,hp,_⟩:=List.findIdx?_eq_some_iff_getElem.1 h
  have:l.contains x=true:=by
   have h2:l[j]=x:=by simpa using hp
   rw[←h2]; simp
  rw[this];simp[ige]
def ë (a b:List Int):List Int:=a.filter fun x=>!b.contains x
theorem akA {a b:List Int} (ha:a.length≤1000000) (hb:b.length≤1000000):Ŭ a b=some (ë a b):=by
 unfold Ŭ aL1;rw[Ù (by omega),Am.iff_true]
 have second:∀z:Nat,z<a.length→ë (a.take z) b=a.take z→b.contains (a[z]?.getD 0)=true →
  Ì (fun(v13:(Val (.pair tI (.pair tI (.slice tI))))) kk17=>afc b v13.1 v13.2.1 v13.2.2 (fun u14 u15 u16=>kk17 (u14,u15,u16)) (fun z12=>ï ((ile (0:Int) z12.1)&&(ile z12.1 (Đ z12.2))) (ï ((ile (0:Int) z12.1)&&(ile z12.1 (Đ (List.take (Int.toNat z12.1) z12.2++List.replicate (List.length z12.2-(Int.toNat z12.1)) (0:Int)++List.drop ((Int.toNat z12.1)+(List.length z12.2-(Int.toNat z12.1))) z12.2)))) (some (List.take (Int.toNat z12.1) (List.drop 0 (List.take (Int.toNat z12.1) z12.2++List.replicate (List.length z12.2-(Int.toNat z12.1)) (0:Int)++List.drop ((Int.toNat z12.1)+(List.length z12.2-(Int.toNat z12.1))) z12.2))))))) ((z:Int),((z:Int)+1),a)=some (ë a b):=by
  intro z hz hp hc
  refine ł (fun x:Int×Int×List Int=>∃i j:Nat,x.1=i∧x.2.1=j∧i<j∧j≤a.length∧x.2.2.length=a.length∧x.2.2.take i=ë (a.take j) b∧x.2.2.drop j=a.drop j) (fun x=>a.length-x.2.1.toNat) ?_
   ⟨z,z+1,rfl,by simp,by omega,by omega,rfl,?_,rfl⟩
  ·rintro⟨x1,x2,s⟩ ⟨i,j,h1,h2,hij,hja,hl,ht,hd⟩;simp only at h1 h2 hl ht hd;subst h1 h2;rcases Nat.lt_or_ge j a.length with hj|hj
   ·refine .inr ?_
    have hsj:s[j]?=some a[j]:=by
     have h3:(s.drop j)[0]?=(a.drop j)[0]?:=by rw[hd]
     rw[List.getElem?_drop,List.getElem?_drop] at h3;simpa[List.getElem?_eq_getElem hj] using h3
    have hjs:j<s.length:=by omega
    have hta:ë (a.take (j+1)) b=ë (a.take j) b++if b.contains a[j] then[] else[a[j]]:=by
     rw[take_succ (List.getElem?_eq_getElem hj),ë,ë,List.filter_append];congr 1
     cases h:b.contains a[j] with
     |true=>simp only[List.filter_cons,h,Bool.not_true,Bool.false_eq_true,if_false,List.filter_nil,if_true]
     |false=>simp only[List.filter_cons,h,Bool.not_false,Bool.false_eq_true,if_false,List.filter_nil,if_true]
    cases h:b.contains a[j] with
    |true =>
     refine⟨(i,(j:Int)+1,s),⟨i,j+1,rfl,by simp,by omega,by omega,hl,?_,?_⟩,by simp; omega,fun kn=>?_⟩
     ·rw[hta,h]; simpa using ht
     ·have:=congrArg (List.drop 1) hd;simpa[List.drop_drop,Nat.add_comm] using this
     ·try dsimp only
      unfold afc;rw[Ö hjs,adn hjs,Ĭ hsj,ahs hb,À,h];simp only[Bool.not_true,è];rw[Ñ hjs (by omega)]
    |false =>
     have his:i<s.length:=by omega
     refine⟨((i:Int)+1,(j:Int)+1,s.set i a[j]),⟨i+1,j+1,by simp,by simp,by omega,by omega,by simpa using hl,?_,?_⟩,by simp; omega,fun kn=>?_⟩
     ·show List.take (i+1) (s.set i a[j])=_;rw[hta,h,List.take_succ,List.getElem?_set,List.take_set_of_le (Nat.le_refl i),ht];simp[his]
     ·show List.drop (j+1) (s.set i a[j])=_;rw[List.drop_set_of_lt (by omega)];have:=congrArg (List.drop 1) hd;simpa[List.drop_drop,Nat.add_comm] using this
     ·try dsimp only
      unfold afc;rw[Ö hjs,adn hjs,Ĭ hsj,ahs hb,À,h];simp only[Bool.not_false,ī];rw[adn his,Ĭ (List.getElem?_eq_getElem his),Ñ his (by omega),Ñ hjs (by omega),Int.toNat_natCast]
   ·refine .inl fun kn=>?_
    have hje:j=s.length:=by omega
    try dsimp only
    unfold afc;rw[hje,ã];dsimp only
    have g1:((ile (0:Int) (i:Int))&&(ile (i:Int) (Đ s)))=true:=by simp[ile,Đ]; omega
    rw[ģ g1]
    have g2:((ile (0:Int) (i:Int))&&(ile (i:Int) (Đ (List.take (Int.toNat (i:Int)) s++List.replicate (List.length s-(Int.toNat (i:Int))) (0:Int)++List.drop ((Int.toNat (i:Int))+(List.length s-(Int.toNat (i:Int)))) s))))=true:=by
     simp[ile,Đ]; omega
    rw[ģ g2,Int.toNat_natCast,List.drop_zero,List.append_assoc,List.take_append_of_le_length (by simp; omega),List.take_take,Nat.min_self,ht];rw[List.take_of_length_le (by omega)]
  ·show List.take z a=ë (a.take (z+1)) b;have hz':a[z]?=some a[z]:=List.getElem?_eq_getElem hz;rw[take_succ hz',ë,List.filter_append];rw[hz'] at hc;simp only[Option.getD_some] at hc
   have:List.filter (fun x=>!b.contains x) [a[z]]=[]:=by simp only[List.filter_cons,hc,Bool.not_true,Bool.false_eq_true,if_false,List.filter_nil]
   rw[this,List.append_nil];exact hp.symm
 refine Eq.trans (adl a (fun x=>b.contains x) (fun z4=>ifb (ieq z4 (-1:Int)) (some a) (ck (z4+(1:Int)) fun n5=>Ì (fun(v13:(Val (.pair tI (.pair tI (.slice tI))))) kk17=>afc b v13.1 v13.2.1 v13.2.2 (fun u14 u15 u16=>kk17 (u14,u15,u16)) (fun z12=>ï ((ile (0:Int) z12.1)&&(ile z12.1 (Đ z12.2))) (ï ((ile (0:Int) z12.1)&&(ile z12.1 (Đ (List.take (Int.toNat z12.1) z12.2++List.replicate (List.length z12.2-(Int.toNat z12.1)) (0:Int)++List.drop ((Int.toNat z12.1)+(List.length z12.2-(Int.toNat z12.1))) z12.2)))) (some (List.take (Int.toNat z12.1) (List.drop 0 (List.take (Int.toNat z12.1) z12.2++List.replicate (List.length z12.2-(Int.toNat z12.1)) (0:Int)++List.drop ((Int.toNat z12.1)+(List.length z12.2-(Int.toNat z12.1))) z12.2))))))) (z4,n5,a))) (some a) (fun i x hi hx kn=>?_) (fun kn=>?_)) ?_
 ·try dsimp only
  unfold amJ;rw[Ö hi,adn hi,Ĭ hx,ahs hb,À,Ñ hi (by omega),Ĥ]
 ·try dsimp only
  unfold amJ;rw[ã]
 ·cases h:a.findIdx? (fun x=>b.contains x) with
  |none =>
   have:ë a b=a:=by
    rw[ë,List.filter_eq_self];intro x hx;have:=List.findIdx?_eq_none_iff.1 h x hx;simpa using this
   rw[this]
  |some z =>
   obtain⟨hz,hc,hlt⟩:=List.findIdx?_eq_some_iff_getElem.1 h
   have h1:ieq (z:Int) (-1)=false:=by simp[ieq]
   try dsimp only
   rw[Õ h1,Ñ hz (by omega)];refine second z hz ?_ ?_
   ·rw[ë,List.filter_eq_self];intro x hx;obtain⟨j,hj,rfl⟩:=List.mem_iff_getElem.1 hx;rw[List.length_take] at hj;rw[List.getElem_take];have:=hlt j (by omega);simpa using this
   ·rw[List.getElem?_eq_getElem hz]; exact hc
def anN (l:List Int) (i:Nat) (a:Int):Option Bool:=if !inP a 1 1099511627776 then some false else if atA (fun x=>x) l i a then some false else none
def aga (l:List Int):Bool:=match ĵ (anN l) 0 l with|some _=>false|none=>decide (l.length≤6)
theorem awk {l:List Int} (hn:l.length≤1000000):agI l=some (aga l):=by
 unfold agI ayp;refine Eq.trans (afn l (anN l) some (some (decide (l.length≤6))) (fun i a hi ha kn=>?_) (fun kn=>?_)) ?_
 ·try dsimp only
  unfold ah2;rw[Ö hi,Ë ha,adg,À];unfold anN
  cases inP a 1 1099511627776 with
  |false=>rfl
  |true =>
   simp only[Bool.not_true,è,Bool.false_eq_true,if_false];rcases Nat.eq_zero_or_pos i with h0|h0
   ·subst h0
    have:igt ((0:Nat):Int) 0=false:=by simp[igt]
    rw[Õ this,Ñ hi (by omega)];simp[atA]
   ·obtain⟨q,hq⟩:=atU hi h0
    have h1:igt (i:Int) 0=true:=by simp[igt]; omega
    rw[Ú h1,aFG h0 (by omega),awn h0 hq];simp only[atA,h0,decide_true,Bool.true_and,hq,Option.any_some];unfold ile
    cases h2:decide (a≤q) with
    |true=>rfl
    |false =>
     rw[è,Ñ hi (by omega)];rfl
 ·try dsimp only
  unfold ah2;rw[ã,ç];simp[ile];omega
 ·have hb:∀x,ĵ (anN l) 0 l=some x→x=false:=by
   have:∀(m:List Int) (j:Nat) (x:Bool),ĵ (anN l) j m=some x→x=false:=by
    intro m
    induction m with
    |nil=>intro j x h; cases h
    |cons a m ih =>
     intro j x h;unfold ĵ at h
     cases hp:anN l j a with
     |none=>rw[hp] at h; exact ih _ _ h
     |some y =>
      rw[hp] at h;cases h;unfold anN at hp
      split at hp
      ·cases hp; rfl
      ·split at hp
       ·cases hp; rfl
       ·cases hp
   exact this l 0
  unfold aga
  cases h:ĵ (anN l) 0 l with
  |none=>rfl
  |some x=>rw[hb x h]
theorem atV (l:List Int):aga l=true↔(∀x∈l,1≤x∧x≤1099511627776)∧l.Pairwise (·<·)∧l.length≤6:=by
 have h0:ĵ (anN l) 0 l=none↔(∀x∈l,1≤x∧x≤1099511627776)∧l.Pairwise (·<·):=by
  rw[adJ,←aMY (fun x=>x) l];constructor
  ·intro h
   have h1:∀(j:Nat) (a:Int),l[j]?=some a→inP a 1 1099511627776=true∧atA (fun x=>x) l j a=false:=by
    intro j a ha;have:=h j a ha;rw[Nat.zero_add] at this;unfold anN at this
    split at this
    ·cases this
    ·split at this
     ·cases this
     ·rename_i h1 h2;exact⟨by simpa using h1,by simpa using h2⟩
   refine⟨fun x hx=>?_,fun i a ha=>(h1 i a ha).2⟩;obtain⟨j,hj,rfl⟩:=List.mem_iff_getElem.1 hx;have:=(h1 j l[j] (List.getElem?_eq_getElem hj)).1;simpa[inP] using this
  ·rintro⟨h1,h2⟩ j a ha;rw[Nat.zero_add];have h3:=h1 a (List.mem_of_getElem? ha)
   have:inP a 1 1099511627776=true:=by simpa[inP] using h3
   simp[anN,this,h2 j a ha]
 unfold aga
 cases h:ĵ (anN l) 0 l with
 |none =>
  obtain⟨h1,h2⟩:=h0.1 h;simp only[decide_eq_true_eq];exact⟨fun h3=>⟨h1,h2,h3⟩,fun h3=>h3.2.2⟩
 |some x =>
  constructor
  ·intro h2; cases h2
  ·rintro⟨h1,h2,h3⟩;rw[h0.2 ⟨h1,h2⟩] at h; cases h
theorem aY6 {a b:List Int} (ha:a.length≤1000000) (hb:b.length≤1000000):ò [a,b]=some (a++b):=by
 have hk:∀n:Nat,n≤4000000→∀(f:Int→Option (List Int)),ck (n:Int) f=f n:=fun n h f=>Ø (by omega) (by omega) f
 have second:Ì (fun(v9:(Val (.pair tI (.slice tI)))) kk12=>õ [a,b] (Û [a,b]) v9.1 v9.2 (fun u10 u11=>kk12 (u10,u11)) (fun z8=>some z8)) ((0:Int),([]:List Int))=some (a++b):=by
  refine ñ [a,b] (fun i=>([a,b].take i).flatten) (some (a++b)) (f:=fun(v9:(Val (.pair tI (.slice tI)))) kk12=>õ [a,b] (Û [a,b]) v9.1 v9.2 (fun u10 u11=>kk12 (u10,u11)) (fun z8=>some z8)) rfl (fun i x hi hx kn=>?_) (fun kn=>?_)
  ·try dsimp only
   unfold õ;rw[Ö hi,Ë hx,Ñ hi (by simp),take_succ hx,List.flatten_append]
   have:ì ((List.take i [a,b]).flatten.length+x.length)=true:=by
    refine Ù ?_
    have h1:x.length≤1000000:=by
     have:=List.mem_of_getElem? hx;simp at this
     rcases this with rfl|rfl<;>assumption
    have h2:(List.take i [a,b]).flatten.length≤2000000:=by
     have:i=0∨i=1:=by simp at hi; omega
     rcases this with rfl|rfl<;>simp<;>omega
    omega
   rw[ģ this];simp
  ·try dsimp only
   unfold õ;rw[ã];simp
 unfold ò ad5;refine ł (fun x:Int×Int=>∃i:Nat,i≤2∧x=((([a,b].take i).flatten.length:Int),(i:Int))) (fun x=>2-x.2.toNat) ?_ ⟨0,by omega,rfl⟩;rintro x ⟨i,hi,rfl⟩;rcases Nat.lt_or_ge i 2 with h2|h2
 ·refine .inr ⟨((([a,b].take (i+1)).flatten.length:Int),(i:Int)+1),⟨i+1,h2,by simp⟩,by simp; omega,fun kn=>?_⟩;have hi':i<[a,b].length:=h2;obtain⟨x,hx⟩:∃x,[a,b][i]?=some x:=⟨_,List.getElem?_eq_getElem hi'⟩
  have hxl:x.length≤1000000:=by
   have:=List.mem_of_getElem? hx;simp at this
   rcases this with rfl|rfl<;>assumption
  have h3:(List.take i [a,b]).flatten.length≤2000000:=by
   have:i=0∨i=1:=by omega
   rcases this with rfl|rfl<;>simp<;>omega
  try dsimp only
  unfold ĸ;rw[Ö hi',Ë hx,ç]
  have e1:(((List.take i [a,b]).flatten.length:Int)+(x.length:Int))=((List.take i [a,b]).flatten.length+x.length:Nat):=by omega
  rw[e1,hk _ (by omega)]
  have:ilt ((((List.take i [a,b]).flatten.length+x.length:Nat)):Int) 0=false:=by simp[ilt]; omega
  rw[Õ this,Ñ hi' (by simp),take_succ hx];simp
 ·refine .inl fun kn=>?_
  obtain rfl:i=2:=by omega
  try dsimp only
  unfold ĸ;rw[show((2:Nat):Int)=(([a,b].length:Nat):Int) from rfl,ã]
  have e1:((List.take 2 [a,b]).flatten.length:Int)=((a.length+b.length:Nat):Int):=by simp
  have e2:ilt (((a.length+b.length:Nat)):Int) 0=false:=by simp[ilt]; omega
  rw[e1];dsimp only;rw[Õ e2,Int.sub_zero,hk _ (by omega)];rcases Nat.eq_zero_or_pos (a.length+b.length) with h0|h0
  ·have:igt (((a.length+b.length:Nat)):Int) 0=false:=by simp[igt]; omega
   rw[Õ this];exact second
  ·have:igt (((a.length+b.length:Nat)):Int) 0=true:=by simp[igt]; omega
   rw[Ú this]
   have:((ilt (0:Int) (((a.length+b.length:Nat)):Int))&&(ì (Int.toNat (((a.length+b.length:Nat)):Int))))=true:=by
    rw[Int.toNat_natCast,Ù (by omega)];simp[ilt]; omega
   rw[ģ this]
   have:ile 0 (Đ (List.replicate (Int.toNat (((a.length+b.length:Nat)):Int)) (0:Int)))=true:=by simp[ile]
   rw[ģ this];exact second
def af6 (b:â) (id day:Int):Option aAq:=b.2.2.2.1.find? fun l=>l.1==id&&inP day l.2.1.1 l.2.1.2
theorem aMz {α:Type} (p:α→Bool):∀l:List α,l.find? p=(match l.findIdx? p with|some j=>l[j]?|none=>none)
 |[]=>rfl
 |a::l=>by
  rw[List.find?_cons,List.findIdx?_cons]
  cases h:p a with
  |true=>simp
  |false =>
   simp only[Bool.false_eq_true,if_false];rw[aMz p l]
   cases l.findIdx? p<;>simp
theorem a2m {b:â} (hn:b.2.2.2.1.length≤1000) (id day:Int):aqz b id day=some (match af6 b id day with|some l=>(l,true)|none=>((0,(0,0),0),false)):=by
 unfold aqz aMb;refine Eq.trans (adl b.2.2.2.1 (fun l=>l.1==id&&inP day l.2.1.1 l.2.1.2) (fun z5=>ifb (ilt z5 (0:Int)) (some (((0:Int),((0:Int),(0:Int)),(0:Int)),false)) (ă b.2.2.2.1 z5 fun e6=>some (e6,true))) (some ((0,(0,0),0),false)) (fun i a hi ha kn=>?_) (fun kn=>?_)) ?_
 ·try dsimp only
  unfold amN;rw[Ö hi,Ë ha,adg,À,Ñ hi (by omega)]
  cases h1:(a.1==id) with
  |false =>
   have:ieq a.1 id=false:=h1;simp[this]
  |true =>
   have:ieq a.1 id=true:=h1;rw[this]
   cases inP day a.2.1.1 a.2.1.2<;>simp
 ·try dsimp only
  unfold amN;rw[ã]
 ·unfold af6;rw[aMz]
  cases h:b.2.2.2.1.findIdx? (fun l=>l.1==id&&inP day l.2.1.1 l.2.1.2) with
  |none=>rfl
  |some j =>
   obtain⟨hj,_,_⟩:=List.findIdx?_eq_some_iff_getElem.1 h
   have:ilt (j:Int) 0=false:=by simp[ilt]
   try dsimp only
   rw[Õ this,Ë (List.getElem?_eq_getElem hj),List.getElem?_eq_getElem hj]
end Go.Proofs.ZzM
end
noncomputable section
namespace Go.Proofs.ZzM
open Go Go.Am
def a1V (a:Int):List Int→List Int
 |[]=>[a]
 |b::t=>if a≤b then a::b::t else b::a1V a t
def aI7:List Int→List Int
 |[]=>[]
 |a::t=>a1V a (aI7 t)
def anZ (p:Option Int):List Int→List Int
 |[]=>[]
 |a::t=>if p=some a then anZ (some a) t else a::anZ (some a) t
def aNy (l:List Int):List Int:=anZ none (aI7 l)
theorem aFe (a:Int):∀l,(a1V a l).Perm (a::l)
 |[]=>List.Perm.refl _
 |b::t=>by
  unfold a1V
  split
  ·exact List.Perm.refl _
  ·exact((aFe a t).cons b).trans (List.Perm.swap a b t)
theorem amR:∀l,(aI7 l).Perm l
 |[]=>List.Perm.refl _
 |a::t=>(aFe a _).trans ((amR t).cons a)
theorem aFd (a:Int):∀{l:List Int},l.Pairwise (·≤·)→(a1V a l).Pairwise (·≤·)
 |[],_=>by simp[a1V]
 |b::t,h=>by
  rw[List.pairwise_cons] at h;unfold a1V
  split
  ·rename_i hab;refine List.pairwise_cons.2 ⟨fun x hx=>?_,List.pairwise_cons.2 h⟩;rcases List.mem_cons.1 hx with rfl|hx
   ·exact hab
   ·have:=h.1 x hx; omega
  ·rename_i hab;refine List.pairwise_cons.2 ⟨fun x hx=>?_,aFd a h.2⟩;rcases List.mem_cons.1 ((aFe a t).mem_iff.1 hx) with rfl|hx
   ·omega
   ·exact h.1 x hx
theorem amQ:∀l:List Int,(aI7 l).Pairwise (·≤·)
 |[]=>List.Pairwise.nil
 |a::t=>aFd a (amQ t)
theorem aZt (l:List Int):atK l=aI7 l:=by
 have h1:(atK l).Pairwise (·≤·):=by
  have:=List.pairwise_mergeSort (le:=fun a b:Int=>decide (a≤b)) (fun a b c h1 h2=>by simp at *; omega) (fun a b=>by simp; omega) l
  exact this.imp fun h=>by simpa using h
 exact List.Perm.eq_of_pairwise (le:=(·≤·)) (fun a b _ _ h1 h2=>by omega) h1 (amQ l) ((List.mergeSort_perm l _).trans (amR l).symm)
theorem aH8 (a:Int):∀(l:List Int) (p:Option Int),anZ p (l++[a])=anZ p l++(if (match l.getLast? with|some b=>some b|none=>p)=some a then[] else[a])
 |[],p=>by simp only[List.nil_append,anZ,List.getLast?_nil]; rfl
 |b::t,p=>by
  have ih:=aH8 a t (some b)
  have e:(match (b::t).getLast? with|some c=>some c|none=>p)=(match t.getLast? with|some c=>some c|none=>some b):=by
   cases t with
   |nil=>rfl
   |cons c t =>
    rw[List.getLast?_cons_cons]
    cases h:(c::t).getLast? with
    |none=>simp at h
    |some x=>rfl
  rw[e];simp only[List.cons_append,anZ,ih]
  split<;>simp
theorem asc (l:List Int):∀m,m≤l.length→Lib.compactUpTo l.toArray m=anZ none (l.take m)
 |0,_=>by simp[Lib.compactUpTo,anZ]
 |m+1,h=>by
  have hm:m<l.length:=h;rw[Lib.compactUpTo_succ,asc l m (by omega),take_succ (List.getElem?_eq_getElem hm),aH8];congr 1
  have e1:l.toArray[m]! = l[m]:=by simp[getElem!_pos,hm]
  rw[e1];unfold Lib.keeps;rw[e1]
  cases m with
  |zero=>simp
  |succ m =>
   have hm':m<l.length:=by omega
   have e2:l.toArray[m+1-1]! = l[m]:=by simp[getElem!_pos,hm']
   rw[e2]
   have e3:(l.take (m+1)).getLast?=some l[m]:=by rw[take_succ (List.getElem?_eq_getElem hm'),List.getLast?_append]; rfl
   rw[e3]
   by_cases hne:l[m+1]=l[m]
   ·simp[hne]
   ·have:¬l[m]=l[m+1]:=fun h=>hne h.symm;simp[hne,this]
theorem aSx (l:List Int):aqC l=anZ none l:=by
 unfold aqC Lib.compact;rw[asc l l.length (Nat.le_refl _),List.take_length]
theorem aWp (l:List Int):aqC (atK l)=aNy l:=by rw[aZt,aSx]; rfl
theorem aNl:∀{l:List Int} {p:Option Int} {x:Int},p≠some x→(x∈anZ p l↔x∈l)
 |[],_,_,_=>Iff.rfl
 |a::t,p,x,hp=>by
  unfold anZ
  by_cases hx:x=a
  ·subst hx;rw[if_neg hp]; simp
  ·have ih:=aNl (l:=t) (p:=some a) (x:=x) (fun e=>hx (by cases e; rfl))
   split<;>simp[ih,hx]
theorem aS6:∀{l:List Int} {p:Option Int},l.Pairwise (·≤·)→(∀q,p=some q→∀x∈l,q≤x)→(anZ p l).Pairwise (·<·)∧∀q,p=some q→∀x∈anZ p l,q<x
 |[],p,_,_=>⟨List.Pairwise.nil,fun _ _ _ h=>by cases h⟩
 |a::t,p,h,hp=>by
  rw[List.pairwise_cons] at h;obtain⟨i1,i2⟩:=aS6 (l:=t) (p:=some a) h.2 (fun q hq x hx=>by cases hq; exact h.1 x hx);unfold anZ
  split
  ·rename_i e;exact⟨i1,fun q hq x hx=>by rw[e] at hq; cases hq; exact i2 _ rfl x hx⟩
  ·rename_i e;refine⟨List.pairwise_cons.2 ⟨fun x hx=>i2 _ rfl x hx,i1⟩,fun q hq x hx=>?_⟩;have:=hp q hq a (by simp);have hne:q≠a:=fun h=>e (by rw[hq,h]);rcases List.mem_cons.1 hx with rfl|hx
   ·omega
   ·have:=i2 _ rfl x hx; omega
theorem aji {l:List Int} {x:Int}:x∈aNy l↔x∈l:=by
 unfold aNy;rw[aNl (by simp),(amR l).mem_iff]
theorem asp (l:List Int):(aNy l).Pairwise (·<·):=(aS6 (amQ l) (fun q hq=>by cases hq)).1
theorem aNm:∀(l:List Int) (p:Option Int),(anZ p l).length≤l.length
 |[],_=>Nat.le_refl _
 |a::t,p=>by
  have:=aNm t (some a);unfold anZ
  split<;>simp<;>omega
theorem atM (l:List Int):(aNy l).length≤l.length:=by
 unfold aNy;have:=aNm (aI7 l) none
 rwa [(amR l).length_eq] at this
theorem aSO {l m:List Int} (hl:l.Pairwise (·<·)) (hm:m.Pairwise (·<·)) (h:∀x,x∈l↔x∈m):l=m:=by
 induction l generalizing m with
 |nil =>
  cases m with
  |nil=>rfl
  |cons a t=>have:=(h a).2 (by simp); cases this
 |cons a t ih =>
  rw[List.pairwise_cons] at hl
  cases m with
  |nil=>have:=(h a).1 (by simp); cases this
  |cons b u =>
   rw[List.pairwise_cons] at hm
   have hab:a=b:=by
    rcases List.mem_cons.1 ((h a).1 (by simp)) with h1|h1
    ·exact h1
    ·rcases List.mem_cons.1 ((h b).2 (by simp)) with h2|h2
     ·exact h2.symm
     ·have:=hm.1 a h1; have:=hl.1 b h2; omega
   subst hab;rw[ih hl.2 hm.2 fun x=>?_];constructor
   ·intro hx;rcases List.mem_cons.1 ((h x).1 (by simp[hx])) with h1|h1
    ·have:=hl.1 x hx; omega
    ·exact h1
   ·intro hx;rcases List.mem_cons.1 ((h x).2 (by simp[hx])) with h1|h1
    ·have:=hm.1 x hx; omega
    ·exact h1
end Go.Proofs.ZzM
end
noncomputable section
namespace Go.Proofs.ZzM
open Go Go.Am
def aq3 (b:â) (s:List (Int×î)) (c:Cmp):Int :=
 if (c.2.2.1++c.2.2.2.1).any (fun id=>ag2 s id c.2.1==5) then 5 else
 if (c.2.2.1++c.2.2.2.1).any (fun id=>ag2 s id c.2.1==4) then 4 else
 if (c.2.2.1++c.2.2.2.1).any (fun id=>(af6 b id c.2.1).isSome) then 9 else
 if 1<(ë c.2.2.1 c.2.2.2.1).length then 1 else if 1<(ë c.2.2.2.1 c.2.2.1).length then 1 else
 if (ë c.2.2.1 c.2.2.2.1).length+(ë c.2.2.2.1 c.2.2.1).length=0 then 1 else 0
def aAA (c:Cmp):Bool :=
 inP c.1 1 1099511627776&&(aw6 c.2.1&&(inP c.2.2.2.2.1 (-1125899906842624) 1125899906842624&&(inP c.2.2.2.2.2.1 0 1073741824&&(aeE c.2.2.2.2.2.2 (-10000) 10000&&(aga c.2.2.1&&aga c.2.2.2.1)))))
def aic (b:â) (s:List (Int×î)) (i:Nat) (c:Cmp):Int :=
 if !aAA c then 1 else if (b.2.2.2.2.1.take i).any (fun x=>x.1==c.1) then 6 else aq3 b s c
theorem apx (a b:List Int):(ë a b).length≤a.length:=List.length_filter_le _ _
set_option maxHeartbeats 1000000 in
theorem aFI {b:â} (hn:b.2.2.2.2.1.length≤1000) (hl:b.2.2.2.1.length≤1000) (s:List (Int×î)) {i:Nat} {c:Cmp} (hA:c.2.2.1.length≤1000) (hB:c.2.2.2.1.length≤1000)
 (hc:b.2.2.2.2.1[i]?=some c):ň b s i=some (aic b s i c):=by
 have hi:i<b.2.2.2.2.1.length:=(List.getElem?_eq_some_iff.1 hc).1;unfold ň ahC aic aAA;rw[Ë hc,adg,À]
 cases inP c.1 1 1099511627776 with
 |false=>rfl
 |true =>
 rw[aMq,À]
 cases aw6 c.2.1 with
 |false=>rfl
 |true =>
 rw[adg,À]
 cases inP c.2.2.2.2.1 (-1125899906842624) 1125899906842624 with
 |false=>rfl
 |true =>
 rw[adg,À]
 cases inP c.2.2.2.2.2.1 0 1073741824 with
 |false=>rfl
 |true =>
 rw[awl,À]
 cases aeE c.2.2.2.2.2.2 (-10000) 10000 with
 |false=>rfl
 |true =>
 rw[awk (by omega),À]
 cases aga c.2.2.1 with
 |false=>rfl
 |true =>
 rw[awk (by omega),À]
 cases aga c.2.2.2.1 with
 |false=>rfl
 |true =>
 have hg:((ile (0:Int) (i:Int))&&(ile (i:Int) (Đ b.2.2.2.2.1)))=true:=by simp[ile,Đ]; omega
 simp only[Bool.not_true,è,Bool.and_self,Bool.false_eq_true,if_false];rw[ģ hg,Int.toNat_natCast]
 -- what comes behind the IDs
 have rest:(Â (ò ([c.2.2.1,c.2.2.2.1])) fun r12=>Ì (fun(v36:Int) kk38=>ő s r12 (Û ([(5:Int),(4:Int)])) c.2.1 ([(5:Int),(4:Int)]) v36 (fun u37=>kk38 u37) (fun z23=>some z23) (fun _=>Ì (fun(v33:Int) kk35=>Ő r12 (Û r12) b.1.1 b.1.2 b.2.1 b.2.2.1 b.2.2.2.1 b.2.2.2.2.1 b.2.2.2.2.2 c.2.1 v33 (fun u34=>kk35 u34) (fun z28=>some z28) (fun _=>Â (Ŭ c.2.2.1 c.2.2.2.1) fun r30=>Â (Ŭ c.2.2.2.1 c.2.2.1) fun r31=>ifb (igt (Û r30) (1:Int)) (some (1:Int)) (ifb (igt (Û r31) (1:Int)) (some (1:Int)) (ck ((Û r30)+(Û r31)) fun n32=>ifb (ieq n32 (0:Int)) (some (1:Int)) (some (0:Int)))))) (0:Int))) (0:Int))=some (aq3 b s c):=by
  rw[aY6 (by omega) (by omega),À]
  have hall:(c.2.2.1++c.2.2.2.1).length≤2000:=by simp; omega
  have last:(Â (Ŭ c.2.2.1 c.2.2.2.1) fun r30=>Â (Ŭ c.2.2.2.1 c.2.2.1) fun r31=>ifb (igt (Û r30) (1:Int)) (some (1:Int)) (ifb (igt (Û r31) (1:Int)) (some (1:Int)) (ck ((Û r30)+(Û r31)) fun n32=>ifb (ieq n32 (0:Int)) (some (1:Int)) (some (0:Int))))) =
   some (if 1<(ë c.2.2.1 c.2.2.2.1).length then 1 else if 1<(ë c.2.2.2.1 c.2.2.1).length then 1 else if (ë c.2.2.1 c.2.2.2.1).length+(ë c.2.2.2.1 c.2.2.1).length=0 then 1 else 0):=by
   rw[akA (by omega) (by omega),À,akA (by omega) (by omega),À];have l1:=apx c.2.2.1 c.2.2.2.1;have l2:=apx c.2.2.2.1 c.2.2.1;rw[ç,ç,Ø (by omega) (by omega)]
   by_cases c1:1<(ë c.2.2.1 c.2.2.2.1).length
   ·rw[Ú (by simp[igt]; omega),if_pos c1]
   rw[Õ (by simp[igt]; omega),if_neg c1]
   by_cases c2:1<(ë c.2.2.2.1 c.2.2.1).length
   ·rw[Ú (by simp[igt]; omega),if_pos c2]
   rw[Õ (by simp[igt]; omega),if_neg c2]
   by_cases c3:(ë c.2.2.1 c.2.2.2.1).length+(ë c.2.2.2.1 c.2.2.1).length=0
   ·rw[Ú (by simp[ieq]; omega),if_pos c3]
   rw[Õ (by simp[ieq]; omega),if_neg c3]
  refine Eq.trans (afn [(5:Int),4] (fun _ want=>if (c.2.2.1++c.2.2.2.1).any (fun id=>ag2 s id c.2.1==want) then some want else none) some (some (if (c.2.2.1++c.2.2.2.1).any (fun id=>(af6 b id c.2.1).isSome) then 9 else if 1<(ë c.2.2.1 c.2.2.2.1).length then 1 else if 1<(ë c.2.2.2.1 c.2.2.1).length then 1 else if (ë c.2.2.1 c.2.2.2.1).length+(ë c.2.2.2.1 c.2.2.1).length=0 then 1 else 0)) (fun j want hj hw kn=>?_) (fun kn=>?_)) ?_
  ·try dsimp only
   unfold ő;rw[Ö hj,adn hj,Ĭ hw];refine Eq.trans (Ĺ (c.2.2.1++c.2.2.2.1) (fun id=>ag2 s id c.2.1==want) (fun _=>some want) (some want) (kn ((j:Int)+1)) (fun _=>rfl) (fun k a hk ha kn'=>?_) (fun kn'=>?_)) ?_
   ·try dsimp only
    unfold adF;rw[Ö hk,Ë ha,aRp,À,Ñ hk (by omega),Ĥ]
   ·try dsimp only
    unfold adF;rw[ã,Ñ hj (by simp)]
   ·cases List.any (c.2.2.1++c.2.2.2.1) (fun id=>ag2 s id c.2.1==want)<;>rfl
  ·try dsimp only
   unfold ő;rw[ã];refine Eq.trans (Ĺ (c.2.2.1++c.2.2.2.1) (fun id=>(af6 b id c.2.1).isSome) (fun _=>some 9) (some 9) (some (if 1<(ë c.2.2.1 c.2.2.2.1).length then 1 else if 1<(ë c.2.2.2.1 c.2.2.1).length then 1 else if (ë c.2.2.1 c.2.2.2.1).length+(ë c.2.2.2.1 c.2.2.1).length=0 then 1 else 0)) (fun _=>rfl) (fun k a hk ha kn'=>?_) (fun kn'=>?_)) ?_
   ·try dsimp only
    unfold Ő;have haw:=a2m hl a c.2.1;rw[Ö hk,Ë ha,Ñ hk (by omega)];rw[show aqz ((b.1.1,b.1.2),b.2.1,b.2.2.1,b.2.2.2.1,b.2.2.2.2.1,b.2.2.2.2.2) a c.2.1=aqz b a c.2.1 from rfl,haw,À]
    cases af6 b a c.2.1<;>rfl
   ·try dsimp only
    unfold Ő;rw[ã,last]
   ·cases List.any (c.2.2.1++c.2.2.2.1) (fun id=>(af6 b id c.2.1).isSome)<;>rfl
  ·unfold aq3 ĵ ĵ ĵ
   try dsimp only
   cases List.any (c.2.2.1++c.2.2.2.1) (fun id=>ag2 s id c.2.1==5) with
   |true=>rfl
   |false =>
   cases List.any (c.2.2.1++c.2.2.2.1) (fun id=>ag2 s id c.2.1==4)<;>rfl
 refine Eq.trans (Ĺ (b.2.2.2.2.1.take i) (fun x=>x.1==c.1) (fun z11=>ifb (ige z11 (0:Int)) (some 6) (some (aq3 b s c))) (some 6) (some (aq3 b s c)) (fun j=>?_) (fun j a hj ha kn=>?_) (fun kn=>?_)) ?_
 ·have:ige (j:Int) 0=true:=by simp[ige]
  rw[Ú this]
 ·try dsimp only
  unfold adG;rw[rest,Ö hj,Ë ha,Ñ hj (by rw[List.length_take]; omega),Ĥ]
 ·try dsimp only
  unfold adG;rw[ã,rest]
 ·cases List.any (b.2.2.2.2.1.take i) (fun x=>x.1==c.1)<;>rfl
def aMF (b:â) (g:î):List Int :=
 [g.2.1]++(b.2.2.2.2.1.filter fun c=>!(c.2.2.1.contains g.1==c.2.2.2.1.contains g.1)).map (fun c=>c.2.1)++(b.2.2.2.2.2.filter fun n=>n.1==g.1).map (fun n=>n.2)
def á (b:â) (g:î):List Int:=aNy (aMF b g)
structure Ż (b:â):Prop where
 gauges:b.2.1.length≤1000
 uses:b.2.2.1.length≤1000
 loans:b.2.2.2.1.length≤1000
 compares:b.2.2.2.2.1.length≤1000
 looks:b.2.2.2.2.2.length≤1000
 piles:∀c∈b.2.2.2.2.1,c.2.2.1.length≤1000∧c.2.2.2.1.length≤1000
theorem aNu (l:List Int):(atK l).length=l.length:=List.length_mergeSort l
theorem aQg {b:â} (hs:Ż b) (g:î):(aMF b g).length≤2001:=by
 have h1:=hs.compares;have h2:=hs.looks;have h3:=List.length_filter_le (fun c:Cmp=>!(c.2.2.1.contains g.1==c.2.2.2.1.contains g.1)) b.2.2.2.2.1;have h4:=List.length_filter_le (fun n:Int×Int=>n.1==g.1) b.2.2.2.2.2;simp only[aMF,List.length_append,List.length_map,List.length_singleton];omega
theorem aXW {b:â} (hs:Ż b) (g:î):aia b g=some (á b g):=by
 unfold aia aL9;have hr:=aQg hs g
 have hd:(á b g).length≤2001:=by
  unfold á;have:=atM (aMF b g);omega
 have hcl:=hs.compares;have hll:=hs.looks;refine ñ b.2.2.2.2.1 (fun i=>[g.2.1]++((b.2.2.2.2.1.take i).filter fun c=>!(c.2.2.1.contains g.1==c.2.2.2.1.contains g.1)).map (fun c=>c.2.1)) _ rfl (fun i c hi hc kn=>?_) (fun kn=>?_)
 ·try dsimp only
  unfold amL;obtain⟨p1,p2⟩:=hs.piles c (List.mem_of_getElem? hc);rw[Ö hi,Ë hc,ahs (by omega),À,ahs (by omega),À,Ñ hi (by omega),Ñ hi (by omega),take_succ hc,List.filter_append,List.map_append]
  have hlen:([g.2.1]++((b.2.2.2.2.1.take i).filter fun c=>!(c.2.2.1.contains g.1==c.2.2.2.1.contains g.1)).map (fun c=>c.2.1)).length≤1001:=by
   have h3:=List.length_filter_le (fun c:Cmp=>!(c.2.2.1.contains g.1==c.2.2.2.1.contains g.1)) (b.2.2.2.2.1.take i);rw[List.length_take] at h3;simp only[List.length_append,List.length_map,List.length_singleton];omega
  rw[Ù (by simp only[List.length_singleton]; omega),Am.iff_true]
  cases h:(c.2.2.1.contains g.1==c.2.2.2.1.contains g.1) with
  |true=>simp only[Bool.not_true,è,List.filter_cons,h,Bool.false_eq_true,if_false,List.filter_nil,List.map_nil,List.append_nil]
  |false=>simp only[Bool.not_false,ī,List.filter_cons,h,if_true,List.filter_nil,List.map_cons,List.map_nil,List.append_assoc]
 ·try dsimp only
  unfold amL;rw[ã,List.take_length];refine ñ b.2.2.2.2.2 (fun i=>[g.2.1]++(b.2.2.2.2.1.filter fun c=>!(c.2.2.1.contains g.1==c.2.2.2.1.contains g.1)).map (fun c=>c.2.1)++((b.2.2.2.2.2.take i).filter fun n=>n.1==g.1).map (fun n=>n.2)) _ (by simp) (fun i n hi hn kn=>?_) (fun kn=>?_)
  ·try dsimp only
   unfold amK;rw[Ö hi,Ë hn,Ñ hi (by omega),Ñ hi (by omega),take_succ hn,List.filter_append,List.map_append]
   have hlen:([g.2.1]++(b.2.2.2.2.1.filter fun c=>!(c.2.2.1.contains g.1==c.2.2.2.1.contains g.1)).map (fun c=>c.2.1)++((b.2.2.2.2.2.take i).filter fun n=>n.1==g.1).map (fun n=>n.2)).length≤2001:=by
    have h3:=List.length_filter_le (fun c:Cmp=>!(c.2.2.1.contains g.1==c.2.2.2.1.contains g.1)) b.2.2.2.2.1;have h4:=List.length_filter_le (fun n:Int×Int=>n.1==g.1) (b.2.2.2.2.2.take i);rw[List.length_take] at h4;simp only[List.length_append,List.length_map,List.length_singleton];omega
   rw[Ù (by simp only[List.length_singleton]; omega),Am.iff_true]
   cases h:(n.1==g.1) with
   |true =>
    have:ieq n.1 g.1=true:=h;simp[h,this]
   |false =>
    have:ieq n.1 g.1=false:=h;simp[h,this]
  ·try dsimp only
   unfold amK;rw[ã,List.take_length];rw[show([g.2.1]++(b.2.2.2.2.1.filter fun c=>!(c.2.2.1.contains g.1==c.2.2.2.1.contains g.1)).map (fun c=>c.2.1)++(b.2.2.2.2.2.filter fun n=>n.1==g.1).map (fun n=>n.2))=aMF b g from rfl];dsimp only;rw[Ù (by omega),Am.iff_true,Ù (by rw[aNu]; omega),Am.iff_true,aWp];rfl
def Î (b:â):List (Int×Int):=b.2.1.flatMap fun g=>(á b g).map fun d=>((g.1,d):Int×Int)
theorem awP {b:â} (hs:Ż b) (g:î):(á b g).length≤2001:=by
 unfold á;have:=atM (aMF b g);have:=aQg hs g;omega
theorem amY {α β:Type} (f:α→List β) (n:Nat) (h:∀a,(f a).length≤n):∀l:List α,(l.flatMap f).length≤l.length*n
 |[]=>by simp
 |a::l=>by
  have:=amY f n h l;have:=h a;simp only[List.flatMap_cons,List.length_append,List.length_cons,Nat.add_mul,Nat.one_mul];omega
theorem aKa {b:â} (hs:Ż b):ai8 b=some (Î b):=by
 unfold ai8 aES;have hg:=hs.gauges
 have hlen:∀l:List î,(l.flatMap fun g=>(á b g).map fun d=>((g.1,d):Int×Int)).length≤l.length*2001:=fun l =>
  amY _ 2001 (fun g=>by rw[List.length_map]; exact awP hs g) l
 refine ñ b.2.1 (fun i=>(b.2.1.take i).flatMap fun g=>(á b g).map fun d=>((g.1,d):Int×Int)) _ rfl (fun i g hi hg' kn=>?_) (fun kn=>?_)
 ·try dsimp only
  unfold aj2;rw[Ö hi,Ë hg'];rw[show aia ((b.1.1,b.1.2),b.2.1,b.2.2.1,b.2.2.2.1,b.2.2.2.2.1,b.2.2.2.2.2) g=aia b g from rfl,aXW hs,À];have hd:=awP hs g;have hi2:=hlen (b.2.1.take i)
  have htl:(b.2.1.take i).length≤1000:=by rw[List.length_take]; omega
  refine ñ (á b g) (fun j=>((b.2.1.take i).flatMap fun g=>(á b g).map fun d=>((g.1,d):Int×Int))++((á b g).take j).map fun d=>((g.1,d):Int×Int)) _ (by simp) (fun j d hj hd' kn'=>?_) (fun kn'=>?_)
  ·try dsimp only
   unfold aj1;rw[Ö hj,Ë hd',Ñ hj (by omega),take_succ hd',List.map_append];rw[Ù (by simp only[List.length_append,List.length_map,List.length_take,List.length_singleton]; omega),Am.iff_true];simp
  ·try dsimp only
   unfold aj1;rw[ã,List.take_length];dsimp only;rw[Ñ hi (by omega),take_succ hg',List.flatMap_append];simp
 ·try dsimp only
  unfold aj2;rw[ã,List.take_length];rfl
def an5 (b:â) (s:List (Int×î)):List Int :=
 b.2.2.1.map (fun u=>aUA s u.1 u.2)++(b.2.2.2.1.mapIdx (fun i l=>aHZ b s i l)++(b.2.2.2.2.1.mapIdx (fun i c=>aic b s i c)++b.2.2.2.2.2.map (fun u=>aUA s u.1 u.2)))
theorem aOs {α:Type} {f:Int→Option Int} {g:Nat→α→Int} (l:List α) (h:∀(i:Nat) (a:α),l[i]?=some a→f i=some (g i a)):aCL f (anY l.length)=some (l.mapIdx g):=by
 have h1:∀i,i<l.length→f (i:Int)=some ((l.mapIdx g)[i]?.getD 0):=by
  intro i hi;rw[h i l[i] (List.getElem?_eq_getElem hi)];simp[hi]
 have h2:∀x∈anY l.length,f x=some ((l.mapIdx g)[x.toNat]?.getD 0):=by
  intro x hx;unfold anY at hx;obtain⟨i,hi,rfl⟩:=List.mem_map.1 hx;rw[h1 i (by simpa using hi)];rfl
 rw[aus h2];congr 1;refine List.ext_getElem (by simp[anY]) fun i h3 h4=>?_
 have h5:i<l.length:=by simpa using h4
 simp[anY,h5]
theorem aZF {b:â} (hs:Ż b) (s:List (Int×î)):ahj b s=some (an5 b s):=by
 unfold ahj an5
 rw[aus (fun u _=>aNP s u.1 u.2),À,aOs b.2.2.2.1 (fun i l hl=>aQm hs.loans hs.uses s hl),À,
  aOs b.2.2.2.2.1 (fun i c hc=>aFI hs.compares hs.loans s (hs.piles c (List.mem_of_getElem? hc)).1 (hs.piles c (List.mem_of_getElem? hc)).2 hc),À,aus (fun u _=>aNP s u.1 u.2),À]
def é (b:â):Int :=
 if !aeE b.1 0 1000000 then 1 else
 if 12<b.2.1.length then 2 else if 40<b.2.2.1.length then 2 else if 12<b.2.2.2.1.length then 2 else if 40<b.2.2.2.2.1.length then 2 else if 10<b.2.2.2.2.2.length then 2 else
 if aeh b != 0 then aeh b else
 match (an5 b (ady b)).find? (fun e=>e != 0) with
 |some e=>e
 |none=>if 59<(Î b).length then 2 else if 300<2*b.2.1.length+2*((Î b).length-b.2.1.length:Int)+2*b.2.2.2.2.1.length then 2 else 0
theorem axp {b:â} (hs:Ż b):(Î b).length≤2001000:=by
 have:=amY (fun g:î=>(á b g).map fun d=>((g.1,d):Int×Int)) 2001 (fun g=>by rw[List.length_map]; exact awP hs g) b.2.1;have h2:=hs.gauges;unfold Î;omega
theorem adO {b:â} (hs:Ż b) (hr:∀g∈b.2.1,I64 g.2.2.2.2.1.1):ā b=some (é b):=by
 unfold ā aE3 é;rw[awl,À]
 cases aeE b.1 0 1000000 with
 |false=>rfl
 |true =>
 have h1:=hs.gauges;have h2:=hs.compares;have h3:=axp hs;rw[Õ (show(!true)=false from rfl),if_neg (by simp)];simp only[ç]
 by_cases c0:12<b.2.1.length
 ·rw[Ú (by simp[igt]; omega),if_pos c0]
 rw[Õ (by simp[igt]; omega),if_neg c0]
 by_cases c1:40<b.2.2.1.length
 ·rw[Ú (by simp[igt]; omega),if_pos c1]
 rw[Õ (by simp[igt]; omega),if_neg c1]
 by_cases c2:12<b.2.2.2.1.length
 ·rw[Ú (by simp[igt]; omega),if_pos c2]
 rw[Õ (by simp[igt]; omega),if_neg c2]
 by_cases c3:40<b.2.2.2.2.1.length
 ·rw[Ú (by simp[igt]; omega),if_pos c3]
 rw[Õ (by simp[igt]; omega),if_neg c3]
 by_cases c4:10<b.2.2.2.2.2.length
 ·rw[Ú (by simp[igt]; omega),if_pos c4]
 rw[Õ (by simp[igt]; omega),if_neg c4];rw[aH1 hr h1,À]
 cases hm:(aeh b != 0) with
 |true =>
  have:ine (aeh b) 0=true:=hm;rw[Ú this,if_pos rfl]
 |false =>
 have:ine (aeh b) 0=false:=hm;rw[Õ this,if_neg (by simp)];rw[aId h1,À];unfold aNH;rw[aZF hs,À]
 cases(an5 b (ady b)).find? (fun e=>e != 0) with
 |some e=>rfl
 |none =>
 dsimp only;rw[aKa hs,À]
 by_cases c5:59<(Î b).length
 ·rw[Ú (by simp[igt]; omega),if_pos c5]
 rw[Õ (by simp[igt]; omega),if_neg c5];rw[Ø (by omega) (by omega),Ø (by omega) (by omega),Ø (by omega) (by omega),Ø (by omega) (by omega),Ø (by omega) (by omega),Ø (by omega) (by omega)]
 by_cases c6:300<2*b.2.1.length+2*((Î b).length-b.2.1.length:Int)+2*b.2.2.2.2.1.length
 ·rw[Ú (by simp[igt]; omega),if_pos c6]
 rw[Õ (by simp[igt]; omega),if_neg c6]
end Go.Proofs.ZzM
end
noncomputable section
namespace Go.Proofs.ZzM
open Go Go.Am
theorem wrapU {n:Nat} (h:n<18446744073709551616):IntKind.wrap .u64 (n:Int)=n:=by
 simp only[IntKind.wrap,IntKind.bits,IntKind.signed];simp;omega
theorem wrapI {n:Nat} (h:n<9223372036854775808):IntKind.wrap .i64 (n:Int)=n:=by
 simp only[IntKind.wrap,IntKind.bits,IntKind.signed];simp;omega
def adA (l:List (Int×Int)) (x d:Int):Option Nat:=l.findIdx? fun n=>decide (x=n.1)&&decide (d=n.2)
theorem aQL {l:List (Int×Int)} (hn:l.length≤100000000) (x d:Int):Ā l (x,d)=some (match adA l x d with|some j=>(j:Int)|none=>-1):=by
 unfold Ā Ŷ;refine Eq.trans (adl l (fun n=>decide (x=n.1)&&decide (d=n.2)) some (some (-1)) (fun i a hi ha kn=>?_) (fun kn=>?_)) ?_
 ·try dsimp only
  unfold Ī;rw[Ö hi,Ë ha,Ñ hi (by omega),Ĥ,Bool.and_true]
 ·try dsimp only
  unfold Ī;rw[ã]
 ·unfold adA
  cases List.findIdx? (fun n=>decide (x=n.1)&&decide (d=n.2)) l<;>rfl
def atP (l:List (Int×Int)) (p:List Int) (d:Int):Int :=
 match p with
 |[]=>0
 |x::_=>match adA l x d with|some j=>(j:Int)+1|none=>0
theorem afh {l:List (Int×Int)} {x d:Int} {j:Nat} (h:adA l x d=some j):j<l.length∧l[j]?=some (x,d):=by
 unfold adA at h;obtain⟨hj,hp,_⟩:=List.findIdx?_eq_some_iff_getElem.1 h;refine⟨hj,?_⟩;rw[List.getElem?_eq_getElem hj];simp only[Bool.and_eq_true,decide_eq_true_eq] at hp;congr 1;exact Prod.ext hp.1.symm hp.2.symm
theorem aYD (m:Maker) (p:List Int) (d:Int) (hn:m.2.1.length≤100000000):adw m p d=some (atP m.2.1 p d):=by
 unfold adw apg atP
 cases p with
 |nil=>simp[ç,ieq]
 |cons x p =>
  have h:ieq (Û (x::p)) 0=false:=by
   rw[ç];simp only[ieq,List.length_cons,beq_eq_false_iff_ne,ne_eq];omega
  rw[h,è,show(0:Int)=((0:Nat):Int) from rfl,Ë (a:=x) rfl,aQL hn,À]
  cases hx:adA m.2.1 x d with
  |none=>dsimp only; rw[Ø (by omega) (by omega)]; simp only[hx]; rfl
  |some j =>
   have:=(afh hx).1;dsimp only;rw[Ø (by omega) (by omega)];simp only[hx]
def atS (s:List (Int×î)) (p:List Int):Int×Int :=
 match p with
 |[]=>(0,1)
 |x::_=>match akW (k:=tI) (v:=Ó) x s with
  |some g=>g.2.2.2.2.1
  |none=>(0,0)
theorem aNG (s:List (Int×î)) (p:List Int):adV s p=some (atS s p):=by
 unfold adV ahB atS
 cases p with
 |nil=>simp[ç,ieq]
 |cons x p =>
  have h:ieq (Û (x::p)) 0=false:=by
   rw[ç];simp only[ieq,List.length_cons,beq_eq_false_iff_ne,ne_eq];omega
  rw[h,è,show(0:Int)=((0:Nat):Int) from rfl,Ë (a:=x) rfl]
  cases hx:akW (k:=tI) (v:=Ó) x s with
  |none=>simp only[aNc,hx]
  |some g=>simp only[aNc,hx]
theorem aS2 {l:List (Int×Int)} (hr:∀r∈l,I64 r.1) (hn:l.length≤1000):aeQ l=some (if l.any (fun r=>!azd r) then 1 else 0):=by
 unfold aeQ aEx;refine Eq.trans (Ĺ l (fun r=>!azd r) (fun _=>some 1) (some 1) (some 0) (fun _=>rfl) (fun i a hi ha kn=>?_) (fun kn=>?_)) ?_
 ·try dsimp only
  unfold ajX;rw[Ö hi,Ë ha,aM5 (hr a (List.mem_of_getElem? ha)),À,Ñ hi (by omega),Ĥ]
 ·try dsimp only
  unfold ajX;rw[ã]
 ·cases l.any (fun r=>!azd r)<;>rfl
def ahv (n d:Int):Int×Int:=(n / (Nat.gcd n.natAbs d.natAbs:Nat),d / (Nat.gcd n.natAbs d.natAbs:Nat))
theorem aeU (r:Int×Int):azd r=true↔1≤r.2∧r.2≤2147483647∧(r.1.natAbs:Int)≤2147483647∧Nat.gcd r.1.natAbs r.2.natAbs=1:=by
 simp[azd]
theorem ap5 {n d:Int} (hd:0<d):∃g:Nat,0<g∧g=Nat.gcd n.natAbs d.natAbs∧n=(ahv n d).1*g∧d=(ahv n d).2*g:=by
 have hg:0<Nat.gcd n.natAbs d.natAbs:=Nat.gcd_pos_of_pos_right _ (by omega);refine⟨_,hg,rfl,?_,?_⟩
 ·exact(Int.ediv_mul_cancel (Int.ofNat_dvd_left.2 (Nat.gcd_dvd_left _ _))).symm
 ·exact(Int.ediv_mul_cancel (Int.ofNat_dvd_left.2 (Nat.gcd_dvd_right _ _))).symm
theorem aJQ {n d:Int} (hd:0<d) (hn:n.natAbs≤2147483647) (hd2:d≤2147483647):azd (ahv n d)=true:=by
 obtain⟨g,h0,hg,h1,h2⟩:=ap5 (n:=n) hd;rw[aeU]
 have a1:n.natAbs=(ahv n d).1.natAbs*g:=by conv=>lhs; rw[h1]; rw[Int.natAbs_mul,Int.natAbs_natCast]
 have a2:d.natAbs=(ahv n d).2.natAbs*g:=by conv=>lhs; rw[h2]; rw[Int.natAbs_mul,Int.natAbs_natCast]
 have p2:0<(ahv n d).2:=by
  rcases Int.lt_trichotomy (ahv n d).2 0 with h|h|h
  ·have:=Int.mul_neg_of_neg_of_pos h (show(0:Int)<g by omega); omega
  ·rw[h] at h2; simp at h2; omega
  ·exact h
 have b1:(ahv n d).1.natAbs≤n.natAbs:=by rw[a1]; exact Nat.le_mul_of_pos_right _ h0
 have b2:(ahv n d).2.natAbs≤d.natAbs:=by rw[a2]; exact Nat.le_mul_of_pos_right _ h0
 refine⟨by omega,by omega,by omega,?_⟩;have:=Nat.gcd_mul_right (ahv n d).1.natAbs g (ahv n d).2.natAbs;rw[←a1,←a2,←hg] at this
 have h3:(Nat.gcd (ahv n d).1.natAbs (ahv n d).2.natAbs)*g=1*g:=by omega
 exact Nat.eq_of_mul_eq_mul_right h0 h3
theorem aIg {n d:Int} (hd:0<d) (hn:n.natAbs≤2147483647) (hd2:d≤2147483647):ai7 n d=some (ahv n d,0):=by
 obtain⟨g,h0,hg,h1,h2⟩:=ap5 (n:=n) hd;have hr:=(aeU _).1 (aJQ hd hn hd2);unfold ai7 atd;rw[aJL ⟨by omega,by omega⟩,À,aJL ⟨by omega,by omega⟩,À,a1b,À,←hg]
 have a1:n.natAbs=(ahv n d).1.natAbs*g:=by conv=>lhs; rw[h1]; rw[Int.natAbs_mul,Int.natAbs_natCast]
 have a2:d.natAbs=(ahv n d).2.natAbs*g:=by conv=>lhs; rw[h2]; rw[Int.natAbs_mul,Int.natAbs_natCast]
 have q1:Int.tdiv (n.natAbs:Int) (g:Int)=((ahv n d).1.natAbs:Int):=by
  rw[a1,Int.natCast_mul]; exact Int.mul_tdiv_cancel _ (by omega)
 have q2:Int.tdiv (d.natAbs:Int) (g:Int)=((ahv n d).2.natAbs:Int):=by
  rw[a2,Int.natCast_mul]; exact Int.mul_tdiv_cancel _ (by omega)
 have z:Ă (g:Int) 0=false:=by simp[Ă]; omega
 have g1:igt ((ahv n d).1.natAbs:Int) 2147483647=false:=by simp[igt]; omega
 have g2:igt ((ahv n d).2.natAbs:Int) 2147483647=false:=by simp[igt]; omega
 rw[Õ z,Õ z,q1,q2,wrapU (by omega),wrapU (by omega),wrapI (by omega),wrapI (by omega),Õ g1,Õ g2]
 have hd0:ilt d 0=false:=by simp[ilt]; omega
 rw[hd0]
 have e2:((ahv n d).2.natAbs:Int)=(ahv n d).2:=by omega
 rw[e2]
 by_cases hneg:n<0
 ·have hn0:ilt n 0=true:=by simp[ilt,hneg]
  have:(ahv n d).1≤0:=by
   rcases Int.lt_or_le 0 (ahv n d).1 with h|h
   ·have:=Int.mul_pos h (show(0:Int)<g by omega); omega
   ·exact h
  rw[hn0];rw[show(!true==false)=true from rfl,ī,Ø (by omega) (by omega)]
  have:0-((ahv n d).1.natAbs:Int)=(ahv n d).1:=by omega
  rw[this]
 ·have hn0:ilt n 0=false:=by simp[ilt]; omega
  have:0≤(ahv n d).1:=by
   rcases Int.lt_or_le (ahv n d).1 0 with h|h
   ·have:=Int.mul_neg_of_neg_of_pos h (show(0:Int)<g by omega); omega
   ·exact h
  rw[hn0];rw[show(!false==false)=false from rfl,è]
  have:((ahv n d).1.natAbs:Int)=(ahv n d).1:=by omega
  rw[this]
structure aje (r:Int×Int) (n d:Int):Prop where
 rat:azd r=true
 num : -n≤r.1∧r.1≤n
 den:r.2≤d
theorem aje.pos {r:Int×Int} {n d:Int} (h:aje r n d):1≤r.2:=((aeU r).1 h.rat).1
theorem aje.i64 {r:Int×Int} {n d:Int} (h:aje r n d):I64 r.1:=by
 have:=((aeU r).1 h.rat).2.2.1;exact⟨by omega,by omega⟩
theorem aWa {x y:Int×Int} (hx:azd x=true) (hy:azd y=true):aeQ [x,y]=some 0:=by
 rw[aS2]
 ·simp[hx,hy]
 ·intro r hr
  have:azd r=true:=by simp at hr; rcases hr with rfl|rfl<;>assumption
  have:=((aeU r).1 this).2.2.1;exact⟨by omega,by omega⟩
 ·simp
theorem agR {a b m n:Int} (h1 : -m≤a∧a≤m) (h2 : -n≤b∧b≤n) : -(m*n)≤a*b∧a*b≤m*n:=by
 have hm:0≤m:=by omega
 have hn:0≤n:=by omega
 have h3:(a*b).natAbs≤(m*n).natAbs:=by
  rw[Int.natAbs_mul,Int.natAbs_mul];exact Nat.mul_le_mul (by omega) (by omega)
 have h4:0≤m*n:=Int.mul_nonneg hm hn;omega
def subP (x y:Int×Int):Int×Int:=ahv (x.1*y.2-y.1*x.2) (x.2*y.2)
theorem aw9 {x y:Int×Int} (hx:aje x 1000 100) (hy:aje y 1000 100):(x.1*y.2-y.1*x.2).natAbs≤200000∧0<x.2*y.2∧x.2*y.2≤10000:=by
 have h1:=agR hx.num (show -100≤y.2∧y.2≤100 from⟨by have:=hy.pos; omega,hy.den⟩);have h2:=agR hy.num (show -100≤x.2∧x.2≤100 from⟨by have:=hx.pos; omega,hx.den⟩);have h3:=agR (show -100≤x.2∧x.2≤100 from⟨by have:=hx.pos; omega,hx.den⟩) (show -100≤y.2∧y.2≤100 from⟨by have:=hy.pos; omega,hy.den⟩);have h4:=Int.mul_pos (show 0<x.2 by have:=hx.pos; omega) (show 0<y.2 by have:=hy.pos; omega);refine⟨by omega,h4,by omega⟩
theorem Sub_ok {x y:Int×Int} (hx:aje x 1000 100) (hy:aje y 1000 100):aMD x y=some (subP x y,0):=by
 obtain⟨b1,b2,b3⟩:=aw9 hx hy;have h1:=agR hx.num (show -100≤y.2∧y.2≤100 from⟨by have:=hy.pos; omega,hy.den⟩);have h2:=agR hy.num (show -100≤x.2∧x.2≤100 from⟨by have:=hx.pos; omega,hx.den⟩);unfold aMD aRX;rw[aWa hx.rat hy.rat,À];rw[show ine (0:Int) 0=false from rfl,è,Ø (by omega) (by omega),Ø (by omega) (by omega),Ø (by omega) (by omega),Ø (by omega) (by omega),aIg b2 (by omega) (by omega),À];rfl
theorem aWA {n d:Int} (hd:0<d):(ahv n d).1.natAbs≤n.natAbs∧(ahv n d).2≤d:=by
 obtain⟨g,h0,hg,h1,h2⟩:=ap5 (n:=n) hd
 have a1:n.natAbs=(ahv n d).1.natAbs*g:=by conv=>lhs; rw[h1]; rw[Int.natAbs_mul,Int.natAbs_natCast]
 have a2:d.natAbs=(ahv n d).2.natAbs*g:=by conv=>lhs; rw[h2]; rw[Int.natAbs_mul,Int.natAbs_natCast]
 have b1:(ahv n d).1.natAbs≤n.natAbs:=by rw[a1]; exact Nat.le_mul_of_pos_right _ h0
 have b2:(ahv n d).2.natAbs≤d.natAbs:=by rw[a2]; exact Nat.le_mul_of_pos_right _ h0
 exact⟨b1,by omega⟩
theorem aCb {x y:Int×Int} (hx:aje x 1000 100) (hy:aje y 1000 100):aje (subP x y) 200000 10000:=by
 obtain⟨b1,b2,b3⟩:=aw9 hx hy;obtain⟨c1,c2⟩:=aWA (n:=x.1*y.2-y.1*x.2) b2;exact⟨aJQ b2 (by omega) (by omega),by unfold subP; omega,by unfold subP; omega⟩
def aun (k:Int×Int) (n:Int):Int×Int:=ahv (k.1*n) k.2
theorem axq {k:Int×Int} (hk:aje k 200000 10000) {n:Int} (hn : -10000≤n∧n≤10000):(k.1*n).natAbs≤2000000000:=by
 have:=agR hk.num hn;omega
theorem aSd {n:Int} (hn : -10000≤n∧n≤10000):azd (n,1)=true:=by
 rw[aeU];exact⟨by simp,by simp,by simp; omega,by simp⟩
theorem a1q {k:Int×Int} (hk:aje k 200000 10000) {n:Int} (hn : -10000≤n∧n≤10000):aFx k (n,1)=some (aun k n,0):=by
 have b:=axq hk hn;have p:=hk.pos;have q:=hk.den;unfold aFx aRZ;rw[aWa hk.rat (aSd hn),À];rw[show ine (0:Int) 0=false from rfl,è,Ø (by simp only; omega) (by simp only; omega),Int.mul_one,Ø (by omega) (by omega),aIg (by omega) (by simp only; omega) (by omega),À];rfl
theorem aKe {k:Int×Int} (hk:aje k 200000 10000) {n:Int} (hn : -10000≤n∧n≤10000):aje (aun k n) 2000000000 10000:=by
 have b:=axq hk hn;have p:=hk.pos;have q:=hk.den;obtain⟨c1,c2⟩:=aWA (n:=k.1*n) (show 0<k.2 by omega);exact⟨aJQ (by omega) (by omega) (by omega),by unfold aun; omega,by unfold aun; omega⟩
def a1i (x y:Int×Int):Int:=if x=y then 0 else if x.1*y.2<y.1*x.2 then -1 else if y.1*x.2<x.1*y.2 then 1 else 0
theorem a1h {x y:Int×Int} {m d:Int} (hx:aje x m d) (hy:aje y m d) (hm:m≤2000000000) (hd:d≤10000):aFv x y=some (a1i x y):=by
 have h1:=agR hx.num (show -d≤y.2∧y.2≤d from⟨by have:=hy.pos; have:=hy.den; omega,hy.den⟩);have h2:=agR hy.num (show -d≤x.2∧x.2≤d from⟨by have:=hx.pos; have:=hx.den; omega,hx.den⟩);have h0:0≤m∧0≤d:=⟨by have:=hx.num; omega,by have:=hx.pos; have:=hx.den; omega⟩;have h3:m*d≤2000000000*10000:=Int.mul_le_mul hm hd h0.2 (by omega);unfold aFv aRV a1i;rw[Ø (by omega) (by omega),Ø (by omega) (by omega)];simp only[Ĥ,Bool.and_true,Bool.and_eq_true,decide_eq_true_eq,Ă,ilt,igt,gt_iff_lt];have:(x.1=y.1∧x.2=y.2)↔x=y:=⟨fun h=>Prod.ext h.1 h.2,fun h=>by rw[h]; exact⟨rfl,rfl⟩⟩;simp only[this]
 (repeat' split)<;>rfl
def aJ6 (k:Int×Int) (heat:Int×Int):(Int×Int)×(Int×Int) :=
 if 0<a1i (aun k heat.1) (aun k heat.2) then(aun k heat.2,aun k heat.1) else(aun k heat.1,aun k heat.2)
theorem a1M {k heat:Int×Int} (hk:aje k 200000 10000) (hh:aeE heat (-10000) 10000=true):ah9 k heat=some (aJ6 k heat):=by
 simp only[aeE,Bool.and_eq_true,decide_eq_true_eq] at hh;obtain⟨h1,h2,h3⟩:=hh;have n1 : -10000≤heat.1∧heat.1≤10000:=⟨by omega,by omega⟩;have n2 : -10000≤heat.2∧heat.2≤10000:=⟨by omega,by omega⟩;have r1:aje (heat.1,1) 10000 10000:=⟨aSd n1,n1,by simp⟩;have r2:aje (heat.2,1) 10000 10000:=⟨aSd n2,n2,by simp⟩;unfold ah9 amB aFw aEG akF akx;rw[aWa r1.rat r2.rat,À];have:ieq 0 0=true:=rfl;rw[Ú this,a1h r1 r2 (by omega) (by omega),À]
 have hc:ile (a1i (heat.1,1) (heat.2,1)) 0=true:=by
  unfold a1i;simp only[ile,decide_eq_true_eq,Int.mul_one]
  split
  ·omega
  ·split
   ·omega
   ·rw[if_neg (by omega)]; omega
 rw[hc,À];simp only[Bool.not_true,è];rw[aM5 hk.i64,hk.rat,À];simp only[Bool.not_true,è];rw[a1q hk n1,À,a1q hk n2,À];simp only[show ine (0:Int) 0=false from rfl,è];rw[a1h (aKe hk n1) (aKe hk n2) (by omega) (by omega),À];unfold aJ6;rw[Ĥ]
 by_cases h:0<a1i (aun k heat.1) (aun k heat.2)
 ·rw[if_pos h,if_pos (by simpa[igt] using h)]; rfl
 ·rw[if_neg h,if_neg (by simpa[igt] using h)]; rfl
def rateK (s:List (Int×î)) (c:Cmp):Int×Int:=subP (atS s (ë c.2.2.1 c.2.2.2.1)) (atS s (ë c.2.2.2.1 c.2.2.1))
def Ń (b:â) (c:Cmp):(Int×Int)×(Int×Int):=aJ6 (rateK (ady b) c) c.2.2.2.2.2.2
theorem aPY {b:â} (hs:Ż b) {c:Cmp} (hA:c.2.2.1.length≤1000) (hB:c.2.2.2.1.length≤1000)
 (h1:aje (atS (ady b) (ë c.2.2.1 c.2.2.2.1)) 1000 100) (h2:aje (atS (ady b) (ë c.2.2.2.1 c.2.2.1)) 1000 100) (hh:aeE c.2.2.2.2.2.2 (-10000) 10000=true):air b c=some (Ń b c):=by
 unfold air ayr;rw[aId hs.gauges,À,akA (by omega) (by omega),À,aNG,À,akA (by omega) (by omega),À,aNG,À];unfold am6 amC;rw[Sub_ok h1 h2,À,À]
 try dsimp only
 rw[a1M (aCb h1 h2) hh,À];rfl
def aey (b:â) (c:Cmp):Int×Int :=
 (((c.2.2.1.length-1:Nat):Int)*b.1.1-((c.2.2.2.1.length-1:Nat):Int)*b.1.2,((c.2.2.1.length-1:Nat):Int)*b.1.2-((c.2.2.2.1.length-1:Nat):Int)*b.1.1)
theorem aTX {b:â} {c:Cmp} (hA:c.2.2.1.length≤1000) (hB:c.2.2.2.1.length≤1000) (h1:0≤b.1.1) (h2:b.1.1≤1000000) (h3:0≤b.1.2) (h4:b.1.2≤1000000):alL b c=some (aey b c):=by
 unfold alL aEZ aey
 have e:∀n:Nat,aGd 0 ((n:Int)-1)=((n-1:Nat):Int):=by
  intro n;unfold aGd
  split<;>omega
 have bd:∀(n:Nat) (x:Int),n≤1000→0≤x→x≤1000000→0≤((n-1:Nat):Int)*x∧((n-1:Nat):Int)*x≤1000000000:=by
  intro n x hn h0 hx;refine⟨Int.mul_nonneg (by omega) h0,?_⟩;have:=Int.mul_le_mul (show((n-1:Nat):Int)≤1000 by omega) hx h0 (by omega);omega
 have b1:=bd _ _ hA h1 h2;have b2:=bd _ _ hA h3 h4;have b3:=bd _ _ hB h1 h2;have b4:=bd _ _ hB h3 h4;simp only[ç];rw[Ø (by omega) (by omega),Ø (by omega) (by omega)];simp only[e];rw[Ø (by omega) (by omega),Ø (by omega) (by omega),Ø (by omega) (by omega),Ø (by omega) (by omega),Ø (by omega) (by omega),Ø (by omega) (by omega)]
theorem aMy {n d:Int} (hd:1≤d) (hn : -4000000000≤n∧n≤4000000000):alI n d=some (n / d):=by
 unfold alI avN
 have z:Ă d 0=false:=by simp[Ă]; omega
 rw[Õ z];have t:=Int.mul_tdiv_add_tmod n d
 have b1 : -4000000000≤Int.tdiv n d∧Int.tdiv n d≤4000000000:=by
  have:=Int.natAbs_tdiv_le_natAbs n d;omega
 rw[Ø (by omega) (by omega),Õ z,Ĥ]
 by_cases h:Int.tmod n d<0
 ·rw[if_pos (by simpa[ilt] using h),Ø (by omega) (by omega)];congr 1
  have h5 : -d<Int.tmod n d:=by
   have h6:=Int.natAbs_tmod n d;have h7:=Nat.mod_lt n.natAbs (show 0<d.natAbs by omega);omega
  refine(Int.ediv_eq_iff_of_pos (by omega)).2 ⟨?_,?_⟩ |>.symm
  ·rw[Int.sub_mul,Int.mul_comm]; omega
  ·rw[Int.sub_mul,Int.mul_comm (Int.tdiv n d)]; omega
 ·rw[if_neg (by simpa[ilt] using h)];congr 1
  have h5:Int.tmod n d<d:=by
   have h6:=Int.natAbs_tmod n d;have h7:=Nat.mod_lt n.natAbs (show 0<d.natAbs by omega);omega
  refine(Int.ediv_eq_iff_of_pos (by omega)).2 ⟨?_,?_⟩ |>.symm
  ·rw[Int.mul_comm]; omega
  ·rw[Int.mul_comm (Int.tdiv n d)]; omega
theorem a03 {x:Int×Int} (hx:azd x=true):aeQ [x]=some 0:=by
 rw[aS2]
 ·simp[hx]
 ·intro r hr
  have:azd r=true:=by simp at hr; subst hr; assumption
  have:=((aeU r).1 this).2.2.1;exact⟨by omega,by omega⟩
 ·simp
def ayV (r:Int×Int):Int:=-(-r.1 / r.2)
theorem aUw {r:Int×Int} (h:azd r=true):apK r=some (r.1 / r.2,0):=by
 unfold apK aEJ;have:=(aeU r).1 h;rw[a03 h,À];rw[show ine (0:Int) 0=false from rfl,è,aMy (by omega) (by omega),À]
theorem ayP {n d:Int} (hd:1≤d):(n / d).natAbs≤n.natAbs:=by
 exact Int.natAbs_ediv_le_natAbs n d
theorem aY7 {r:Int×Int} (h:azd r=true):awI r=some (ayV r,0):=by
 unfold awI aLM ayV;have:=(aeU r).1 h;rw[a03 h,À];rw[show ine (0:Int) 0=false from rfl,è,Ø (by omega) (by omega),aMy (by omega) (by omega),À];have hb:=ayP (n:=0-r.1) (show 1≤r.2 by omega);rw[Ø (by omega) (by omega),Int.zero_sub,Int.zero_sub]
def Ξ (b:â) (c:Cmp):Int×Int :=
 (c.2.2.2.2.1-c.2.2.2.2.2.1-(aey b c).2-(Ń b c).2.1 / (Ń b c).2.2,c.2.2.2.2.1+c.2.2.2.2.2.1-(aey b c).1-ayV (Ń b c).1)
end Go.Proofs.ZzM
end
noncomputable section
namespace Go.Proofs.ZzM
open Go Go.Am
structure ę (b:â):Prop where
 film:0≤b.1.1∧b.1.1≤b.1.2∧b.1.2≤1000000
 nG:b.2.1.length≤12
 nU:b.2.2.1.length≤40
 nL:b.2.2.2.1.length≤12
 nC:b.2.2.2.2.1.length≤40
 nK:b.2.2.2.2.2.length≤10
 gauge:∀g∈b.2.1,aiV g=true
 ids:b.2.1.Pairwise fun a b=>a.1<b.1
 uses:∀u∈b.2.2.1,aUA (ady b) u.1 u.2=0
 loans:∀i l,b.2.2.2.1[i]?=some l→aHZ b (ady b) i l=0
 compares:∀i c,b.2.2.2.2.1[i]?=some c→aic b (ady b) i c=0
 looks:∀u∈b.2.2.2.2.2,aUA (ady b) u.1 u.2=0
 nodes:(Î b).length≤59
 links:2*(Î b).length+2*b.2.2.2.2.1.length≤300
theorem amU (b:â):aeh b=0↔(∀g∈b.2.1,aiV g=true)∧b.2.1.Pairwise fun a b=>a.1<b.1:=by
 have h0:ĵ (ahL b.2.1) 0 b.2.1=none↔(∀g∈b.2.1,aiV g=true)∧b.2.1.Pairwise fun a b=>a.1<b.1:=by
  rw[adJ,←aMY (fun g:î=>g.1) b.2.1];constructor
  ·intro h
   have h1:∀(j:Nat) (a:î),b.2.1[j]?=some a→aiV a=true∧atA (fun g:î=>g.1) b.2.1 j a=false:=by
    intro j a ha;have:=h j a ha;rw[Nat.zero_add] at this;unfold ahL at this
    split at this
    ·cases this
    ·split at this
     ·cases this
     ·rename_i h1 h2;exact⟨by simpa using h1,by simpa using h2⟩
   refine⟨fun x hx=>?_,fun i a ha=>(h1 i a ha).2⟩;obtain⟨j,hj,rfl⟩:=List.mem_iff_getElem.1 hx;exact(h1 j _ (List.getElem?_eq_getElem hj)).1
  ·rintro⟨h1,h2⟩ j a ha;rw[Nat.zero_add];simp[ahL,h1 a (List.mem_of_getElem? ha),h2 j a ha]
 rw[←h0];unfold aeh
 cases h:ĵ (ahL b.2.1) 0 b.2.1 with
 |none=>simp
 |some e =>
  have:∀(m:List î) (j:Nat) (x:Int),ĵ (ahL b.2.1) j m=some x→x≠0:=by
   intro m
   induction m with
   |nil=>intro j x h; cases h
   |cons a m ih =>
    intro j x h;unfold ĵ at h
    cases hp:ahL b.2.1 j a with
    |none=>rw[hp] at h; exact ih _ _ h
    |some y =>
     rw[hp] at h;cases h;unfold ahL at hp
     split at hp
     ·cases hp; omega
     ·split at hp
      ·cases hp; omega
      ·cases hp
  simp[this _ _ _ h]
theorem ô (b:â):é b=0↔ę b:=by
 unfold é;constructor
 ·intro h
  split at h
  ·omega
  rename_i h1
  (repeat' split at h)<;>try omega
  ·rename_i hg
   have hg':aeh b≠0:=by simpa using hg
   exact(hg' h).elim
  ·rename_i hf;have:=List.find?_some hf;rename_i e;simp at this;exact(this h).elim
  ·rename_i hn1 hn2 hn3 hn4 hn5 hg e hf hn6 hn7
   have hg0:aeh b=0:=by simpa using hg
   obtain⟨g1,g2⟩:=(amU b).1 hg0
   have hall:∀x∈an5 b (ady b),x=0:=fun x hx=>by
    have:=List.find?_eq_none.1 hf x hx;simpa using this
   simp only[an5,List.mem_append] at hall
   have hs:aeE b.1 0 1000000=true:=by simpa using h1
   simp only[aeE,Bool.and_eq_true,decide_eq_true_eq] at hs;refine⟨⟨hs.1,hs.2.1,hs.2.2⟩,by omega,by omega,by omega,by omega,by omega,g1,g2,fun u hu=>hall _ (.inl (List.mem_map.2 ⟨u,hu,rfl⟩)),fun i l hl=>?_,fun i c hc=>?_,fun u hu=>hall _ (.inr (.inr (.inr (List.mem_map.2 ⟨u,hu,rfl⟩)))),by omega,by omega⟩
   ·obtain⟨hi,rfl⟩:=List.getElem?_eq_some_iff.1 hl;exact hall _ (.inr (.inl (List.mem_mapIdx.2 ⟨i,hi,rfl⟩)))
   ·obtain⟨hi,rfl⟩:=List.getElem?_eq_some_iff.1 hc;exact hall _ (.inr (.inr (.inl (List.mem_mapIdx.2 ⟨i,hi,rfl⟩))))
 ·intro h
  have hs:aeE b.1 0 1000000=true:=by simp[aeE,h.film.1,h.film.2.1,h.film.2.2]
  have hg:aeh b=0:=(amU b).2 ⟨h.gauge,h.ids⟩
  have hall:(an5 b (ady b)).find? (fun e=>e != 0)=none:=by
   rw[List.find?_eq_none];intro x hx;simp only[an5,List.mem_append,List.mem_map,List.mem_mapIdx] at hx
   have:x=0:=by
    rcases hx with⟨u,hu,rfl⟩|⟨i,hi,rfl⟩|⟨i,hi,rfl⟩|⟨u,hu,rfl⟩
    ·exact h.uses u hu
    ·exact h.loans i _ (List.getElem?_eq_getElem hi)
    ·exact h.compares i _ (List.getElem?_eq_getElem hi)
    ·exact h.looks u hu
   simp[this]
  have:=h.nG; have:=h.nU; have:=h.nL; have:=h.nC; have:=h.nK; have:=h.nodes; have:=h.links;rw[hs,hg,hall];simp only[Bool.not_true,Bool.false_eq_true,if_false,bne_self_eq_false];rw[if_neg (by omega),if_neg (by omega),if_neg (by omega),if_neg (by omega),if_neg (by omega),if_neg (by omega),if_neg (by omega)]
section
variable {b:â}
theorem ķ {l:List Int} (h:aga l=true):l.length≤6:=((atV l).1 h).2.2
theorem ę.nums (h:ę b) {c:Cmp} (hc:c∈b.2.2.2.2.1):aAA c=true:=by
 obtain⟨i,hi,rfl⟩:=List.mem_iff_getElem.1 hc;have:=h.compares i _ (List.getElem?_eq_getElem hi);unfold aic at this
 split at this
 ·omega
 ·rename_i h; simpa using h
theorem ę.pilesOf (h:ę b) {c:Cmp} (hc:c∈b.2.2.2.2.1):aq3 b (ady b) c=0:=by
 obtain⟨i,hi,rfl⟩:=List.mem_iff_getElem.1 hc;have:=h.compares i _ (List.getElem?_eq_getElem hi);unfold aic at this
 split at this
 ·omega
 ·split at this
  ·omega
  ·exact this
theorem Ο (c:Cmp):aAA c=true↔(1≤c.1∧c.1≤1099511627776)∧(0≤c.2.1∧c.2.1≤20000)∧(-1125899906842624≤c.2.2.2.2.1∧c.2.2.2.2.1≤1125899906842624)∧(0≤c.2.2.2.2.2.1∧c.2.2.2.2.2.1≤1073741824)∧aeE c.2.2.2.2.2.2 (-10000) 10000=true∧aga c.2.2.1=true∧aga c.2.2.2.1=true:=by
 simp[aAA,inP,aw6,and_assoc]
theorem ę.size (h:ę b):Ż b:=by
 have h1:=h.nG; have h2:=h.nU; have h3:=h.nL; have h4:=h.nC; have h5:=h.nK;refine⟨by omega,by omega,by omega,by omega,by omega,fun c hc=>?_⟩;have:=(Ο c).1 (h.nums hc);have a:=ķ this.2.2.2.2.2.1;have b:=ķ this.2.2.2.2.2.2;omega
theorem alz (g:î):aiV g=true↔azd g.2.2.2.2.1=true∧(-1000≤g.2.2.2.2.1.1∧g.2.2.2.2.1.1≤1000)∧g.2.2.2.2.1.2≤100∧(1≤g.1∧g.1≤1099511627776)∧(0≤g.2.1∧g.2.1≤20000)∧(1≤g.2.2.1∧g.2.2.1≤1125899906842624)∧(-1073741824≤g.2.2.2.1.1∧g.2.2.2.1.1≤g.2.2.2.1.2∧g.2.2.2.1.2≤1073741824)∧(0≤g.2.2.2.2.2∧g.2.2.2.2.2≤1048576):=by
 simp[aiV,inP,aw6,aeE,and_assoc]
theorem ahk {id:Int} {g:î} (h:ū b id=some g):g∈b.2.1∧g.1=id:=by
 unfold ū at h;exact⟨List.mem_of_find?_eq_some h,by simpa using List.find?_some h⟩
theorem amV (hi:b.2.1.Pairwise fun a b=>a.1<b.1) {g:î} (hg:g∈b.2.1):ū b g.1=some g:=by
 unfold ū
 induction hl:b.2.1 generalizing b with
 |nil=>rw[hl] at hg; cases hg
 |cons a t ih =>
  rw[hl] at hg hi;rw[List.pairwise_cons] at hi;rw[List.find?_cons];rcases List.mem_cons.1 hg with rfl|hg
  ·simp
  ·have h1:=hi.1 g hg
   have:(a.1==g.1)=false:=by simp; omega
   rw[this];have:=ih (b:=(b.1,t,b.2.2)) hi.2 hg rfl;exact this
theorem axr (h:ę b) {id day:Int} (hm:ag2 (ady b) id day=0):∃g,ū b id=some g∧g.2.1≤day:=by
 unfold ag2 at hm;rw[ap9 h.ids] at hm
 split at hm
 ·rename_i g hg
  split at hm
  ·omega
  ·exact⟨g,hg,by omega⟩
 ·omega
theorem aCM (s:List (Int×î)) (id day:Int):ag2 s id day=0∨ag2 s id day=4∨ag2 s id day=5:=by
 unfold ag2
 split
 ·split<;>simp
 ·simp
theorem ę.pile (h:ę b) {c:Cmp} (hc:c∈b.2.2.2.2.1) {x:Int} (hx:x∈c.2.2.1++c.2.2.2.1):(∃g,ū b x=some g∧g.2.1≤c.2.1)∧af6 b x c.2.1=none:=by
 have hp:=h.pilesOf hc;unfold aq3 at hp
 split at hp
 ·omega
 rename_i h5
 split at hp
 ·omega
 rename_i h4
 split at hp
 ·omega
 rename_i h9;have a5:=(List.any_eq_false.1 (Bool.eq_false_iff.2 h5)) x hx;have a4:=(List.any_eq_false.1 (Bool.eq_false_iff.2 h4)) x hx;have a9:=(List.any_eq_false.1 (Bool.eq_false_iff.2 h9)) x hx;simp at a5 a4 a9;refine⟨axr h ?_,a9⟩;rcases aCM (ady b) x c.2.1 with h0|h0|h0
 ·exact h0
 ·exact(a4 h0).elim
 ·exact(a5 h0).elim
theorem ę.lefts (h:ę b) {c:Cmp} (hc:c∈b.2.2.2.2.1):(ë c.2.2.1 c.2.2.2.1).length≤1∧(ë c.2.2.2.1 c.2.2.1).length≤1∧(ë c.2.2.1 c.2.2.2.1).length+(ë c.2.2.2.1 c.2.2.1).length≠0:=by
 have hp:=h.pilesOf hc;unfold aq3 at hp
 (repeat' split at hp)<;>first|omega|exact⟨by omega,by omega,by omega⟩
theorem aeL {a c:List Int} {x:Int}:x∈ë a c↔x∈a∧x∉c:=by
 simp[ë]
theorem ę.rate (h:ę b) {p:List Int} (hp:∀x∈p,∃g,ū b x=some g):aje (atS (ady b) p) 1000 100:=by
 unfold atS
 cases p with
 |nil =>
  have:aje (0,1) 1000 100:=⟨by decide,by decide,by decide⟩;exact this
 |cons x t =>
  obtain⟨g,hg⟩:=hp x (by simp)
  try dsimp only
  rw[ap9 h.ids,hg];have:=(alz g).1 (h.gauge g (ahk hg).1);exact⟨this.1,this.2.1,this.2.2.1⟩
theorem ę.rates (h:ę b) {c:Cmp} (hc:c∈b.2.2.2.2.1):aje (atS (ady b) (ë c.2.2.1 c.2.2.2.1)) 1000 100∧aje (atS (ady b) (ë c.2.2.2.1 c.2.2.1)) 1000 100:=by
 constructor
 ·exact h.rate fun x hx=>by
   obtain⟨⟨g,hg,_⟩,_⟩:=h.pile hc (List.mem_append_left _ (aeL.1 hx).1);exact⟨g,hg⟩
 ·exact h.rate fun x hx=>by
   obtain⟨⟨g,hg,_⟩,_⟩:=h.pile hc (List.mem_append_right _ (aeL.1 hx).1);exact⟨g,hg⟩
theorem ę.growth (h:ę b) {c:Cmp} (hc:c∈b.2.2.2.2.1):air b c=some (Ń b c):=by
 obtain⟨r1,r2⟩:=h.rates hc;have hn:=(Ο c).1 (h.nums hc);have a:=ķ hn.2.2.2.2.2.1;have b:=ķ hn.2.2.2.2.2.2;exact aPY h.size (by omega) (by omega) r1 r2 hn.2.2.2.2.1
theorem ę.films (h:ę b) {c:Cmp} (hA:c.2.2.1.length≤1000) (hB:c.2.2.2.1.length≤1000):alL b c=some (aey b c):=by
 have:=h.film;exact aTX hA hB (by omega) (by omega) (by omega) (by omega)
theorem aJ5 {k heat:Int×Int} (hk:aje k 200000 10000) (hh:aeE heat (-10000) 10000=true):aje (aJ6 k heat).1 2000000000 10000∧aje (aJ6 k heat).2 2000000000 10000:=by
 simp only[aeE,Bool.and_eq_true,decide_eq_true_eq] at hh;have r1:=aKe hk (n:=heat.1) ⟨by omega,by omega⟩;have r2:=aKe hk (n:=heat.2) ⟨by omega,by omega⟩;unfold aJ6
 split
 ·exact⟨r2,r1⟩
 ·exact⟨r1,r2⟩
theorem amZ {c:Cmp} (hA:c.2.2.1.length≤1000) (hB:c.2.2.2.1.length≤1000) (h1:0≤b.1.1) (h2:b.1.1≤1000000) (h3:0≤b.1.2) (h4:b.1.2≤1000000) :
 (-1000000000≤(aey b c).1∧(aey b c).1≤1000000000)∧(-1000000000≤(aey b c).2∧(aey b c).2≤1000000000):=by
 have bd:∀(n:Nat) (x:Int),n≤1000→0≤x→x≤1000000→0≤((n-1:Nat):Int)*x∧((n-1:Nat):Int)*x≤1000000000:=by
  intro n x hn h0 hx;refine⟨Int.mul_nonneg (by omega) h0,?_⟩;have:=Int.mul_le_mul (show((n-1:Nat):Int)≤1000 by omega) hx h0 (by omega);omega
 have b1:=bd _ _ hA h1 h2;have b2:=bd _ _ hA h3 h4;have b3:=bd _ _ hB h1 h2;have b4:=bd _ _ hB h3 h4;unfold aey
 try dsimp only
 omega
theorem amX {r:Int×Int} (h:aje r 2000000000 10000) : -2000000000≤r.1 / r.2∧r.1 / r.2≤2000000000:=by
 have:=ayP (n:=r.1) h.pos;have:=h.num;omega
theorem aqE {r:Int×Int} (h:aje r 2000000000 10000) : -2000000000≤ayV r∧ayV r≤2000000000:=by
 have:=ayP (n:=-r.1) h.pos;have:=h.num;unfold ayV;omega
theorem ę.says (h:ę b) {c:Cmp} (hc:c∈b.2.2.2.2.1):am5 b c=some (Ξ b c):=by
 obtain⟨r1,r2⟩:=h.rates hc;have hn:=(Ο c).1 (h.nums hc);have ha:=ķ hn.2.2.2.2.2.1;have hb:=ķ hn.2.2.2.2.2.2;have hf:=h.film;obtain⟨g1,g2⟩:=aJ5 (aCb r1 r2) hn.2.2.2.2.1;have fb:=amZ (b:=b) (c:=c) (by omega) (by omega) (by omega) (by omega) (by omega) (by omega);have q1:aje (Ń b c).1 2000000000 10000:=g1;have q2:aje (Ń b c).2 2000000000 10000:=g2;have c1:=aqE q1;have c2:=amX q2;unfold am5 aLQ Ξ;rw[h.growth hc,À,h.films (by omega) (by omega),À,aUw q2.rat,À,aY7 q1.rat,À]
 try dsimp only
 have n3:=hn.2.2.1;have n4:=hn.2.2.2.1;rw[Ø (by omega) (by omega),Ø (by omega) (by omega),Ø (by omega) (by omega),Ø (by omega) (by omega),Ø (by omega) (by omega),Ø (by omega) (by omega)]
end
def ě (l:aAq) (f t:Int):Int:=min l.2.1.2 (t-1)-max l.2.1.1 f+1
def ĺ (id f t:Int):List aAq→Int
 |[]=>0
 |l::r=>(if l.1=id∧0<ě l f t then ě l f t*l.2.2 else 0)+ĺ id f t r
theorem apu (id f t:Int):∀(x y:List aAq),ĺ id f t (x++y)=ĺ id f t x+ĺ id f t y
 |[],y=>by simp[ĺ]
 |l::r,y=>by
  simp only[List.cons_append,ĺ,apu id f t r y];omega
def ad0 (b:â) (id f t:Int):List Int:=(b.2.2.1.filter fun u=>u.1==id&&inP u.2 f (t-1)).map fun u=>u.2
def adU (b:â) (g:î) (f t:Int):Int:=ĺ g.1 f t b.2.2.2.1+(aNy (ad0 b g.1 f t)).length*g.2.2.2.2.2
theorem apz (a c:Int):aMt a c=min a c:=by unfold aMt; split<;>omega
theorem aSg (a c:Int):aGd a c=max a c:=by unfold aGd; split<;>omega
theorem ayy {b:â} (h:ę b) {l:aAq} (hl:l∈b.2.2.2.1):(0≤l.2.1.1∧l.2.1.1≤l.2.1.2∧l.2.1.2≤20000)∧(0≤l.2.2∧l.2.2≤1048576):=by
 obtain⟨i,hi,rfl⟩:=List.mem_iff_getElem.1 hl;have:=h.loans i _ (List.getElem?_eq_getElem hi);unfold aHZ at this
 split at this
 ·omega
 rename_i h1
 split at this
 ·omega
 rename_i h2;simp only[Bool.not_eq_true',Bool.not_eq_false,aeE,inP,Bool.and_eq_true,decide_eq_true_eq] at h1 h2;exact⟨h1,h2⟩
theorem aIZ {l:aAq} (h:(0≤l.2.1.1∧l.2.1.1≤l.2.1.2∧l.2.1.2≤20000)∧(0≤l.2.2∧l.2.2≤1048576)) {f t:Int} (hf:0≤f) (hd:0<ě l f t):0≤ě l f t*l.2.2∧ě l f t*l.2.2≤20001*1048576:=by
 refine⟨Int.mul_nonneg (by omega) h.2.1,Int.mul_le_mul ?_ h.2.2 h.2.1 (by omega)⟩;unfold ě;omega
theorem akz {id f t:Int} (hf:0≤f):∀{x:List aAq},(∀l∈x,(0≤l.2.1.1∧l.2.1.1≤l.2.1.2∧l.2.1.2≤20000)∧(0≤l.2.2∧l.2.2≤1048576))→0≤ĺ id f t x∧ĺ id f t x≤x.length*(20001*1048576)
 |[],_=>by simp[ĺ]
 |l::r,h=>by
  have ih:=akz (id:=id) (t:=t) hf (x:=r) fun l hl=>h l (by simp[hl]);simp only[ĺ,List.length_cons,Int.natCast_succ,Int.add_mul,Int.one_mul]
  split
  ·rename_i hc;have:=aIZ (h l (by simp)) hf hc.2;omega
  ·omega
theorem a1T {b:â} (h:ę b) {g:î} (hg:0≤g.2.2.2.2.2∧g.2.2.2.2.2≤1048576) {f t:Int} (hf:0≤f∧f≤100000) (ht:0≤t∧t≤100000):aqy b g f t=some (adU b g f t):=by
 have hL:=h.nL;have hU:=h.nU
 have hlb:∀i,0≤ĺ g.1 f t (b.2.2.2.1.take i)∧ĺ g.1 f t (b.2.2.2.1.take i)≤12*(20001*1048576):=by
  intro i;have h1:=akz (id:=g.1) (t:=t) hf.1 (x:=b.2.2.2.1.take i) fun l hl=>ayy h (List.mem_of_mem_take hl);have h2:((b.2.2.2.1.take i).length:Int)*(20001*1048576)≤12*(20001*1048576):=Int.mul_le_mul_of_nonneg_right (by rw[List.length_take]; omega) (by omega);omega
 unfold aqy aLY;refine ł (fun x:Int×Int=>∃i:Nat,i≤b.2.2.2.1.length∧x=(ĺ g.1 f t (b.2.2.2.1.take i),(i:Int))) (fun x=>b.2.2.2.1.length-x.2.toNat) ?_ ⟨0,by omega,rfl⟩;rintro x ⟨i,hi,rfl⟩;rcases Nat.lt_or_ge i b.2.2.2.1.length with hlt|hge
 ·have hl:b.2.2.2.1[i]?=some b.2.2.2.1[i]:=List.getElem?_eq_getElem hlt;have hz:=ayy h (List.mem_of_getElem? hl);refine .inr ⟨(ĺ g.1 f t (b.2.2.2.1.take (i+1)),(i:Int)+1),⟨i+1,hlt,by simp⟩,by simp; omega,fun kn=>?_⟩
  try dsimp only
  unfold amI;have b1:=hlb i;have b2:=hlb (i+1)
  have e1:ĺ g.1 f t (b.2.2.2.1.take (i+1))=ĺ g.1 f t (b.2.2.2.1.take i)+(if b.2.2.2.1[i].1=g.1∧0<ě b.2.2.2.1[i] f t then ě b.2.2.2.1[i] f t*b.2.2.2.1[i].2.2 else 0):=by
   rw[take_succ hl,apu]; simp[ĺ]
  rw[Ö hlt,Ë hl,Ø (by omega) (by omega),apz,aSg,Ø (by omega) (by omega),Ø (by omega) (by omega)];rw[show min b.2.2.2.1[i].2.1.2 (t-1)-max b.2.2.2.1[i].2.1.1 f+1=ě b.2.2.2.1[i] f t from rfl,Ĥ]
  by_cases hid:b.2.2.2.1[i].1=g.1
  ·rw[if_pos (by simpa[ieq] using hid),Ĥ]
   by_cases hd:0<ě b.2.2.2.1[i] f t
   ·have lb:=aIZ hz hf.1 hd;rw[if_pos ⟨hid,hd⟩] at e1;rw[if_pos (by simpa[igt] using hd),Ø (by omega) (by omega),Ø (by omega) (by omega),Ñ hlt (by omega),e1]
   ·rw[if_neg (fun hc=>hd hc.2)] at e1;rw[if_neg (by simpa[igt] using hd),Ñ hlt (by omega),e1,Int.add_zero]
  ·rw[if_neg (fun hc=>hid hc.1)] at e1;rw[if_neg (by simpa[ieq] using hid),Ñ hlt (by omega),e1,Int.add_zero]
 ·refine .inl fun kn=>?_
  have:i=b.2.2.2.1.length:=by omega
  subst this
  try dsimp only
  unfold amI;rw[ã,List.take_length]
  have hud:∀x:List (Int×Int),x.length≤40→((x.filter fun u=>u.1==g.1&&inP u.2 f (t-1)).map fun u=>u.2).length≤40:=by
   intro x hx;rw[List.length_map];exact Nat.le_trans (List.length_filter_le _ _) hx
  refine ñ b.2.2.1 (fun i=>((b.2.2.1.take i).filter fun u=>u.1==g.1&&inP u.2 f (t-1)).map fun u=>u.2) _ rfl (fun i u hi hu kn'=>?_) (fun kn'=>?_)
  ·try dsimp only
   unfold amH;have hx:=hud (b.2.2.1.take i) (by rw[List.length_take]; omega);rw[Ö hi,Ë hu,Ø (by omega) (by omega),adg,À,Ù (by simp only[List.length_singleton]; omega),Am.iff_true,Ñ hi (by omega),Ñ hi (by omega),take_succ hu,List.filter_append,List.map_append]
   cases h1:(u.1==g.1) with
   |false =>
    have:ieq u.1 g.1=false:=h1;simp only[this,è,List.filter_cons,h1,Bool.false_and,Bool.false_eq_true,if_false,List.filter_nil,List.map_nil,List.append_nil]
   |true =>
    have:ieq u.1 g.1=true:=h1;rw[this]
    cases h2:inP u.2 f (t-1) with
    |false=>simp only[ī,è,List.filter_cons,h1,h2,Bool.true_and,Bool.false_eq_true,if_false,List.filter_nil,List.map_nil,List.append_nil]
    |true=>simp only[ī,List.filter_cons,h1,h2,Bool.true_and,if_true,List.filter_nil,List.map_nil,List.map_cons]
  ·try dsimp only
   unfold amH;rw[ã,List.take_length];rw[show((b.2.2.1.filter fun u=>u.1==g.1&&inP u.2 f (t-1)).map fun u=>u.2)=ad0 b g.1 f t from rfl];have h40:(ad0 b g.1 f t).length≤40:=hud _ hU
   have hc40:(aNy (ad0 b g.1 f t)).length≤40:=by
    have:=atM (ad0 b g.1 f t);omega
   have hm:0≤((aNy (ad0 b g.1 f t)).length:Int)*g.2.2.2.2.2∧((aNy (ad0 b g.1 f t)).length:Int)*g.2.2.2.2.2≤40*1048576 :=
    ⟨Int.mul_nonneg (by omega) hg.1,Int.mul_le_mul (by omega) hg.2 hg.1 (by omega)⟩
   have b1:=hlb b.2.2.2.1.length;rw[List.take_length] at b1;dsimp only;rw[Ù (by omega),Am.iff_true,Ù (by rw[aNu]; omega),Am.iff_true,aWp,ç,Ø (by omega) (by omega),Ø (by omega) (by omega)];rfl
end Go.Proofs.ZzM
end
noncomputable section
namespace Go.Proofs.ZzM
open Go Go.Am
abbrev Lk:Type:=Int×Int×Int
inductive Wl (L:List Lk) (S:Int→Prop):List Int→Int→Int→Prop
 |nil {v:Int}:S v→Wl L S [] v 0
 |step {vs:List Int} {u v m d:Int}:Wl L S vs u d→(u,v,m)∈L→Wl L S (u::vs) v (d+m)
def Pot (L:List Lk) (p:Int→Int):Prop:=∀u v m,(u,v,m)∈L→p v≤p u+m
def InR (L:List Lk) (N:Nat):Prop:=∀l∈L,(0≤l.1∧l.1<N)∧(0≤l.2.1∧l.2.1<N)
section
variable {L:List Lk} {S:Int→Prop} {N:Nat} {p:Int→Int}
theorem Wl.cut (hp:Pot L p) {vs:List Int} {v d:Int} (h:Wl L S vs v d):∀x∈vs,∃vs1 d1,Wl L S vs1 x d1∧(x::vs1) <:+ vs∧d1+(p v-p x)≤d:=by
 induction h with
 |nil h=>intro x hx; cases hx
 | @step vs u v m d hw hl ih =>
  intro x hx;have h1:=hp u v m hl;rcases List.mem_cons.1 hx with rfl|hx
  ·exact⟨vs,d,hw,List.suffix_refl _,by omega⟩
  ·obtain⟨vs1,d1,g1,g2,g3⟩:=ih x hx;exact⟨vs1,d1,g1,g2.trans (List.suffix_cons _ _),by omega⟩
theorem Wl.simple (hp:Pot L p) {vs:List Int} {v d:Int} (h:Wl L S vs v d):∃vs' d',Wl L S vs' v d'∧d'≤d∧(v::vs').Nodup:=by
 induction h with
 |nil h=>exact⟨[],0,.nil h,Int.le_refl _,by simp⟩
 | @step vs u v m d hw hl ih =>
  obtain⟨vs1,d1,g1,g2,g3⟩:=ih;have hw1:=Wl.step g1 hl
  by_cases hv:v∈u::vs1
  ·obtain⟨vs2,d2,k1,k2,k3⟩:=hw1.cut hp v hv;exact⟨vs2,d2,k1,by omega,g3.sublist k2.sublist⟩
  ·exact⟨u::vs1,d1+m,hw1,by omega,List.nodup_cons.2 ⟨hv,g3⟩⟩
theorem Wl.range (hL:InR L N) (hS:∀v,S v→0≤v∧v<N) {vs:List Int} {v d:Int} (h:Wl L S vs v d):(0≤v∧v<N)∧∀u∈vs,0≤u∧u<N:=by
 induction h with
 |nil h=>exact⟨hS _ h,fun u hu=>by cases hu⟩
 | @step vs u v m d hw hl ih =>
  refine⟨(hL _ hl).2,fun w hw'=>?_⟩;rcases List.mem_cons.1 hw' with rfl|h
  ·exact ih.1
  ·exact ih.2 w h
theorem aTn:∀(N:Nat) (l:List Int),l.Nodup→(∀x∈l,0≤x∧x<N)→l.length≤N
 |0,l,_,h=>by
  cases l with
  |nil=>simp
  |cons a l=>have:=h a (by simp); omega
 |N+1,l,hn,h=>by
  have h1:(l.erase (N:Int)).length≤N:=aTn N _ (hn.erase _) fun x hx=>by
   have h2:=(hn.mem_erase_iff).1 hx;have:=h x h2.2;have:=h2.1;omega
  have:=List.length_erase (a:=(N:Int)) (l:=l)
  split at this<;>omega
theorem Wl.short (hL:InR L N) (hS:∀v,S v→0≤v∧v<N) {vs:List Int} {v d:Int} (h:Wl L S vs v d) (hn:(v::vs).Nodup):vs.length+1≤N:=by
 have:=h.range hL hS
 exact aTn N (v::vs) hn fun x hx=>by
  rcases List.mem_cons.1 hx with rfl|hx
  ·exact this.1
  ·exact this.2 x hx
def aAB (f:Lk→Bool):List Lk→Int
 |[]=>0
 |l::t=>(if f l then min l.2.2 0 else 0)+aAB f t
theorem aWX (f:Lk→Bool):∀L:List Lk,aAB (fun _=>true) L≤aAB f L
 |[]=>Int.le_refl _
 |l::t=>by
  have:=aWX f t;simp only[aAB,if_true]
  split<;>omega
theorem alY (f:Lk→Bool):∀L:List Lk,aAB f L≤0
 |[]=>Int.le_refl _
 |l::t=>by
  have:=alY f t;simp only[aAB]
  split<;>omega
theorem aTD {f:Lk→Bool} {l:Lk} (hf:f l=true):∀{L:List Lk},l∈L→aAB f L≤l.2.2
 |a::t,h=>by
  simp only[aAB];rcases List.mem_cons.1 h with rfl|h
  ·have:=alY f t;rw[if_pos hf]; omega
  ·have:=aTD hf h
   split<;>omega
theorem aWW {f g:Lk→Bool} (h:∀l,f l=true→g l=false):∀L:List Lk,aAB (fun l=>f l||g l) L=aAB f L+aAB g L
 |[]=>rfl
 |l::t=>by
  have ih:=aWW h t;simp only[aAB,ih]
  by_cases hf:f l=true
  ·simp[hf,h l hf]; omega
  ·have hf':f l=false:=by simpa using hf
   by_cases hg:g l=true
   ·simp[hf',hg]; omega
   ·simp[hf',hg]
theorem Wl.low {vs:List Int} {v d:Int} (h:Wl L S vs v d):vs.Nodup→aAB (fun l=>vs.contains l.1) L≤d:=by
 induction h with
 |nil h=>intro _; exact alY _ _
 | @step vs u v m d hw hl ih =>
  intro hn;rw[List.nodup_cons] at hn;have h1:=ih hn.2;have h2:aAB (fun l=>l.1==u) L≤m:=aTD (f:=fun l=>l.1==u) (l:=(u,v,m)) (by simp) hl
  have h3:=aWW (f:=fun l:Lk=>l.1==u) (g:=fun l=>vs.contains l.1) (fun l hf=>by
   simp only[beq_iff_eq] at hf;rw[hf]
   simpa using hn.1) L
  have h4:(fun l:Lk=>(u::vs).contains l.1)=fun l=>(l.1==u)||vs.contains l.1:=by funext l; rw[List.contains_cons]
  rw[h4,h3];omega
def aBK (L:List Lk):Int:=aAB (fun _=>true) L
theorem Wl.low' (hp:Pot L p) {vs:List Int} {v d:Int} (h:Wl L S vs v d):aBK L≤d:=by
 obtain⟨vs',d',h1,h2,h3⟩:=h.simple hp;have:=h1.low (List.nodup_cons.1 h3).2;have:=aWX (fun l=>vs'.contains l.1) L;unfold aBK;omega
theorem Wl.high {M:Int} (hM:∀l∈L,l.2.2≤M) {vs:List Int} {v d:Int} (h:Wl L S vs v d):d≤vs.length*M:=by
 induction h with
 |nil h=>simp
 | @step vs u v m d hw hl ih =>
  have:=hM _ hl;simp only[List.length_cons,Int.natCast_succ,Int.add_mul,Int.one_mul];simp only at this;omega
theorem Wl.lowM {M:Int} (hM:∀l∈L,-M≤l.2.2) {vs:List Int} {v d:Int} (h:Wl L S vs v d) : -(vs.length*M)≤d:=by
 induction h with
 |nil h=>simp
 | @step vs u v m d hw hl ih =>
  have:=hM _ hl;simp only[List.length_cons,Int.natCast_succ,Int.add_mul,Int.one_mul];simp only at this;omega
theorem Wl.mono {S':Int→Prop} (hS:∀v,S v→S' v) {vs:List Int} {v d:Int} (h:Wl L S vs v d):Wl L S' vs v d:=by
 induction h with
 |nil h=>exact .nil (hS _ h)
 |step hw hl ih=>exact .step ih hl
theorem Wl.pot (hp:Pot L p) {vs:List Int} {v d:Int} (h:Wl L S vs v d):∃s,S s∧p v-p s≤d:=by
 induction h with
 | @nil v h=>exact⟨v,h,by omega⟩
 | @step vs u v m d hw hl ih =>
  obtain⟨s,h1,h2⟩:=ih;have:=hp u v m hl;exact⟨s,h1,by omega⟩
end
abbrev Ľ:Int:=1152921504606846976
structure aV4 (L:List Lk) (S:Int→Prop) (N:Nat) (x:Int→Int):Prop where
 att:∀v:Int,0≤v→v<N→x v≠Ľ→∃vs,Wl L S vs v (x v)
 low:∀v vs d,Wl L S vs v d→x v≤d
 bd:∀v:Int,0≤v→v<N→x v≤Ľ
theorem aV4.uniq {L:List Lk} {S:Int→Prop} {N:Nat} {x y:Int→Int} (hx:aV4 L S N x) (hy:aV4 L S N y) {v:Int} (h0:0≤v) (h1:v<N):x v=y v:=by
 have key:∀{x y:Int→Int},aV4 L S N x→aV4 L S N y→x v≤y v:=by
  intro x y hx hy
  by_cases h:y v=Ľ
  ·rw[h]; exact hx.bd v h0 h1
  ·obtain⟨vs,hw⟩:=hy.att v h0 h1 h;exact hx.low v vs _ hw
 exact Int.le_antisymm (key hx hy) (key hy hx)
def gv (x:List Int) (v:Int):Int:=x[v.toNat]?.getD 0
theorem aJa {x:List Int} {v:Int} (h:v.toNat<x.length):x[v.toNat]?=some (gv x v):=by
 unfold gv; rw[List.getElem?_eq_getElem h]; rfl
theorem apA {x:List Int} {u v:Int} (hu:0≤u) (hv:0≤v) (h:u.toNat<x.length) (y:Int):gv (x.set u.toNat y) v=if v=u then y else gv x v:=by
 unfold gv;rw[List.getElem?_set]
 by_cases hvu:v=u
 ·subst hvu; simp[h]
 ·have:¬u.toNat=v.toNat:=by omega
  simp[hvu,this]
theorem aTR {x y:List Int} (hl:x.length=y.length) (h:∀v:Int,0≤v→v<x.length→gv x v=gv y v):x=y:=by
 refine List.ext_getElem hl fun i h1 h2=>?_;have:=h i (by omega) (by omega);unfold gv at this;simpa[h1,h2] using this
def agh (x:List Int) (l:Lk):List Int:=if gv x l.1<Ľ∧gv x l.1+l.2.2<gv x l.2.1 then x.set l.2.1.toNat (gv x l.1+l.2.2) else x
def aAx (L:List Lk) (x:List Int):List Int:=L.foldl agh x
def afy (L:List Lk):Nat→List Int→List Int
 |0,x=>x
 |n+1,x=>afy L n (aAx L x)
theorem ahP (x:List Int) (l:Lk):(agh x l).length=x.length:=by unfold agh; split<;>simp
theorem an4 (L:List Lk):∀x:List Int,(aAx L x).length=x.length:=by
 induction L with
 |nil=>intro x; rfl
 |cons l t ih=>intro x; show(aAx t (agh x l)).length=_; rw[ih,ahP]
theorem ĥ (L:List Lk):∀(n:Nat) (x:List Int),(afy L n x).length=x.length
 |0,x=>rfl
 |n+1,x=>by rw[afy,ĥ L n,an4]
theorem asu (L:List Lk):∀(n:Nat) (x:List Int),afy L (n+1) x=aAx L (afy L n x)
 |0,x=>rfl
 |n+1,x=>by rw[afy,asu L n]; rfl
section
variable {L0:List Lk} {S:Int→Prop} {N:Nat}
theorem aNF {x:List Int} {l:Lk} (hl:(0≤l.1∧l.1<N)∧(0≤l.2.1∧l.2.1<N)) (hx:x.length=N) (v:Int) (hv:0≤v):gv (agh x l) v≤gv x v:=by
 unfold agh
 split
 ·rename_i h;rw[apA hl.2.1 hv (by omega)]
  split
  ·rename_i h2; subst h2; omega
  ·exact Int.le_refl _
 ·exact Int.le_refl _
theorem atX:∀{L:List Lk},InR L N→∀{x:List Int},x.length=N→∀v,0≤v→gv (aAx L x) v≤gv x v
 |[],_,x,_,v,_=>Int.le_refl _
 |l::t,hL,x,hx,v,hv=>by
  have h1:=aNF (hL l (by simp)) hx v hv;have h2:=atX (L:=t) (fun l hl=>hL l (by simp[hl])) (x:=agh x l) (by rw[ahP,hx]) v hv;show gv (aAx t (agh x l)) v≤_;omega
theorem axg:∀{L:List Lk},InR L N→∀{x:List Int},x.length=N→∀u v m,(u,v,m)∈L→gv x u<Ľ→gv (aAx L x) v≤gv x u+m
 |l::t,hL,x,hx,u,v,m,hm,hf=>by
  have ht:InR t N:=fun l hl=>hL l (by simp[hl])
  have hx':(agh x l).length=N:=by rw[ahP,hx]
  show gv (aAx t (agh x l)) v≤_;rcases List.mem_cons.1 hm with rfl|hm
  ·have hl:=hL (u,v,m) (by simp);have h2:=atX ht hx' v hl.2.1
   have h3:gv (agh x (u,v,m)) v≤gv x u+m:=by
    unfold agh
    split
    ·rw[apA hl.2.1 hl.2.1 (by simp only at hl; simp only; omega),if_pos rfl]; exact Int.le_refl _
    ·rename_i h; simp only[not_and,Int.not_lt] at h; exact h hf
   omega
  ·have hl:=hL (u,v,m) (by simp[hm]);have h1:=aNF (hL l (by simp)) hx u hl.1.1;have:=axg ht hx' u v m hm (by omega);omega
def Att (L0:List Lk) (S:Int→Prop) (N:Nat) (x:List Int):Prop:=∀v:Int,0≤v→v<N→gv x v<Ľ→∃vs,Wl L0 S vs v (gv x v)
theorem aUN {x:List Int} {l:Lk} (hl:(0≤l.1∧l.1<N)∧(0≤l.2.1∧l.2.1<N)) (hm:l∈L0) (hx:x.length=N) (h:Att L0 S N x):Att L0 S N (agh x l):=by
 unfold agh
 split
 ·rename_i hc;intro v h0 h1 hf;rw[apA hl.2.1 h0 (by omega)] at hf ⊢
  split
  ·rename_i h2;obtain⟨vs,hw⟩:=h l.1 hl.1.1 hl.1.2 hc.1;exact⟨_,h2▸Wl.step hw hm⟩
  ·rename_i h2;rw[if_neg h2] at hf;exact h v h0 h1 hf
 ·exact h
theorem aNO:∀{L:List Lk},InR L N→(∀l∈L,l∈L0)→∀{x:List Int},x.length=N→Att L0 S N x→Att L0 S N (aAx L x)
 |[],_,_,_,_,h=>h
 |l::t,hL,hsub,x,hx,h=>aNO (L:=t) (fun l hl=>hL l (by simp[hl])) (fun l hl=>hsub l (by simp[hl])) (x:=agh x l) (by rw[ahP,hx]) (aUN (hL l (by simp)) (hsub l (by simp)) hx h)
theorem aIk (hL:InR L0 N):∀(n:Nat) {x:List Int},x.length=N→Att L0 S N x→Att L0 S N (afy L0 n x)
 |0,_,_,h=>h
 |n+1,x,hx,h=>aIk hL n (by rw[an4,hx]) (aNO hL (fun _ h=>h) hx h)
theorem atW (hL:InR L0 N):∀(n:Nat) {x:List Int},x.length=N→∀v,0≤v→gv (afy L0 n x) v≤gv x v
 |0,_,_,_,_=>Int.le_refl _
 |n+1,x,hx,v,hv=>Int.le_trans (atW hL n (by rw[an4,hx]) v hv) (atX hL hx v hv)
def alQ (S:Int→Bool) (N:Nat):List Int:=(List.range N).map fun(i:Nat)=>if S i then 0 else Ľ
theorem ad2 (S:Int→Bool) {N:Nat} {v:Int} (h0:0≤v) (h1:v<N):gv (alQ S N) v=if S v then 0 else Ľ:=by
 unfold gv alQ
 have:v.toNat<N:=by omega
 rw[List.getElem?_map,List.getElem?_range this];simp only[Option.map_some,Option.getD_some];rw[Int.toNat_of_nonneg h0]
theorem ý (S:Int→Bool) (N:Nat):(alQ S N).length=N:=by simp[alQ]
end
theorem axf {L:List Lk} {S:Int→Bool} {N:Nat} {M:Int} (hL:InR L N) (hS:∀v,S v=true→0≤v∧v<N) (hM:∀l∈L,l.2.2≤M):∀(n:Nat),n*M<Ľ→0≤M→∀vs v d,Wl L (fun v=>S v=true) vs v d→vs.length≤n→gv (afy L n (alQ S N)) v≤d
 |0,_,_,vs,v,d,hw,hl=>by
  cases hw with
  |nil h =>
   have:=hS v h;rw[afy,ad2 S this.1 this.2,if_pos h]; exact Int.le_refl _
  |step=>simp at hl
 |n+1,hn,hM0,vs,v,d,hw,hl=>by
  have hn':n*M<Ľ:=by rw[Int.natCast_succ,Int.add_mul,Int.one_mul] at hn; omega
  have hlen:(afy L n (alQ S N)).length=N:=by rw[ĥ,ý]
  rw[asu]
  cases hw with
  |nil h =>
   have h1:=atX hL hlen v (hS v h).1;have h2:=axf hL hS hM n hn' hM0 [] v 0 (.nil h) (by simp);omega
  | @step vs u _ m d hw hlk =>
   have h2:=axf hL hS hM n hn' hM0 vs u d hw (by simpa using hl);have h3:=hw.high hM;have h4:(vs.length:Int)*M≤n*M:=Int.mul_le_mul_of_nonneg_right (by simp at hl; omega) hM0;have:=axg hL hlen u v m hlk (by omega);omega
theorem aCq {L:List Lk} {S:Int→Bool} {N:Nat} {M:Int} {p:Int→Int} (hp:Pot L p) (hL:InR L N) (hS:∀v,S v=true→0≤v∧v<N) (hM:∀l∈L,l.2.2≤M) (hM0:0≤M) (hN:N*M<Ľ) (n:Nat) (hn:N≤n+1):aV4 L (fun v=>S v=true) N (gv (afy L n (alQ S N))):=by
 have hatt:Att L (fun v=>S v=true) N (alQ S N):=fun v h0 h1 hf=>by
  rw[ad2 S h0 h1] at hf ⊢
  split
  ·rename_i h; exact⟨[],.nil h⟩
  ·rename_i h; rw[if_neg h] at hf; omega
 have hbd:∀v:Int,0≤v→v<N→gv (afy L n (alQ S N)) v≤Ľ:=fun v h0 h1=>by
  have:=atW hL n (ý S N) v h0;rw[ad2 S h0 h1] at this
  have hF:(0:Int)≤Ľ:=by decide
  split at this<;>omega
 have hlow:∀(n:Nat),N≤n+1→∀v vs d,Wl L (fun v=>S v=true) vs v d→gv (afy L n (alQ S N)) v≤d:=by
  intro n hn v vs d hw;obtain⟨vs',d',h1,h2,h3⟩:=hw.simple hp;have h4:=h1.short hL hS h3
  have hpos:0<N:=by omega
  obtain⟨k,rfl⟩:∃k,N=k+1:=⟨N-1,by omega⟩
  have hk:(k:Int)*M<Ľ:=by rw[Int.natCast_succ,Int.add_mul,Int.one_mul] at hN; omega
  have h5:=axf hL hS hM k hk hM0 vs' v d' h1 (by omega);obtain⟨j,rfl⟩:∃j,n=k+j:=⟨n-k,by omega⟩
  have h6:∀(j:Nat),gv (afy L (k+j) (alQ S (k+1))) v≤gv (afy L k (alQ S (k+1))) v:=by
   intro j
   induction j with
   |zero=>exact Int.le_refl _
   |succ j ih =>
    rw[←Nat.add_assoc,asu];have:=atX hL (x:=afy L (k+j) (alQ S (k+1))) (by rw[ĥ,ý]) v (h1.range hL hS).1.1;omega
  have:=h6 j;omega
 exact⟨fun v h0 h1 hne=>aIk hL n (ý S N) hatt v h0 h1 (by have:=hbd v h0 h1; omega),hlow n hn,hbd⟩
theorem aV4.pot {L:List Lk} {S:Int→Prop} {N:Nat} {x:Int→Int} (h:aV4 L S N x) (hL:InR L N) {u v m:Int} (hl:(u,v,m)∈L) (hf:x u≠Ľ):x v≤x u+m:=by
 obtain⟨vs,hw⟩:=h.att u (hL _ hl).1.1 (hL _ hl).1.2 hf;exact h.low v _ _ (.step hw hl)
end Go.Proofs.ZzM
end
noncomputable section
namespace Go.Proofs.ZzM
open Go Go.Am
def û (b:â) (g:î):List Lk :=
 [(0,atP (Î b) [g.1] g.2.1,g.2.2.1+g.2.2.2.1.2),(atP (Î b) [g.1] g.2.1,0,-(g.2.2.1+g.2.2.2.1.1))] ++
 (List.range ((á b g).length-1)).flatMap fun(k:Nat)=>[(atP (Î b) [g.1] g.2.1+k,atP (Î b) [g.1] g.2.1+k+1,0),(atP (Î b) [g.1] g.2.1+k+1,atP (Î b) [g.1] g.2.1+k,adU b g ((á b g)[k]?.getD 0) ((á b g)[k+1]?.getD 0))]
def cx (b:â) (c:Cmp):Int:=atP (Î b) (ë c.2.2.1 c.2.2.2.1) c.2.1
def cy (b:â) (c:Cmp):Int:=atP (Î b) (ë c.2.2.2.1 c.2.2.1) c.2.1
def ć (b:â) (c:Cmp):List Lk:=[(cy b c,cx b c,(Ξ b c).2),(cx b c,cy b c,-(Ξ b c).1)]
def ä (b:â):List Lk:=b.2.1.flatMap (û b)++b.2.2.2.2.1.flatMap (ć b)
def ø (b:â) (i:Nat) (g:î):List (Int×Int):=[(1,(i:Int)),(1,(i:Int))]++(List.range ((á b g).length-1)).flatMap fun _=>[(2,(i:Int)),(2,(i:Int))]
def ŝ (b:â):List (Int×Int):=(b.2.1.mapIdx (ø b)).flatten++(b.2.2.2.2.1.mapIdx fun i _=>[(3,(i:Int)),(3,(i:Int))]).flatten
section
variable {b:â}
theorem aNg (h:ę b) {id day:Int} (hu:aUA (ady b) id day=0):(0≤day∧day≤20000)∧∃g,ū b id=some g∧g.2.1≤day:=by
 unfold aUA at hu
 split at hu
 ·omega
 ·rename_i hd;simp only[Bool.not_eq_true',Bool.not_eq_false,aw6,inP,Bool.and_eq_true,decide_eq_true_eq] at hd;exact⟨hd,axr h hu⟩
theorem aeR {g:î} {d:Int}:d∈á b g↔d=g.2.1∨(∃c∈b.2.2.2.2.1,(c.2.2.1.contains g.1)≠(c.2.2.2.1.contains g.1)∧c.2.1=d)∨(∃n∈b.2.2.2.2.2,n.1=g.1∧n.2=d):=by
 unfold á;rw[aji,aMF];simp only[List.mem_append,List.mem_singleton,List.mem_map,List.mem_filter];constructor
 ·rintro((h|⟨c,⟨h1,h2⟩,h3⟩)|⟨n,⟨h1,h2⟩,h3⟩)
  ·exact .inl h
  ·exact .inr (.inl ⟨c,h1,by simpa using h2,h3⟩)
  ·exact .inr (.inr ⟨n,h1,by simpa using h2,h3⟩)
 ·rintro(h|⟨c,h1,h2,h3⟩|⟨n,h1,h2,h3⟩)
  ·exact .inl (.inl h)
  ·exact .inl (.inr ⟨c,⟨h1,by simpa using h2⟩,h3⟩)
  ·exact .inr ⟨n,⟨h1,by simpa using h2⟩,h3⟩
theorem ę.gaugeR (h:ę b) {g:î} (hg:g∈b.2.1):azd g.2.2.2.2.1=true∧(-1000≤g.2.2.2.2.1.1∧g.2.2.2.2.1.1≤1000)∧g.2.2.2.2.1.2≤100∧(1≤g.1∧g.1≤1099511627776)∧(0≤g.2.1∧g.2.1≤20000)∧(1≤g.2.2.1∧g.2.2.1≤1125899906842624)∧(-1073741824≤g.2.2.2.1.1∧g.2.2.2.1.1≤g.2.2.2.1.2∧g.2.2.2.1.2≤1073741824)∧(0≤g.2.2.2.2.2∧g.2.2.2.2.2≤1048576):=(alz g).1 (h.gauge g hg)
theorem ę.day (h:ę b) {g:î} (hg:g∈b.2.1) {d:Int} (hd:d∈á b g):g.2.1≤d∧0≤d∧d≤20000:=by
 have hr:=h.gaugeR hg;have hgo:=amV h.ids hg;rcases aeR.1 hd with rfl|⟨c,hc,h1,rfl⟩|⟨n,hn,h1,rfl⟩
 ·have:=hr.2.2.2.2.1; omega
 ·have hn:=(Ο c).1 (h.nums hc)
  have hx:g.1∈c.2.2.1++c.2.2.2.1:=by
   rw[List.mem_append]
   by_cases h2:g.1∈c.2.2.1
   ·exact .inl h2
   ·refine .inr ?_
    have e1:c.2.2.1.contains g.1=false:=by simpa using h2
    rw[e1] at h1
    have:c.2.2.2.1.contains g.1=true:=by cases hh:c.2.2.2.1.contains g.1<;>simp_all
    simpa using this
  obtain⟨⟨g',h3,h4⟩,_⟩:=h.pile hc hx;rw[hgo] at h3; cases h3;have:=hn.2.1;omega
 ·obtain⟨h2,g',h3,h4⟩:=aNg h (h.looks n hn);rw[h1,hgo] at h3; cases h3;omega
theorem aeZ (g:î):g.2.1∈á b g:=aeR.2 (.inl rfl)
theorem awO (h:ę b) {g:î} (hg:g∈b.2.1):(á b g).length≤59:=by
 have h1:∀l:List î,g∈l→(á b g).length≤(l.flatMap fun g=>(á b g).map fun d=>((g.1,d):Int×Int)).length:=by
  intro l
  induction l with
  |nil=>intro hg; cases hg
  |cons a t ih =>
   intro hg;rw[List.flatMap_cons,List.length_append,List.length_map];rcases List.mem_cons.1 hg with rfl|hg
   ·omega
   ·have:=ih hg; omega
 have:=h1 b.2.1 hg;have:=h.nodes;unfold Î at this;omega
theorem aYE {p:List Int} {d:Int}:0≤atP (Î b) p d∧atP (Î b) p d≤(Î b).length:=by
 unfold atP
 cases p with
 |nil=>simp
 |cons x t =>
  try dsimp only
  cases h:adA (Î b) x d with
  |none=>simp
  |some j=>have:=(afh h).1; dsimp only; omega
theorem asq (h:ę b) {c:Cmp} (hc:c∈b.2.2.2.2.1):(-1125904000000000≤(Ξ b c).1∧(Ξ b c).1≤1125904000000000)∧(-1125904000000000≤(Ξ b c).2∧(Ξ b c).2≤1125904000000000):=by
 obtain⟨r1,r2⟩:=h.rates hc;have hn:=(Ο c).1 (h.nums hc);have ha:=ķ hn.2.2.2.2.2.1;have hb:=ķ hn.2.2.2.2.2.2;have hf:=h.film;obtain⟨g1,g2⟩:=aJ5 (aCb r1 r2) hn.2.2.2.2.1;have fb:=amZ (b:=b) (c:=c) (by omega) (by omega) (by omega) (by omega) (by omega) (by omega);have q1:aje (Ń b c).1 2000000000 10000:=g1;have q2:aje (Ń b c).2 2000000000 10000:=g2;have c1:=aqE q1;have c2:=amX q2;have n3:=hn.2.2.1;have n4:=hn.2.2.2.1;unfold Ξ
 try dsimp only
 omega
theorem afd (h:ę b) {g:î} (hg:g∈b.2.1) {f t:Int} (hf:0≤f):0≤adU b g f t∧adU b g f t≤12*(20001*1048576)+40*1048576:=by
 have hr:=(h.gaugeR hg).2.2.2.2.2.2.2;have h1:=akz (id:=g.1) (t:=t) hf (x:=b.2.2.2.1) fun l hl=>ayy h hl;have h2:(b.2.2.2.1.length:Int)*(20001*1048576)≤12*(20001*1048576):=Int.mul_le_mul_of_nonneg_right (by have:=h.nL; omega) (by omega)
 have h3:(ad0 b g.1 f t).length≤40:=by
  unfold ad0;rw[List.length_map];exact Nat.le_trans (List.length_filter_le _ _) h.nU
 have h4:=atM (ad0 b g.1 f t)
 have hm:0≤((aNy (ad0 b g.1 f t)).length:Int)*g.2.2.2.2.2∧((aNy (ad0 b g.1 f t)).length:Int)*g.2.2.2.2.2≤40*1048576 :=
  ⟨Int.mul_nonneg (by omega) hr.1,Int.mul_le_mul (by omega) hr.2 hr.1 (by omega)⟩
 unfold adU;omega
end
theorem adD {α β:Type} (f:Nat→α→β) {l:List α} {i:Nat} {a:α} (h:l[i]?=some a):(l.take (i+1)).mapIdx f=(l.take i).mapIdx f++[f i a]:=by
 have hi:i<l.length:=(List.getElem?_eq_some_iff.1 h).1
 have:(l.take i).length=i:=by rw[List.length_take]; omega
 rw[take_succ h,List.mapIdx_append];simp[this]
theorem akO {α:Type} (f:Nat→List α) (j:Nat):(List.range (j+1)).flatMap f=(List.range j).flatMap f++f j:=by
 rw[List.range_succ,List.flatMap_append]; simp
theorem ų {α:Type} (f:Nat→List α) (n:Nat) (h:∀k,(f k).length=2):((List.range n).flatMap f).length=2*n:=by
 induction n with
 |zero=>rfl
 |succ n ih=>rw[akO,List.length_append,ih,h]; omega
set_option maxHeartbeats 2000000 in
theorem aTI {b:â} (h:ę b):awK b=some (b,Î b,(((Î b).length:Int)+1,ä b),ŝ b):=by
 unfold awK aLV;have hN:=h.nodes;have hG:=h.nG;have hC:=h.nC;rw[aKa h.size,À,ç,Ø (by omega) (by omega)]
 -- lengths of what comes
 have gl:∀g∈b.2.1,(û b g).length≤120∧∀i,(ø b i g).length≤120:=by
  intro g hg;have:=awO h hg;constructor
  ·unfold û;rw[List.length_append,ų _ _ (fun _=>rfl)];simp only[List.length_cons,List.length_nil]; omega
  ·intro i;unfold ø;rw[List.length_append,ų _ _ (fun _=>rfl)];simp only[List.length_cons,List.length_nil]; omega
 have gls:∀i,((b.2.1.take i).flatMap (û b)).length≤1440∧(((b.2.1.take i).mapIdx (ø b)).flatten).length≤1440:=by
  intro i
  induction i with
  |zero=>simp
  |succ i ih =>
   have key:∀i,i≤b.2.1.length→((b.2.1.take i).flatMap (û b)).length≤i*120∧(((b.2.1.take i).mapIdx (ø b)).flatten).length≤i*120:=by
    intro i
    induction i with
    |zero=>intro _; simp
    |succ i ih =>
     intro hi;have ih:=ih (by omega);have hg:b.2.1[i]?=some b.2.1[i]:=List.getElem?_eq_getElem hi;have h2:=gl _ (List.mem_of_getElem? hg);have h3:=h2.2 i;rw[adD _ hg,take_succ hg,List.flatMap_append,List.flatten_append,List.length_append,List.length_append];simp only[List.flatMap_cons,List.flatMap_nil,List.append_nil,List.flatten_cons,List.flatten_nil];omega
   rcases Nat.lt_or_ge b.2.1.length (i+1) with h1|h1
   ·rw[List.take_of_length_le (by omega)];have:=key b.2.1.length (Nat.le_refl _);rw[List.take_length] at this;omega
   ·have:=key (i+1) h1;omega
 refine ñ b.2.1 (fun i=>((b.2.1.take i).flatMap (û b),((b.2.1.take i).mapIdx (ø b)).flatten)) _ rfl (fun i g hi hg kn=>?_) (fun kn=>?_)
 ·try dsimp only
  unfold amG;have hgm:=List.mem_of_getElem? hg;have hr:=h.gaugeR hgm;have hd:=awO h hgm;have hls:=gls i;have hat:=aYE (b:=b) (p:=[g.1]) (d:=g.2.1);rw[Ö hi,Ë hg];rw[show aia ((b.1.1,b.1.2),b.2.1,b.2.2.1,b.2.2.2.1,b.2.2.2.2.1,b.2.2.2.2.2) g=aia b g from rfl,aXW h.size,À];rw[aYD _ _ _ (by dsimp only; omega),À]
  try dsimp only
  have r1:=hr.2.2.2.2.2.1;have r2:=hr.2.2.2.2.2.2.1;rw[Ø (by omega) (by omega),Ø (by omega) (by omega),Ø (by omega) (by omega),Ù (by simp only[List.length_cons,List.length_nil]; omega),Am.iff_true,Ù (by simp only[List.length_cons,List.length_nil]; omega),Am.iff_true]
  refine ł (fun x:Int×List Lk×List (Int×Int)=>∃j:Nat,j+1≤(á b g).length∧x.1=(j:Int)+1 ∧
   x.2.1=(b.2.1.take i).flatMap (û b)++([(0,atP (Î b) [g.1] g.2.1,g.2.2.1+g.2.2.2.1.2),(atP (Î b) [g.1] g.2.1,0,-(g.2.2.1+g.2.2.2.1.1))] ++
    (List.range j).flatMap fun(k:Nat)=>[(atP (Î b) [g.1] g.2.1+k,atP (Î b) [g.1] g.2.1+k+1,0),(atP (Î b) [g.1] g.2.1+k+1,atP (Î b) [g.1] g.2.1+k,adU b g ((á b g)[k]?.getD 0) ((á b g)[k+1]?.getD 0))]) ∧
   x.2.2=((b.2.1.take i).mapIdx (ø b)).flatten++([(1,(i:Int)),(1,(i:Int))]++(List.range j).flatMap fun _=>[(2,(i:Int)),(2,(i:Int))])) (fun x=>(á b g).length-x.1.toNat) ?_
   ⟨0,List.length_pos_of_mem (aeZ g),rfl,by simp,by simp⟩
  rintro⟨x1,ls,ss⟩ ⟨j,hj,e1,e2,e3⟩;dsimp only at e1 e2 e3 ⊢;subst e1
  have hlls:ls.length≤1562:=by
   rw[e2,List.length_append,List.length_append,ų _ _ (fun _=>rfl)];simp only[List.length_cons,List.length_nil]; omega
  have hlss:ss.length≤1562:=by
   rw[e3,List.length_append,List.length_append,ų _ _ (fun _=>rfl)];simp only[List.length_cons,List.length_nil]; omega
  rcases Nat.lt_or_ge (j+1) (á b g).length with hlt|hge
  ·refine .inr ⟨((j:Int)+1+1,_,_),⟨j+1,hlt,by push_cast; rfl,rfl,rfl⟩,by dsimp only; omega,fun kn'=>?_⟩
   try dsimp only
   unfold amF
   have g1:(á b g)[j]?=some ((á b g)[j]?.getD 0):=by rw[List.getElem?_eq_getElem (by omega)]; rfl
   have g2:(á b g)[j+1]?=some ((á b g)[j+1]?.getD 0):=by rw[List.getElem?_eq_getElem hlt]; rfl
   have d1:=h.day hgm (List.mem_of_getElem? g1);have d2:=h.day hgm (List.mem_of_getElem? g2);have lb:=afd h hgm (t:=(á b g)[j+1]?.getD 0) d1.2.1
   have ec:((j:Int)+1)=((j+1:Nat):Int):=by push_cast; rfl
   rw[ec,Ö hlt,Ø (by omega) (by omega),Ø (by omega) (by omega),Ø (by omega) (by omega),Ø (by omega) (by omega)];rw[show(((j+1:Nat):Int)-1)=((j:Nat):Int) by omega,Ë g1,Ë g2];rw[show aqy ((b.1.1,b.1.2),b.2.1,b.2.2.1,b.2.2.2.1,b.2.2.2.2.1,b.2.2.2.2.2) (g.1,g.2.1,g.2.2.1,(g.2.2.2.1.1,g.2.2.2.1.2),(g.2.2.2.2.1.1,g.2.2.2.2.1.2),g.2.2.2.2.2) ((á b g)[j]?.getD 0) ((á b g)[j+1]?.getD 0)=aqy b g ((á b g)[j]?.getD 0) ((á b g)[j+1]?.getD 0) from rfl];rw[a1T h hr.2.2.2.2.2.2.2 ⟨by omega,by omega⟩ ⟨by omega,by omega⟩,À,Ø (by omega) (by omega),Ø (by omega) (by omega),Ù (by simp only[List.length_cons,List.length_nil]; omega),Am.iff_true,Ù (by simp only[List.length_cons,List.length_nil]; omega),Am.iff_true,Ñ hlt (by omega)];rw[akO,akO,e2,e3]
   have a1:atP (Î b) [g.1] g.2.1+((j+1:Nat):Int)-1=atP (Î b) [g.1] g.2.1+(j:Int):=by push_cast; omega
   have a2:atP (Î b) [g.1] g.2.1+((j+1:Nat):Int)=atP (Î b) [g.1] g.2.1+(j:Int)+1:=by push_cast; omega
   have a3:0-(0-adU b g ((á b g)[j]?.getD 0) ((á b g)[j+1]?.getD 0))=adU b g ((á b g)[j]?.getD 0) ((á b g)[j+1]?.getD 0):=by omega
   rw[a1,a2,a3];simp only[List.append_assoc]
  ·refine .inl fun kn'=>?_
   have hje:j+1=(á b g).length:=by omega
   unfold amF;rw[show((j:Int)+1)=(((á b g).length:Nat):Int) by rw[←hje]; push_cast; rfl,ã];dsimp only;rw[Ñ hi (by omega)];rw[adD _ hg,take_succ hg,List.flatMap_append,List.flatten_append,e2,e3,show j=(á b g).length-1 by omega];simp only[List.flatMap_cons,List.flatMap_nil,List.append_nil,List.flatten_cons,List.flatten_nil];rfl
 ·try dsimp only
  unfold amG;rw[ã,List.take_length];have hls:=gls b.2.1.length;rw[List.take_length] at hls
  have cl:∀i,i≤b.2.2.2.2.1.length→((b.2.2.2.2.1.take i).flatMap (ć b)).length=2*i∧(((b.2.2.2.2.1.take i).mapIdx fun i _=>[((3:Int),(i:Int)),((3:Int),(i:Int))]).flatten).length=2*i:=by
   intro i
   induction i with
   |zero=>intro _; simp
   |succ i ih =>
    intro hi;have ih:=ih (by omega);have hg:b.2.2.2.2.1[i]?=some b.2.2.2.2.1[i]:=List.getElem?_eq_getElem hi;rw[adD _ hg,take_succ hg,List.flatMap_append,List.flatten_append,List.length_append,List.length_append];simp only[List.flatMap_cons,List.flatMap_nil,List.append_nil,List.flatten_cons,List.flatten_nil,ć,List.length_cons,List.length_nil];omega
  refine ñ b.2.2.2.2.1 (fun i=>(b.2.1.flatMap (û b)++(b.2.2.2.2.1.take i).flatMap (ć b),(b.2.1.mapIdx (ø b)).flatten++((b.2.2.2.2.1.take i).mapIdx fun i _=>[((3:Int),(i:Int)),((3:Int),(i:Int))]).flatten)) _ (by simp) (fun i c hi hc kn'=>?_) (fun kn'=>?_)
  ·try dsimp only
   unfold amE;have hcm:=List.mem_of_getElem? hc;have hn:=(Ο c).1 (h.nums hcm);have ha:=ķ hn.2.2.2.2.2.1;have hb:=ķ hn.2.2.2.2.2.2;have sb:=asq h hcm;have c1:=cl i (by omega);rw[Ö hi,Ë hc,akA (by omega) (by omega),À,aYD _ _ _ (by dsimp only; omega),À,akA (by omega) (by omega),À,aYD _ _ _ (by dsimp only; omega),À];rw[show am5 ((b.1.1,b.1.2),b.2.1,b.2.2.1,b.2.2.2.1,b.2.2.2.2.1,b.2.2.2.2.2) c=am5 b c from rfl,h.says hcm,À];rw[Ø (by omega) (by omega),Ù (by simp only[List.length_append,List.length_cons,List.length_nil]; omega),Am.iff_true,Ù (by simp only[List.length_append,List.length_cons,List.length_nil]; omega),Am.iff_true,Ñ hi (by omega),adD _ hc,take_succ hc,List.flatMap_append,List.flatten_append];simp only[List.flatMap_cons,List.flatMap_nil,List.append_nil,List.flatten_cons,List.flatten_nil,List.append_assoc,Int.zero_sub];rfl
  ·try dsimp only
   unfold amE;rw[ã,List.take_length];rfl
end Go.Proofs.ZzM
end
noncomputable section
namespace Go.Proofs.ZzM
open Go Go.Am
section
variable {ρ:Type}
def wv (w:List Bool) (v:Int):Bool:=w[v.toNat]?.getD false
theorem aSX {w:List Bool} {u v:Int} (hu:0≤u) (hv:0≤v) (h:u.toNat<w.length) (y:Bool):wv (w.set u.toNat y) v=if v=u then y else wv w v:=by
 unfold wv;rw[List.getElem?_set]
 by_cases hvu:v=u
 ·subst hvu; simp[h]
 ·have:¬u.toNat=v.toNat:=by omega
  simp[hvu,this]
theorem ae3 {x:List Int} {v:Int} (h:v.toNat<x.length) (f:Int→Option ρ):Ň x v.toNat f=f (gv x v):=afA (aJa h) f
theorem aKc {w:List Bool} {v:Int} (h:v.toNat<w.length) (f:Bool→Option ρ):Ň w v.toNat f=f (wv w v):=by
 refine afA ?_ f;unfold wv; rw[List.getElem?_eq_getElem h]; rfl
theorem Ħ {v:Int} {n:Nat} (h0:0≤v) (h1:v<n) (x:Option ρ):ï ((ile 0 v)&&(ilt v (n:Int))) x=x:=by
 have:((ile 0 v)&&(ilt v (n:Int)))=true:=by simp[ile,ilt,h0,h1]
 rw[this,Am.iff_true]
end
def aiS (n least:Int):List Lk→List Int→List Bool→List Int→Bool×List Int×List Bool×List Int
 |[],x,w,q=>(true,x,w,q)
 |l::t,x,w,q =>
  if l.1≠n then aiS n least t x w q else
  if gv x l.2.1≤gv x n+l.2.2 then aiS n least t x w q else
  if gv x n+l.2.2<least then(false,x.set l.2.1.toNat (gv x n+l.2.2),w,q) else
  if wv w l.2.1 then aiS n least t (x.set l.2.1.toNat (gv x n+l.2.2)) w q else aiS n least t (x.set l.2.1.toNat (gv x n+l.2.2)) (w.set l.2.1.toNat true) (q++[l.2.1])
structure adN (L:List Lk) (N:Nat) (M:Int):Prop where
 inr:InR L N
 noloop:∀l∈L,l.1≠l.2.1
 most:∀l∈L,-M≤l.2.2∧l.2.2≤M
 len:L.length≤400
 nodes:N≤1000
 m0:0≤M
 m1:M≤4503599627370496
set_option maxHeartbeats 1000000 in
theorem aZ1 {ρ:Type} {L:List Lk} {N:Nat} {M:Int} (hL:adN L N M) {n least:Int} (hn:0≤n∧n<N) {x:List Int} {w:List Bool} {q:List Int} (hx:x.length=N) (hw:w.length=N) (hq:q.length≤1000000)
 (hb : -2305843009213693952≤gv x n∧gv x n≤2305843009213693952) (K0:(Val (.pair .bool (.pair (.slice tI) (.pair (.slice .bool) (.slice tI)))))→Option ρ) (K1:(Val (.pair (.slice tI) (.pair (.slice .bool) (.slice tI))))→Option ρ) :
 Ì (fun(v47:(Val (.pair tI (.pair (.slice tI) (.pair (.slice .bool) (.slice tI)))))) kk52=>aed [] least n L (Û L) v47.1 v47.2.1 v47.2.2.1 v47.2.2.2 (fun u48 u49 u50 u51=>kk52 (u48,u49,u50,u51)) K0 K1) ((0:Int),x,w,q) =
  match aiS n least L x w q with
  |(true,r)=>K1 r
  |(false,r)=>K0 (false,r):=by
 have hlen:=hL.len
 refine awh L (fun i (s:List Int×List Bool×List Int) t=>match aiS n least t s.1 s.2.1 s.2.2 with|(true,r)=>K1 r|(false,r)=>K0 (false,r))
  (fun i s=>s.1.length=N∧s.2.1.length=N∧gv s.1 n=gv x n∧s.2.2.length≤1000000+i) (fun s hs kn=>?_) (fun i l t s hd hi hl hI kn hk=>?_) (s:=(x,w,q)) ⟨hx,hw,rfl,by simpa using hq⟩
 ·try dsimp only
  unfold aed;rw[ã];rfl
 ·obtain⟨y,u,p⟩:=s;obtain⟨h1,h2,h3,h4⟩:=hI;dsimp only at h1 h2 h3 h4 hk ⊢;have hmem:l∈L:=List.mem_of_getElem? hl;have hr:=hL.inr l hmem;have hm:=hL.most l hmem;have hm1:=hL.m1;have hnl:=hL.noloop l hmem;unfold aed;rw[Ö hi,Ë hl];unfold aiS
  by_cases hln:l.1=n
  ·have e0:ine l.1 n=false:=by simp[ine,hln]
   rw[Õ e0];have e1:∀(f:Bool→Option ρ) (g:Option ρ),aNc (k:=tI) (v:=.bool) (i:Int) [] f g=g:=fun f g=>rfl;rw[e1,if_neg (by simp[hln])]
   have tn:n.toNat<y.length:=by omega
   have tt:l.2.1.toNat<y.length:=by omega
   have tu:l.2.1.toNat<u.length:=by omega
   rw[Ħ hn.1 (by omega),ae3 tn,Ø (by omega) (by omega),Ħ hr.2.1 (by omega),ae3 tt,Ĥ]
   by_cases hge:gv y l.2.1≤gv y n+l.2.2
   ·rw[if_pos (by simpa[ige] using hge),if_pos hge,Ñ hi (by omega)];exact hk (y,u,p) ⟨h1,h2,h3,by dsimp only; omega⟩
   ·rw[if_neg (by simpa[ige] using hge),if_neg hge]
    have hset:gv (y.set l.2.1.toNat (gv y n+l.2.2)) n=gv x n:=by
     rw[apA hr.2.1 hn.1 tt,if_neg (fun h=>hnl (hln.trans h)),h3]
    have hself:gv (y.set l.2.1.toNat (gv y n+l.2.2)) l.2.1=gv y n+l.2.2:=by
     rw[apA hr.2.1 hr.2.1 tt,if_pos rfl]
    rw[Ħ hn.1 (by omega),ae3 tn,Ø (by omega) (by omega),Ħ hr.2.1 (by omega),ae3 tt];rw[show(Đ (List.set y l.2.1.toNat (gv y n+l.2.2)))=((y.length:Nat):Int) by simp[Đ]];rw[Ħ hr.2.1 (by omega),ae3 (by simpa using tt),hself,Ĥ]
    by_cases hlt:gv y n+l.2.2<least
    ·rw[if_pos (by simpa[ilt] using hlt),if_pos hlt]
    ·rw[if_neg (by simpa[ilt] using hlt),if_neg hlt,Ħ hr.2.1 (by omega),aKc tu,Ĥ]
     cases hwv:wv u l.2.1 with
     |true =>
      rw[if_neg (by simp),if_pos rfl,Ñ hi (by omega)];exact hk (y.set l.2.1.toNat (gv y n+l.2.2),u,p) ⟨by simpa using h1,h2,hset,by dsimp only; omega⟩
     |false =>
      rw[if_pos (by simp),if_neg (by simp),Ù (by simp only[List.length_singleton]; omega),Am.iff_true,Ħ hr.2.1 (by omega),aKc tu,Ñ hi (by omega)];exact hk (y.set l.2.1.toNat (gv y n+l.2.2),u.set l.2.1.toNat true,p++[l.2.1]) ⟨by simpa using h1,by simpa using h2,hset,by simp only[List.length_append,List.length_singleton]; omega⟩
  ·have e0:ine l.1 n=true:=by simp[ine,hln]
   rw[Ú e0,if_pos hln,Ñ hi (by omega)];exact hk (y,u,p) ⟨h1,h2,h3,by dsimp only; omega⟩
structure a02 (N:Nat) (n least:Int) (L:List Lk) (x:List Int) (q:List Int) (x':List Int) (w':List Bool) (q':List Int):Prop where
 lx:x'.length=N
 lw:w'.length=N
 same:gv x' n=gv x n
 le:∀v:Int,0≤v→v<N→gv x' v≤gv x v
 link:∀v m,(n,v,m)∈L→gv x' v≤gv x n+m
 chg:∀v:Int,0≤v→v<N→gv x' v=gv x v∨(v∈q'∧gv x' v<gv x v∧∃m,(n,v,m)∈L∧gv x' v=gv x n+m∧least≤gv x' v)
 new:∃l,q'=q++l∧∀v∈l,(0≤v∧v<N)∧gv x' v<gv x v
 nodup:q'.Nodup
 waits:∀v:Int,0≤v→v<N→(wv w' v=true↔v∈q')
theorem afo {N:Nat} {n least:Int} (hn:0≤n∧n<N):∀{L:List Lk},InR L N→(∀l∈L,l.1≠l.2.1)→∀{x:List Int} {w:List Bool} {q:List Int},x.length=N→w.length=N→q.Nodup→(∀v:Int,0≤v→v<N→(wv w v=true↔v∈q)) →
 ∀{x':List Int} {w':List Bool} {q':List Int},aiS n least L x w q=(true,x',w',q')→a02 N n least L x q x' w' q'
 |[],_,_,x,w,q,hx,hw,hq,hwq,x',w',q',h=>by
  cases h;exact⟨hx,hw,rfl,fun _ _ _=>Int.le_refl _,fun _ _ h=>(by cases h),fun _ _ _=>.inl rfl,⟨[],by simp,fun _ h=>by cases h⟩,hq,hwq⟩
 |l::t,hL,hnl,x,w,q,hx,hw,hq,hwq,x',w',q',h=>by
  have hLt:InR t N:=fun l hl=>hL l (by simp[hl]);have hnt:∀l∈t,l.1≠l.2.1:=fun l hl=>hnl l (by simp[hl]);have hr:=hL l (by simp);have hl0:=hnl l (by simp);unfold aiS at h
  split at h
  ·rename_i hne;have a:=afo hn hLt hnt hx hw hq hwq h
   exact⟨a.lx,a.lw,a.same,a.le,fun v m hm=>by
    rcases List.mem_cons.1 hm with rfl|hm
    ·exact(hne rfl).elim
    ·exact a.link v m hm,fun v h0 h1=>(a.chg v h0 h1).imp id fun⟨g1,g2,m,g3,g4⟩=>⟨g1,g2,m,by simp[g3],g4⟩,a.new,a.nodup,a.waits⟩
  ·rename_i hne
   have hln:l.1=n:=by simpa using hne
   split at h
   ·rename_i hle;have a:=afo hn hLt hnt hx hw hq hwq h
    exact⟨a.lx,a.lw,a.same,a.le,fun v m hm=>by
     rcases List.mem_cons.1 hm with rfl|hm
     ·have:=a.le v hr.2.1 hr.2.2; simp only at hle; omega
     ·exact a.link v m hm,fun v h0 h1=>(a.chg v h0 h1).imp id fun⟨g1,g2,m,g3,g4⟩=>⟨g1,g2,m,by simp[g3],g4⟩,a.new,a.nodup,a.waits⟩
   ·rename_i hgt
    split at h
    ·cases h
    ·rename_i hls
     have tt:l.2.1.toNat<x.length:=by omega
     have tw:l.2.1.toNat<w.length:=by omega
     have hy:(x.set l.2.1.toNat (gv x n+l.2.2)).length=N:=by simpa using hx
     have hyn:gv (x.set l.2.1.toNat (gv x n+l.2.2)) n=gv x n:=by
      rw[apA hr.2.1 hn.1 tt,if_neg (fun h=>hl0 (hln.trans h))]
     have hyv:∀v,0≤v→gv (x.set l.2.1.toNat (gv x n+l.2.2)) v=if v=l.2.1 then gv x n+l.2.2 else gv x v:=fun v h0=>apA hr.2.1 h0 tt _
     have hlm:(n,l.2.1,l.2.2)∈l::t:=by rw[←hln]; simp
     -- what both ways have in common
     have fin:∀{w1:List Bool} {q1:List Int},a02 N n least t (x.set l.2.1.toNat (gv x n+l.2.2)) q1 x' w' q'→l.2.1∈q1→(∃l',q1=q++l'∧∀v∈l',v=l.2.1)→a02 N n least (l::t) x q x' w' q':=by
      intro w1 q1 a hmem hq1;obtain⟨new,hnew,hnv⟩:=a.new;obtain⟨l',hl',hlv⟩:=hq1
      have hto:gv x' l.2.1≤gv x n+l.2.2:=by
       have:=a.le l.2.1 hr.2.1 hr.2.2;rw[hyv _ hr.2.1,if_pos rfl] at this;exact this
      refine⟨a.lx,a.lw,a.same.trans hyn,fun v h0 h1=>?_,fun v m hm=>?_,fun v h0 h1=>?_,⟨l'++new,by rw[hnew,hl',List.append_assoc],fun v hv=>?_⟩,a.nodup,a.waits⟩
      ·have:=a.le v h0 h1;rw[hyv v h0] at this
       split at this
       ·rename_i e; subst e; omega
       ·exact this
      ·rcases List.mem_cons.1 hm with rfl|hm
       ·exact hto
       ·have:=a.link v m hm
        rwa [hyn] at this
      ·rcases a.chg v h0 h1 with g|⟨g1,g2,m,g3,g4,g5⟩
       ·rw[hyv v h0] at g
        split at g
        ·rename_i e;subst e;exact .inr ⟨by rw[hnew]; exact List.mem_append_left _ hmem,by omega,l.2.2,hlm,g,by omega⟩
        ·exact .inl g
       ·rw[hyv v h0] at g2;rw[hyn] at g4;refine .inr ⟨g1,?_,m,by simp[g3],g4,g5⟩
        split at g2
        ·rename_i e; subst e; omega
        ·exact g2
      ·rcases List.mem_append.1 hv with hv|hv
       ·rw[hlv v hv]; exact⟨hr.2,by omega⟩
       ·obtain⟨g1,g2⟩:=hnv v hv;rw[hyv v g1.1] at g2;refine⟨g1,?_⟩
        split at g2
        ·rename_i e; subst e; omega
        ·exact g2
     split at h
     ·rename_i hwt;exact fin (w1:=w) (afo hn hLt hnt hy hw hq hwq h) ((hwq _ hr.2.1 hr.2.2).1 hwt) ⟨[],by simp,fun _ h=>by cases h⟩
     ·rename_i hwt;have hnq:l.2.1∉q:=fun hc=>hwt ((hwq _ hr.2.1 hr.2.2).2 hc);refine fin (w1:=w.set l.2.1.toNat true) (afo hn hLt hnt hy (by simpa using hw) ?_ ?_ h) (by simp) ⟨[l.2.1],rfl,fun v hv=>by simpa using hv⟩
      ·rw[List.nodup_append];exact⟨hq,by simp,fun a ha b hb=>by simp at hb; subst hb; exact fun e=>hnq (e▸ha)⟩
      ·intro v h0 h1;rw[aSX hr.2.1 h0 tw]
       by_cases hv:v=l.2.1
       ·simp[hv]
       ·simp only[hv,if_false,List.mem_append,List.mem_singleton,or_false];exact hwq v h0 h1
theorem ahi {n least:Int}:∀{L:List Lk},(∀l∈L,l.1≠l.2.1)→(∀l∈L,0≤l.2.1)→0≤n→∀{x:List Int} {w:List Bool} {q:List Int} {r},aiS n least L x w q=(false,r)→∃v m,(n,v,m)∈L∧gv x n+m<least
 |[],_,_,_,x,w,q,r,h=>by cases h
 |l::t,hnl,h0,hn,x,w,q,r,h=>by
  have hnt:∀l∈t,l.1≠l.2.1:=fun l hl=>hnl l (by simp[hl]);have h0t:∀l∈t,0≤l.2.1:=fun l hl=>h0 l (by simp[hl]);have up:(∃v m,(n,v,m)∈t∧gv x n+m<least)→∃v m,(n,v,m)∈l::t∧gv x n+m<least:=fun⟨v,m,g1,g2⟩=>⟨v,m,by simp[g1],g2⟩;unfold aiS at h
  split at h
  ·exact up (ahi hnt h0t hn h)
  ·rename_i hne
   have hln:l.1=n:=by simpa using hne
   split at h
   ·exact up (ahi hnt h0t hn h)
   ·split at h
    ·rename_i hlt;exact⟨l.2.1,l.2.2,by rw[←hln]; simp,hlt⟩
    ·have hyn:gv (x.set l.2.1.toNat (gv x n+l.2.2)) n=gv x n:=by
      unfold gv;rw[List.getElem?_set];have h1:=hnl l (by simp);have h2:=h0 l (by simp)
      have:¬l.2.1.toNat=n.toNat:=by omega
      simp[this]
     split at h
     ·have:=ahi hnt h0t hn h;rw[hyn] at this;exact up this
     ·have:=ahi hnt h0t hn h;rw[hyn] at this;exact up this
end Go.Proofs.ZzM
end
noncomputable section
namespace Go.Proofs.ZzM
open Go Go.Am
theorem aTB {ρ:Type} {L:List Lk} {N:Nat} {M:Int} (hL:adN L N M) {n least:Int} (hn:0≤n∧n<N) {x:List Int} {w:List Bool} {t rest:List Int} (hx:x.length=N) (hw:w.length=N) (ht:t.length=N) (hq:rest.length≤1000000)
 (hb : -2305843009213693952≤gv x n∧gv x n≤2305843009213693952) (htn:0≤gv t n∧gv t n≤1000000) (kn:List Int→List Bool→List Int→List Int→Option ρ) (k0:(Val (.pair .bool (.pair (.slice tI) (.pair (.slice .bool) (.pair (.slice tI) (.slice tI))))))→Option ρ) :
 į [] least (N:Int) L x w t (n::rest) kn k0 =
  if (N:Int)+1<gv t n+1 then k0 (false,x,w.set n.toNat false,t.set n.toNat (gv t n+1),rest) else
  match aiS n least L x (w.set n.toNat false) rest with
  |(true,x',w',q')=>kn x' w' (t.set n.toNat (gv t n+1)) q'
  |(false,x',w',q')=>k0 (false,x',w',t.set n.toNat (gv t n+1),q'):=by
 have hN:=hL.nodes
 have tn:n.toNat<x.length:=by omega
 have tw:n.toNat<w.length:=by omega
 have tt:n.toNat<t.length:=by omega
 unfold į
 have e0:ieq (Û (n::rest)) 0=false:=by
  rw[ç];simp only[ieq,List.length_cons,beq_eq_false_iff_ne,ne_eq];omega
 have e1:ilt (0:Int) (Đ (n::rest))=true:=by simp[ilt,Đ]
 have e2:ile (1:Int) (Đ (n::rest))=true:=by simp[ile,Đ]; omega
 have e3:decide (1+(List.length (n::rest)-1)=List.length (n::rest))=true:=by simp; omega
 rw[Õ e0,ģ e1];rw[show Ň (n::rest) 0=fun(f:Int→Option ρ)=>f n from rfl]
 try dsimp only
 rw[ģ e2,ģ e3,Ħ hn.1 (by omega),aKc tw,Ħ hn.1 (by omega),ae3 tt,Ø (by omega) (by omega),Ħ hn.1 (by omega),ae3 tt];rw[show(Đ (List.set t n.toNat (gv t n+1)))=((t.length:Nat):Int) by simp[Đ]];rw[Ħ hn.1 (by omega),ae3 (by simpa using tt),apA hn.1 hn.1 tt,if_pos rfl,Ø (by omega) (by omega),Ĥ];rw[show List.drop 1 (n::rest)=rest from rfl]
 by_cases hlt:(N:Int)+1<gv t n+1
 ·rw[if_pos (by simpa[igt] using hlt),if_pos hlt]
 ·rw[if_neg (by simpa[igt] using hlt),if_neg hlt];rw[aZ1 hL hn hx (w:=w.set n.toNat false) (by simpa using hw) hq hb];generalize aiS n least L x (w.set n.toNat false) rest=r;obtain⟨b,x',w',q'⟩:=r
  cases b<;>rfl
theorem aWE {ρ:Type} {L:List Lk} {N:Int} {least:Int} {x:List Int} {w:List Bool} {t:List Int} (kn:List Int→List Bool→List Int→List Int→Option ρ) (k0:(Val (.pair .bool (.pair (.slice tI) (.pair (.slice .bool) (.pair (.slice tI) (.slice tI))))))→Option ρ) :
 į [] least N L x w t [] kn k0=k0 (true,x,w,t,[]):=by
 unfold į
 have e0:ieq (Û ([]:List Int)) 0=true:=by rw[ç]; rfl
 rw[Ú e0]
def aMn (N:Nat) (t:List Int):Nat:=(t.map fun a=>((N:Int)+2-a).toNat).sum
theorem aTM (N:Nat):∀(t:List Int) (i:Nat) (a b:Int),t[i]?=some a→a<b→a<(N:Int)+2→aMn N (t.set i b)<aMn N t
 |a0::t,0,a,b,h,h1,h2=>by
  simp at h; subst h;simp only[aMn,List.set_cons_zero,List.map_cons,List.sum_cons];omega
 |a0::t,i+1,a,b,h,h1,h2=>by
  have:=aTM N t i a b (by simpa using h) h1 h2;simp only[aMn] at this;simp only[aMn,List.set_cons_succ,List.map_cons,List.sum_cons];omega
theorem aPO {N:Nat} {t:List Int} {n:Int} (hn:n.toNat<t.length) (h:gv t n≤(N:Int)+1):aMn N (t.set n.toNat (gv t n+1))<aMn N t :=
 aTM N t n.toNat (gv t n) _ (aJa hn) (by omega) (by omega)
structure aV3 (L:List Lk) (S:Int→Prop) (N:Nat) (M:Int) (k:Nat) (A B:List Int) (x:List Int) (w:List Bool) (t q:List Int):Prop where
 q_eq:q=A++B
 lx:x.length=N
 lw:w.length=N
 lt:t.length=N
 nodup:q.Nodup
 rng:∀v∈q,0≤v∧v<N
 waits:∀v:Int,0≤v→v<N→(wv w v=true↔v∈q)
 t0:∀v:Int,0≤v→v<N→0≤gv t v∧gv t v≤(k:Int)+1
 tA:∀v∈A,gv t v≤k
 low:∀vs v d,Wl L S vs v d→vs.length≤k→gv x v≤d
 nxt:∀vs u d,Wl L S vs u d→vs.length≤k→u∉A→∀v m,(u,v,m)∈L→gv x v≤d+m
 rel:∀u:Int,0≤u→u<N→u∉q→gv x u≠Ľ→∀v m,(u,v,m)∈L→gv x v≤gv x u+m
 att:∀v:Int,0≤v→v<N→gv x v≠Ľ→∃vs,Wl L S vs v (gv x v)
 bd:∀v:Int,0≤v→v<N→gv x v=Ľ∨gv x v≤((k:Int)+1)*M
 bA:∀v∈A,gv x v≤(k:Int)*M
 fin:∀v∈q,gv x v<Ľ
 kN:k+1≤N
 last:k+1=N→B=[]
section
variable {L:List Lk} {S:Int→Prop} {N:Nat} {M:Int} {p:Int→Int} {k:Nat} {A B x:List Int} {w:List Bool} {t q:List Int}
theorem aBL {a b:Nat} {M:Int} (h:a≤b) (hM:0≤M):(a:Int)*M≤(b:Int)*M:=Int.mul_le_mul_of_nonneg_right (by omega) hM
theorem Wl.lt_free (hL:adN L N M) (hNM:N*M<Ľ) {vs:List Int} {v d:Int} (hw:Wl L S vs v d) (h:vs.length≤N):d<Ľ:=by
 have h1:=hw.high fun l hl=>(hL.most l hl).2;have h2:=aBL h hL.m0;omega
theorem aV3.next (hL:adN L N M) (hNM:N*M<Ľ) (hS:∀v,S v→0≤v∧v<N) (h:aV3 L S N M k [] B x w t q) (hB:B≠[]):aV3 L S N M (k+1) B [] x w t q:=by
 have hM:=hL.m0
 have hq:q=B:=by simpa using h.q_eq
 have hk:k+1≠N:=fun e=>hB (h.last e);have hkN:=h.kN
 have low':∀vs v d,Wl L S vs v d→vs.length≤k+1→gv x v≤d:=by
  intro vs v d hw hl
  cases hw with
  |nil hs=>exact h.low [] v 0 (.nil hs) (by simp)
  | @step vs u _ m d hw hlk=>exact h.nxt vs u d hw (by simpa using hl) (by simp) v m hlk
 refine⟨by simp[hq],h.lx,h.lw,h.lt,h.nodup,h.rng,h.waits,fun v h0 h1=>⟨(h.t0 v h0 h1).1,by have:=(h.t0 v h0 h1).2; push_cast; omega⟩,fun v hv=>?_,low',fun vs u d hw hl hu v m hlk=>?_,h.rel,h.att,fun v h0 h1=>?_,fun v hv=>?_,h.fin,by omega,fun _=>rfl⟩
 ·have:=h.rng v (by rw[hq]; exact hv);have:=(h.t0 v this.1 this.2).2;push_cast; omega
 ·have h1:=low' vs u d hw hl;have h2:=hw.lt_free hL hNM (by omega);have h3:=(hw.range hL.inr hS).1;have:=h.rel u h3.1 h3.2 (by rw[hq]; exact hu) (by omega) v m hlk;omega
 ·rcases h.bd v h0 h1 with h2|h2
  ·exact .inl h2
  ·refine .inr ?_;have:=aBL (show k+1≤k+1+1 by omega) hM;push_cast at this ⊢;omega
 ·have h1:=h.rng v (by rw[hq]; exact hv);have h2:=h.fin v (by rw[hq]; exact hv);rcases h.bd v h1.1 h1.2 with h3|h3
  ·omega
  ·push_cast; exact h3
theorem aV3.step {n:Int} {A':List Int} {least:Int} {x':List Int} {w':List Bool} {q':List Int} (hL:adN L N M) (hNM:N*M<Ľ) (hp:Pot L p) (hS:∀v,S v→0≤v∧v<N) (h:aV3 L S N M k (n::A') B x w t q)
 (ha:a02 N n least L x (A'++B) x' w' q'):∃B',aV3 L S N M k A' B' x' w' (t.set n.toNat (gv t n+1)) q':=by
 have hM:=hL.m0
 have hq:q=n::(A'++B):=by simpa using h.q_eq
 have hkN:=h.kN;have hnr:=h.rng n (by rw[hq]; simp);have hnf:=h.fin n (by rw[hq]; simp)
 have hnd:n∉A'++B:=by have:=h.nodup; rw[hq,List.nodup_cons] at this; exact this.1
 have htn:n.toNat<t.length:=by have:=h.lt; omega
 have tset:∀v,0≤v→gv (t.set n.toNat (gv t n+1)) v=if v=n then gv t n+1 else gv t v:=fun v h0=>apA hnr.1 h0 htn _
 have hkM:((k:Int)+1)*M<Ľ:=by
  have:=aBL hkN hM;push_cast at this;omega
 have xle:∀v:Int,0≤v→v<N→gv x v≤Ľ:=fun v h0 h1=>by rcases h.bd v h0 h1 with h2|h2<;>omega
 obtain⟨l,hl,hlv⟩:=ha.new
 have att':∀v:Int,0≤v→v<N→gv x' v≠Ľ→∃vs,Wl L S vs v (gv x' v):=by
  intro v h0 h1 hne;rcases ha.chg v h0 h1 with g|⟨_,_,m,g3,g4,_⟩
  ·rw[g] at hne ⊢; exact h.att v h0 h1 hne
  ·obtain⟨vs,hw⟩:=h.att n hnr.1 hnr.2 (by omega);rw[g4]; exact⟨_,hw.step g3⟩
 refine⟨B++l,by rw[hl,List.append_assoc],ha.lx,ha.lw,by rw[List.length_set]; exact h.lt,ha.nodup,fun v hv=>?_,ha.waits,fun v h0 h1=>?_,fun v hv=>?_,fun vs v d hw hlen=>?_,fun vs u d hw hlen hu v m hlk=>?_,
  fun u h0 h1 hu hf v m hlk=>?_,att',fun v h0 h1=>?_,fun v hv=>?_,fun v hv=>?_,hkN,fun hk=>?_⟩
 ·rw[hl] at hv;rcases List.mem_append.1 hv with hv|hv
  ·exact h.rng v (by rw[hq]; simp only[List.mem_cons]; exact .inr hv)
  ·exact(hlv v hv).1
 ·rw[tset v h0];have h2:=h.t0 v h0 h1
  split
  ·have h3:=h.tA n (by simp);have h4:=h.t0 n hnr.1 hnr.2;omega
  ·exact h2
 ·have h1:=h.rng v (by rw[hq]; simp[hv]);rw[tset v h1.1,if_neg (fun e=>hnd (by rw[←e]; simp[hv]))];exact h.tA v (by simp[hv])
 ·have h1:=h.low vs v d hw hlen;have h2:=(hw.range hL.inr hS).1;have:=ha.le v h2.1 h2.2;omega
 ·have hvr:=(hL.inr _ hlk).2
  by_cases hun:u=n
  ·subst hun;have h1:=ha.link v m hlk;have h2:=h.low vs u d hw hlen;omega
  ·have h1:=h.nxt vs u d hw hlen (by simp[hun,hu]) v m hlk;have:=ha.le v hvr.1 hvr.2;omega
 ·have hvr:=(hL.inr _ hlk).2
  have heq:gv x' u=gv x u:=by
   rcases ha.chg u h0 h1 with g|⟨g,_⟩
   ·exact g
   ·exact(hu g).elim
  by_cases hun:u=n
  ·subst hun;have h1:=ha.link v m hlk;omega
  ·have hur:u∉q:=by
    rw[hq];intro hc;rcases List.mem_cons.1 hc with e|hc
    ·exact hun e
    ·exact hu (by rw[hl]; exact List.mem_append_left _ hc)
   have h2:=h.rel u h0 h1 hur (by rw[←heq]; exact hf) v m hlk;have:=ha.le v hvr.1 hvr.2;omega
 ·rcases ha.chg v h0 h1 with g|⟨_,_,m,g3,g4,_⟩
  ·rw[g]; exact h.bd v h0 h1
  ·have h2:=h.bA n (by simp);have h3:=(hL.most _ g3).2;simp only at h3;refine .inr ?_;rw[g4,Int.add_mul,Int.one_mul];omega
 ·have h1:=h.rng v (by rw[hq]; simp[hv]);have h2:=h.bA v (by simp[hv]);have:=ha.le v h1.1 h1.2;omega
 ·rw[hl] at hv;rcases List.mem_append.1 hv with hv|hv
  ·have h1:=h.rng v (by rw[hq]; simp only[List.mem_cons]; exact .inr hv);have h2:=h.fin v (by rw[hq]; simp only[List.mem_cons]; exact .inr hv);have:=ha.le v h1.1 h1.2;omega
  ·obtain⟨g1,g2⟩:=hlv v hv;have:=xle v g1.1 g1.2;omega
 ·rw[h.last hk]
  cases l with
  |nil=>rfl
  |cons v l =>
   exfalso;obtain⟨g1,g2⟩:=hlv v (by simp);have:=xle v g1.1 g1.2;obtain⟨vs,hw⟩:=att' v g1.1 g1.2 (by omega);obtain⟨vs',d',k1,k2,k3⟩:=hw.simple hp;have k4:=k1.short hL.inr hS k3;have:=h.low vs' v d' k1 (by omega);omega
theorem aV3.done (hL:adN L N M) (hNM:N*M<Ľ) (hp:Pot L p) (hS:∀v,S v→0≤v∧v<N) (h:aV3 L S N M k A B x w t []):aV4 L S N (gv x):=by
 have hkN:=h.kN;have hM:=hL.m0
 have hkM:((k:Int)+1)*M<Ľ:=by
  have:=aBL hkN hM;push_cast at this;omega
 have key:∀vs v d,Wl L S vs v d→vs.length+1≤N→gv x v≤d:=by
  intro vs v d hw
  induction hw with
  |nil hs=>intro _; exact h.low [] _ 0 (.nil hs) (by simp)
  | @step vs u v m d hw hlk ih =>
   intro hlen;simp only[List.length_cons] at hlen;have h1:=ih (by omega);have h2:=hw.lt_free hL hNM (by omega);have h3:=(hw.range hL.inr hS).1;have:=h.rel u h3.1 h3.2 (by simp) (by omega) v m hlk;omega
 refine⟨h.att,fun v vs d hw=>?_,fun v h0 h1=>?_⟩
 ·obtain⟨vs',d',k1,k2,k3⟩:=hw.simple hp;have:=key vs' v d' k1 (k1.short hL.inr hS k3);omega
 ·rcases h.bd v h0 h1 with h2|h2<;>omega
theorem aNt {ρ:Type} {r:Option ρ} (hL:adN L N M) (hNM:N*M<Ľ) (hp:Pot L p) (hS:∀v,S v→0≤v∧v<N) (k0:(Val (.pair .bool (.pair (.slice tI) (.pair (.slice .bool) (.pair (.slice tI) (.slice tI))))))→Option ρ)
 (hK:∀x w t q,x.length=N→aV4 L S N (gv x)→k0 (true,x,w,t,q)=r) (h:aV3 L S N M k A B x w t q) :
 Ì (fun(v64:(Val (.pair (.slice tI) (.pair (.slice .bool) (.pair (.slice tI) (.slice tI)))))) kk69=>į [] (aBK L) (N:Int) L v64.1 v64.2.1 v64.2.2.1 v64.2.2.2 (fun u65 u66 u67 u68=>kk69 (u65,u66,u67,u68)) k0) (x,w,t,q)=r:=by
 refine ł (fun s:List Int×List Bool×List Int×List Int=>∃k A B,aV3 L S N M k A B s.1 s.2.1 s.2.2.1 s.2.2.2) (fun s=>aMn N s.2.2.1) ?_ ⟨k,A,B,h⟩;rintro⟨x,w,t,q⟩ ⟨k,A,B,h⟩;dsimp only at h ⊢;have hN:=hL.nodes
 cases q with
 |nil=>exact .inl fun kn=>by rw[aWE]; exact hK x w t [] h.lx (h.done hL hNM hp hS)
 |cons n rest =>
  -- the phase in which the first one is
  have hph:∃k A' B,aV3 L S N M k (n::A') B x w t (n::rest):=by
   cases A with
   |nil =>
    have hB:B=n::rest:=by simpa using h.q_eq.symm
    subst hB;exact⟨k+1,rest,[],h.next hL hNM hS (by simp)⟩
   |cons a A' =>
    have:=h.q_eq;simp only[List.cons_append,List.cons.injEq] at this;obtain⟨rfl,_⟩:=this;exact⟨k,A',B,h⟩
  clear h k A B;obtain⟨k,A',B,h⟩:=hph
  have hrest:rest=A'++B:=by have:=h.q_eq; simpa using this
  have hnr:=h.rng n (by simp);have hnf:=h.fin n (by simp);have hkN:=h.kN;have h1:=h.tA n (by simp);have h2:=h.t0 n hnr.1 hnr.2;obtain⟨vs,hw⟩:=h.att n hnr.1 hnr.2 (by omega);have hlow:=hw.low' hp
  have hneg : -(400*4503599627370496)≤aBK L:=by
   have:∀L':List Lk,(∀l∈L',-M≤l.2.2)→-((L'.length:Int)*M)≤aBK L':=by
    intro L'
    induction L' with
    |nil=>intro _; simp[aBK,aAB]
    |cons l t ih =>
     intro hh;have i1:=ih fun l hl=>hh l (by simp[hl]);have i2:=hh l (by simp);have i3:=hL.m0;unfold aBK at i1 ⊢;simp only[aAB,if_true,List.length_cons,Int.natCast_succ,Int.add_mul,Int.one_mul];omega
   have h3:=this L fun l hl=>(hL.most l hl).1;have h4:(L.length:Int)*M≤400*4503599627370496:=Int.mul_le_mul (by have:=hL.len; omega) hL.m1 hL.m0 (by omega);omega
  have hrl:rest.length≤1000000:=by
   have:=aTn N (n::rest) h.nodup h.rng;simp only[List.length_cons] at this;omega
  refine .inr ?_
  have hw':(w.set n.toNat false).length=N:=by rw[List.length_set]; exact h.lw
  cases hr:aiS n (aBK L) L x (w.set n.toNat false) rest with
  |mk b r' =>
  obtain⟨x',w',q'⟩:=r'
  cases b with
  |false =>
   exfalso;obtain⟨v,m,g1,g2⟩:=ahi hL.noloop (fun l hl=>(hL.inr l hl).2.1) hnr.1 hr;have:=(hw.step g1).low' hp;omega
  |true =>
   have hnd:=h.nodup;rw[List.nodup_cons] at hnd
   have ha:=afo hnr hL.inr hL.noloop h.lx hw' hnd.2 (fun v h0 h1=>by
    rw[aSX hnr.1 h0 (by have:=h.lw; omega)]
    by_cases hv:v=n
    ·subst hv; simp[hnd.1]
    ·rw[if_neg hv,h.waits v h0 h1]
     simp[hv]) hr
   rw[hrest] at ha;obtain⟨B',hB'⟩:=h.step hL hNM hp hS ha;refine⟨(x',w',t.set n.toNat (gv t n+1),q'),⟨k,A',B',hB'⟩,aPO (by have:=h.lt; omega) (by omega),fun kn=>?_⟩;have hF:Ľ=1152921504606846976:=rfl
   rw[aTB hL hnr h.lx h.lw h.lt hrl (by constructor<;>omega) (by constructor<;>omega),if_neg (by omega),hr]
end
end Go.Proofs.ZzM
end
noncomputable section
namespace Go.Proofs.ZzM
open Go Go.Am
theorem aCG (f:Lk→Bool):∀(L L':List Lk),aAB f (L++L')=aAB f L+aAB f L'
 |[],L'=>by simp[aAB]
 |l::t,L'=>by
  simp only[List.cons_append,aAB,aCG f t L'];omega
theorem aOj {L:List Lk} {i:Nat} {l:Lk} (h:L[i]?=some l):aBK (L.take (i+1))=aBK (L.take i)+min l.2.2 0:=by
 rw[take_succ h,aBK,aBK,aCG];simp[aAB]
theorem imin0 (e:Int):aMt e 0=min e 0:=by
 unfold aMt
 split<;>omega
theorem aKd {L:List Lk} {M:Int} (h:∀l∈L,-M≤l.2.2) (hM:0≤M) : -((L.length:Int)*M)≤aBK L:=by
 induction L with
 |nil=>simp[aBK,aAB]
 |cons l t ih =>
  have i1:=ih fun l hl=>h l (by simp[hl]);have i2:=h l (by simp);unfold aBK at i1 ⊢;simp only[aAB,if_true,List.length_cons,Int.natCast_succ,Int.add_mul,Int.one_mul];omega
theorem a1Q (L:List Lk):aBK L≤0:=alY _ L
section
variable {ρ:Type} {L:List Lk} {N:Nat} {M:Int}
theorem aTN (hL:adN L N M) (k0:Int→Option ρ):Ì (fun(v75:Val Ã) kk78=>adk L (Û L) v75.1 v75.2 (fun u76 u77=>kk78 (u76,u77)) k0) ((0:Int),(0:Int))=k0 (aBK L):=by
 refine ł (fun x:Int×Int=>∃i:Nat,i≤L.length∧x=(aBK (L.take i),(i:Int))) (fun x=>L.length-x.2.toNat) ?_ ⟨0,by omega,rfl⟩;rintro x ⟨i,hi,rfl⟩;have hlen:=hL.len;rcases Nat.lt_or_ge i L.length with h|h
 ·have hl:L[i]?=some L[i]:=List.getElem?_eq_getElem h;refine .inr ⟨(aBK (L.take (i+1)),(i:Int)+1),⟨i+1,h,by simp⟩,by simp; omega,fun kn=>?_⟩
  try dsimp only
  unfold adk
  have hb:∀j,j≤L.length→-(400*4503599627370496)≤aBK (L.take j):=by
   intro j hj;have h1:=aKd (L:=L.take j) (fun l hl=>(hL.most l (List.mem_of_mem_take hl)).1) hL.m0;have h2:((L.take j).length:Int)*M≤400*4503599627370496:=Int.mul_le_mul (by rw[List.length_take]; omega) hL.m1 hL.m0 (by omega);omega
  have h1:=hb i hi;have h2:=hb (i+1) h;have h3:=a1Q (L.take i);rw[aOj hl] at h2;rw[Ö h,Ë hl,imin0,Ø (by omega) (by omega),Ñ h (by omega),aOj hl]
 ·refine .inl fun kn=>?_
  have:i=L.length:=by omega
  subst this
  try dsimp only
  unfold adk;rw[ã,List.take_length]
theorem aWj {x:List Int} (hx:x.length=N) (hN:N≤1000) {r:Option ρ} (k0:(Val (.pair (.slice .bool) (.slice tI)))→Option ρ)
 (hK:∀(w:List Bool) (q:List Int),w.length=N→q.Nodup→(∀v∈q,0≤v∧v<N)→(∀v:Int,0≤v→v<N→(wv w v=true↔v∈q))→(∀v:Int,0≤v→v<N→(v∈q↔gv x v≠Ľ))→k0 (w,q)=r) :
 Ì (fun(v70:(Val (.pair tI (.pair (.slice .bool) (.slice tI))))) kk74=>Ś (N:Int) x v70.1 v70.2.1 v70.2.2 (fun u71 u72 u73=>kk74 (u71,u72,u73)) k0) ((0:Int),(List.replicate N false),([]:List Int))=r:=by
 refine ł (fun s:Int×List Bool×List Int=>∃i:Nat,i≤N∧s.1=i∧s.2.1.length=N∧s.2.2.Nodup∧s.2.2.length≤i∧(∀v∈s.2.2,0≤v∧v<i)∧(∀v:Int,0≤v→v<N→(wv s.2.1 v=true↔v∈s.2.2))∧(∀v:Int,0≤v→v<i→(v∈s.2.2↔gv x v≠Ľ))) (fun s=>N-s.1.toNat) ?_
  ⟨0,by omega,rfl,by simp,by simp,by simp,by simp,fun v h0 h1=>?_,fun v h0 h1=>by omega⟩
 ·rintro⟨s,w,q⟩ ⟨i,hi,h1,h2,h3,h4,h5,h6,h7⟩;simp only at h1 h2 h3 h4 h5 h6 h7;subst h1;rcases Nat.lt_or_ge i N with h|h
  ·refine .inr ?_
   have hix:i<x.length:=by omega
   have hiw:i<w.length:=by omega
   have hnq:((i:Int))∉q:=fun hc=>by have:=(h5 _ hc).2; omega
   by_cases hf:gv x i=Ľ
   ·refine⟨((i:Int)+1,w,q),⟨i+1,h,by simp,h2,h3,by simp only; omega,fun v hv=>⟨(h5 v hv).1,by have:=(h5 v hv).2; push_cast; omega⟩,h6,fun v h0 h1=>?_⟩,by simp; omega,fun kn=>?_⟩
    ·by_cases hv:v=i
     ·subst hv; simp[hf,hnq]
     ·exact h7 v h0 (by push_cast at h1; omega)
    ·try dsimp only
     unfold Ś
     have e:ilt (i:Int) (N:Int)=true:=by simp[ilt,h]
     rw[Ú e,adn hix,ae3 (by simpa using hix)]
     have e2:ine (gv x i) 1152921504606846976=false:=by simp[ine,hf]
     rw[Õ e2,Ñ h (by omega)]
   ·refine⟨((i:Int)+1,w.set i true,q++[(i:Int)]),⟨i+1,h,by simp,by simpa using h2,?_,by simp; omega,fun v hv=>?_,fun v h0 h1=>?_,fun v h0 h1=>?_⟩,by simp; omega,fun kn=>?_⟩
    ·rw[List.nodup_append];exact⟨h3,by simp,fun a ha b hb=>by simp at hb; subst hb; exact fun e=>hnq (e▸ha)⟩
    ·rcases List.mem_append.1 hv with hv|hv
     ·exact⟨(h5 v hv).1,by have:=(h5 v hv).2; push_cast; omega⟩
     ·simp at hv; subst hv; push_cast; omega
    ·have:=aSX (w:=w) (u:=(i:Int)) (by omega) h0 (by simpa using hiw) true;rw[Int.toNat_natCast] at this;show wv (w.set i true) v=true↔v∈q++[(i:Int)];rw[this]
     by_cases hv:v=i
     ·simp[hv]
     ·simp only[hv,if_false,List.mem_append,List.mem_singleton,or_false];exact h6 v h0 h1
    ·show v∈q++[(i:Int)]↔_
     by_cases hv:v=i
     ·subst hv; simp[hf]
     ·simp only[List.mem_append,List.mem_singleton,hv,or_false];exact h7 v h0 (by push_cast at h1; omega)
    ·try dsimp only
     unfold Ś
     have e:ilt (i:Int) (N:Int)=true:=by simp[ilt,h]
     rw[Ú e,adn hix,ae3 (by simpa using hix)]
     have e2:ine (gv x i) 1152921504606846976=true:=by simp[ine,hf]
     rw[Ú e2,Ù (by simp only[List.length_singleton]; omega),Am.iff_true,adn hiw,aKc (by simpa using hiw),Ñ h (by omega),Int.toNat_natCast]
  ·refine .inl fun kn=>?_
   have:i=N:=by omega
   subst this
   try dsimp only
   unfold Ś
   have e:ilt (i:Int) (i:Int)=false:=by simp[ilt]
   rw[Õ e];exact hK w q h2 h3 h5 h6 h7
 ·have:wv (List.replicate N false) v=false:=by
   unfold wv;rw[List.getElem?_replicate]
   split<;>rfl
  simp[this]
theorem aIb (hL:adN L N M) (hN:1≤N) {S:Int→Bool} (hS:∀v,S v=true→0≤v∧v<N) {w:List Bool} {q:List Int} (hw:w.length=N) (hq:q.Nodup) (hr:∀v∈q,0≤v∧v<N) (hwq:∀v:Int,0≤v→v<N→(wv w v=true↔v∈q)) (hqs:∀v:Int,0≤v→v<N→(v∈q↔gv (alQ S N) v≠Ľ)) :
 aV3 L (fun v=>S v=true) N M 0 q [] (alQ S N) w (List.replicate N 0) q:=by
 have ht:∀v:Int,0≤v→v<N→gv (List.replicate N (0:Int)) v=0:=by
  intro v h0 h1;unfold gv;rw[List.getElem?_replicate]
  split<;>rfl
 have hg:∀v:Int,0≤v→v<N→(v∈q↔S v=true):=by
  intro v h0 h1;rw[hqs v h0 h1,ad2 S h0 h1]
  cases S v<;>simp[Ľ]
 have hM:=hL.m0;refine⟨by simp,ý S N,hw,by simp,hq,hr,hwq,fun v h0 h1=>?_,fun v hv=>?_,fun vs v d hw hl=>?_,fun vs u d hw hl hu v m hlk=>?_,fun u h0 h1 hu hf v m hlk=>?_,fun v h0 h1 hf=>?_,fun v h0 h1=>?_,fun v hv=>?_,fun v hv=>?_,by omega,fun _=>rfl⟩
 ·rw[ht v h0 h1]; omega
 ·have:=hr v hv;rw[ht v this.1 this.2]; omega
 ·cases hw with
  |nil hs =>
   have:=hS v hs;rw[ad2 S this.1 this.2,if_pos hs]; omega
  |step=>simp at hl
 ·cases hw with
  |nil hs =>
   have:=hS u hs;exact(hu ((hg u this.1 this.2).2 hs)).elim
  |step=>simp at hl
 ·rw[ad2 S h0 h1] at hf;have:=mt (hg u h0 h1).2 hu;rw[if_neg this] at hf;exact(hf rfl).elim
 ·rw[ad2 S h0 h1] at hf ⊢
  split at hf
  ·rename_i hs;rw[if_pos hs]; exact⟨[],.nil hs⟩
  ·exact(hf rfl).elim
 ·rw[ad2 S h0 h1]
  split
  ·exact .inr (by simp[hM])
  ·exact .inl rfl
 ·have h1:=hr v hv;rw[ad2 S h1.1 h1.2,if_pos ((hg v h1.1 h1.2).1 hv)]; simp
 ·have h1:=hr v hv;rw[ad2 S h1.1 h1.2,if_pos ((hg v h1.1 h1.2).1 hv)]; simp[Ľ]
structure Bad (L:List Lk) (N:Nat) (x:List Int) (w:List Bool) (t q:List Int):Prop where
 lx:x.length=N
 lw:w.length=N
 lt:t.length=N
 nodup:q.Nodup
 rng:∀v∈q,0≤v∧v<N
 waits:∀v:Int,0≤v→v<N→(wv w v=true↔v∈q)
 t0:∀v:Int,0≤v→v<N→0≤gv t v∧gv t v≤(N:Int)+1
 bd:∀v:Int,0≤v→v<N→-2305843009213693952≤gv x v∧gv x v≤0
 rel:∀u:Int,0≤u→u<N→u∉q→∀v m,(u,v,m)∈L→gv x v≤gv x u+m
theorem aZs {r:Option ρ} {x:List Int} {w:List Bool} {t q:List Int} (hL:adN L N M) (hp:¬∃p,Pot L p) (k0:(Val (.pair .bool (.pair (.slice tI) (.pair (.slice .bool) (.pair (.slice tI) (.slice tI))))))→Option ρ)
 (hK:∀x w t q,k0 (false,x,w,t,q)=r) (h:Bad L N x w t q) :
 Ì (fun(v64:(Val (.pair (.slice tI) (.pair (.slice .bool) (.pair (.slice tI) (.slice tI)))))) kk69=>į [] (aBK L) (N:Int) L v64.1 v64.2.1 v64.2.2.1 v64.2.2.2 (fun u65 u66 u67 u68=>kk69 (u65,u66,u67,u68)) k0) (x,w,t,q)=r:=by
 refine ł (fun s:List Int×List Bool×List Int×List Int=>Bad L N s.1 s.2.1 s.2.2.1 s.2.2.2) (fun s=>aMn N s.2.2.1) ?_ h;rintro⟨x,w,t,q⟩ h;dsimp only at h ⊢;have hN:=hL.nodes
 cases q with
 |nil =>
  exfalso;exact hp ⟨gv x,fun u v m hl=>h.rel u (hL.inr _ hl).1.1 (hL.inr _ hl).1.2 (by simp) v m hl⟩
 |cons n rest =>
  have hnr:=h.rng n (by simp);have hb:=h.bd n hnr.1 hnr.2;have ht:=h.t0 n hnr.1 hnr.2
  have hrl:rest.length≤1000000:=by
   have:=aTn N (n::rest) h.nodup h.rng;simp only[List.length_cons] at this;omega
  have hout:=fun(kn:List Int→List Bool→List Int→List Int→Option ρ)=>aTB (ρ:=ρ) hL (least:=aBK L) hnr h.lx h.lw h.lt hrl ⟨hb.1,by omega⟩ ⟨ht.1,by omega⟩ kn k0
  by_cases hlt:(N:Int)+1<gv t n+1
  ·exact .inl fun kn=>by rw[hout,if_pos hlt]; exact hK _ _ _ _
  ·have hw':(w.set n.toNat false).length=N:=by rw[List.length_set]; exact h.lw
   cases hr:aiS n (aBK L) L x (w.set n.toNat false) rest with
   |mk b r' =>
   obtain⟨x',w',q'⟩:=r'
   cases b with
   |false=>exact .inl fun kn=>by rw[hout,if_neg hlt,hr]; exact hK _ _ _ _
   |true =>
    have hnd:=h.nodup;rw[List.nodup_cons] at hnd
    have htl:n.toNat<t.length:=by have:=h.lt; omega
    have ha:=afo hnr hL.inr hL.noloop h.lx hw' hnd.2 (fun v h0 h1=>by
     rw[aSX hnr.1 h0 (by have:=h.lw; omega)]
     by_cases hv:v=n
     ·subst hv; simp[hnd.1]
     ·rw[if_neg hv,h.waits v h0 h1]
      simp[hv]) hr
    obtain⟨l,hl,hlv⟩:=ha.new;refine .inr ⟨(x',w',t.set n.toNat (gv t n+1),q'),⟨ha.lx,ha.lw,by rw[List.length_set]; exact h.lt,ha.nodup,fun v hv=>?_,ha.waits,fun v h0 h1=>?_,fun v h0 h1=>?_,fun u h0 h1 hu v m hlk=>?_⟩,aPO htl (by omega),fun kn=>by rw[hout,if_neg hlt,hr]⟩
    ·dsimp only at hv;rw[hl] at hv;rcases List.mem_append.1 hv with hv|hv
     ·exact h.rng v (by simp[hv])
     ·exact(hlv v hv).1
    ·try dsimp only
     rw[apA hnr.1 h0 htl];have:=h.t0 v h0 h1
     split<;>omega
    ·try dsimp only
     have h2:=h.bd v h0 h1;rcases ha.chg v h0 h1 with g|⟨_,g2,m,g3,g4,g5⟩
     ·rw[g]; exact h2
     ·have h3:=aKd (L:=L) (fun l hl=>(hL.most l hl).1) hL.m0;have h4:(L.length:Int)*M≤400*4503599627370496:=Int.mul_le_mul (by have:=hL.len; omega) hL.m1 hL.m0 (by omega);omega
    ·dsimp only at hu ⊢;have hvr:=(hL.inr _ hlk).2
     have heq:gv x' u=gv x u:=by
      rcases ha.chg u h0 h1 with g|⟨g,_⟩
      ·exact g
      ·exact(hu g).elim
     by_cases hun:u=n
     ·subst hun;have h1:=ha.link v m hlk;omega
     ·have hur:u∉n::rest:=by
       intro hc;rcases List.mem_cons.1 hc with e|hc
       ·exact hun e
       ·exact hu (by rw[hl]; exact List.mem_append_left _ hc)
      have h2:=h.rel u h0 h1 hur v m hlk;have:=ha.le v hvr.1 hvr.2;omega
end
def aV2 (N:Nat) (v:Int):Bool:=decide (0≤v)&&decide (v<(N:Int))
def aWM (s:Int) (v:Int):Bool:=v==s
theorem aNs (N:Nat):alQ (aV2 N) N=List.replicate N 0:=by
 refine aTR (by simp[ý]) fun v h0 h1=>?_;rw[ý] at h1;rw[ad2 _ h0 h1]
 have:aV2 N v=true:=by simp[aV2,h0,h1]
 rw[if_pos this];unfold gv;rw[List.getElem?_replicate]
 split<;>rfl
def Į (L:List Lk) (N:Nat):List Int:=afy L N (alQ (aV2 N) N)
def Ĩ (L:List Lk) (N:Nat):Bool:=decide (aAx L (Į L N)=Į L N)
def agN (L:List Lk) (N:Nat) (s:Int):List Int:=afy L N (alQ (aWM s) N)
section
variable {L:List Lk} {N:Nat} {M:Int}
theorem aZN (hL:adN L N M) (hN:N≤200):N*M<Ľ:=by
 have:(N:Int)*M≤200*4503599627370496:=Int.mul_le_mul (by omega) hL.m1 hL.m0 (by omega);unfold Ľ;omega
theorem ap3 {p:Int→Int} (hL:adN L N M) (hN:N≤200) (hp:Pot L p):aV4 L (fun v=>aV2 N v=true) N (gv (Į L N)) :=
 aCq hp hL.inr (fun v h=>by simpa[aV2] using h) (fun l hl=>(hL.most l hl).2) hL.m0 (aZN hL hN) N (by omega)
theorem aek {p:Int→Int} (hL:adN L N M) (hN:N≤200) (hp:Pot L p) {s:Int} (hs:0≤s∧s<N):aV4 L (fun v=>aWM s v=true) N (gv (agN L N s)) :=
 aCq hp hL.inr (fun v h=>by simp[aWM] at h; subst h; exact hs) (fun l hl=>(hL.most l hl).2) hL.m0 (aZN hL hN) N (by omega)
theorem aNN:∀{L:List Lk} {x:List Int},(∀u v m,(u,v,m)∈L→gv x u<Ľ→gv x v≤gv x u+m)→aAx L x=x
 |[],x,_=>rfl
 |l::t,x,h=>by
  have h1:agh x l=x:=by
   unfold agh
   split
   ·rename_i hc;have:=h l.1 l.2.1 l.2.2 (by simp) hc.1;omega
   ·rfl
  show aAx t (agh x l)=x;rw[h1];exact aNN fun u v m hm=>h u v m (by simp[hm])
theorem Ř (hL:adN L N M) (hN:N≤200):Ĩ L N=true↔∃p,Pot L p:=by
 unfold Ĩ;rw[decide_eq_true_eq]
 have hle:∀v:Int,0≤v→v<N→gv (Į L N) v≤0:=by
  intro v h0 h1;have:=atW hL.inr N (ý (aV2 N) N) v h0;rw[ad2 _ h0 h1,if_pos (by simp[aV2,h0,h1])] at this;exact this
 constructor
 ·intro h;refine⟨gv (Į L N),fun u v m hl=>?_⟩;have hr:=(hL.inr _ hl).1;have:=axg hL.inr (x:=Į L N) (by unfold Į; rw[ĥ,ý]) u v m hl (by have:=hle u hr.1 hr.2; unfold Ľ; omega)
  rwa [h] at this
 ·rintro⟨p,hp⟩;have hd:=ap3 hL hN hp;exact aNN fun u v m hl hf=>hd.pot hL.inr hl (by omega)
end
end Go.Proofs.ZzM
end
noncomputable section
namespace Go.Proofs.ZzM
open Go Go.Am
section
variable {ρ:Type} {L:List Lk} {N:Nat} {M:Int}
theorem awo (hN:N≤1000) (x:Option ρ):ï ((ile (0:Int) (N:Int))&&(ì (Int.toNat (N:Int)))) x=x:=by
 rw[Int.toNat_natCast,Ù (by omega)]
 have:((ile (0:Int) (N:Int))&&true)=true:=by simp[ile]
 rw[this,Am.iff_true]
theorem aRd (hL:adN L N M) (h1:1≤N) (hN:N≤200) (k0:(Val (.pair .bool (.pair (.slice tI) (.pair (.slice .bool) (.pair (.slice tI) (.slice tI))))))→Option ρ) {rT rF:Option ρ}
 (hT:Ĩ L N=true→∀w t q,k0 (true,Į L N,w,t,q)=rT) (hF:∀x w t q,k0 (false,x,w,t,q)=rF) :
 (Ì (fun(v70:(Val (.pair tI (.pair (.slice .bool) (.slice tI))))) kk74=>Ś (N:Int) (List.replicate N (0:Int)) v70.1 v70.2.1 v70.2.2 (fun u71 u72 u73=>kk74 (u71,u72,u73)) (fun z9=>Ì (fun(v64:(Val (.pair (.slice tI) (.pair (.slice .bool) (.pair (.slice tI) (.slice tI)))))) kk69=>į [] (aBK L) (N:Int) L v64.1 v64.2.1 v64.2.2.1 v64.2.2.2 (fun u65 u66 u67 u68=>kk69 (u65,u66,u67,u68)) k0) ((List.replicate N (0:Int)),z9.1,(List.replicate N (0:Int)),z9.2))) ((0:Int),(List.replicate N false),([]:List Int)))=if Ĩ L N then rT else rF:=by
 refine aWj (by simp) (by omega) _ fun w q hw hq hr hwq hqs=>?_
 try dsimp only
 have hS:∀v,aV2 N v=true→0≤v∧v<N:=fun v h=>by simpa[aV2] using h
 by_cases ho:Ĩ L N=true
 ·rw[if_pos ho];obtain⟨p,hp⟩:=(Ř hL hN).1 ho;have hs:=aIb hL h1 hS hw hq hr hwq (fun v a b=>by rw[aNs]; exact hqs v a b);rw[aNs] at hs;refine aNt hL (aZN hL hN) hp hS k0 (fun x w t q hx hd=>?_) hs
  have:x=Į L N:=by
   refine aTR (by rw[hx]; unfold Į; rw[ĥ,ý]) fun v a b=>?_;exact hd.uniq (ap3 hL hN hp) a (by omega)
  rw[this]; exact hT ho w t q
 ·rw[if_neg ho];refine aZs hL (fun hp=>ho ((Ř hL hN).2 hp)) k0 hF ?_
  have hg:∀v,gv (List.replicate N (0:Int)) v=0:=by
   intro v;unfold gv;rw[List.getElem?_replicate]
   split<;>rfl
  refine⟨by simp,hw,by simp,hq,hr,hwq,fun v a b=>?_,fun v a b=>?_,fun u a b hu v m hl=>?_⟩
  ·rw[hg]; omega
  ·rw[hg]; omega
  ·exact(hu ((hqs u a b).2 (by rw[hg]; unfold Ľ; omega))).elim
end
theorem shift_ok {ρ:Type} {x:List Int} (f:Int) (hx:x.length≤1000) (hf : -2305843009213693952≤f∧f≤2305843009213693952) (hb:∀a∈x,-2305843009213693952≤a∧a≤2305843009213693952) (k0:List Int→Option ρ) :
 Ì (fun(v60:(Val (.pair tI (.slice tI)))) kk63=>aec f (Û x) v60.1 v60.2 (fun u61 u62=>kk63 (u61,u62)) k0) ((0:Int),x)=k0 (x.map fun a=>a-f):=by
 refine ñ x (fun i=>(x.take i).map (fun a=>a-f)++x.drop i) _ (by simp) (fun i a hi ha kn=>?_) (fun kn=>?_)
 ·try dsimp only
  unfold aec
  have hlen:((x.take i).map (fun a=>a-f)++x.drop i).length=x.length:=by simp; omega
  have hget:((x.take i).map (fun a=>a-f)++x.drop i)[i]?=some a:=by
   rw[List.getElem?_append_right (by simp; omega)];simp only[List.length_map,List.length_take,List.getElem?_drop];rw[←ha]; congr 1; omega
  have hi':i<((x.take i).map (fun a=>a-f)++x.drop i).length:=by omega
  have ha':=hb a (List.mem_of_getElem? ha);rw[Ö hi,adn hi',Ĭ hget,Ø (by omega) (by omega),adn hi',Ĭ hget,Ñ hi (by omega),Int.toNat_natCast,take_succ ha];congr 2;rw[List.drop_eq_getElem_cons hi,List.map_append,List.append_assoc,List.set_append_right _ _ (by simp; omega)]
  have:i-(List.map (fun a=>a-f) (List.take i x)).length=0:=by simp; omega
  rw[this]
  have h1:x[i]=a:=by rw[List.getElem?_eq_getElem hi] at ha; simpa using ha
  simp[h1]
 ·try dsimp only
  unfold aec;rw[ã];simp
section
variable {L:List Lk} {N:Nat} {M:Int}
theorem aJK (hL:adN L N M) (hN:N≤200) (ho:Ĩ L N=true):∀a∈Į L N,-2305843009213693952≤a∧a≤0:=by
 obtain⟨p,hp⟩:=(Ř hL hN).1 ho;have hd:=ap3 hL hN hp;intro a ha;obtain⟨i,hi,rfl⟩:=List.mem_iff_getElem.1 ha
 have hlen:(Į L N).length=N:=by unfold Į; rw[ĥ,ý]
 have h0:gv (Į L N) i=(Į L N)[i]:=by unfold gv; simp[hi]
 have hle:=atW hL.inr N (ý (aV2 N) N) (i:Int) (by omega);rw[ad2 _ (by omega) (by omega),if_pos (by simp[aV2]; omega)] at hle;have hle':gv (Į L N) i≤0:=hle;obtain⟨vs,hw⟩:=hd.att i (by omega) (by omega) (by unfold Ľ; omega);have h1:=hw.low' hp;have h3:=aKd (L:=L) (fun l hl=>(hL.most l hl).1) hL.m0;have h4:(L.length:Int)*M≤400*4503599627370496:=Int.mul_le_mul (by have:=hL.len; omega) hL.m1 hL.m0 (by omega);omega
def solP (L:List Lk) (N:Nat):List Int:=(Į L N).map fun a=>a-gv (Į L N) 0
theorem asm (hL:adN L N M) (h1:1≤N) (hN:N≤200):afq ((N:Int),L) []=some (if Ĩ L N then(solP L N,true) else([],false)):=by
 unfold afq ao4
 try dsimp only
 rw[awo (by omega),awo (by omega),awo (by omega),Int.toNat_natCast];refine Eq.trans (aTN hL _) ?_;refine Eq.trans (aRd hL h1 hN _ (rT:=some (solP L N,true)) (rF:=some ([],false)) (fun ho w t q=>?_) (fun x w t q=>?_)) ?_
 ·try dsimp only
  have hlen:(Į L N).length=N:=by unfold Į; rw[ĥ,ý]
  have hb:=aJK hL hN ho;have h0:ilt (0:Int) (Đ (Į L N))=true:=decide_eq_true (show(0:Int)<((Į L N).length:Int) by omega);have hg:(Į L N)[0]?=some (gv (Į L N) 0):=aJa (v:=0) (show 0<_ by omega);have hm:=hb _ (List.mem_of_getElem? hg);rw[show(!true)=false from rfl,è,ģ h0,afA hg];exact shift_ok _ (by omega) ⟨hm.1,by omega⟩ (fun a ha=>⟨(hb a ha).1,by have:=(hb a ha).2; omega⟩) _
 ·rfl
 ·cases Ĩ L N<;>rfl
structure ņ (L:List Lk) (N:Nat):Prop where
 n1:1≤N
 n60:N≤60
 len:L.length≤300
 inr:InR L N
 noloop:∀l∈L,l.1≠l.2.1
 most:∀l∈L,-4503599627370496≤l.2.2∧l.2.2≤4503599627370496
theorem ņ.links (h:ņ L N):adN L N 4503599627370496 :=
 ⟨h.inr,h.noloop,h.most,by have:=h.len; omega,by have:=h.n60; omega,by omega,by omega⟩
theorem ņ.sub {L':List Lk} (h:ņ L N) (hs:∀l∈L',l∈L) (hl:L'.length≤L.length):ņ L' N :=
 ⟨h.n1,h.n60,by have:=h.len; omega,fun l hm=>h.inr l (hs l hm),fun l hm=>h.noloop l (hs l hm),fun l hm=>h.most l (hs l hm)⟩
theorem aCF (n:Int) (L:List Lk) (v:Int):aj9 (n,L) v=some (decide (0≤v)&&decide (v<n)):=by
 unfold aj9 aLw ige
 by_cases h:0≤v
 ·have:decide (v≥0)=true:=by simpa using h
  rw[Ú this]; simp[h]
 ·have:decide (v≥0)=false:=by simpa using h
  rw[Õ this]; simp[h]
theorem af8 (h:ņ L N):ahn ((N:Int),L)=some (0,-1):=by
 have h1:=h.n1;have h2:=h.n60;have h3:=h.len;unfold ahn aEp
 try dsimp only
 rw[Õ (by simp[ilt]; omega),Õ (by simp[igt]; omega),Õ (by rw[ç]; simp[igt]; omega)];refine Eq.trans (adl L (fun _=>false) (fun i=>some (1,i)) (some (0,-1)) (fun i l hi hl kn=>?_) (fun kn=>?_)) ?_
 ·try dsimp only
  unfold ajS;have hm:=List.mem_of_getElem? hl;have a:=h.inr l hm;have b:=h.noloop l hm;have c:=h.most l hm
  have e1:(decide (0≤l.1)&&decide (l.1<(N:Int)))=true:=by simp[a.1.1,a.1.2]
  have e2:(decide (0≤l.2.1)&&decide (l.2.1<(N:Int)))=true:=by simp[a.2.1,a.2.2]
  rw[Ö hi,Ë hl,aCF,À,e1,aCF,À,e2];simp only[Bool.not_true,è,Bool.false_eq_true,if_false];rw[Õ (by simp[ieq,b]),Õ (by simp[ilt]; omega),Õ (by simp[igt]; omega),Ñ hi (by omega)]
 ·try dsimp only
  unfold ajS;rw[ã]
 ·rw[List.findIdx?_eq_none_iff.2 (by simp)]
theorem akC {ρ:Type} {x:List Int} {v:Int} (h0:0≤v) (h:v.toNat<x.length) (f:Int→Option ρ):ă x v f=f (gv x v):=by
 obtain⟨i,rfl⟩:=Int.eq_ofNat_of_zero_le h0;exact Ë (aJa h) f
end
end Go.Proofs.ZzM
end
noncomputable section
namespace Go.Proofs.ZzM
open Go Go.Am
section
variable {b:â}
theorem ana (b:â) (g:î):(á b g).Pairwise (·<·):=asp _
theorem aFC (h:ę b) {g:î} (hg:g∈b.2.1):∃t,á b g=g.2.1::t:=by
 have h1:=ana b g;have h2:=aeZ (b:=b) g;have h3:∀d∈á b g,g.2.1≤d:=fun d hd=>(h.day hg hd).1
 cases hd:á b g with
 |nil=>rw[hd] at h2; cases h2
 |cons a t =>
  rw[hd] at h1 h2 h3;rw[List.pairwise_cons] at h1;rcases List.mem_cons.1 h2 with e|e
  ·exact⟨t,by rw[e]⟩
  ·have:=h1.1 _ e;have:=h3 a (by simp);omega
def off (b:â) (i:Nat):Nat:=((b.2.1.take i).flatMap fun g=>(á b g).map fun d=>((g.1,d):Int×Int)).length
theorem asC {i:Nat} {g:î} (hg:b.2.1[i]?=some g):Î b=((b.2.1.take i).flatMap fun g=>(á b g).map fun d=>((g.1,d):Int×Int))++(((á b g).map fun d=>((g.1,d):Int×Int))++((b.2.1.drop (i+1)).flatMap fun g=>(á b g).map fun d=>((g.1,d):Int×Int))):=by
 obtain⟨hi,rfl⟩:=List.getElem?_eq_some_iff.1 hg
 have h1:b.2.1=b.2.1.take i++(b.2.1[i]::b.2.1.drop (i+1)):=by
  rw[←List.drop_eq_getElem_cons hi,List.take_append_drop]
 unfold Î
 conv=>lhs; rw[h1]
 rw[List.flatMap_append,List.flatMap_cons]
theorem aKb (h:ę b) {i:Nat} {g:î} (hg:b.2.1[i]?=some g) {k:Nat} {d:Int} (hk:(á b g)[k]?=some d):adA (Î b) g.1 d=some (off b i+k):=by
 obtain⟨hi,hgi⟩:=List.getElem?_eq_some_iff.1 hg;obtain⟨hkl,hkd⟩:=List.getElem?_eq_some_iff.1 hk;unfold adA;rw[asC hg,List.findIdx?_append,List.findIdx?_append]
 have h1:List.findIdx? (fun n:Int×Int=>decide (g.1=n.1)&&decide (d=n.2)) ((b.2.1.take i).flatMap fun g=>(á b g).map fun d=>((g.1,d):Int×Int))=none:=by
  rw[List.findIdx?_eq_none_iff];intro x hx;obtain⟨g',hg',hx⟩:=List.mem_flatMap.1 hx;obtain⟨d',_,rfl⟩:=List.mem_map.1 hx;obtain⟨j,hj,rfl⟩:=List.mem_iff_getElem.1 hg';rw[List.length_take] at hj;rw[List.getElem_take];have:=(List.pairwise_iff_getElem.1 h.ids) j i (by omega) hi (by omega);rw[hgi] at this;simp only[Bool.and_eq_false_iff,decide_eq_false_iff_not];exact .inl (by omega)
 have h2:List.findIdx? (fun n:Int×Int=>decide (g.1=n.1)&&decide (d=n.2)) ((á b g).map fun d=>((g.1,d):Int×Int))=some k:=by
  rw[List.findIdx?_eq_some_iff_getElem];refine⟨by simpa using hkl,by simp[hkd],fun j hj=>?_⟩;have:=(List.pairwise_iff_getElem.1 (ana b g)) j k (by omega) hkl hj;rw[hkd] at this;simp only[List.getElem_map,Bool.and_eq_true,decide_eq_true_eq,not_and];intro _;omega
 rw[h1,h2];simp only[Option.map_some,Option.some_or,Option.none_or];unfold off;congr 1;omega
theorem aBJ {i:Nat} {g:î} (hg:b.2.1[i]?=some g) {k:Nat} {d:Int} (hk:(á b g)[k]?=some d):(Î b)[off b i+k]?=some (g.1,d):=by
 obtain⟨hkl,hkd⟩:=List.getElem?_eq_some_iff.1 hk;rw[asC hg,List.getElem?_append_right (by unfold off; omega),List.getElem?_append_left (by unfold off; simp; omega)];unfold off;simp[hk]
theorem aUj (h:ę b) {i:Nat} {g:î} (hg:b.2.1[i]?=some g):atP (Î b) [g.1] g.2.1=(off b i:Int)+1:=by
 obtain⟨t,ht⟩:=aFC h (List.mem_of_getElem? hg);have:=aKb h hg (k:=0) (d:=g.2.1) (by rw[ht]; rfl);unfold atP;simp only[this];rfl
theorem aWO (h:ę b) {i:Nat} {g:î} (hg:b.2.1[i]?=some g):off b i+(á b g).length≤(Î b).length:=by
 rw[asC hg];unfold off;simp only[List.length_append,List.length_map];omega
theorem aZK {i:Nat} {g:î} (hg:b.2.1[i]?=some g):off b (i+1)=off b i+(á b g).length:=by
 unfold off;rw[take_succ hg,List.flatMap_append];simp
theorem aOi (h:ę b) {c:Cmp} (hc:c∈b.2.2.2.2.1) {x:Int} (hx:(x∈c.2.2.1∧x∉c.2.2.2.1)∨(x∈c.2.2.2.1∧x∉c.2.2.1)):∃j,adA (Î b) x c.2.1=some j:=by
 have hm:x∈c.2.2.1++c.2.2.2.1:=by rw[List.mem_append]; exact hx.imp (·.1) (·.1)
 obtain⟨⟨g,hg,_⟩,_⟩:=h.pile hc hm;obtain⟨hgm,hgx⟩:=ahk hg;obtain⟨i,hi,hgi⟩:=List.mem_iff_getElem.1 hgm
 have hd:c.2.1∈á b g:=aeR.2 (.inr (.inl ⟨c,hc,by
  rw[hgx];rcases hx with⟨h1,h2⟩|⟨h1,h2⟩
  ·have e1:c.2.2.1.contains x=true:=by simpa using h1
   have e2:c.2.2.2.1.contains x=false:=by simpa using h2
   rw[e1,e2]; simp
  ·have e1:c.2.2.2.1.contains x=true:=by simpa using h1
   have e2:c.2.2.1.contains x=false:=by simpa using h2
   rw[e1,e2]; simp,rfl⟩))
 obtain⟨k,hk,hkd⟩:=List.mem_iff_getElem.1 hd;have:=aKb h (g:=g) (i:=i) (by rw[List.getElem?_eq_getElem hi,hgi]) (k:=k) (d:=c.2.1) (by rw[List.getElem?_eq_getElem hk,hkd]);rw[hgx] at this;exact⟨_,this⟩
inductive aVX (b:â) (p:List Int) (d:Int) (n:Int):Prop
 |none:p=[]→n=0→aVX b p d n
 |one (x:Int) (j:Nat):p=[x]→adA (Î b) x d=some j→n=(j:Int)+1→aVX b p d n
theorem aMH (h:ę b) {c:Cmp} (hc:c∈b.2.2.2.2.1):aVX b (ë c.2.2.1 c.2.2.2.1) c.2.1 (cx b c):=by
 have hl:=(h.lefts hc).1
 cases hp:ë c.2.2.1 c.2.2.2.1 with
 |nil=>exact .none rfl (by unfold cx atP; rw[hp])
 |cons x t =>
  rw[hp] at hl
  have:t=[]:=by cases t with|nil=>rfl|cons=>simp at hl
  subst this;obtain⟨j,hj⟩:=aOi h hc (x:=x) (.inl (aeL.1 (by rw[hp]; simp)));exact .one x j rfl hj (by unfold cx atP; rw[hp]; simp only[hj])
theorem aFD (h:ę b) {c:Cmp} (hc:c∈b.2.2.2.2.1):aVX b (ë c.2.2.2.1 c.2.2.1) c.2.1 (cy b c):=by
 have hl:=(h.lefts hc).2.1
 cases hp:ë c.2.2.2.1 c.2.2.1 with
 |nil=>exact .none rfl (by unfold cy atP; rw[hp])
 |cons x t =>
  rw[hp] at hl
  have:t=[]:=by cases t with|nil=>rfl|cons=>simp at hl
  subst this;obtain⟨j,hj⟩:=aOi h hc (x:=x) (.inr (aeL.1 (by rw[hp]; simp)));exact .one x j rfl hj (by unfold cy atP; rw[hp]; simp only[hj])
theorem aVX.rng {p:List Int} {d n:Int} (h:aVX b p d n):0≤n∧n<((Î b).length+1:Nat):=by
 rcases h with⟨_,h⟩|⟨x,j,_,h1,h2⟩
 ·omega
 ·have:=(afh h1).1;omega
theorem a0l (h:ę b) {c:Cmp} (hc:c∈b.2.2.2.2.1):cx b c≠cy b c:=by
 have hl:=(h.lefts hc).2.2;rcases aMH h hc with⟨h1,h2⟩|⟨x,j,h1,h2,h3⟩
 ·rcases aFD h hc with⟨g1,g2⟩|⟨y,k,g1,g2,g3⟩
  ·rw[h1,g1] at hl; simp at hl
  ·omega
 ·rcases aFD h hc with⟨g1,g2⟩|⟨y,k,g1,g2,g3⟩
  ·omega
  ·intro e
   have:j=k:=by omega
   subst this;have e1:=(afh h2).2;have e2:=(afh g2).2;rw[e1] at e2;simp only[Option.some.injEq,Prod.mk.injEq] at e2
   have m1:x∈ë c.2.2.1 c.2.2.2.1:=by rw[h1]; simp
   have m2:y∈ë c.2.2.2.1 c.2.2.1:=by rw[g1]; simp
   rw[e2.1] at m1;exact(aeL.1 m1).2 (aeL.1 m2).1
theorem aE6 (h:ę b):(ä b).length=2*(Î b).length+2*b.2.2.2.2.1.length:=by
 have h1:∀l:List î,(∀g∈l,g∈b.2.1)→(l.flatMap (û b)).length=2*(l.flatMap fun g=>(á b g).map fun d=>((g.1,d):Int×Int)).length:=by
  intro l
  induction l with
  |nil=>intro _; rfl
  |cons g t ih =>
   intro hm;have:=ih fun g hg=>hm g (by simp[hg]);have hp:=List.length_pos_of_mem (aeZ (b:=b) g);simp only[List.flatMap_cons,List.length_append,List.length_map,this];unfold û;rw[List.length_append,ų _ _ (fun _=>rfl)];simp only[List.length_cons,List.length_nil];omega
 have h2:∀l:List Cmp,(l.flatMap (ć b)).length=2*l.length:=by
  intro l
  induction l with
  |nil=>rfl
  |cons c t ih =>
   simp only[List.flatMap_cons,List.length_append,ih,ć,List.length_cons,List.length_nil];omega
 unfold ä;rw[List.length_append,h1 _ fun _ h=>h,h2];rfl
theorem ľ (h:ę b) {i:Nat} {g:î} (hg:b.2.1[i]?=some g) {l:Lk}:l∈û b g ↔
 l=(0,(off b i:Int)+1,g.2.2.1+g.2.2.2.1.2)∨l=((off b i:Int)+1,0,-(g.2.2.1+g.2.2.2.1.1)) ∨
 ∃(k:Nat) (d e:Int),(á b g)[k]?=some d∧(á b g)[k+1]?=some e∧(l=((off b i:Int)+k+1,(off b i:Int)+k+2,0)∨l=((off b i:Int)+k+2,(off b i:Int)+k+1,adU b g d e)):=by
 unfold û;rw[aUj h hg];simp only[List.mem_append,List.mem_cons,List.not_mem_nil,or_false,List.mem_flatMap,List.mem_range];constructor
 ·rintro((h1|h1)|⟨k,hk,h1⟩)
  ·exact .inl h1
  ·exact .inr (.inl h1)
  ·refine .inr (.inr ⟨k,(á b g)[k],(á b g)[k+1],List.getElem?_eq_getElem (by omega),List.getElem?_eq_getElem (by omega),?_⟩);rw[List.getElem?_eq_getElem (show k<(á b g).length by omega),List.getElem?_eq_getElem (show k+1<(á b g).length by omega)] at h1;simp only[Option.getD_some] at h1
   have e1:(off b i:Int)+1+k=(off b i:Int)+k+1:=by omega
   have e2:(off b i:Int)+k+1+1=(off b i:Int)+k+2:=by omega
   rw[e1,e2] at h1;exact h1
 ·rintro(h1|h1|⟨k,d,e,hd,he,h1⟩)
  ·exact .inl (.inl h1)
  ·exact .inl (.inr h1)
  ·obtain⟨h2,rfl⟩:=List.getElem?_eq_some_iff.1 hd;obtain⟨h3,rfl⟩:=List.getElem?_eq_some_iff.1 he;refine .inr ⟨k,by omega,?_⟩;rw[hd,he];simp only[Option.getD_some]
   have e1:(off b i:Int)+1+k=(off b i:Int)+k+1:=by omega
   have e2:(off b i:Int)+k+1+1=(off b i:Int)+k+2:=by omega
   rw[e1,e2];exact h1
theorem ain {l:Lk}:l∈ä b↔(∃(i:Nat) (g:î),b.2.1[i]?=some g∧l∈û b g)∨∃c∈b.2.2.2.2.1,l=(cy b c,cx b c,(Ξ b c).2)∨l=(cx b c,cy b c,-(Ξ b c).1):=by
 unfold ä;simp only[List.mem_append,List.mem_flatMap,ć,List.mem_cons,List.not_mem_nil,or_false];constructor
 ·rintro(⟨g,hg,h⟩|h)
  ·obtain⟨i,hi,rfl⟩:=List.mem_iff_getElem.1 hg;exact .inl ⟨i,_,List.getElem?_eq_getElem hi,h⟩
  ·exact .inr h
 ·rintro(⟨i,g,hg,h⟩|h)
  ·exact .inl ⟨g,List.mem_of_getElem? hg,h⟩
  ·exact .inr h
theorem ę.sys (h:ę b):ņ (ä b) ((Î b).length+1):=by
 have hN:=h.nodes;have hL:=h.links
 have key:∀l∈ä b,((0≤l.1∧l.1<((Î b).length+1:Nat))∧(0≤l.2.1∧l.2.1<((Î b).length+1:Nat)))∧l.1≠l.2.1∧(-4503599627370496≤l.2.2∧l.2.2≤4503599627370496):=by
  intro l hl;rcases ain.1 hl with⟨i,g,hg,hl⟩|⟨c,hc,hl⟩
  ·have hgm:=List.mem_of_getElem? hg;have hr:=h.gaugeR hgm;have ho:=aWO h hg;have hp:=List.length_pos_of_mem (aeZ (b:=b) g);have r1:=hr.2.2.2.2.2.1;have r2:=hr.2.2.2.2.2.2.1;rcases(ľ h hg).1 hl with rfl|rfl|⟨k,d,e,hd,he,h1⟩
   ·dsimp only; omega
   ·dsimp only; omega
   ·obtain⟨h2,_⟩:=List.getElem?_eq_some_iff.1 he;have d1:=h.day hgm (List.mem_of_getElem? hd);have lb:=afd h hgm (t:=e) d1.2.1;rcases h1 with rfl|rfl
    ·dsimp only; omega
    ·dsimp only; omega
  ·have a:=(aMH h hc).rng;have b':=(aFD h hc).rng;have ne:=a0l h hc;have sb:=asq h hc;rcases hl with rfl|rfl
   ·dsimp only; omega
   ·dsimp only; omega
 exact⟨by omega,by omega,by rw[aE6 h]; omega,fun l hl=>(key l hl).1,fun l hl=>(key l hl).2.1,fun l hl=>(key l hl).2.2⟩
end
end Go.Proofs.ZzM
end
noncomputable section
namespace Go.Proofs.ZzM
open Go Go.Am
theorem aYA {ρ:Type}:@amx ρ=@adk ρ:=rfl
theorem aYz {ρ:Type}:@amw ρ=@Ś ρ:=rfl
theorem aYy {ρ:Type}:@amv ρ=@į ρ:=rfl
theorem aPV {ρ:Type} {N:Nat} (hN:N≤1000) (x:Option ρ):ï ((ile (0:Int) (N:Int))&&(ì N)) x=x:=by
 have:=awo hN x
 rwa [Int.toNat_natCast] at this
section
variable {L:List Lk} {N:Nat} {M:Int}
theorem aWi {s:Int} (hs:0≤s∧s<N):(List.replicate N Ľ).set s.toNat 0=alQ (aWM s) N:=by
 refine aTR (by simp[ý]) fun v h0 h1=>?_
 have hv:v<N:=by simpa using h1
 rw[ad2 _ h0 hv,apA hs.1 h0 (by simp; omega)];unfold aWM
 by_cases h:v=s
 ·simp[h]
 ·simp only[h,if_false,beq_iff_eq];unfold gv;rw[List.getElem?_replicate]
  have:v.toNat<N:=by omega
  simp[this]
theorem aFY (hL:adN L N M) (h1:1≤N) (hN:N≤200) (ho:Ĩ L N=true) {s:Int} (hs:0≤s∧s<N):aiq ((N:Int),L) [] s=some (agN L N s):=by
 obtain⟨p,hp⟩:=(Ř hL hN).1 ho;unfold aiq ayf;rw[aYA,aYz,aYy];dsimp only;rw[awo (by omega),Int.toNat_natCast];refine ñ (List.replicate N (0:Int)) (fun i=>List.replicate i Ľ++List.replicate (N-i) 0) _ (by simp) (fun i a hi ha kn=>?_) (fun kn=>?_)
 ·dsimp only;unfold ah1
  have hiN:i<N:=by simpa using hi
  have hl:i<(List.replicate i Ľ++List.replicate (N-i) (0:Int)).length:=by simp; omega
  rw[Ö hi,adn hl,Ĭ (List.getElem?_eq_getElem hl),Ñ hiN (by omega),Int.toNat_natCast];congr 2;rw[List.set_append_right _ _ (by simp)]
  have:N-i=(N-(i+1))+1:=by omega
  rw[this,List.length_replicate,Nat.sub_self,List.replicate_succ,List.set_cons_zero,List.replicate_succ'];simp
 ·try dsimp only
  unfold ah1;rw[ã];dsimp only
  have e0:List.replicate (List.replicate N (0:Int)).length Ľ++List.replicate (N-(List.replicate N (0:Int)).length) 0=List.replicate N Ľ:=by simp
  rw[e0]
  have hlen:s.toNat<(List.replicate N Ľ).length:=by simp; omega
  rw[show Đ (List.replicate N Ľ)=((N:Nat):Int) by simp[Đ],Ħ hs.1 hs.2,ae3 hlen,aPV (by omega),aPV (by omega),aWi hs];refine Eq.trans (aTN hL _) ?_
  have hS:∀v,aWM s v=true→0≤v∧v<N:=fun v h=>by simp[aWM] at h; subst h; exact hs
  refine aWj (ý _ _) (by omega) _ fun w q hw hq hr hwq hqs=>?_;have hs0:=aIb hL h1 hS hw hq hr hwq hqs;refine aNt hL (aZN hL hN) hp hS _ (fun x w t q hx hd=>?_) hs0
  have:x=agN L N s:=by
   refine aTR (by rw[hx]; unfold agN; rw[ĥ,ý]) fun v a b=>?_;exact hd.uniq (aek hL hN hp hs) a (by omega)
  dsimp only;rw[this]
def adp (L:List Lk) (N:Nat) (s t:Int):Int×Int :=
 if !Ĩ L N then(0,9) else if gv (agN L N s) t=Ľ then(0,5) else(gv (agN L N s) t,0)
theorem aUl (h:ņ L N) {ns:List Int} (hn:∀n∈ns,0≤n∧n<N) (hl:ns.length≤1000):apH ((N:Int),L) ns=some (if Ĩ L N then 0 else 9):=by
 have h2:=h.n60;unfold apH aEe;rw[af8 h,À];dsimp only;rw[Õ (by rfl)];refine Eq.trans (adl ns (fun _=>false) (fun _=>some 1) (some (if Ĩ L N then 0 else 9)) (fun i n hi hm kn=>?_) (fun kn=>?_)) ?_
 ·try dsimp only
  unfold ajO;have a:=hn n (List.mem_of_getElem? hm)
  have e:(decide (0≤n)&&decide (n<(N:Int)))=true:=by simp[a.1,a.2]
  rw[Ö hi,Ë hm,aCF,À,e,Ñ hi (by omega)];simp
 ·try dsimp only
  unfold ajO;rw[ã,asm h.links h.n1 (by omega),À]
  cases Ĩ L N<;>rfl
 ·rw[List.findIdx?_eq_none_iff.2 (by simp)]
theorem aB7 (h:ņ L N) {s t:Int} (hs:0≤s∧s<N) (ht:0≤t∧t<N):ai6 ((N:Int),L) s t=some (adp L N s t):=by
 have h2:=h.n60;unfold ai6 aEv adp
 rw[aUl h (fun n hn=>by simp at hn; rcases hn with rfl|rfl<;>assumption) (by simp),À]
 by_cases ho:Ĩ L N=true
 ·rw[if_pos ho,Õ (by rfl),aFY h.links h.n1 (by omega) ho hs,À,akC ht.1 (by unfold agN; rw[ĥ,ý]; omega),Ĥ,if_neg (show ¬(!Ĩ L N)=true by simp[ho])]
  by_cases hf:gv (agN L N s) t=Ľ
  ·rw[if_pos (by simpa[ieq] using hf),if_pos hf]
  ·rw[if_neg (by simpa[ieq] using hf),if_neg hf]
 ·rw[if_neg ho,Ú (by rfl),if_pos (show(!Ĩ L N)=true by simpa using ho)]
end
end Go.Proofs.ZzM
end
noncomputable section
namespace Go.Proofs.ZzM
open Go Go.Am
def ð (b:â) (c:Cmp):â:=(b.1,b.2.1,b.2.2.1,b.2.2.2.1,b.2.2.2.2.1++[c],b.2.2.2.2.2)
def afw:â:=((0,0),[],[],[],[],[])
def apY (b:â) (c:Cmp):â×Int:=if é b≠0 then(afw,é b) else if é (ð b c)≠0 then(afw,é (ð b c)) else(ð b c,0)
theorem aW0 {b:â} (h:ę b) {c:Cmp} (hA:c.2.2.1.length≤1000) (hB:c.2.2.2.1.length≤1000):Ż (ð b c):=by
 have hs:=h.size;have:=h.nC;refine⟨hs.gauges,hs.uses,hs.loans,by simp[ð]; omega,hs.looks,fun d hd=>?_⟩;rcases List.mem_append.1 (show d∈b.2.2.2.2.1++[c] from hd) with hd|hd
 ·exact hs.piles d hd
 ·simp at hd; subst hd; exact⟨hA,hB⟩
theorem aYK {b:â} (hs:Ż b) (hr:∀g∈b.2.1,I64 g.2.2.2.2.1.1) {c:Cmp} (hA:c.2.2.1.length≤1000) (hB:c.2.2.2.1.length≤1000):aib b c=some (apY b c):=by
 unfold aib aMd apY;have h1:=hs.gauges; have h2:=hs.uses; have h3:=hs.loans; have h4:=hs.compares; have h5:=hs.looks;rw[Ù (by omega),Am.iff_true,Ù (by omega),Am.iff_true,adO hs hr,À]
 by_cases hc:é b=0
 ·have h:=(ô b).1 hc;rw[Õ (by simp[ine,hc]),Ù (by omega),Am.iff_true,Ù (by omega),Am.iff_true,Ù (by omega),Am.iff_true,Ù (by omega),Am.iff_true,Ù (by omega),Am.iff_true,if_neg (show ¬(é b≠0) from fun h=>h hc)];refine ñ b.2.2.2.2.1 (fun _=>b.2.2.2.2.1) _ rfl (fun i d hi hd kn=>?_) (fun kn=>?_)
  ·dsimp only;unfold amO;obtain⟨p1,p2⟩:=hs.piles d (List.mem_of_getElem? hd)
   have e1:b.2.2.2.2.1.set i d=b.2.2.2.2.1:=by
    obtain⟨h,rfl⟩:=List.getElem?_eq_some_iff.1 hd;exact List.set_getElem_self h
   rw[Ö hi,adn hi,Ĭ hd,Ù (by omega),Am.iff_true,Ù (by omega),Am.iff_true,adn hi,Ĭ hd,Int.toNat_natCast];rw[show(d.1,d.2.1,d.2.2.1,d.2.2.2)=d from rfl,e1,adn hi,afA hd,Ñ hi (by omega)];rw[show(d.1,d.2.1,d.2.2.1,d.2.2.2.1,d.2.2.2.2)=d from rfl,e1]
  ·try dsimp only
   unfold amO;rw[ã];dsimp only;rw[Ù (by simp only[List.length_singleton]; omega),Am.iff_true];rw[show ā (b.1,b.2.1,b.2.2.1,b.2.2.2.1,b.2.2.2.2.1++[c],b.2.2.2.2.2)=ā (ð b c) from rfl,adO (aW0 h hA hB) hr,À]
   by_cases hc2:é (ð b c)=0
   ·rw[Õ (by simp[ine,hc2]),if_neg (show ¬(é (ð b c)≠0) from fun h=>h hc2)];rfl
   ·rw[Ú (by simp[ine,hc2]),if_pos hc2];rfl
 ·rw[Ú (by simp[ine,hc]),if_pos hc];rfl
def Ê (c:Cmp):Cmp:=(c.1,c.2.1,c.2.2.1,c.2.2.2.1,0,c.2.2.2.2.2)
def aSa (b:â) (c:Cmp):Int:=ayV (Ń b c).1+(aey b c).1-c.2.2.2.2.2.1
def ats (b:â) (c:Cmp):Int:=(Ń b c).2.1 / (Ń b c).2.2+(aey b c).2+c.2.2.2.2.2.1
def aCj (b:â) (c:Cmp) (s:Int×Int):(Int×Int)×Int:=if ats b c<aSa b c then((0,0),5) else((s.1+aSa b c,s.2+ats b c),0)
structure aSV (b:â) (c:Cmp):Prop where
 nums:aAA c=true
 r1:aje (atS (ady b) (ë c.2.2.1 c.2.2.2.1)) 1000 100
 r2:aje (atS (ady b) (ë c.2.2.2.1 c.2.2.1)) 1000 100
theorem ę.cmp {b:â} (h:ę b) {c:Cmp} (hc:c∈b.2.2.2.2.1):aSV b c:=⟨h.nums hc,(h.rates hc).1,(h.rates hc).2⟩
theorem an1 {b:â} (hf:0≤b.1.1∧b.1.1≤b.1.2∧b.1.2≤1000000) {c:Cmp} (h:aSV b c):aje (Ń b c).1 2000000000 10000∧aje (Ń b c).2 2000000000 10000∧(-3000000000≤ayV (Ń b c).1+(aey b c).1∧ayV (Ń b c).1+(aey b c).1≤3000000000) ∧
 (-3000000000≤(Ń b c).2.1 / (Ń b c).2.2+(aey b c).2∧(Ń b c).2.1 / (Ń b c).2.2+(aey b c).2≤3000000000)∧(0≤c.2.2.2.2.2.1∧c.2.2.2.2.2.1≤1073741824):=by
 have hn:=(Ο c).1 h.nums;have ha:=ķ hn.2.2.2.2.2.1;have hb:=ķ hn.2.2.2.2.2.2;obtain⟨g1,g2⟩:=aJ5 (aCb h.r1 h.r2) hn.2.2.2.2.1;have fb:=amZ (b:=b) (c:=c) (by omega) (by omega) (by omega) (by omega) (by omega) (by omega);have q1:aje (Ń b c).1 2000000000 10000:=g1;have q2:aje (Ń b c).2 2000000000 10000:=g2;have c1:=aqE q1;have c2:=amX q2;exact⟨q1,q2,by omega,by omega,hn.2.2.2.1⟩
theorem aZw {b:â} (hs:Ż b) (hf:0≤b.1.1∧b.1.1≤b.1.2∧b.1.2≤1000000) {c:Cmp} (h:aSV b c) {s:Int×Int} (h1 : -2305843009213693952≤s.1∧s.1≤2305843009213693952) (h2 : -2305843009213693952≤s.2∧s.2≤2305843009213693952):alK b c s=some (aCj b c s):=by
 have hn:=(Ο c).1 h.nums;have ha:=ķ hn.2.2.2.2.2.1;have hb:=ķ hn.2.2.2.2.2.2;obtain⟨q1,q2,b1,b2,b3⟩:=an1 hf h;unfold alK aEN aCj aSa ats;rw[aPY hs (by omega) (by omega) h.r1 h.r2 hn.2.2.2.2.1,À,aTX (by omega) (by omega) (by omega) (by omega) (by omega) (by omega),À,aY7 q1.rat,À,aUw q2.rat,À];dsimp only;rw[Ø (by omega) (by omega),Ø (by omega) (by omega),Ø (by omega) (by omega),Ø (by omega) (by omega),Ĥ]
 by_cases hlt:(Ń b c).2.1 / (Ń b c).2.2+(aey b c).2+c.2.2.2.2.2.1<ayV (Ń b c).1+(aey b c).1-c.2.2.2.2.2.1
 ·rw[if_pos (by simpa[igt] using hlt),if_pos hlt]
 ·rw[if_neg (by simpa[igt] using hlt),if_neg hlt,Ø (by omega) (by omega),Ø (by omega) (by omega)]
def þ (b:â):List Lk:=(ä b).take ((ä b).length-2)
def Ļ (b:â) (c:Cmp):(Int×Int)×Int :=
 if (apY b (Ê c)).2≠0 then((0,0),(apY b (Ê c)).2) else
 if (adp (þ (ð b (Ê c))) ((Î (ð b (Ê c))).length+1) (cy (ð b (Ê c)) (Ê c)) (cx (ð b (Ê c)) (Ê c))).2≠0 then
  ((0,0),(adp (þ (ð b (Ê c))) ((Î (ð b (Ê c))).length+1) (cy (ð b (Ê c)) (Ê c)) (cx (ð b (Ê c)) (Ê c))).2) else
 if (adp (þ (ð b (Ê c))) ((Î (ð b (Ê c))).length+1) (cx (ð b (Ê c)) (Ê c)) (cy (ð b (Ê c)) (Ê c))).2≠0 then
  ((0,0),(adp (þ (ð b (Ê c))) ((Î (ð b (Ê c))).length+1) (cx (ð b (Ê c)) (Ê c)) (cy (ð b (Ê c)) (Ê c))).2) else
 aCj b (Ê c) (-(adp (þ (ð b (Ê c))) ((Î (ð b (Ê c))).length+1) (cx (ð b (Ê c)) (Ê c)) (cy (ð b (Ê c)) (Ê c))).1,
  (adp (þ (ð b (Ê c))) ((Î (ð b (Ê c))).length+1) (cy (ð b (Ê c)) (Ê c)) (cx (ð b (Ê c)) (Ê c))).1)
theorem aQQ {L:List Lk} {N:Nat} (h:ņ L N) {s t:Int} (hs:0≤s∧s<N) (ht:0≤t∧t<N) : -2305843009213693952≤(adp L N s t).1∧(adp L N s t).1≤2305843009213693952:=by
 unfold adp;have h2:=h.n60
 split
 ·simp
 ·rename_i ho
  have ho':Ĩ L N=true:=by simpa using ho
  obtain⟨p,hp⟩:=(Ř h.links (by omega)).1 ho';have hd:=aek h.links (by omega) hp hs
  split
  ·simp
  ·rename_i hne;dsimp only;have hb:=hd.bd t ht.1 ht.2;obtain⟨vs,hw⟩:=hd.att t ht.1 ht.2 hne;have h3:=hw.low' hp;have h4:=aKd (L:=L) (fun l hl=>(h.most l hl).1) (M:=4503599627370496) (by omega);have h5:=h.len;unfold Ľ at hb
   constructor<;>omega
theorem aVV {b:â} (hs:Ż b) (hr:∀g∈b.2.1,I64 g.2.2.2.2.1.1) {c:Cmp} (hA:c.2.2.1.length≤1000) (hB:c.2.2.2.1.length≤1000):am8 b c=some (Ļ b c):=by
 unfold am8 atn Ļ;rw[show aib b (c.1,c.2.1,c.2.2.1,c.2.2.2.1,0,c.2.2.2.2.2)=aib b (Ê c) from rfl,aYK hs hr (c:=Ê c) hA hB,À]
 by_cases hw:(apY b (Ê c)).2=0
 ·rw[Õ (by simp[ine,hw]),if_neg (show ¬((apY b (Ê c)).2≠0) from fun h=>h hw)]
  -- the book is valid, and so is the greater one
  have hb:é b=0:=by
   unfold apY at hw
   split at hw
   ·rename_i h; exact(h hw).elim
   ·rename_i h; simpa using h
  have hm:é (ð b (Ê c))=0:=by
   unfold apY at hw;rw[if_neg (by simp[hb])] at hw
   split at hw
   ·rename_i h; exact(h hw).elim
   ·rename_i h; simpa using h
  have he:apY b (Ê c)=(ð b (Ê c),0):=by
   unfold apY;rw[if_neg (by simp[hb]),if_neg (by simp[hm])]
  have g:=(ô b).1 hb;have gm:=(ô _).1 hm
  have hmem:Ê c∈(ð b (Ê c)).2.2.2.2.1:=by simp[ð]
  have hN:=gm.nodes;have hll:=aE6 gm
  have hcl:(ð b (Ê c)).2.2.2.2.1.length=b.2.2.2.2.1.length+1:=by simp[ð]
  have hlk:=gm.links;have hsys:ņ (þ (ð b (Ê c))) ((Î (ð b (Ê c))).length+1):=gm.sys.sub (fun l hl=>List.mem_of_mem_take hl) (by unfold þ; rw[List.length_take]; omega);have hx:=(aMH gm hmem).rng;have hy:=(aFD gm hmem).rng;have lA:c.2.2.1.length≤1000:=hA;rw[he];dsimp only;rw[aTI gm,À];dsimp only;rw[ç,Ø (by omega) (by omega)]
  have e1:((ile (0:Int) (((ä (ð b (Ê c))).length:Int)-2))&&(ile (((ä (ð b (Ê c))).length:Int)-2) (Đ (ä (ð b (Ê c))))))=true:=by
   simp[ile,Đ]; omega
  have e2:(((ä (ð b (Ê c))).length:Int)-2).toNat=(ä (ð b (Ê c))).length-2:=by omega
  rw[ģ e1,akA (by omega) (by omega),À,aYD _ _ _ (by dsimp only; omega),À,akA (by omega) (by omega),À,aYD _ _ _ (by dsimp only; omega),À,e2]
  have e3:(((Î (ð b (Ê c))).length:Int)+1)=(((Î (ð b (Ê c))).length+1:Nat):Int):=by push_cast; rfl
  rw[e3];rw[show List.take ((ä (ð b (Ê c))).length-2) (ä (ð b (Ê c)))=þ (ð b (Ê c)) from rfl];dsimp only;rw[show atP (Î (ð b (Ê c))) (ë c.2.2.1 c.2.2.2.1) c.2.1=cx (ð b (Ê c)) (Ê c) from rfl,show atP (Î (ð b (Ê c))) (ë c.2.2.2.1 c.2.2.1) c.2.1=cy (ð b (Ê c)) (Ê c) from rfl];rw[aB7 hsys hy hx,À,aB7 hsys hx hy];have b1:=aQQ hsys hy hx;have b2:=aQQ hsys hx hy;generalize hB1:adp (þ (ð b (Ê c))) ((Î (ð b (Ê c))).length+1) (cy (ð b (Ê c)) (Ê c)) (cx (ð b (Ê c)) (Ê c))=B1 at b1 ⊢;generalize hB2:adp (þ (ð b (Ê c))) ((Î (ð b (Ê c))).length+1) (cx (ð b (Ê c)) (Ê c)) (cy (ð b (Ê c)) (Ê c))=B2 at b2 ⊢
  by_cases h1:B1.2=0
  ·rw[Õ (by simp[ine,h1]),if_neg (show ¬(B1.2≠0) from fun h=>h h1),À]
   by_cases h2:B2.2=0
   ·rw[Õ (by simp[ine,h2]),if_neg (show ¬(B2.2≠0) from fun h=>h h2),Ø (by omega) (by omega)];have hck:aSV b (Ê c):=⟨(gm.cmp hmem).nums,(gm.cmp hmem).r1,(gm.cmp hmem).r2⟩;rw[show alK b (c.1,c.2.1,c.2.2.1,c.2.2.2.1,0,c.2.2.2.2.2) (0-B2.1,B1.1)=alK b (Ê c) (0-B2.1,B1.1) from rfl,aZw g.size g.film hck (by dsimp only; omega) (by dsimp only; omega),À,Int.zero_sub]
   ·rw[Ú (by simp[ine,h2]),if_pos h2]
  ·rw[Ú (by simp[ine,h1]),if_pos h1]
 ·rw[Ú (by simp[ine,hw]),if_pos hw]
end Go.Proofs.ZzM
end
noncomputable section
namespace Go.Proofs.ZzM
open Go Go.Am
structure In (b:â):Prop where
 size:Ż b
 num:∀g∈b.2.1,I64 g.2.2.2.2.1.1
def aM6 (b:â):Sys×List (Int×Int)×Int:=if é b≠0 then((0,[]),[],é b) else((((Î b).length:Int)+1,ä b),ŝ b,0)
theorem ahq {b:â} (h:In b):ħ b=some (aM6 b):=by
 unfold ħ ayv aM6;rw[adO h.size h.num,À]
 by_cases hc:é b=0
 ·rw[Õ (by simp[ine,hc]),aTI ((ô b).1 hc),À,if_neg (show ¬(é b≠0) from fun h=>h hc)]
 ·rw[Ú (by simp[ine,hc]),if_pos hc]
def cmp0:Cmp:=(0,0,[],[],0,0,0,0)
def akK (b:â) (i:Int):Cmp×Int:=if é b≠0 then(cmp0,é b) else if i<0∨(b.2.2.2.2.1.length:Int)≤i then(cmp0,1) else(b.2.2.2.2.1[i.toNat]?.getD cmp0,0)
theorem aZf {b:â} (h:In b) (i:Int):awJ b i=some (akK b i):=by
 unfold awJ aEL akK;rw[adO h.size h.num,À]
 by_cases hc:é b=0
 ·rw[Õ (by simp[ine,hc]),if_neg (show ¬(é b≠0) from fun h=>h hc),ç]
  by_cases h1:i<0
  ·rw[Ú (by simp[ilt,h1]),if_pos (.inl h1)]; rfl
  ·rw[Õ (by simp[ilt]; omega)]
   by_cases h2:(b.2.2.2.2.1.length:Int)≤i
   ·rw[Ú (by simp[ige,h2]),if_pos (.inr h2)]; rfl
   ·rw[Õ (by simp[ige]; omega),if_neg (by omega)];obtain⟨j,rfl⟩:=Int.eq_ofNat_of_zero_le (show 0≤i by omega)
    have hj:j<b.2.2.2.2.1.length:=by omega
    rw[Ë (List.getElem?_eq_getElem hj),Int.toNat_natCast,List.getElem?_eq_getElem hj];rfl
 ·rw[Ú (by simp[ine,hc]),if_pos hc]; rfl
theorem aQW {b:â} {i:Int} (h:(akK b i).2=0):ę b∧(akK b i).1∈b.2.2.2.2.1∧b.2.2.2.2.1[i.toNat]?=some (akK b i).1∧0≤i:=by
 unfold akK at h ⊢
 split at h
 ·rename_i hc; exact(hc h).elim
 ·rename_i hc
  have hc0:é b=0:=by simpa using hc
  split at h
  ·simp at h
  ·rename_i hi
   have hj:i.toNat<b.2.2.2.2.1.length:=by omega
   rw[if_neg hc,if_neg hi,List.getElem?_eq_getElem hj];exact⟨(ô b).1 hc0,List.getElem_mem hj,rfl,by omega⟩
def a0R (b:â) (i:Int):(Int×Int)×Int:=if (akK b i).2≠0 then((0,0),(akK b i).2) else(Ξ b (akK b i).1,0)
theorem a2o {b:â} (h:In b) (i:Int):aB2 b i=some (a0R b i):=by
 unfold aB2 aMf a0R;rw[aZf h,À]
 by_cases hw:(akK b i).2=0
 ·obtain⟨g,hm,_,_⟩:=aQW hw;rw[Õ (by simp[ine,hw]),g.says hm,À,if_neg (show ¬((akK b i).2≠0) from fun h=>h hw)]
 ·rw[Ú (by simp[ine,hw]),if_pos hw]
def exB:â:=((0,2),[(1,0,1000,(-5,5),(1,10),1),(2,0,1000,(-50,50),(1,4),0)],[(1,10)],[(1,(20,29),3)],[(7,10,[1],[2],-20,1,100,200)],[])
theorem apL:In exB:=⟨⟨by decide,by decide,by decide,by decide,by decide,by decide⟩,by
 intro g hg;simp[exB] at hg
 rcases hg with rfl|rfl<;>exact⟨by decide,by decide⟩⟩
def exC:Cmp:=(8,10,[1],[2],0,0,0,0)
end Go.Proofs.ZzM
end
noncomputable section
namespace Go.Proofs.ZzM
open Go Go.Am
def amT (b:â) (x d:Int):Int:=match adA (Î b) x d with|some j=>(j:Int)+1|none=>0
def aUv (b:â) (n:Int×Int):Int×Int:=if é b≠0 then(0,é b) else if amT b n.1 n.2=0 then(0,5) else(amT b n.1 n.2,0)
theorem aF9 {b:â} (h:In b) (n:Int×Int):Ũ b n=some (aUv b n):=by
 have hl:=axp h.size;unfold Ũ aE2 aUv;rw[adO h.size h.num,À]
 by_cases hc:é b=0
 ·rw[Õ (by simp[ine,hc]),if_neg (show ¬(é b≠0) from fun h=>h hc),aKa h.size,À,show Ā (Î b) n=Ā (Î b) (n.1,n.2) from rfl,aQL (by omega),À];unfold amT
  cases hx:adA (Î b) n.1 n.2 with
  |none=>rfl
  |some j =>
   have:=(afh hx).1;simp only;rw[Õ (by simp[ilt]),Ø (by omega) (by omega),if_neg (by omega)]
 ·rw[Ú (by simp[ine,hc]),if_pos hc]
end Go.Proofs.ZzM
end
noncomputable section
namespace Go.Proofs.ZzM
open Go Go.Am
def aef (b:â) (n:Int×Int):â:=(b.1,b.2.1,b.2.2.1,b.2.2.2.1,b.2.2.2.2.1,b.2.2.2.2.2++[n])
theorem aPM {b:â} (h:ę b) (n:Int×Int):Ż (aef b n):=by
 have hs:=h.size;have:=h.nK;exact⟨hs.gauges,hs.uses,hs.loans,hs.compares,by simp[aef]; omega,hs.piles⟩
def aVW (b:â) (n:Int×Int):â×Int:=if é b≠0 then(afw,é b) else if é (aef b n)≠0 then(afw,é (aef b n)) else(aef b n,0)
theorem a2t {b:â} (h:In b) (n:Int×Int):aeY b n=some (aVW b n):=by
 have hs:=h.size;have h1:=hs.gauges; have h2:=hs.uses; have h3:=hs.loans; have h4:=hs.compares; have h5:=hs.looks;unfold aeY aMh aVW;rw[adO hs h.num,À]
 by_cases hc:é b=0
 ·have hg:=(ô b).1 hc;rw[Õ (by simp[ine,hc]),Ù (by omega),Am.iff_true,Ù (by omega),Am.iff_true,Ù (by omega),Am.iff_true,Ù (by omega),Am.iff_true,Ù (by omega),Am.iff_true,if_neg (show ¬(é b≠0) from fun h=>h hc)];refine ñ b.2.2.2.2.1 (fun _=>b.2.2.2.2.1) _ rfl (fun i d hi hd kn=>?_) (fun kn=>?_)
  ·dsimp only;unfold amP;obtain⟨p1,p2⟩:=hs.piles d (List.mem_of_getElem? hd)
   have e1:b.2.2.2.2.1.set i d=b.2.2.2.2.1:=by
    obtain⟨h,rfl⟩:=List.getElem?_eq_some_iff.1 hd;exact List.set_getElem_self h
   rw[Ö hi,adn hi,Ĭ hd,Ù (by omega),Am.iff_true,Ù (by omega),Am.iff_true,adn hi,Ĭ hd,Int.toNat_natCast];rw[show(d.1,d.2.1,d.2.2.1,d.2.2.2)=d from rfl,e1,adn hi,afA hd,Ñ hi (by omega)];rw[show(d.1,d.2.1,d.2.2.1,d.2.2.2.1,d.2.2.2.2)=d from rfl,e1]
  ·try dsimp only
   unfold amP;rw[ã];dsimp only;rw[Ù (by simp only[List.length_singleton]; omega),Am.iff_true];rw[show ā (b.1,b.2.1,b.2.2.1,b.2.2.2.1,b.2.2.2.2.1,b.2.2.2.2.2++[n])=ā (aef b n) from rfl,adO (aPM hg n) h.num,À]
   by_cases hc2:é (aef b n)=0
   ·rw[Õ (by simp[ine,hc2]),if_neg (show ¬(é (aef b n)≠0) from fun h=>h hc2)];rfl
   ·rw[Ú (by simp[ine,hc2]),if_pos hc2];rfl
 ·rw[Ú (by simp[ine,hc]),if_pos hc];rfl
end Go.Proofs.ZzM
end
noncomputable section
namespace Go.Proofs.ZzM
open Go Go.Am
section
variable {b:â}
theorem aWP:off b b.2.1.length=(Î b).length:=by unfold off Î; rw[List.take_length]
theorem aTC:∀n,n≤b.2.1.length→∀j,j<off b n→∃(i:Nat) (g:î) (k:Nat),b.2.1[i]?=some g∧k<(á b g).length∧j=off b i+k:=by
 intro n
 induction n with
 |zero=>intro _ j hj; simp[off] at hj
 |succ n ih =>
  intro hn j hj;have hg:b.2.1[n]?=some b.2.1[n]:=List.getElem?_eq_getElem (by omega);rw[aZK hg] at hj
  by_cases h:j<off b n
  ·exact ih (by omega) j h
  ·exact⟨n,_,j-off b n,hg,by omega,by omega⟩
theorem aIy {v:Int} (h0:1≤v) (h1:v<((Î b).length+1:Nat)):∃(i:Nat) (g:î) (k:Nat),b.2.1[i]?=some g∧k<(á b g).length∧v=(off b i:Int)+k+1:=by
 obtain⟨i,g,k,h2,h3,h4⟩:=aTC (b:=b) b.2.1.length (Nat.le_refl _) (v-1).toNat (by rw[aWP]; omega);exact⟨i,g,k,h2,h3,by omega⟩
def GL (b:â) (L:List Lk):Prop:=∀(i:Nat) (g:î),b.2.1[i]?=some g→∀l∈û b g,l∈L
theorem aTS:GL b (ä b):=fun i g hg l hl=>ain.2 (.inl ⟨i,g,hg,hl⟩)
theorem aWe {L:List Lk} (h:ę b) (hL:GL b L) {v:Int} (h0:0≤v) (h1:v<((Î b).length+1:Nat)):∃vs d,Wl L (fun u=>u=0) vs v d∧d≤4503599627370496:=by
 by_cases hv:v=0
 ·exact⟨[],0,.nil hv,by omega⟩
 obtain⟨i,g,k,hg,hk,rfl⟩:=aIy (by omega) h1;have hr:=h.gaugeR (List.mem_of_getElem? hg);have r1:=hr.2.2.2.2.2.1;have r2:=hr.2.2.2.2.2.2.1
 have key:∀k:Nat,k<(á b g).length→∃vs,Wl L (fun u=>u=0) vs ((off b i:Int)+k+1) (g.2.2.1+g.2.2.2.1.2):=by
  intro k
  induction k with
  |zero =>
   intro _;have hw:Wl L (fun u=>u=0) [0] ((off b i:Int)+1) (0+(g.2.2.1+g.2.2.2.1.2)):=Wl.step (.nil rfl) (hL i g hg _ ((ľ h hg).2 (.inl rfl)));rw[Int.zero_add] at hw;exact⟨[0],by simpa using hw⟩
  |succ k ih =>
   intro hk;obtain⟨vs,hw⟩:=ih (by omega);have hw':=Wl.step hw (hL i g hg _ ((ľ h hg).2 (.inr (.inr ⟨k,_,_,List.getElem?_eq_getElem (show k<_ by omega),List.getElem?_eq_getElem hk,.inl rfl⟩))));rw[Int.add_zero] at hw'
   have e:(off b i:Int)+((k+1:Nat):Int)+1=(off b i:Int)+k+2:=by push_cast; omega
   exact⟨_,by rw[e]; exact hw'⟩
 obtain⟨vs,hw⟩:=key k hk;exact⟨vs,_,hw,by omega⟩
theorem aNn {L:List Lk} (h:ę b) (hL:GL b L) {v:Int} (h0:0≤v) (h1:v<((Î b).length+1:Nat)):∃vs d,Wl L (fun u=>u=v) vs 0 d∧d≤4503599627370496:=by
 by_cases hv:v=0
 ·exact⟨[],0,.nil hv.symm,by omega⟩
 obtain⟨i,g,k,hg,hk,rfl⟩:=aIy (by omega) h1;have hgm:=List.mem_of_getElem? hg;have hr:=h.gaugeR hgm;have r1:=hr.2.2.2.2.2.1;have r2:=hr.2.2.2.2.2.2.1;have hd:=awO h hgm
 have key:∀m:Nat,m≤k→∃vs d,Wl L (fun u=>u=(off b i:Int)+k+1) vs ((off b i:Int)+(k-m:Nat)+1) d∧d≤m*(12*(20001*1048576)+40*1048576):=by
  intro m
  induction m with
  |zero=>intro _; exact⟨[],0,.nil (by simp),by simp⟩
  |succ m ih =>
   intro hm;obtain⟨vs,d,hw,hd⟩:=ih (by omega)
   have e1:((k-m:Nat):Int)=((k-(m+1):Nat):Int)+1:=by omega
   have hl:(((off b i:Int)+(k-(m+1):Nat)+2,(off b i:Int)+(k-(m+1):Nat)+1,adU b g ((á b g)[k-(m+1)]'(by omega)) ((á b g)[k-(m+1)+1]'(by omega))):Lk)∈L :=
    hL i g hg _ ((ľ h hg).2 (.inr (.inr ⟨k-(m+1),_,_,List.getElem?_eq_getElem (by omega),List.getElem?_eq_getElem (by omega),.inr rfl⟩)))
   have hb:=afd h hgm (f:=(á b g)[k-(m+1)]'(by omega)) (t:=(á b g)[k-(m+1)+1]'(by omega)) (h.day hgm (List.getElem_mem _)).2.1
   have e2:(off b i:Int)+(k-m:Nat)+1=(off b i:Int)+(k-(m+1):Nat)+2:=by omega
   rw[e2] at hw;exact⟨_,_,.step hw hl,by push_cast; omega⟩
 obtain⟨vs,d,hw,hdb⟩:=key k (Nat.le_refl _)
 have e:(off b i:Int)+(k-k:Nat)+1=(off b i:Int)+1:=by omega
 rw[e] at hw;have hw':=Wl.step hw (hL i g hg _ ((ľ h hg).2 (.inr (.inl rfl))));exact⟨_,_,hw',by omega⟩
end
structure atC (L:List Lk) (N:Nat):Prop where
 to:∀v:Int,0≤v→v<N→∃vs d,Wl L (fun u=>u=0) vs v d∧d≤4503599627370496
 from':∀v:Int,0≤v→v<N→∃vs d,Wl L (fun u=>u=v) vs 0 d∧d≤4503599627370496
theorem ę.tied {b:â} (h:ę b):atC (ä b) ((Î b).length+1):=⟨fun v h0 h1=>aWe h aTS h0 h1,fun v h0 h1=>aNn h aTS h0 h1⟩
theorem ę.tiedL {b:â} {L:List Lk} (h:ę b) (hL:GL b L):atC L ((Î b).length+1):=⟨fun v h0 h1=>aWe h hL h0 h1,fun v h0 h1=>aNn h hL h0 h1⟩
section
variable {L:List Lk} {N:Nat}
theorem aOg {L:List Lk} {s:Int} {vs:List Int} {v d:Int}:Wl L (fun v=>aWM s v=true) vs v d↔Wl L (fun u=>u=s) vs v d :=
 ⟨fun h=>h.mono fun u hu=>by simpa[aWM] using hu,fun h=>h.mono fun u hu=>by simpa[aWM] using hu⟩
theorem aFZ (s:Int):(agN L N s).length=N:=by unfold agN; rw[ĥ,ý]
theorem aSL (h:ņ L N) (ho:Ĩ L N=true) {v:Int} (h0:0≤v) (h1:v<N):gv (agN L N v) v=0:=by
 have h2:=h.n60;obtain⟨p,hp⟩:=(Ř h.links (by omega)).1 ho;have hd:=aek h.links (by omega) hp (s:=v) ⟨h0,h1⟩;have h3:=hd.low v [] 0 (.nil (by simp[aWM]));obtain⟨vs,hw⟩:=hd.att v h0 h1 (by unfold Ľ; omega);obtain⟨s,hs,hx⟩:=(aOg.1 hw).pot hp;subst hs;omega
end
theorem aJv {b:â}:∀i,i≤b.2.2.2.2.1.length→((b.2.2.2.2.1.take i).flatMap (ć b)).length=2*i∧(((b.2.2.2.2.1.take i).mapIdx fun i _=>[((3:Int),(i:Int)),((3:Int),(i:Int))]).flatten).length=2*i:=by
 intro i
 induction i with
 |zero=>intro _; simp
 |succ i ih =>
  intro hi;have ih:=ih (by omega);have hg:b.2.2.2.2.1[i]?=some b.2.2.2.2.1[i]:=List.getElem?_eq_getElem hi;rw[adD _ hg,take_succ hg,List.flatMap_append,List.flatten_append,List.length_append,List.length_append];simp only[List.flatMap_cons,List.flatMap_nil,List.append_nil,List.flatten_cons,List.flatten_nil,ć,List.length_cons,List.length_nil];omega
end Go.Proofs.ZzM
end
noncomputable section
namespace Go.Proofs.ZzM
open Go Go.Am
section
variable {L:List Lk} {N:Nat}
theorem ani (h:ņ L N):Ė ((N:Int),L)=some (Ĩ L N,0):=by
 have h2:=h.n60;unfold Ė aku;rw[af8 h,À];dsimp only;rw[Õ (by rfl),asm h.links h.n1 (by omega),À]
 cases Ĩ L N<;>rfl
end
end Go.Proofs.ZzM
end
noncomputable section
namespace Go.Proofs.ZzM
open Go Go.Am
def aeD (b:â) (n:Int×Int):â×Int:=if amT b n.1 n.2≠0 then(b,0) else if é (aef b n)≠0 then(afw,é (aef b n)) else(aef b n,0)
def ō:â→List (Int×Int)→â×Int
 |b,[]=>(b,0)
 |b,n::t=>if (aeD b n).2≠0 then(afw,(aeD b n).2) else ō (aeD b n).1 t
def ú (b:â) (ns:List (Int×Int)):â×Int :=
 if é b≠0 then(afw,é b) else if (ō b ns).2≠0 then(afw,(ō b ns).2) else
 if Ĩ (ä (ō b ns).1) ((Î (ō b ns).1).length+1) then((ō b ns).1,0) else(afw,9)
theorem aNq {b:â} (h:ę b) {n:Int×Int} (e:(aeD b n).2=0):ę (aeD b n).1:=by
 unfold aeD at e ⊢
 split
 ·exact h
 ·rename_i h1;rw[if_neg h1] at e
  split
  ·rename_i h2;rw[if_pos h2] at e;exact absurd e h2
  ·rename_i h2;exact(ô _).1 (by simpa using h2)
theorem aQ0 {b:â} {n:Int×Int} (e:(aeD b n).2=0):(aeD b n).1.2.1=b.2.1:=by
 unfold aeD at e ⊢
 split
 ·rfl
 ·rename_i h1;rw[if_neg h1] at e
  split
  ·rename_i h2;rw[if_pos h2] at e;exact absurd e h2
  ·rfl
theorem atQ:∀{ns:List (Int×Int)} {b:â},ę b→(ō b ns).2=0→ę (ō b ns).1
 |[],b,h,_=>h
 |n::t,b,h,e=>by
  unfold ō at e ⊢
  split
  ·rename_i h1; rw[if_pos h1] at e; exact absurd e h1
  ·rename_i h1;rw[if_neg h1] at e;exact atQ (aNq h (by simpa using h1)) e
theorem alT:∀{ns:List (Int×Int)} {b:â},(ō b ns).2=0→(ō b ns).1.2.1=b.2.1
 |[],b,_=>rfl
 |n::t,b,e=>by
  unfold ō at e ⊢
  split
  ·rename_i h1; rw[if_pos h1] at e; exact absurd e h1
  ·rename_i h1;rw[if_neg h1] at e;rw[alT e,aQ0 (by simpa using h1)]
theorem ę.inn {b:â} (h:ę b) (hn:∀g∈b.2.1,I64 g.2.2.2.2.1.1):In b:=⟨h.size,hn⟩
theorem adx {b:â} (h:ę b):aM6 b=((((Î b).length:Int)+1,ä b),ŝ b,0):=by
 unfold aM6;rw[if_neg (by simp[(ô b).2 h])]
theorem atF {b:â} (h:ę b) (n:Int×Int):aUv b n=if amT b n.1 n.2=0 then(0,5) else(amT b n.1 n.2,0):=by
 unfold aUv;rw[if_neg (by simp[(ô b).2 h])]
abbrev Flat:Type:=Int×Int×List î×List (Int×Int)×List aAq×List Cmp×List (Int×Int)
def flat (b:â):Flat:=(b.1.1,b.1.2,b.2.1,b.2.2.1,b.2.2.2.1,b.2.2.2.2.1,b.2.2.2.2.2)
theorem apB (b:â):(((flat b).1,(flat b).2.1),(flat b).2.2)=b:=rfl
section
variable {ρ:Type}
def a1B (ns:List (Int×Int)) (E1:Int×Flat→Option ρ) (K1:Flat→Option ρ) (b:â):Option ρ :=
 Ì (fun(v:Int×Flat) kk=>ē (Û ns) ns v.1 v.2.1 v.2.2.1 v.2.2.2.1 v.2.2.2.2.1 v.2.2.2.2.2.1 v.2.2.2.2.2.2.1 v.2.2.2.2.2.2.2 (fun u1 u2 u3 u4 u5 u6 u7 u8=>kk (u1,u2,u3,u4,u5,u6,u7,u8)) (fun z=>E1 z) (fun z=>K1 z)) ((0:Int),b.1.1,b.1.2,b.2.1,b.2.2.1,b.2.2.2.1,b.2.2.2.2.1,b.2.2.2.2.2)
theorem aWx {ns:List (Int×Int)} (hl:ns.length≤1000) {E1:Int×Flat→Option ρ} {K1:Flat→Option ρ} (R:Int→Option ρ) (h1:∀z,z.1≠0→E1 z=R z.1) {b:â} (hg:ę b) (hn:∀g∈b.2.1,I64 g.2.2.2.2.1.1) :
 a1B ns E1 K1 b=if (ō b ns).2≠0 then R (ō b ns).2 else K1 (flat (ō b ns).1):=by
 unfold a1B
 refine awh ns (fun(i:Nat) (s:Flat) (t:List (Int×Int))=>if (ō ((s.1,s.2.1),s.2.2) t).2≠0 then R (ō ((s.1,s.2.1),s.2.2) t).2 else K1 (flat (ō ((s.1,s.2.1),s.2.2) t).1))
  (fun i s=>ę ((s.1,s.2.1),s.2.2)∧∀g∈s.2.2.1,I64 g.2.2.2.2.1.1) (fun s hs kn=>?_) (fun i n t s hd hi ha hs kn hk=>?_) (s:=flat b) ⟨hg,hn⟩
 ·dsimp only;unfold ē;rw[ã];rfl
 ·dsimp only;unfold ē;obtain⟨hs1,hs2⟩:=hs;have hin:In ((s.1,s.2.1),s.2.2):=hs1.inn hs2;rw[Ö hi,adn hi,Ĭ ha];rw[show Ũ ((s.1,s.2.1),s.2.2.1,s.2.2.2.1,s.2.2.2.2.1,s.2.2.2.2.2.1,s.2.2.2.2.2.2) n=Ũ ((s.1,s.2.1),s.2.2) n from rfl,aF9 hin,À];rw[show aeY ((s.1,s.2.1),s.2.2.1,s.2.2.2.1,s.2.2.2.2.1,s.2.2.2.2.2.1,s.2.2.2.2.2.2) n=aeY ((s.1,s.2.1),s.2.2) n from rfl,a2t hin,À];rw[atF hs1];generalize hB:(((s.1,s.2.1),s.2.2):â)=B at hs1 hin ⊢
  have hu:ō B (n::t)=if (aeD B n).2≠0 then(afw,(aeD B n).2) else ō (aeD B n).1 t:=rfl
  rw[hu]
  by_cases h0:amT B n.1 n.2=0
  ·rw[if_pos h0,Õ (by rfl)]
   by_cases h2:é (aef B n)=0
   ·have e:aeD B n=(aef B n,0):=by unfold aeD; rw[if_neg (by simp[h0]),if_neg (by simp[h2])]
    have e2:aVW B n=(aef B n,0):=by unfold aVW; rw[if_neg (by simp[(ô B).2 hs1]),if_neg (by simp[h2])]
    rw[e2,e,Õ (by rfl),Ñ hi (by omega),if_neg (show ¬((0:Int)≠0) by simp)];subst hB;exact hk (s.1,s.2.1,s.2.2.1,s.2.2.2.1,s.2.2.2.2.1,s.2.2.2.2.2.1,s.2.2.2.2.2.2++[n]) ⟨(ô _).1 h2,hs2⟩
   ·have e:aeD B n=(afw,é (aef B n)):=by unfold aeD; rw[if_neg (by simp[h0]),if_pos h2]
    have e2:aVW B n=(afw,é (aef B n)):=by unfold aVW; rw[if_neg (by simp[(ô B).2 hs1]),if_pos h2]
    rw[e2,e,Ú (by simp[ine,h2]),if_pos h2,if_pos h2];exact h1 _ h2
  ·have e:aeD B n=(B,0):=by unfold aeD; rw[if_pos h0]
   rw[if_neg h0,Ú (by rfl),Ñ hi (by omega),e,if_neg (show ¬((0:Int)≠0) by simp)];subst hB;exact hk s ⟨hs1,hs2⟩
theorem alW {b:â} (hI:In b) {ns:List (Int×Int)} (hl:ns.length≤1000) {E0:Int→Option ρ} {E1:Int×Flat→Option ρ} {E2:Flat→Sys×List (Int×Int)×Int→Option ρ} {E3:Flat→Sys×List (Int×Int)×Int→Bool×Int→Option ρ}
 {K:Flat→Sys×List (Int×Int)×Int→Bool×Int→Option ρ} (R:Int→Option ρ) (h0:∀e,e≠0→E0 e=R e) (h1:∀z,z.1≠0→E1 z=R z.1) (h3:∀z s r,E3 z s r=R 9) :
 Â (ā b) (fun r1=>ifb (ine r1 (0:Int)) (E0 r1) (a1B ns E1 (fun z8=>Â (ħ ((z8.1,z8.2.1),z8.2.2)) fun r9=>ifb (ine r9.2.2 (0:Int)) (E2 z8 r9) (Â (Ė r9.1) fun r10=>ifb (!r10.1) (E3 z8 r9 r10) (K z8 r9 r10))) b)) =
 if (ú b ns).2≠0 then R (ú b ns).2 else K (flat (ú b ns).1) ((((Î (ú b ns).1).length:Int)+1,ä (ú b ns).1),ŝ (ú b ns).1,0) (true,0):=by
 rw[adO hI.size hI.num,À];unfold ú
 by_cases hc:é b=0
 ·have hg:=(ô b).1 hc;rw[Õ (by simp[ine,hc]),if_neg (show ¬(é b≠0) from fun h=>h hc),aWx hl R h1 hg hI.num]
  by_cases hr:(ō b ns).2=0
  ·rw[if_neg (show ¬((ō b ns).2≠0) from fun h=>h hr),if_neg (show ¬((ō b ns).2≠0) from fun h=>h hr)];have hB:=atQ hg hr
   have hBn:∀g∈(ō b ns).1.2.1,I64 g.2.2.2.2.1.1:=by rw[alT hr]; exact hI.num
   generalize (ō b ns).1=B at hB hBn ⊢;rw[apB,ahq (hB.inn hBn),À,adx hB,Õ (by rfl)];dsimp only;rw[show(((Î B).length:Int)+1)=(((Î B).length+1:Nat):Int) by push_cast; rfl,ani hB.sys,À]
   cases ho:Ĩ (ä B) ((Î B).length+1) with
   |true =>
    rw[if_neg (by simp)];simp only[Bool.not_true,è];push_cast;rfl
   |false =>
    rw[if_pos (by simp)];simp only[Bool.not_false,ī];rw[h3];rfl
  ·rw[if_pos hr,if_pos hr,if_pos hr]
 ·rw[Ú (by simp[ine,hc]),h0 _ hc,if_pos hc,if_pos hc]
end
end Go.Proofs.ZzM
end
noncomputable section
namespace Go.Proofs.ZzM
open Go Go.Am
def aAt (b:â) (id day:Int):Bool:=b.2.2.1.any fun u=>u.1==id&&u.2==day
def aSt (b:â) (g:î) (d:Int):Int:=match af6 b g.1 d with|some l=>l.2.2|none=>if aAt b g.1 d then g.2.2.2.2.2 else 0
theorem aXg (l:aAq) (id:Int) {f t:Int} (hft:f≤t):(if l.1=id∧0<ě l f (t+1) then ě l f (t+1)*l.2.2 else 0)=(if l.1=id∧0<ě l f t then ě l f t*l.2.2 else 0)+(if l.1=id∧l.2.1.1≤t∧t≤l.2.1.2 then l.2.2 else 0):=by
 by_cases hid:l.1=id
 ·by_cases h1:l.2.1.1≤t∧t≤l.2.1.2
  ·have e:ě l f (t+1)=ě l f t+1:=by unfold ě; omega
   have p:0≤ě l f t:=by unfold ě; omega
   rw[e,if_pos ⟨hid,by omega⟩,if_pos (show l.1=id∧l.2.1.1≤t∧t≤l.2.1.2 from⟨hid,h1⟩),Int.add_mul,Int.one_mul]
   by_cases hp:0<ě l f t
   ·rw[if_pos ⟨hid,hp⟩]
   ·rw[if_neg (fun h=>hp h.2)]
    have:ě l f t=0:=by omega
    rw[this];omega
  ·rw[if_neg (show ¬(l.1=id∧l.2.1.1≤t∧t≤l.2.1.2) from fun h=>h1 h.2),Int.add_zero]
   by_cases hlo:l.2.1.1≤t
   ·have e:ě l f (t+1)=ě l f t:=by unfold ě; omega
    rw[e]
   ·have p1:¬0<ě l f (t+1):=by unfold ě; omega
    have p2:¬0<ě l f t:=by unfold ě; omega
    rw[if_neg (fun h=>p1 h.2),if_neg (fun h=>p2 h.2)]
 ·rw[if_neg (fun h=>hid h.1),if_neg (fun h=>hid h.1),if_neg (fun h=>hid h.1)];rfl
theorem aIY (id:Int) {f t:Int} (hft:f≤t):∀{x:List aAq},x.Pairwise (fun a c=>¬(a.1=c.1∧a.2.1.1≤c.2.1.2∧c.2.1.1≤a.2.1.2)) →
 ĺ id f (t+1) x=ĺ id f t x+(match x.find? (fun l=>l.1==id&&inP t l.2.1.1 l.2.1.2) with|some l=>l.2.2|none=>0)
 |[],_=>rfl
 |l::r,hp=>by
  rw[List.pairwise_cons] at hp;have ih:=aIY id hft hp.2;simp only[ĺ];rw[ih,aXg l id hft,List.find?_cons]
  by_cases hm:l.1=id∧l.2.1.1≤t∧t≤l.2.1.2
  ·have e:(l.1==id&&inP t l.2.1.1 l.2.1.2)=true:=by simp[inP,hm.1,hm.2.1,hm.2.2]
   have hn:r.find? (fun l=>l.1==id&&inP t l.2.1.1 l.2.1.2)=none:=by
    rw[List.find?_eq_none];intro c hc hcm;simp only[inP,Bool.and_eq_true,beq_iff_eq,decide_eq_true_eq] at hcm;exact hp.1 c hc ⟨by rw[hm.1,hcm.1],by omega,by omega⟩
   rw[if_pos hm,e,hn];simp only;omega
  ·have e:(l.1==id&&inP t l.2.1.1 l.2.1.2)=false:=by
    rw[Bool.eq_false_iff];intro h;simp only[inP,Bool.and_eq_true,beq_iff_eq,decide_eq_true_eq] at h;exact hm h
   rw[if_neg hm,e];simp only;omega
section
variable {b:â}
theorem ę.apart (h:ę b):b.2.2.2.1.Pairwise (fun a c=>¬(a.1=c.1∧a.2.1.1≤c.2.1.2∧c.2.1.1≤a.2.1.2)):=by
 rw[List.pairwise_iff_getElem];intro i j hi hj hij ⟨h1,h2,h3⟩;have hz:=h.loans j _ (List.getElem?_eq_getElem hj);unfold aHZ at hz
 have hany:(b.2.2.2.1.take j).any (fun x=>x.1==b.2.2.2.1[j].1&&(decide (x.2.1.1≤b.2.2.2.1[j].2.1.2)&&decide (b.2.2.2.1[j].2.1.1≤x.2.1.2)))=true:=by
  rw[List.any_eq_true];exact⟨b.2.2.2.1[i],List.mem_iff_getElem.2 ⟨i,by rw[List.length_take]; omega,by rw[List.getElem_take]⟩,by simp[h1,h2,h3]⟩
 rw[hany] at hz
 (repeat' split at hz)<;>first|omega|simp_all
theorem ę.notUsed (h:ę b) {id d:Int} {l:aAq} (hl:af6 b id d=some l):aAt b id d=false:=by
 have hm:=List.mem_of_find?_eq_some hl;have hp:=List.find?_some hl;simp only[inP,Bool.and_eq_true,beq_iff_eq,decide_eq_true_eq] at hp;obtain⟨j,hj,rfl⟩:=List.mem_iff_getElem.1 hm;have hz:=h.loans j _ (List.getElem?_eq_getElem hj);rw[Bool.eq_false_iff];intro hu;obtain⟨u,hu,hue⟩:=List.any_eq_true.1 hu;simp only[Bool.and_eq_true,beq_iff_eq] at hue
 have hany:b.2.2.1.any (fun u=>u.1==b.2.2.2.1[j].1&&inP u.2 b.2.2.2.1[j].2.1.1 b.2.2.2.1[j].2.1.2)=true:=by
  rw[List.any_eq_true];exact⟨u,hu,by simp only[inP,Bool.and_eq_true,beq_iff_eq,decide_eq_true_eq]; exact⟨by rw[hue.1,hp.1],by omega,by omega⟩⟩
 unfold aHZ at hz;rw[hany] at hz
 (repeat' split at hz)<;>first|omega|simp_all
theorem aNh {id f t:Int} (hft:f≤t):aNy (ad0 b id f (t+1))=aNy (ad0 b id f t)++if aAt b id t then[t] else[]:=by
 have hm:∀t x,x∈ad0 b id f t↔aAt b id x=true∧f≤x∧x<t:=by
  intro t x;unfold ad0 aAt;simp only[List.mem_map,List.mem_filter,List.any_eq_true,inP,Bool.and_eq_true,beq_iff_eq,decide_eq_true_eq];constructor
  ·rintro⟨u,⟨h1,h2,h3,h4⟩,rfl⟩;exact⟨⟨u,h1,h2,rfl⟩,h3,by omega⟩
  ·rintro⟨⟨u,h1,h2,rfl⟩,h3,h4⟩;exact⟨u,⟨h1,h2,h3,by omega⟩,rfl⟩
 refine aSO (asp _) ?_ fun x=>?_
 ·rw[List.pairwise_append]
  refine⟨asp _,by split<;>simp,fun a ha c hc=>?_⟩
  rw[aji,hm] at ha
  split at hc
  ·rw[List.mem_singleton] at hc; omega
  ·cases hc
 ·rw[aji,hm,List.mem_append,aji,hm]
  by_cases hu:aAt b id t=true
  ·rw[if_pos hu,List.mem_singleton];constructor
   ·rintro⟨h1,h2,h3⟩
    by_cases he:x=t
    ·exact .inr he
    ·exact .inl ⟨h1,h2,by omega⟩
   ·rintro(⟨h1,h2,h3⟩|rfl)
    ·exact⟨h1,h2,by omega⟩
    ·exact⟨hu,hft,by omega⟩
  ·rw[if_neg hu];constructor
   ·rintro⟨h1,h2,h3⟩;refine .inl ⟨h1,h2,?_⟩
    by_cases he:x=t
    ·rw[he] at h1; exact absurd h1 hu
    ·omega
   ·rintro(⟨h1,h2,h3⟩|h)
    ·exact⟨h1,h2,by omega⟩
    ·cases h
theorem aE4 (h:ę b) (g:î) {f t:Int} (hft:f≤t):adU b g f (t+1)=adU b g f t+aSt b g t:=by
 unfold adU aSt;rw[aIY g.1 hft h.apart,aNh hft];show ĺ g.1 f t b.2.2.2.1+(match af6 b g.1 t with|some l=>l.2.2|none=>0)+_=_
 cases ha:af6 b g.1 t with
 |some l =>
  rw[h.notUsed ha];simp only[Bool.false_eq_true,if_false,List.append_nil];omega
 |none =>
  simp only
  cases aAt b g.1 t with
  |true=>simp only[if_true,List.length_append,List.length_singleton,Int.natCast_add,Int.add_mul]; omega
  |false=>simp only[Bool.false_eq_true,if_false,List.append_nil]; omega
theorem apt (g:î) {f t:Int} (hft:t≤f):adU b g f t=0:=by
 unfold adU
 have h1:∀x:List aAq,ĺ g.1 f t x=0:=by
  intro x
  induction x with
  |nil=>rfl
  |cons l r ih =>
   simp only[ĺ];rw[ih,if_neg (by unfold ě; omega)];rfl
 have h2:ad0 b g.1 f t=[]:=by
  unfold ad0
  rw[List.filter_eq_nil_iff.2 fun u hu hc=>by
   simp only[inP,Bool.and_eq_true,beq_iff_eq,decide_eq_true_eq] at hc
   omega]
  rfl
 rw[h1,h2];have h3:aNy ([]:List Int)=[]:=rfl;rw[h3];simp
end
end Go.Proofs.ZzM
end
noncomputable section
namespace Go.Proofs.ZzM
open Go Go.Am
section
variable {b:â}
theorem aBR (h:ę b) (g:î) {f t u:Int} (h1:f≤t) (h2:t≤u):adU b g f u=adU b g f t+adU b g t u:=by
 obtain⟨n,rfl⟩:∃n:Nat,u=t+n:=⟨(u-t).toNat,by omega⟩;clear h2
 induction n with
 |zero=>simp[apt]
 |succ n ih =>
  have e:t+((n+1:Nat):Int)=(t+n)+1:=by omega
  rw[e,aE4 h g (show f≤t+(n:Int) by omega),aE4 h g (show t≤t+(n:Int) by omega),ih];omega
theorem ato (h:ę b) {g:î} (hg:g∈b.2.1) {f t:Int} (hf:0≤f):0≤adU b g f t:=(afd h hg hf).1
def Δ (b:â) (id d:Int):Int:=match adA (Î b) id d with|some j=>(j:Int)+1|none=>0
theorem ajo (h:ę b) {i:Nat} {g:î} (hg:b.2.1[i]?=some g) {k:Nat} {d:Int} (hk:(á b g)[k]?=some d):Δ b g.1 d=(off b i:Int)+k+1:=by
 unfold Δ;rw[aKb h hg hk];simp only;omega
structure ajc (b:â) (p:Int→Int) (g:î):Prop where
 hi:p (Δ b g.1 g.2.1)≤p 0+(g.2.2.1+g.2.2.2.1.2)
 lo:p 0+(g.2.2.1+g.2.2.2.1.1)≤p (Δ b g.1 g.2.1)
 down:∀d e,d∈á b g→e∈á b g→d≤e→p (Δ b g.1 e)≤p (Δ b g.1 d)
 loss:∀d e,d∈á b g→e∈á b g→d≤e→p (Δ b g.1 d)≤p (Δ b g.1 e)+adU b g d e
theorem ah5 (h:ę b) {i:Nat} {g:î} (hg:b.2.1[i]?=some g) {p:Int→Int}:(∀l∈û b g,p l.2.1≤p l.1+l.2.2)↔ajc b p g:=by
 have hgm:=List.mem_of_getElem? hg;obtain⟨tl,htl⟩:=aFC h hgm
 have h0:Δ b g.1 g.2.1=(off b i:Int)+1:=by
  have:=ajo h hg (k:=0) (d:=g.2.1) (by rw[htl]; rfl);rw[this];omega
 constructor
 ·intro hl;have e1:=hl _ ((ľ h hg).2 (.inl rfl));have e2:=hl _ ((ľ h hg).2 (.inr (.inl rfl)));simp only at e1 e2
  have step:∀(k:Nat) (d e:Int),(á b g)[k]?=some d→(á b g)[k+1]?=some e→p (Δ b g.1 e)≤p (Δ b g.1 d)∧p (Δ b g.1 d)≤p (Δ b g.1 e)+adU b g d e:=by
   intro k d e hd he;have a1:=hl _ ((ľ h hg).2 (.inr (.inr ⟨k,d,e,hd,he,.inl rfl⟩)));have a2:=hl _ ((ľ h hg).2 (.inr (.inr ⟨k,d,e,hd,he,.inr rfl⟩)));simp only at a1 a2;rw[ajo h hg hd,ajo h hg he]
   have e3:(off b i:Int)+((k+1:Nat):Int)+1=(off b i:Int)+k+2:=by omega
   rw[e3];exact⟨by omega,a2⟩
  have pair:∀(n k:Nat) (d e:Int),(á b g)[k]?=some d→(á b g)[k+n]?=some e→p (Δ b g.1 e)≤p (Δ b g.1 d)∧p (Δ b g.1 d)≤p (Δ b g.1 e)+adU b g d e:=by
   intro n
   induction n with
   |zero =>
    intro k d e hd he;rw[Nat.add_zero,hd] at he;cases he;rw[apt g (Int.le_refl _)];omega
   |succ n ih =>
    intro k d e hd he;have hlt:=(List.getElem?_eq_some_iff.1 he).1;have hm:(á b g)[k+n]?=some ((á b g)[k+n]'(by omega)):=List.getElem?_eq_getElem (by omega);obtain⟨a1,a2⟩:=ih k d _ hd hm;obtain⟨a3,a4⟩:=step (k+n) _ e hm he
    have o1:d≤(á b g)[k+n]'(by omega):=by
     obtain⟨hkl,hkd⟩:=List.getElem?_eq_some_iff.1 hd;rcases Nat.eq_zero_or_pos n with rfl|hn
     ·rw[←hkd]; exact Int.le_of_eq (by congr 1)
     ·have:=(List.pairwise_iff_getElem.1 (ana b g)) k (k+n) hkl (by omega) (by omega);rw[hkd] at this; omega
    have o2:(á b g)[k+n]'(by omega)≤e:=by
     obtain⟨hel,hee⟩:=List.getElem?_eq_some_iff.1 he;have:=(List.pairwise_iff_getElem.1 (ana b g)) (k+n) (k+(n+1)) (by omega) hel (by omega);rw[hee] at this; omega
    have:=aBR h g o1 o2;omega
  have any:∀d e,d∈á b g→e∈á b g→d≤e→p (Δ b g.1 e)≤p (Δ b g.1 d)∧p (Δ b g.1 d)≤p (Δ b g.1 e)+adU b g d e:=by
   intro d e hd he hde;obtain⟨k,hk,rfl⟩:=List.mem_iff_getElem.1 hd;obtain⟨m,hm,rfl⟩:=List.mem_iff_getElem.1 he
   have hkm:k≤m:=by
    rcases Nat.lt_or_ge m k with hlt|hge
    ·have:=(List.pairwise_iff_getElem.1 (ana b g)) m k hm hk hlt; omega
    ·exact hge
   exact pair (m-k) k _ _ (List.getElem?_eq_getElem hk) (by rw[show k+(m-k)=m by omega]; exact List.getElem?_eq_getElem hm)
  exact⟨by rw[h0]; omega,by rw[h0]; omega,fun d e hd he hde=>(any d e hd he hde).1,fun d e hd he hde=>(any d e hd he hde).2⟩
 ·intro hf l hl;rcases(ľ h hg).1 hl with rfl|rfl|⟨k,d,e,hd,he,rfl|rfl⟩
  ·have:=hf.hi; rw[h0] at this; simp only; omega
  ·have:=hf.lo; rw[h0] at this; simp only; omega
  ·have hde:d≤e:=by
    obtain⟨a1,a2⟩:=List.getElem?_eq_some_iff.1 hd;obtain⟨a3,a4⟩:=List.getElem?_eq_some_iff.1 he;have:=(List.pairwise_iff_getElem.1 (ana b g)) k (k+1) a1 a3 (by omega);rw[a2,a4] at this; omega
   have:=hf.down d e (List.mem_of_getElem? hd) (List.mem_of_getElem? he) hde;rw[ajo h hg hd,ajo h hg he] at this
   have e3:(off b i:Int)+((k+1:Nat):Int)+1=(off b i:Int)+k+2:=by omega
   rw[e3] at this;simp only;omega
  ·have hde:d≤e:=by
    obtain⟨a1,a2⟩:=List.getElem?_eq_some_iff.1 hd;obtain⟨a3,a4⟩:=List.getElem?_eq_some_iff.1 he;have:=(List.pairwise_iff_getElem.1 (ana b g)) k (k+1) a1 a3 (by omega);rw[a2,a4] at this; omega
   have:=hf.loss d e (List.mem_of_getElem? hd) (List.mem_of_getElem? he) hde;rw[ajo h hg hd,ajo h hg he] at this
   have e3:(off b i:Int)+((k+1:Nat):Int)+1=(off b i:Int)+k+2:=by omega
   rw[e3] at this;simp only;exact this
theorem aJT (h:ę b) {p:Int→Int}:Pot (ä b) p↔(∀g∈b.2.1,ajc b p g)∧∀c∈b.2.2.2.2.1,p (cx b c)≤p (cy b c)+(Ξ b c).2∧p (cy b c)+(Ξ b c).1≤p (cx b c):=by
 constructor
 ·intro hp;refine⟨fun g hg=>?_,fun c hc=>?_⟩
  ·obtain⟨i,hi,rfl⟩:=List.mem_iff_getElem.1 hg;exact(ah5 h (List.getElem?_eq_getElem hi)).1 fun l hl=>hp l.1 l.2.1 l.2.2 (ain.2 (.inl ⟨i,_,List.getElem?_eq_getElem hi,hl⟩))
  ·have a1:=hp _ _ _ (ain.2 (.inr ⟨c,hc,.inl rfl⟩));have a2:=hp _ _ _ (ain.2 (.inr ⟨c,hc,.inr rfl⟩));omega
 ·rintro⟨hg,hc⟩ u v m hl;rcases ain.1 hl with⟨i,g,hig,hl⟩|⟨c,hcm,hl⟩
  ·exact(ah5 h hig).2 (hg g (List.mem_of_getElem? hig)) (u,v,m) hl
  ·obtain⟨a1,a2⟩:=hc c hcm;rcases hl with hl|hl
   ·obtain⟨rfl,rfl,rfl⟩:u=cy b c∧v=cx b c∧m=(Ξ b c).2:=by simpa using hl
    exact a1
   ·obtain⟨rfl,rfl,rfl⟩:u=cx b c∧v=cy b c∧m = -(Ξ b c).1:=by simpa using hl
    omega
end
end Go.Proofs.ZzM
end
noncomputable section
namespace Go.Proofs.ZzM
open Go Go.Am
def a09:List Int→Int
 |[]=>0
 |[a]=>a
 |a::b::t=>max a (a09 (b::t))
theorem aOo:∀{l:List Int},l≠[]→(∀a∈l,a≤a09 l)∧a09 l∈l
 |[],h=>absurd rfl h
 |[a],_=>⟨fun x hx=>by rw[List.mem_singleton] at hx; rw[hx]; exact Int.le_refl _,by simp[a09]⟩
 |a::b::t,_=>by
  obtain⟨h1,h2⟩:=aOo (l:=b::t) (by simp);have e:a09 (a::b::t)=max a (a09 (b::t)):=rfl;rw[e];constructor
  ·intro x hx;rcases List.mem_cons.1 hx with rfl|hx
   ·omega
   ·have:=h1 x hx; omega
  ·rcases Int.le_total a (a09 (b::t)) with h|h
   ·rw[Int.max_eq_right h]; exact List.mem_cons_of_mem _ h2
   ·rw[Int.max_eq_left h]; exact List.mem_cons_self
section
variable {b:â}
def aIj (b:â) (f:Int→Int→Int) (z:Int) (v:Int):Int:=if v=0 then z else match (Î b)[(v-1).toNat]? with|some n=>f n.1 n.2|none=>0
theorem aiz (f:Int→Int→Int) (z:Int):aIj b f z 0=z:=by unfold aIj; rw[if_pos rfl]
theorem atT (h:ę b) (f:Int→Int→Int) (z:Int) {g:î} (hg:g∈b.2.1) {d:Int} (hd:d∈á b g):aIj b f z (Δ b g.1 d)=f g.1 d:=by
 obtain⟨i,hi,rfl⟩:=List.mem_iff_getElem.1 hg;obtain⟨k,hk,rfl⟩:=List.mem_iff_getElem.1 hd;have hgi:=List.getElem?_eq_getElem hi;have hdk:=List.getElem?_eq_getElem hk;rw[ajo h hgi hdk];unfold aIj
 have e:((off b i:Int)+k+1-1).toNat=off b i+k:=by omega
 rw[if_neg (by omega),e,aBJ hgi hdk]
def aBx (b:â) (l:List Int) (d:Int):Int:=match l with|[]=>0|x::_=>Δ b x d
theorem aUk (l:List Int) (d:Int):atP (Î b) l d=aBx b l d:=by
 unfold atP aBx Δ
 cases l<;>rfl
theorem ayR (c:Cmp):cx b c=aBx b (ë c.2.2.1 c.2.2.2.1) c.2.1:=aUk _ _
theorem ayQ (c:Cmp):cy b c=aBx b (ë c.2.2.2.1 c.2.2.1) c.2.1:=aUk _ _
theorem ah4 (h:ę b) {c:Cmp} (hc:c∈b.2.2.2.2.1) {x:Int} (hx:x∈ë c.2.2.1 c.2.2.2.1∨x∈ë c.2.2.2.1 c.2.2.1):∃g∈b.2.1,g.1=x∧c.2.1∈á b g:=by
 have hx':(x∈c.2.2.1∧x∉c.2.2.2.1)∨(x∈c.2.2.2.1∧x∉c.2.2.1):=by
  rcases hx with hx|hx
  ·exact .inl (aeL.1 hx)
  ·exact .inr (aeL.1 hx)
 have hm:x∈c.2.2.1++c.2.2.2.1:=by rw[List.mem_append]; exact hx'.imp (·.1) (·.1)
 obtain⟨⟨g,hg,_⟩,_⟩:=h.pile hc hm;obtain⟨hgm,hid⟩:=ahk hg;refine⟨g,hgm,hid,aeR.2 (.inr (.inl ⟨c,hc,?_,rfl⟩))⟩;rw[hid];intro he;rw[Bool.eq_iff_iff,List.contains_iff_mem,List.contains_iff_mem] at he;rcases hx' with⟨a,e⟩|⟨a,e⟩
 ·exact e (he.1 a)
 ·exact e (he.2 a)
def fill (b:â) (p:Int→Int) (g:î) (d:Int):Int:=a09 ((á b g).map fun e=>if d≤e then p (Δ b g.1 e) else p (Δ b g.1 e)-adU b g e d)
theorem aFq {p:Int→Int} {g:î} (d:Int):(∀e∈á b g,(if d≤e then p (Δ b g.1 e) else p (Δ b g.1 e)-adU b g e d)≤fill b p g d)∧∃e∈á b g,fill b p g d=if d≤e then p (Δ b g.1 e) else p (Δ b g.1 e)-adU b g e d:=by
 have hne:((á b g).map fun e=>if d≤e then p (Δ b g.1 e) else p (Δ b g.1 e)-adU b g e d)≠[]:=by
  intro h;have:=List.map_eq_nil_iff.1 h;have h2:=aeZ (b:=b) g;rw[this] at h2;cases h2
 obtain⟨h1,h2⟩:=aOo hne;refine⟨fun e he=>h1 _ (List.mem_map.2 ⟨e,he,rfl⟩),?_⟩;obtain⟨e,he,hx⟩:=List.mem_map.1 h2;exact⟨e,he,hx.symm⟩
theorem aBW (h:ę b) {p:Int→Int} {g:î} (hg:g∈b.2.1) (hf:ajc b p g) {d:Int} (hd:d∈á b g):fill b p g d=p (Δ b g.1 d):=by
 obtain⟨h1,e,he,h2⟩:=aFq (b:=b) (p:=p) (g:=g) d;have h3:=h1 d hd;rw[if_pos (Int.le_refl _)] at h3
 have h4:fill b p g d≤p (Δ b g.1 d):=by
  rw[h2]
  split
  ·rename_i hde;exact hf.down d e hd he hde
  ·rename_i hde;have:=hf.loss e d he hd (by omega);omega
 omega
theorem aws (h:ę b) {p:Int→Int} {g:î} (hg:g∈b.2.1) (hf:ajc b p g) {d e:Int} (h0:g.2.1≤d) (hde:d≤e):fill b p g e≤fill b p g d∧fill b p g d≤fill b p g e+adU b g d e:=by
 obtain⟨a1,x,hx,a2⟩:=aFq (b:=b) (p:=p) (g:=g) d;obtain⟨b1,y,hy,b2⟩:=aFq (b:=b) (p:=p) (g:=g) e;have hm:=(h.gaugeR hg).2.2.2.2.1;have hl:=ato h hg (f:=d) (t:=e) (by omega);have dx:=h.day hg hx;have dy:=h.day hg hy;constructor
 ·have q:=a1 y hy;rw[b2]
  by_cases c1:e≤y
  ·rw[if_pos c1];rw[if_pos (by omega)] at q;exact q
  ·rw[if_neg c1]
   by_cases c2:d≤y
   ·rw[if_pos c2] at q;have:=ato h hg (f:=y) (t:=e) dy.2.1;omega
   ·rw[if_neg c2] at q;have:=aBR h g (f:=y) (t:=d) (u:=e) (by omega) hde;omega
 ·have q:=b1 x hx;rw[a2]
  by_cases c1:d≤x
  ·rw[if_pos c1]
   by_cases c2:e≤x
   ·rw[if_pos c2] at q;omega
   ·rw[if_neg c2] at q;have:=aBR h g (f:=d) (t:=x) (u:=e) c1 (by omega);have:=ato h hg (f:=d) (t:=x) (by omega);omega
  ·rw[if_neg c1];rw[if_neg (by omega)] at q;have:=aBR h g (f:=x) (t:=d) (u:=e) (by omega) hde;omega
end
end Go.Proofs.ZzM
end
noncomputable section
namespace Go.Proofs.ZzM
open Go Go.Am
section
variable {b:â} {c:Cmp}
theorem aSi:þ (ð b c)=(ð b c).2.1.flatMap (û (ð b c))++b.2.2.2.2.1.flatMap (ć (ð b c)):=by
 unfold þ
 have e:ä (ð b c)=((ð b c).2.1.flatMap (û (ð b c))++b.2.2.2.2.1.flatMap (ć (ð b c)))++ć (ð b c) c:=by
  unfold ä;rw[show(ð b c).2.2.2.2.1=b.2.2.2.2.1++[c] from rfl,List.flatMap_append,List.append_assoc];simp
 rw[e,List.length_append,show(ć (ð b c) c).length=2 from rfl,Nat.add_sub_cancel,List.take_left]
theorem aBV (h':ę (ð b c)) {p:Int→Int}:Pot (þ (ð b c)) p↔(∀g∈b.2.1,ajc (ð b c) p g)∧∀d∈b.2.2.2.2.1,p (cx (ð b c) d)≤p (cy (ð b c) d)+(Ξ b d).2∧p (cy (ð b c) d)+(Ξ b d).1≤p (cx (ð b c) d):=by
 rw[aSi];constructor
 ·intro hp;refine⟨fun g hg=>?_,fun d hd=>?_⟩
  ·obtain⟨i,hi,rfl⟩:=List.mem_iff_getElem.1 hg;exact(ah5 h' (i:=i) (List.getElem?_eq_getElem hi)).1 fun l hl=>hp l.1 l.2.1 l.2.2 (List.mem_append.2 (.inl (List.mem_flatMap.2 ⟨_,List.getElem_mem hi,hl⟩)))
  ·have a1:=hp (cy (ð b c) d) (cx (ð b c) d) (Ξ (ð b c) d).2 (List.mem_append.2 (.inr (List.mem_flatMap.2 ⟨d,hd,by simp[ć]⟩)));have a2:=hp (cx (ð b c) d) (cy (ð b c) d) (-(Ξ (ð b c) d).1) (List.mem_append.2 (.inr (List.mem_flatMap.2 ⟨d,hd,by simp[ć]⟩)));have e:Ξ (ð b c) d=Ξ b d:=rfl;rw[e] at a1 a2;omega
 ·rintro⟨hg,hc⟩ u v m hl;rcases List.mem_append.1 hl with hl|hl
  ·obtain⟨g,hgm,hl⟩:=List.mem_flatMap.1 hl;obtain⟨i,hi,rfl⟩:=List.mem_iff_getElem.1 hgm;exact(ah5 h' (i:=i) (List.getElem?_eq_getElem hi)).2 (hg _ hgm) (u,v,m) hl
  ·obtain⟨d,hd,hl⟩:=List.mem_flatMap.1 hl;obtain⟨a1,a2⟩:=hc d hd;have e:Ξ (ð b c) d=Ξ b d:=rfl;simp only[ć,List.mem_cons,List.not_mem_nil,or_false,e] at hl;rcases hl with hl|hl
   ·obtain⟨rfl,rfl,rfl⟩:u=cy (ð b c) d∧v=cx (ð b c) d∧m=(Ξ b d).2:=by simpa using hl
    exact a1
   ·obtain⟨rfl,rfl,rfl⟩:u=cx (ð b c) d∧v=cy (ð b c) d∧m = -(Ξ b d).1:=by simpa using hl
    omega
theorem alN {g:î} {d:Int} (hd:d∈á b g):d∈á (ð b c) g:=by
 rcases aeR.1 hd with e|⟨x,hx,h1,h2⟩|hn
 ·exact aeR.2 (.inl e)
 ·exact aeR.2 (.inr (.inl ⟨x,List.mem_append.2 (.inl hx),h1,h2⟩))
 ·exact aeR.2 (.inr (.inr hn))
theorem aW9 (g:î) (f t:Int):adU (ð b c) g f t=adU b g f t:=rfl
theorem ayZ {b':â} (h':ę b') {l:List Int} {day:Int} (f:Int→Int→Int) (z:Int) (hl:∀x∈l,∃g∈b'.2.1,g.1=x∧day∈á b' g):aIj b' f z (aBx b' l day)=match l with|[]=>z|x::_=>f x day:=by
 unfold aBx
 cases l with
 |nil=>exact aiz f z
 |cons x t =>
  obtain⟨g,hg,rfl,hd⟩:=hl x (by simp);exact atT h' f z hg hd
theorem aWK (h:ę b) (h':ę (ð b c)):(∃p,Pot (ä b) p)↔∃p,Pot (þ (ð b c)) p:=by
 constructor
 ·rintro⟨p,hp⟩;obtain⟨hg,hc⟩:=(aJT h).1 hp
  let f:Int→Int→Int:=fun id d=>match ū b id with|some g=>fill b p g d|none=>0
  have hfv:∀g∈b.2.1,∀d,f g.1 d=fill b p g d:=fun g hgm d=>by
   show(match ū b g.1 with|some g=>fill b p g d|none=>0)=_;rw[amV h.ids hgm]
  have hq:∀g∈b.2.1,∀d∈á (ð b c) g,aIj (ð b c) f (p 0) (Δ (ð b c) g.1 d)=fill b p g d:=fun g hgm d hd=>by
   rw[atT h' f (p 0) hgm hd,hfv g hgm d]
  refine⟨aIj (ð b c) f (p 0),(aBV h').2 ⟨fun g hgm=>?_,fun d hd=>?_⟩⟩
  ·have gf:=hg g hgm;have hmade:g.2.1∈á b g:=aeZ g;have e0:=hq g hgm g.2.1 (aeZ g);rw[aBW h hgm gf hmade] at e0;refine⟨?_,?_,fun x y hx hy hxy=>?_,fun x y hx hy hxy=>?_⟩
   ·rw[e0,aiz]; exact gf.hi
   ·rw[e0,aiz]; exact gf.lo
   ·rw[hq g hgm x hx,hq g hgm y hy];exact(aws h hgm gf (h'.day hgm hx).1 hxy).1
   ·rw[hq g hgm x hx,hq g hgm y hy,aW9];exact(aws h hgm gf (h'.day hgm hx).1 hxy).2
  ·have key:∀l:List Int,(∀x∈l,∃g∈b.2.1,g.1=x∧d.2.1∈á b g)→aIj (ð b c) f (p 0) (aBx (ð b c) l d.2.1)=p (aBx b l d.2.1):=by
    intro l hl;rw[ayZ h' f (p 0) (fun x hx=>by obtain⟨g,q1,q2,q3⟩:=hl x hx; exact⟨g,q1,q2,alN q3⟩)]
    cases l with
    |nil=>rfl
    |cons x t =>
     obtain⟨g,q1,rfl,q3⟩:=hl x (by simp);show f g.1 d.2.1=p (Δ b g.1 d.2.1);rw[hfv g q1,aBW h q1 (hg g q1) q3]
   rw[ayR,ayQ,key _ (fun x hx=>ah4 h hd (.inl hx)),key _ (fun x hx=>ah4 h hd (.inr hx)),←ayR,←ayQ];exact hc d hd
 ·rintro⟨p,hp⟩;obtain⟨hg,hc⟩:=(aBV h').1 hp
  let f:Int→Int→Int:=fun id d=>p (Δ (ð b c) id d)
  have hq:∀g∈b.2.1,∀d∈á b g,aIj b f (p 0) (Δ b g.1 d)=p (Δ (ð b c) g.1 d):=fun g hgm d hd=>atT h f (p 0) hgm hd;refine⟨aIj b f (p 0),(aJT h).2 ⟨fun g hgm=>?_,fun d hd=>?_⟩⟩
  ·have gf:=hg g hgm;have e0:=hq g hgm g.2.1 (aeZ g);refine⟨?_,?_,fun x y hx hy hxy=>?_,fun x y hx hy hxy=>?_⟩
   ·rw[e0,aiz]; exact gf.hi
   ·rw[e0,aiz]; exact gf.lo
   ·rw[hq g hgm x hx,hq g hgm y hy];exact gf.down x y (alN hx) (alN hy) hxy
   ·rw[hq g hgm x hx,hq g hgm y hy];exact gf.loss x y (alN hx) (alN hy) hxy
  ·have key:∀l:List Int,(∀x∈l,∃g∈b.2.1,g.1=x∧d.2.1∈á b g)→aIj b f (p 0) (aBx b l d.2.1)=p (aBx (ð b c) l d.2.1):=by
    intro l hl;rw[ayZ h f (p 0) hl]
    cases l<;>rfl
   rw[ayR,ayQ,key _ (fun x hx=>ah4 h hd (.inl hx)),key _ (fun x hx=>ah4 h hd (.inr hx)),←ayR,←ayQ];exact hc d hd
end
end Go.Proofs.ZzM
end