/- lemmas -/
import Derived.Test.YthhhehllmdfhiaaGreatAmF
import Derived.Test.YthhhehllmdfhiaaGreatMdTA
set_option linter.all false
set_option linter.unusedSectionVars false
set_option linter.unusedVariables false
set_option linter.unusedSimpArgs false
noncomputable section
namespace Go.Am
section
variable {ρ:Type}
def ħ {α β:Type} (e:Nat→α→Option β):Nat→List α→Option β
 |_,[]=>none
 | i, a :: t => match e i a with
   |some b=>some b
   |none=>ħ e (i+1) t
theorem aec {α β:Type} (l:List α) (e:Nat→α→Option β) (k0:β→Option ρ) (k1:Option ρ) {f:Int→(Int→Option ρ)→Option ρ}
 (h:∀(i:Nat) (a:α),i<l.length→l[i]?=some a→∀kn,f i kn=match e i a with|some b=>k0 b|none=>kn ((i:Int)+1))
 (hn:∀kn,f l.length kn=k1):Ñ f 0=match ħ e 0 l with|some b=>k0 b|none=>k1:=by
 refine aW4 l (fun i t=>match ħ e i t with|some b=>k0 b|none=>k1) hn fun i a t hd hi ha kn hk=>?_
 rw[h i a hi ha kn,hk,ħ]
 cases e i a<;>rfl
theorem ù {α σ:Type} (l:List α) (g:Nat→σ) (r:Option ρ) {f:Int×σ→(Int×σ→Option ρ)→Option ρ} {s0:σ} (h0:g 0=s0)
 (h:∀(i:Nat) (a:α),i<l.length→l[i]?=some a→∀kn,f (i,g i) kn=kn ((i:Int)+1,g (i+1)))
 (hn:∀kn,f (l.length,g l.length) kn=r):Ñ f (0,s0)=r:=by
 subst h0
 have hs:∀s,(s=g 0)→Ñ f (0,s)=r:=fun s e=>aBy l (fun _ _ _=>r) (fun i s=>s=g i) (fun s hs kn=>by rw[hs]; exact hn kn) (fun i a t s hd hi ha hI kn hk=>by
  rw[hI,h i a hi ha kn]; exact hk _ rfl) e
 exact hs _ rfl
theorem aW3 {α σ:Type} (l:List α) (g:Nat→σ) (r:Option ρ) {f:Int×σ→(Int×σ→Option ρ)→Option ρ} {s0:σ} (P:Nat→Prop) (h0:g 0=s0) (hP:P 0)
 (h:∀(i:Nat) (a:α),i<l.length→l[i]?=some a→P i→∀kn,f (i,g i) kn=r∨(P (i+1)∧f (i,g i) kn=kn ((i:Int)+1,g (i+1))))
 (hn:P l.length→∀kn,f (l.length,g l.length) kn=r):Ñ f (0,s0)=r:=by
 subst h0
 have hs:∀s,(s=g 0∧P 0)→Ñ f (0,s)=r:=fun s e=>aBy l (fun _ _ _=>r) (fun i s=>s=g i∧P i) (fun s hs kn=>by rw[hs.1]; exact hn hs.2 kn) (fun i a t s hd hi ha hI kn hk=>by
  rcases h i a hi ha hI.2 kn with h1|⟨h1,h2⟩
  ·rw[hI.1,h1]
  ·rw[hI.1,h2]; exact hk _ ⟨rfl,h1⟩) e
 exact hs _ ⟨rfl,hP⟩
theorem Ì {i n:Nat} (h:i<n) (hn:n≤1000000000) (f:Int→Option ρ):ck ((i:Int)+1) f=f ((i:Int)+1):=Û (by omega) (by omega) f
theorem ifb_lt {i n:Nat} (h:i<n) (x y:Option ρ):ifb (ilt (i:Int) (aYV n)) x y=x:=by simp[ď,aCr,h]
theorem Ý (n:Nat) (x y:Option ρ):ifb (ilt (n:Int) (aYV n)) x y=y:=by simp[ď,aCr]
theorem Ô {α:Type} {l:List α} {i:Nat} (h:i<l.length) (x y:Option ρ):ifb (ilt (i:Int) (Ü l)) x y=x:=ifb_lt h x y
theorem aE9 {α:Type} (p:α→Bool):∀(i:Nat) (l:List α),ħ (fun i a=>bif p a then some (i:Int) else none) i l=(l.findIdx? p).map fun j=>((i+j:Nat):Int)
 |_,[]=>rfl
 | i, a :: t => by
   simp only[ħ,List.findIdx?_cons]
   cases hp:p a with
   |true=>simp
   | false =>
     simp only[cond_false,Bool.false_eq_true,if_false]
     rw[aE9 p (i+1) t]
     cases t.findIdx? p with
     |none=>rfl
     |some j=>simp only[Option.map_some]; congr 1; omega
theorem adu {α β:Type} {e:Nat→α→Option β}:∀{i:Nat} {l:List α},ħ e i l=none↔∀j a,l[j]?=some a→e (i+j) a=none
 |_,[]=>by simp[ħ]
 | i, a :: t => by
   simp only[ħ]
   constructor
   ·intro h j b hb
    cases he:e i a with
    |some c=>rw[he] at h; cases h
    | none =>
      rw[he] at h
      cases j with
      |zero=>simp at hb; subst hb; simpa using he
      |succ j=>have:=(adu.1 h) j b (by simpa using hb); rw[←this]; congr 1; omega
   ·intro h
    have h0:=h 0 a (by simp)
    simp only[Nat.add_zero] at h0
    rw[h0]
    exact adu.2 fun j b hb=>by have:=h (j+1) b (by simpa using hb); rw[←this]; congr 1; omega
theorem take_succ {α:Type} {l:List α} {i:Nat} {a:α} (h:l[i]?=some a):l.take (i+1)=l.take i++[a]:=by rw[List.take_succ,h]; rfl
end
end Go.Am
end
noncomputable section
namespace Go.Proofs.ZzM
open Go Go.Am
section
variable {ρ:Type}
theorem ő {τ:Type} {f:τ→(τ→Option ρ)→Option ρ} {r:Option ρ} (I:τ→Prop) (μ:τ→Nat)
 (h:∀x,I x→(∀kn,f x kn=r)∨∃y,I y∧μ y<μ x∧∀kn,f x kn=kn y) {x:τ} (hx:I x):Ñ f x=r :=
 aio (F:=fun _=>r) I μ (fun x hx kn hk=>by
  rcases h x hx with h1|⟨y,h1,h2,h3⟩
  ·exact h1 kn
  ·rw[h3,hk y h1 h2]) hx
theorem π {α:Type} (l:List α) (p:α→Bool) (k0:Int→Option ρ) (k1:Option ρ) {f:Int→(Int→Option ρ)→Option ρ}
 (h:∀(i:Nat) (a:α),i<l.length→l[i]?=some a→∀kn,f i kn=if p a then k0 i else kn ((i:Int)+1))
 (hn:∀kn,f l.length kn=k1):Ñ f 0=match l.findIdx? p with|some j=>k0 j|none=>k1:=by
 rw[aec l (fun i a=>bif p a then some (i:Int) else none) k0 k1 (fun i a hi ha kn=>by rw[h i a hi ha kn]; cases p a<;>rfl) hn,aE9]
 cases l.findIdx? p with
 |none=>rfl
 |some j=>simp
theorem ģ {α:Type} (l:List α) (p:α→Bool) (k0:Int→Option ρ) (K k1:Option ρ) {f:Int→(Int→Option ρ)→Option ρ} (hK:∀j:Nat,k0 j=K)
 (h:∀(i:Nat) (a:α),i<l.length→l[i]?=some a→∀kn,f i kn=if p a then k0 i else kn ((i:Int)+1))
 (hn:∀kn,f l.length kn=k1):Ñ f 0=if l.any p then K else k1:=by
 rw[π l p k0 k1 h hn]
 cases hf:l.findIdx? p with
 | none =>
   have:l.any p=false:=by
    rw[List.any_eq_false]
    intro x hx
    have:=List.findIdx?_eq_none_iff.1 hf x hx
    simp[this]
   simp[this]
 | some j =>
   have:l.any p=true:=by
    have:=List.findIdx?_eq_some_iff_getElem.1 hf
    obtain⟨hj,hp,_⟩:=this
    exact List.any_eq_true.2 ⟨_,List.getElem_mem hj,hp⟩
   simp[this,hK]
end
abbrev ç:Type:=Int×Int×Int×(Int×Int)×((Int×Int)×Int)
abbrev aBf:Type:=Int×((Int×Int)×Int)
abbrev Cmp:Type:=Int×Int×List Int×List Int×Int×(Int×(Int×Int))
abbrev á:Type:=(Int×Int)×List ç×List (Int×Int)×List aBf×List Cmp×List (Int×Int)
abbrev Sys:Type:=Int×List (Int×Int×Int)
abbrev Maker:Type:=á×List (Int×Int)×Sys×List (Int×Int)
section
variable {ρ:Type}
theorem Õ {b:Bool} (h:b=true) (x y:Option ρ):ifb b x y=x:=by rw[h]; rfl
theorem Ò {b:Bool} (h:b=false) (x y:Option ρ):ifb b x y=y:=by rw[h]; rfl
end
def I64 (n:Int):Prop:=-9223372036854775808≤n∧n≤9223372036854775807
def inP (n lo hi:Int):Bool:=decide (lo≤n)&&decide (n≤hi)
def awN (n:Int):Bool:=inP n 0 20000
def aer (s:Int×Int) (lo hi:Int):Bool:=decide (lo≤s.1)&&(decide (s.1≤s.2)&&decide (s.2≤hi))
theorem θ (n lo hi:Int):ę n lo hi=some (inP n lo hi):=by
 unfold ę ax4 inP ile
 cases decide (lo≤n)<;>rfl
theorem aMv (n:Int):agV n=some (awN n):=by
 unfold agV aEI
 rw[θ]; rfl
theorem av5 (s:Int×Int) (lo hi:Int):Ž s lo hi=some (aer s lo hi):=by
 unfold Ž aya aer ile
 cases decide (lo≤s.1)<;>cases decide (s.1≤s.2)<;>rfl
theorem aJN {n:Int} (h:I64 n):ajK n=some (n.natAbs:Int):=by
 obtain⟨h1,h2⟩:=h
 unfold ajK aLM
 by_cases hn:n<0
 ·have:ilt n 0=true:=by simpa using hn
  rw[Õ this]
  congr 1
  simp only[IntKind.wrap,IntKind.bits,IntKind.signed]
  simp
  omega
 ·have:ilt n 0=false:=by simpa using hn
  rw[Ò this]
  congr 1
  simp only[IntKind.wrap,IntKind.bits,IntKind.signed]
  simp
  omega
theorem a0F (a b:Nat):aFf a b=some ((Nat.gcd a b:Nat):Int):=by
 unfold aFf aRU
 refine ő (fun x:Int×Int=>∃c d:Nat,x=((c:Int),(d:Int))∧Nat.gcd c d=Nat.gcd a b) (fun x=>x.2.toNat) ?_ ⟨a,b,rfl,rfl⟩
 rintro x ⟨c,d,rfl,hg⟩
 cases d with
 | zero =>
   refine .inl fun kn=>?_
   rw[Nat.gcd_zero_right] at hg
   unfold apL
   simp[hg,ine]
 | succ d =>
   refine .inr ⟨(((d+1:Nat):Int),((c % (d+1):Nat):Int)),⟨d+1,c % (d+1),rfl,?_⟩,?_,fun kn=>?_⟩
   ·rw[←hg,Nat.gcd_comm c (d+1),Nat.gcd_rec (d+1) c,Nat.gcd_comm]
   ·have:=Nat.mod_lt c (Nat.succ_pos d)
    simp only[Int.toNat_natCast]
    omega
   ·unfold apL
    have h1:ine ((d+1:Nat):Int) 0=true:=by simp[ine]; omega
    have h2:û ((d+1:Nat):Int) 0=false:=by simp[û]; omega
    simp only[h1,Õ Ò h2]
    congr 1
def ayZ (r:Int×Int):Bool :=
 decide (1≤r.2)&&(decide (r.2≤2147483647)&&(decide ((r.1.natAbs:Int)≤2147483647)&&decide (Nat.gcd r.1.natAbs r.2.natAbs=1)))
theorem aM8 {r:Int×Int} (h:I64 r.1):alj r=some (ayZ r):=by
 unfold alj aEp ayZ
 by_cases h1:1≤r.2
 ·by_cases h2:r.2≤2147483647
  ·have h3:I64 r.2:=⟨by omega,by omega⟩
   have e1:ige r.2 1=true:=by simp[ige,h1]
   have e2:ile r.2 2147483647=true:=by simp[ile,h2]
   rw[Õ e1,Õ e2,aJN h,À]
   by_cases h4:(r.1.natAbs:Int)≤2147483647
   ·have e4:ile (r.1.natAbs:Int) 2147483647=true:=by simp[ile,h4]
    rw[Õ e4,À,aJN h3,À,a0F,À]
    congr 1
    rw[Bool.eq_iff_iff]
    simp only[ieq,beq_iff_eq,h1,h2,h4,decide_true,Bool.true_and,decide_eq_true_eq]
    omega
   ·have e4:ile (r.1.natAbs:Int) 2147483647=false:=by simp[ile]; omega
    rw[Ò e4]
    simp[h4]
  ·have e1:ige r.2 1=true:=by simp[ige,h1]
   have e2:ile r.2 2147483647=false:=by simp[ile]; omega
   rw[Õ e1,Ò e2]
   simp[h2]
 ·have e1:ige r.2 1=false:=by simp[ige]; omega
  rw[Ò e1]
  simp[h1]
def ais (g:ç):Bool :=
 ayZ g.2.2.2.2.1&&inP g.2.2.2.2.1.1 (-1000) 1000&&decide (g.2.2.2.2.1.2≤100)&&inP g.1 1 1099511627776&&awN g.2.1&&inP g.2.2.1 1 1125899906842624&&aer g.2.2.2.1 (-1073741824) 1073741824&&inP g.2.2.2.2.2 0 1048576
theorem aU6 {g:ç} (h:I64 g.2.2.2.2.1.1):amD g=some (ais g):=by
 unfold amD as1 ais
 rw[aM8 h,θ,θ,aMv,θ,av5,θ]
 generalize ayZ g.2.2.2.2.1=x1
 generalize inP g.2.2.2.2.1.1 (-1000) 1000=x2
 generalize inP g.1 1 1099511627776=x3
 generalize awN g.2.1=x4
 generalize inP g.2.2.1 1 1125899906842624=x5
 generalize aer g.2.2.2.1 (-1073741824) 1073741824=x6
 generalize inP g.2.2.2.2.2 0 1048576=x7
 unfold ile
 generalize decide (g.2.2.2.2.1.2≤100)=x8
 cases x1<;>cases x2<;>cases x3<;>cases x4<;>cases x5<;>cases x6<;>cases x8<;>rfl
end Go.Proofs.ZzM
end
noncomputable section
namespace Go.Proofs.ZzM
open Go Go.Am
section
variable {ρ:Type}
theorem av7 {α:Type} {l:List α} {i:Nat} {a:α} (h0:0<i) (h:l[i-1]?=some a) (f:α→Option ρ):ü l ((i:Int)-1) f=f a:=by
 have:((i:Int)-1)=((i-1:Nat):Int):=by omega
 rw[this,É h]
theorem aFr {i:Nat} (h:0<i) (hn:i≤1000000000) (f:Int→Option ρ):ck ((i:Int)-1) f=f ((i:Int)-1):=Û (by omega) (by omega) f
theorem ς {i n:Nat} (h:i<n) (x:Option ρ):ô ((ile 0 (i:Int))&&(ilt (i:Int) (n:Int))) x=x:=by
 have:((ile 0 (i:Int))&&(ilt (i:Int) (n:Int)))=true:=by simp[ile,ilt,h]
 rw[this,Am.iff_true]
theorem Ĥ {α:Type} {l:List α} {i:Nat} {a:α} (h:l[i]?=some a) (f:α→Option ρ):Ψ l (Int.toNat (i:Int)) f=f a:=by
 rw[Int.toNat_natCast]; exact alv h f
end
def ati {α:Type} (key:α→Int) (l:List α) (i:Nat) (a:α):Bool :=
 decide (0<i)&&(l[i-1]?).any fun q=>decide (key a≤key q)
theorem aty {α:Type} {l:List α} {i:Nat} (hi:i<l.length) (h0:0<i):∃q,l[i-1]?=some q :=
 ⟨l[i-1],List.getElem?_eq_getElem (by omega)⟩
theorem aM0 {α:Type} (key:α→Int) (l:List α):(∀i a,l[i]?=some a→ati key l i a=false)↔l.Pairwise (fun a b=>key a<key b):=by
 rw[List.pairwise_iff_getElem]
 constructor
 ·intro h
  have step:∀i (h1:i+1<l.length),key l[i]<key l[i+1]:=by
   intro i h1
   have:=h (i+1) l[i+1] (List.getElem?_eq_getElem h1)
   simp only[ati,Nat.add_sub_cancel,Nat.succ_pos,decide_true,Bool.true_and,List.getElem?_eq_getElem (show i<l.length by omega),Option.any_some,decide_eq_false_iff_not] at this
   omega
  intro i j hi hj hij
  induction j with
  |zero=>omega
  | succ j ih =>
    have:=step j hj
    rcases Nat.lt_or_ge i j with hlt|hge
    ·have:=ih (by omega) hlt; omega
    ·have:i=j:=by omega
     subst this; assumption
 ·intro h i a ha
  obtain⟨hi,rfl⟩:=List.getElem?_eq_some_iff.1 ha
  unfold ati
  cases i with
  |zero=>rfl
  | succ i =>
    have:=h i (i+1) (by omega) hi (by omega)
    simp only[Nat.add_sub_cancel,Nat.succ_pos,decide_true,Bool.true_and,List.getElem?_eq_getElem (show i<l.length by omega),Option.any_some,decide_eq_false_iff_not]
    omega
def ahf (l:List ç) (i:Nat) (g:ç):Option Int :=
 if !ais g then some 1 else if ati (fun g=>g.1) l i g then some 6 else none
def adZ (b:á):Int:=(ħ (ahf b.2.1) 0 b.2.1).getD 0
theorem aHY {b:á} (hr:∀g∈b.2.1,I64 g.2.2.2.2.1.1) (hn:b.2.1.length≤1000):ů b=some (adZ b):=by
 unfold ů ain
 refine Eq.trans (aec b.2.1 (ahf b.2.1) some (some 0) (fun i a hi ha kn=>?_) (fun kn=>?_)) ?_
 ·try dsimp only
  unfold adR
  rw[Ô hi,É ha,aU6 (hr a (List.mem_of_getElem? ha)),À]
  unfold ahf
  cases hg:ais a with
  |false=>simp
  | true =>
    simp only[Bool.not_true,ã,Bool.false_eq_true,if_false]
    rcases Nat.eq_zero_or_pos i with h0|h0
    ·subst h0
     have:igt ((0:Nat):Int) 0=false:=by simp[igt]
     rw[Ò this,Ì hi (by omega)]
     simp[ati]
    ·obtain⟨q,hq⟩:=aty hi h0
     have h1:igt (i:Int) 0=true:=by simp[igt]; omega
     rw[Õ h1,aFr h0 (by omega),av7 h0 hq]
     simp only[ati,h0,decide_true,Bool.true_and,hq,Option.any_some]
     unfold ile
     cases h2:decide (a.1≤q.1) with
     |true=>simp
     | false =>
       rw[ã,Ì hi (by omega)]
       simp
 ·try dsimp only
  unfold adR
  rw[Ý]
 ·unfold adZ
  cases ħ (ahf b.2.1) 0 b.2.1<;>rfl
def aNA (l:List ç):List (Int×ç):=l.foldl (fun m g=>aBs (k:=tI) (v:=Ð) g.1 g m) []
def adl (b:á):List (Int×ç):=aNA b.2.1
theorem aIf {b:á} (hn:b.2.1.length≤1000):Μ b=some (adl b):=by
 unfold Μ asY
 refine ù b.2.1 (fun i=>aNA (b.2.1.take i)) _ rfl (fun i a hi ha kn=>?_) (fun kn=>?_)
 ·try dsimp only
  unfold ags
  rw[Ô hi,É ha,Ì hi (by omega),take_succ ha]
  simp only[aNA,List.foldl_append,List.foldl_cons,List.foldl_nil]
 ·try dsimp only
  unfold ags
  rw[Ý,List.take_length]
  rfl
theorem aOm (x y:Int) (g:ç):∀m:List (Int×ç),akz (k:=tI) (v:=Ð) x (aBs (k:=tI) (v:=Ð) y g m)=if x=y then some g else akz (k:=tI) (v:=Ð) x m
 | [] => by
   unfold aBs akz ae0 akz
   by_cases h:x=y<;>simp[h]
 | e :: m => by
   unfold aBs
   by_cases h:y=e.1
   ·have:ae0 tI y e.1=true:=by simp[ae0,h]
    rw[this]
    try dsimp only
    unfold akz ae0
    by_cases h2:x=y
    ·simp[h2]
    ·have:¬x=e.1:=fun h3=>h2 (h3.trans h.symm)
     simp[h2,this]
   ·have:ae0 tI y e.1=false:=by simp[ae0,h]
    rw[this]
    try dsimp only
    have ih:=aOm x y g m
    unfold akz
    by_cases h2:x=e.1
    ·have:ae0 tI x e.1=true:=by simp[ae0,h2]
     rw[this]
     have:¬x=y:=fun h3=>h (h3.symm.trans h2)
     simp[this]
    ·have:ae0 tI x e.1=false:=by simp[ae0,h2]
     rw[this]
     exact ih
def Ŝ (b:á) (id:Int):Option ç:=b.2.1.find? fun g=>g.1==id
theorem aRm (x:Int) (l:List ç):akz (k:=tI) (v:=Ð) x (aNA l)=l.reverse.find? fun g=>g.1==x:=by
 unfold aNA
 rw[←List.foldr_reverse]
 induction l.reverse with
 |nil=>rfl
 | cons g t ih =>
   rw[List.foldr_cons,aOm,ih,List.find?_cons]
   by_cases h:x=g.1
   ·simp[h]
   ·have:(g.1==x)=false:=by simp; exact fun h2=>h h2.symm
    simp[h,this]
theorem aQa {l:List ç} (h:l.Pairwise fun a b=>a.1<b.1) (x:Int):l.reverse.find? (fun g=>g.1==x)=l.find? fun g=>g.1==x:=by
 induction l with
 |nil=>rfl
 | cons g t ih =>
   rw[List.pairwise_cons] at h
   rw[List.reverse_cons,List.find?_append,ih h.2,List.find?_cons]
   by_cases hx:g.1=x
   ·have:t.find? (fun g=>g.1==x)=none:=List.find?_eq_none.2 fun y hy=>by have:g.1<y.1:=h.1 y hy; simp; omega
    rw[this]; simp[hx]
   ·have:(g.1==x)=false:=by simp[hx]
    simp[this]
theorem apF {b:á} (h:b.2.1.Pairwise fun a b=>a.1<b.1) (x:Int):akz (k:=tI) (v:=Ð) x (adl b)=Ŝ b x:=by
 unfold adl Ŝ
 rw[aRm,aQa h]
def agA (s:List (Int×ç)) (id day:Int):Int :=
 match akz (k:=tI) (v:=Ð) id s with
 |some g=>if day<g.2.1 then 4 else 0
 |none=>5
theorem aRo (s:List (Int×ç)) (id day:Int):adH s id day=some (agA s id day):=by
 unfold adH akb agA
 cases h:akz (k:=tI) (v:=Ð) id s with
 |none=>simp only[aNg,h]
 | some g =>
   simp only[aNg,h]
   rw[ď]
   by_cases h2:day<g.2.1<;>simp[h2]
def aVU (s:List (Int×ç)) (id day:Int):Int:=if !awN day then 1 else agA s id day
theorem aNQ (s:List (Int×ç)) (id day:Int):ĸ id day s=some (aVU s id day):=by
 unfold ĸ as0 aVU
 rw[aMv,À,aRo,À]
 cases awN day<;>rfl
def aHV (b:á) (s:List (Int×ç)) (i:Nat) (l:aBf):Int :=
 if !aer l.2.1 0 20000 then 1 else if !inP l.2.2 0 1048576 then 1 else if agA s l.1 l.2.1.1 != 0 then agA s l.1 l.2.1.1 else
 if (b.2.2.2.1.take i).any (fun x=>x.1==l.1&&(decide (x.2.1.1≤l.2.1.2)&&decide (l.2.1.1≤x.2.1.2))) then 9 else
 if b.2.2.1.any (fun u=>u.1==l.1&&inP u.2 l.2.1.1 l.2.1.2) then 9 else 0
theorem aQl {b:á} (hn:b.2.2.2.1.length≤1000) (hu:b.2.2.1.length≤1000) (s:List (Int×ç)) {i:Nat} {l:aBf} (hl:b.2.2.2.1[i]?=some l):Γ b s i=some (aHV b s i l):=by
 unfold Γ amg aHV
 have hi:i<b.2.2.2.1.length:=(List.getElem?_eq_some_iff.1 hl).1
 rw[É hl,av5,À,θ,À,aRo,À]
 cases aer l.2.1 0 20000 with
 |false=>rfl
 |true =>
 cases inP l.2.2 0 1048576 with
 |false=>rfl
 |true =>
 cases hm:(agA s l.1 l.2.1.1 != 0) with
 | true =>
   have:ine (agA s l.1 l.2.1.1) 0=true:=hm
   simp[this]
 |false =>
 have hm':ine (agA s l.1 l.2.1.1) 0=false:=hm
 have hg:((ile (0:Int) (i:Int))&&(ile (i:Int) (Ĩ b.2.2.2.1)))=true:=by simp[ile,Ĩ]; omega
 simp only[Bool.not_true,ã,hm',Bool.false_eq_true,if_false]
 rw[ī hg,Int.toNat_natCast]
 have inner:∀(k:Int→Option Int),Ñ (fun(v:Int) kk=>Ż b.2.2.1 (Ü b.2.2.1) l.1 l.2.1.1 l.2.1.2 v (fun u=>kk u) (fun z=>ifb (ige z 0) (k 9) (k 0)) (fun _=>k 0)) (0:Int)=if b.2.2.1.any (fun u=>u.1==l.1&&inP u.2 l.2.1.1 l.2.1.2) then k 9 else k 0:=by
  intro k
  refine ģ b.2.2.1 _ (fun z=>ifb (ige z 0) (k 9) (k 0)) (k 9) (k 0) (fun j=>?_) (fun j a hj ha kn=>?_) (fun kn=>?_)
  ·have:ige (j:Int) 0=true:=by simp[ige]
   rw[Õ this]
  ·try dsimp only
   unfold Ż
   rw[Ô hj,É ha,θ,À,Ì hj (by omega)]
   cases h1:(a.1==l.1) with
   | false =>
     have:ieq a.1 l.1=false:=h1
     simp[this]
   | true =>
     have:ieq a.1 l.1=true:=h1
     rw[this]
     cases inP a.2 l.2.1.1 l.2.1.2<;>simp
  ·try dsimp only
   unfold Ż
   rw[Ý]
 rw[inner]
 refine Eq.trans (ģ (b.2.2.2.1.take i) (fun x=>x.1==l.1&&(decide (x.2.1.1≤l.2.1.2)&&decide (l.2.1.1≤x.2.1.2))) (fun z=>ifb (ige z 0) (some 9) (if b.2.2.1.any (fun u=>u.1==l.1&&inP u.2 l.2.1.1 l.2.1.2) then some 9 else some 0)) (some 9) (if b.2.2.1.any (fun u=>u.1==l.1&&inP u.2 l.2.1.1 l.2.1.2) then some 9 else some 0) (fun j=>?_) (fun j a hj ha kn=>?_) (fun kn=>?_)) ?_
 ·have:ige (j:Int) 0=true:=by simp[ige]
  rw[Õ this]
 ·try dsimp only
  unfold aeK
  have hj':j≤1000:=by rw[List.length_take] at hj; omega
  rw[Ô hj,É ha,Ì hj (by rw[List.length_take]; omega)]
  cases h1:(a.1==l.1) with
  | false =>
    have:ieq a.1 l.1=false:=h1
    simp[this]
  | true =>
    have:ieq a.1 l.1=true:=h1
    rw[this]
    cases h2:decide (a.2.1.1≤l.2.1.2)<;>cases h3:decide (l.2.1.1≤a.2.1.2)<;>simp[ile,h2,h3,ď]<;>simp_all
 ·try dsimp only
  unfold aeK
  rw[Ý]
 ·cases List.any (b.2.2.2.1.take i) _<;>cases b.2.2.1.any _<;>rfl
end Go.Proofs.ZzM
end
noncomputable section
namespace Go.Proofs.ZzM
open Go Go.Am
theorem aYR {l:List Int} (hn:l.length≤1000000) (x:Int):aeg l x=some (match l.findIdx? (·==x) with|some j=>(j:Int)|none=>-1):=by
 unfold aeg afW
 refine Eq.trans (π l (·==x) some (some (-1)) (fun i a hi ha kn=>?_) (fun kn=>?_)) ?_
 ·try dsimp only
  unfold Ω
  rw[Ô hi,É ha,Ì hi (by omega),ď]
  by_cases h:x=a
  ·subst h; simp[ieq]
  ·have h2:¬a=x:=fun e=>h e.symm
   simp[ieq,h,h2]
 ·try dsimp only
  unfold Ω
  rw[Ý]
 ·cases l.findIdx? (·==x)<;>rfl
theorem agY {l:List Int} (hn:l.length≤1000000) (x:Int):ġ l x=some (l.contains x):=by
 unfold ġ aeq
 rw[aYR hn,À]
 congr 1
 cases h:l.findIdx? (·==x) with
 | none =>
   have:l.contains x=false:=by
    rw[Bool.eq_false_iff]
    intro hc
    have:=List.findIdx?_eq_none_iff.1 h x (by simpa using hc)
    simp at this
   rw[this]; rfl
 | some j =>
   obtain⟨hj,hp,_⟩:=List.findIdx?_eq_some_iff_getElem.1 h
   have:l.contains x=true:=by
    have h2:l[j]=x:=by simpa using hp
    rw[←h2]; simp
   rw[this]
   simp[ige]
def æ (a b:List Int):List Int:=a.filter fun x=>!b.contains x
theorem akd {a b:List Int} (ha:a.length≤1000000) (hb:b.length≤1000000):ŝ a b=some (æ a b):=by
 unfold ŝ aL7
 rw[Ù (by omega),Am.iff_true]
 have second:∀z:Nat,z<a.length→æ (a.take z) b=a.take z→b.contains (a[z]?.getD 0)=true →
  Ñ (fun(v13:(Val (.pair tI (.pair tI (.slice tI))))) kk17=>aeY b v13.1 v13.2.1 v13.2.2 (fun u14 u15 u16=>kk17 (u14,u15,u16)) (fun z12=>ô ((ile (0:Int) z12.1)&&(ile z12.1 (Ĩ z12.2))) (ô ((ile (0:Int) z12.1)&&(ile z12.1 (Ĩ (List.take (Int.toNat z12.1) z12.2++List.replicate (List.length z12.2-(Int.toNat z12.1)) (0:Int)++List.drop ((Int.toNat z12.1)+(List.length z12.2-(Int.toNat z12.1))) z12.2)))) (some (List.take (Int.toNat z12.1) (List.drop 0 (List.take (Int.toNat z12.1) z12.2++List.replicate (List.length z12.2-(Int.toNat z12.1)) (0:Int)++List.drop ((Int.toNat z12.1)+(List.length z12.2-(Int.toNat z12.1))) z12.2))))))) ((z:Int),((z:Int)+1),a)=some (æ a b):=by
  intro z hz hp hc
  refine ő (fun x:Int×Int×List Int=>∃i j:Nat,x.1=i∧x.2.1=j∧i<j∧j≤a.length∧x.2.2.length=a.length∧x.2.2.take i=æ (a.take j) b∧x.2.2.drop j=a.drop j) (fun x=>a.length-x.2.1.toNat) ?_
   ⟨z,z+1,rfl,by simp,by omega,by omega,rfl,?_,rfl⟩
  ·rintro⟨x1,x2,s⟩ ⟨i,j,h1,h2,hij,hja,hl,ht,hd⟩
   simp only at h1 h2 hl ht hd
   subst h1 h2
   rcases Nat.lt_or_ge j a.length with hj|hj
   ·refine .inr ?_
    have hsj:s[j]?=some a[j]:=by
     have h3:(s.drop j)[0]?=(a.drop j)[0]?:=by rw[hd]
     rw[List.getElem?_drop,List.getElem?_drop] at h3
     simpa[List.getElem?_eq_getElem hj] using h3
    have hjs:j<s.length:=by omega
    have hta:æ (a.take (j+1)) b=æ (a.take j) b++if b.contains a[j] then[] else[a[j]]:=by
     rw[take_succ (List.getElem?_eq_getElem hj),æ,æ,List.filter_append]
     congr 1
     cases h:b.contains a[j] with
     |true=>simp only[List.filter_cons,h,Bool.not_true,Bool.false_eq_true,if_false,List.filter_nil,if_true]
     |false=>simp only[List.filter_cons,h,Bool.not_false,Bool.false_eq_true,if_false,List.filter_nil,if_true]
    cases h:b.contains a[j] with
    | true =>
      refine⟨(i,(j:Int)+1,s),⟨i,j+1,rfl,by simp,by omega,by omega,hl,?_,?_⟩,by simp; omega,fun kn=>?_⟩
      ·rw[hta,h]; simpa using ht
      ·have:=congrArg (List.drop 1) hd
       simpa[List.drop_drop,Nat.add_comm] using this
      ·try dsimp only
       unfold aeY
       rw[Ô hjs,ς hjs,Ĥ hsj,agY hb,À,h]
       simp only[Bool.not_true,ã]
       rw[Ì hjs (by omega)]
    | false =>
      have his:i<s.length:=by omega
      refine⟨((i:Int)+1,(j:Int)+1,s.set i a[j]),⟨i+1,j+1,by simp,by simp,by omega,by omega,by simpa using hl,?_,?_⟩,by simp; omega,fun kn=>?_⟩
      ·show List.take (i+1) (s.set i a[j])=_
       rw[hta,h,List.take_succ,List.getElem?_set,List.take_set_of_le (Nat.le_refl i),ht]
       simp[his]
      ·show List.drop (j+1) (s.set i a[j])=_
       rw[List.drop_set_of_lt (by omega)]
       have:=congrArg (List.drop 1) hd
       simpa[List.drop_drop,Nat.add_comm] using this
      ·try dsimp only
       unfold aeY
       rw[Ô hjs,ς hjs,Ĥ hsj,agY hb,À,h]
       simp only[Bool.not_false,Ġ]
       rw[ς his,Ĥ (List.getElem?_eq_getElem his),Ì his (by omega),Ì hjs (by omega),Int.toNat_natCast]
   ·refine .inl fun kn=>?_
    have hje:j=s.length:=by omega
    try dsimp only
    unfold aeY
    rw[hje,Ý]
    dsimp only
    have g1:((ile (0:Int) (i:Int))&&(ile (i:Int) (Ĩ s)))=true:=by simp[ile,Ĩ]; omega
    rw[ī g1]
    have g2:((ile (0:Int) (i:Int))&&(ile (i:Int) (Ĩ (List.take (Int.toNat (i:Int)) s++List.replicate (List.length s-(Int.toNat (i:Int))) (0:Int)++List.drop ((Int.toNat (i:Int))+(List.length s-(Int.toNat (i:Int)))) s))))=true:=by
     simp[ile,Ĩ]; omega
    rw[ī g2,Int.toNat_natCast,List.drop_zero,List.append_assoc,List.take_append_of_le_length (by simp; omega),List.take_take,Nat.min_self,ht]
    rw[List.take_of_length_le (by omega)]
  ·show List.take z a=æ (a.take (z+1)) b
   have hz':a[z]?=some a[z]:=List.getElem?_eq_getElem hz
   rw[take_succ hz',æ,List.filter_append]
   rw[hz'] at hc
   simp only[Option.getD_some] at hc
   have:List.filter (fun x=>!b.contains x) [a[z]]=[]:=by simp only[List.filter_cons,hc,Bool.not_true,Bool.false_eq_true,if_false,List.filter_nil]
   rw[this,List.append_nil]
   exact hp.symm
 refine Eq.trans (π a (fun x=>b.contains x) (fun z4=>ifb (ieq z4 (-1:Int)) (some a) (ck (z4+(1:Int)) fun n5=>Ñ (fun(v13:(Val (.pair tI (.pair tI (.slice tI))))) kk17=>aeY b v13.1 v13.2.1 v13.2.2 (fun u14 u15 u16=>kk17 (u14,u15,u16)) (fun z12=>ô ((ile (0:Int) z12.1)&&(ile z12.1 (Ĩ z12.2))) (ô ((ile (0:Int) z12.1)&&(ile z12.1 (Ĩ (List.take (Int.toNat z12.1) z12.2++List.replicate (List.length z12.2-(Int.toNat z12.1)) (0:Int)++List.drop ((Int.toNat z12.1)+(List.length z12.2-(Int.toNat z12.1))) z12.2)))) (some (List.take (Int.toNat z12.1) (List.drop 0 (List.take (Int.toNat z12.1) z12.2++List.replicate (List.length z12.2-(Int.toNat z12.1)) (0:Int)++List.drop ((Int.toNat z12.1)+(List.length z12.2-(Int.toNat z12.1))) z12.2))))))) (z4,n5,a))) (some a) (fun i x hi hx kn=>?_) (fun kn=>?_)) ?_
 ·try dsimp only
  unfold amd
  rw[Ô hi,ς hi,Ĥ hx,agY hb,À,Ì hi (by omega),ď]
 ·try dsimp only
  unfold amd
  rw[Ý]
 ·cases h:a.findIdx? (fun x=>b.contains x) with
  | none =>
    have:æ a b=a:=by
     rw[æ,List.filter_eq_self]
     intro x hx
     have:=List.findIdx?_eq_none_iff.1 h x hx
     simpa using this
    rw[this]
  | some z =>
    obtain⟨hz,hc,hlt⟩:=List.findIdx?_eq_some_iff_getElem.1 h
    have h1:ieq (z:Int) (-1)=false:=by simp[ieq]
    try dsimp only
    rw[Ò h1,Ì hz (by omega)]
    refine second z hz ?_ ?_
    ·rw[æ,List.filter_eq_self]
     intro x hx
     obtain⟨j,hj,rfl⟩:=List.mem_iff_getElem.1 hx
     rw[List.length_take] at hj
     rw[List.getElem_take]
     have:=hlt j (by omega)
     simpa using this
    ·rw[List.getElem?_eq_getElem hz]; exact hc
def anl (l:List Int) (i:Nat) (a:Int):Option Bool:=if !inP a 1 1099511627776 then some false else if ati (fun x=>x) l i a then some false else none
def afI (l:List Int):Bool:=match ħ (anl l) 0 l with|some _=>false|none=>decide (l.length≤6)
theorem av3 {l:List Int} (hn:l.length≤1000000):agf l=some (afI l):=by
 unfold agf ax9
 refine Eq.trans (aec l (anl l) some (some (decide (l.length≤6))) (fun i a hi ha kn=>?_) (fun kn=>?_)) ?_
 ·try dsimp only
  unfold ahx
  rw[Ô hi,É ha,θ,À]
  unfold anl
  cases inP a 1 1099511627776 with
  |false=>rfl
  | true =>
    simp only[Bool.not_true,ã,Bool.false_eq_true,if_false]
    rcases Nat.eq_zero_or_pos i with h0|h0
    ·subst h0
     have:igt ((0:Nat):Int) 0=false:=by simp[igt]
     rw[Ò this,Ì hi (by omega)]
     simp[ati]
    ·obtain⟨q,hq⟩:=aty hi h0
     have h1:igt (i:Int) 0=true:=by simp[igt]; omega
     rw[Õ h1,aFr h0 (by omega),av7 h0 hq]
     simp only[ati,h0,decide_true,Bool.true_and,hq,Option.any_some]
     unfold ile
     cases h2:decide (a≤q) with
     |true=>rfl
     | false =>
       rw[ã,Ì hi (by omega)]
       rfl
 ·try dsimp only
  unfold ahx
  rw[Ý,â]
  simp[ile]
  omega
 ·have hb:∀x,ħ (anl l) 0 l=some x→x=false:=by
   have:∀(m:List Int) (j:Nat) (x:Bool),ħ (anl l) j m=some x→x=false:=by
    intro m
    induction m with
    |nil=>intro j x h; cases h
    | cons a m ih =>
      intro j x h
      unfold ħ at h
      cases hp:anl l j a with
      |none=>rw[hp] at h; exact ih _ _ h
      | some y =>
        rw[hp] at h
        cases h
        unfold anl at hp
        split at hp
        ·cases hp; rfl
        ·split at hp
         ·cases hp; rfl
         ·cases hp
   exact this l 0
  unfold afI
  cases h:ħ (anl l) 0 l with
  |none=>rfl
  |some x=>rw[hb x h]
theorem atz (l:List Int):afI l=true↔(∀x∈l,1≤x∧x≤1099511627776)∧l.Pairwise (·<·)∧l.length≤6:=by
 have h0:ħ (anl l) 0 l=none↔(∀x∈l,1≤x∧x≤1099511627776)∧l.Pairwise (·<·):=by
  rw[adu,←aM0 (fun x=>x) l]
  constructor
  ·intro h
   have h1:∀(j:Nat) (a:Int),l[j]?=some a→inP a 1 1099511627776=true∧ati (fun x=>x) l j a=false:=by
    intro j a ha
    have:=h j a ha
    rw[Nat.zero_add] at this
    unfold anl at this
    split at this
    ·cases this
    ·split at this
     ·cases this
     ·rename_i h1 h2
      exact⟨by simpa using h1,by simpa using h2⟩
   refine⟨fun x hx=>?_,fun i a ha=>(h1 i a ha).2⟩
   obtain⟨j,hj,rfl⟩:=List.mem_iff_getElem.1 hx
   have:=(h1 j l[j] (List.getElem?_eq_getElem hj)).1
   simpa[inP] using this
  ·rintro⟨h1,h2⟩ j a ha
   rw[Nat.zero_add]
   have h3:=h1 a (List.mem_of_getElem? ha)
   have:inP a 1 1099511627776=true:=by simpa[inP] using h3
   simp[anl,this,h2 j a ha]
 unfold afI
 cases h:ħ (anl l) 0 l with
 | none =>
   obtain⟨h1,h2⟩:=h0.1 h
   simp only[decide_eq_true_eq]
   exact⟨fun h3=>⟨h1,h2,h3⟩,fun h3=>h3.2.2⟩
 | some x =>
   constructor
   ·intro h2; cases h2
   ·rintro⟨h1,h2,h3⟩
    rw[h0.2 ⟨h1,h2⟩] at h; cases h
theorem aYS {a b:List Int} (ha:a.length≤1000000) (hb:b.length≤1000000):é [a,b]=some (a++b):=by
 have hk:∀n:Nat,n≤4000000→∀(f:Int→Option (List Int)),ck (n:Int) f=f n:=fun n h f=>Û (by omega) (by omega) f
 have second:Ñ (fun(v9:(Val (.pair tI (.slice tI)))) kk12=>í [a,b] (Ü [a,b]) v9.1 v9.2 (fun u10 u11=>kk12 (u10,u11)) (fun z8=>some z8)) ((0:Int),([]:List Int))=some (a++b):=by
  refine ù [a,b] (fun i=>([a,b].take i).flatten) (some (a++b)) (f:=fun(v9:(Val (.pair tI (.slice tI)))) kk12=>í [a,b] (Ü [a,b]) v9.1 v9.2 (fun u10 u11=>kk12 (u10,u11)) (fun z8=>some z8)) rfl (fun i x hi hx kn=>?_) (fun kn=>?_)
  ·try dsimp only
   unfold í
   rw[Ô hi,É hx,Ì hi (by simp),take_succ hx,List.flatten_append]
   have:ì ((List.take i [a,b]).flatten.length+x.length)=true:=by
    refine Ù ?_
    have h1:x.length≤1000000:=by
     have:=List.mem_of_getElem? hx
     simp at this
     rcases this with rfl|rfl<;>assumption
    have h2:(List.take i [a,b]).flatten.length≤2000000:=by
     have:i=0∨i=1:=by simp at hi; omega
     rcases this with rfl|rfl<;>simp<;>omega
    omega
   rw[ī this]
   simp
  ·try dsimp only
   unfold í
   rw[Ý]
   simp
 unfold é adP
 refine ő (fun x:Int×Int=>∃i:Nat,i≤2∧x=((([a,b].take i).flatten.length:Int),(i:Int))) (fun x=>2-x.2.toNat) ?_ ⟨0,by omega,rfl⟩
 rintro x ⟨i,hi,rfl⟩
 rcases Nat.lt_or_ge i 2 with h2|h2
 ·refine .inr ⟨((([a,b].take (i+1)).flatten.length:Int),(i:Int)+1),⟨i+1,h2,by simp⟩,by simp; omega,fun kn=>?_⟩
  have hi':i<[a,b].length:=h2
  obtain⟨x,hx⟩:∃x,[a,b][i]?=some x:=⟨_,List.getElem?_eq_getElem hi'⟩
  have hxl:x.length≤1000000:=by
   have:=List.mem_of_getElem? hx
   simp at this
   rcases this with rfl|rfl<;>assumption
  have h3:(List.take i [a,b]).flatten.length≤2000000:=by
   have:i=0∨i=1:=by omega
   rcases this with rfl|rfl<;>simp<;>omega
  try dsimp only
  unfold Ī
  rw[Ô hi',É hx,â]
  have e1:(((List.take i [a,b]).flatten.length:Int)+(x.length:Int))=((List.take i [a,b]).flatten.length+x.length:Nat):=by omega
  rw[e1,hk _ (by omega)]
  have:ilt ((((List.take i [a,b]).flatten.length+x.length:Nat)):Int) 0=false:=by simp[ilt]; omega
  rw[Ò this,Ì hi' (by simp),take_succ hx]
  simp
 ·refine .inl fun kn=>?_
  obtain rfl:i=2:=by omega
  try dsimp only
  unfold Ī
  rw[show((2:Nat):Int)=(([a,b].length:Nat):Int) from rfl,Ý]
  have e1:((List.take 2 [a,b]).flatten.length:Int)=((a.length+b.length:Nat):Int):=by simp
  have e2:ilt (((a.length+b.length:Nat)):Int) 0=false:=by simp[ilt]; omega
  rw[e1]
  dsimp only
  rw[Ò e2,Int.sub_zero,hk _ (by omega)]
  rcases Nat.eq_zero_or_pos (a.length+b.length) with h0|h0
  ·have:igt (((a.length+b.length:Nat)):Int) 0=false:=by simp[igt]; omega
   rw[Ò this]
   exact second
  ·have:igt (((a.length+b.length:Nat)):Int) 0=true:=by simp[igt]; omega
   rw[Õ this]
   have:((ilt (0:Int) (((a.length+b.length:Nat)):Int))&&(ì (Int.toNat (((a.length+b.length:Nat)):Int))))=true:=by
    rw[Int.toNat_natCast,Ù (by omega)]
    simp[ilt]; omega
   rw[ī this]
   have:ile 0 (Ĩ (List.replicate (Int.toNat (((a.length+b.length:Nat)):Int)) (0:Int)))=true:=by simp[ile]
   rw[ī this]
   exact second
def afF (b:á) (id day:Int):Option aBf:=b.2.2.2.1.find? fun l=>l.1==id&&inP day l.2.1.1 l.2.1.2
theorem aMC {α:Type} (p:α→Bool):∀l:List α,l.find? p=(match l.findIdx? p with|some j=>l[j]?|none=>none)
 |[]=>rfl
 | a :: l => by
   rw[List.find?_cons,List.findIdx?_cons]
   cases h:p a with
   |true=>simp
   | false =>
     simp only[Bool.false_eq_true,if_false]
     rw[aMC p l]
     cases l.findIdx? p<;>simp
theorem a1N {b:á} (hn:b.2.2.2.1.length≤1000) (id day:Int):ap9 b id day=some (match afF b id day with|some l=>(l,true)|none=>((0,(0,0),0),false)):=by
 unfold ap9 aMh
 refine Eq.trans (π b.2.2.2.1 (fun l=>l.1==id&&inP day l.2.1.1 l.2.1.2) (fun z5=>ifb (ilt z5 (0:Int)) (some (((0:Int),((0:Int),(0:Int)),(0:Int)),false)) (ü b.2.2.2.1 z5 fun e6=>some (e6,true))) (some ((0,(0,0),0),false)) (fun i a hi ha kn=>?_) (fun kn=>?_)) ?_
 ·try dsimp only
  unfold amh
  rw[Ô hi,É ha,θ,À,Ì hi (by omega)]
  cases h1:(a.1==id) with
  | false =>
    have:ieq a.1 id=false:=h1
    simp[this]
  | true =>
    have:ieq a.1 id=true:=h1
    rw[this]
    cases inP day a.2.1.1 a.2.1.2<;>simp
 ·try dsimp only
  unfold amh
  rw[Ý]
 ·unfold afF
  rw[aMC]
  cases h:b.2.2.2.1.findIdx? (fun l=>l.1==id&&inP day l.2.1.1 l.2.1.2) with
  |none=>rfl
  | some j =>
    obtain⟨hj,_,_⟩:=List.findIdx?_eq_some_iff_getElem.1 h
    have:ilt (j:Int) 0=false:=by simp[ilt]
    try dsimp only
    rw[Ò this,É (List.getElem?_eq_getElem hj),List.getElem?_eq_getElem hj]
end Go.Proofs.ZzM
end
noncomputable section
namespace Go.Proofs.ZzM
open Go Go.Am
def a1o (a:Int):List Int→List Int
 |[]=>[a]
 |b::t=>if a≤b then a::b::t else b::a1o a t
def aJb:List Int→List Int
 |[]=>[]
 |a::t=>a1o a (aJb t)
def anv (p:Option Int):List Int→List Int
 |[]=>[]
 |a::t=>if p=some a then anv (some a) t else a::anv (some a) t
def aNB (l:List Int):List Int:=anv none (aJb l)
theorem aEX (a:Int):∀l,(a1o a l).Perm (a::l)
 |[]=>List.Perm.refl _
 | b :: t => by
   unfold a1o
   split
   ·exact List.Perm.refl _
   ·exact((aEX a t).cons b).trans (List.Perm.swap a b t)
theorem aml:∀l,(aJb l).Perm l
 |[]=>List.Perm.refl _
 |a::t=>(aEX a _).trans ((aml t).cons a)
theorem aEW (a:Int):∀{l:List Int},l.Pairwise (·≤·)→(a1o a l).Pairwise (·≤·)
 |[],_=>by simp[a1o]
 | b :: t, h => by
   rw[List.pairwise_cons] at h
   unfold a1o
   split
   ·rename_i hab
    refine List.pairwise_cons.2 ⟨fun x hx=>?_,List.pairwise_cons.2 h⟩
    rcases List.mem_cons.1 hx with rfl|hx
    ·exact hab
    ·have:=h.1 x hx; omega
   ·rename_i hab
    refine List.pairwise_cons.2 ⟨fun x hx=>?_,aEW a h.2⟩
    rcases List.mem_cons.1 ((aEX a t).mem_iff.1 hx) with rfl|hx
    ·omega
    ·exact h.1 x hx
theorem amk:∀l:List Int,(aJb l).Pairwise (·≤·)
 |[]=>List.Pairwise.nil
 |a::t=>aEW a (amk t)
theorem aY8 (l:List Int):atq l=aJb l:=by
 have h1:(atq l).Pairwise (·≤·):=by
  have:=List.pairwise_mergeSort (le:=fun a b:Int=>decide (a≤b)) (fun a b c h1 h2=>by simp at *; omega) (fun a b=>by simp; omega) l
  exact this.imp fun h=>by simpa using h
 exact List.Perm.eq_of_pairwise (le:=(·≤·)) (fun a b _ _ h1 h2=>by omega) h1 (amk l) ((List.mergeSort_perm l _).trans (aml l).symm)
theorem aH8 (a:Int):∀(l:List Int) (p:Option Int),anv p (l++[a])=anv p l++(if (match l.getLast? with|some b=>some b|none=>p)=some a then[] else[a])
 |[],p=>by simp only[List.nil_append,anv,List.getLast?_nil]; rfl
 | b :: t, p => by
   have ih:=aH8 a t (some b)
   have e:(match (b::t).getLast? with|some c=>some c|none=>p)=(match t.getLast? with|some c=>some c|none=>some b):=by
    cases t with
    |nil=>rfl
    | cons c t =>
      rw[List.getLast?_cons_cons]
      cases h:(c::t).getLast? with
      |none=>simp at h
      |some x=>rfl
   rw[e]
   simp only[List.cons_append,anv,ih]
   split<;>simp
theorem arS (l:List Int):∀m,m≤l.length→Lib.compactUpTo l.toArray m=anv none (l.take m)
 |0,_=>by simp[Lib.compactUpTo,anv]
 | m + 1, h => by
   have hm:m<l.length:=h
   rw[Lib.compactUpTo_succ,arS l m (by omega),take_succ (List.getElem?_eq_getElem hm),aH8]
   congr 1
   have e1:l.toArray[m]! = l[m]:=by simp[getElem!_pos,hm]
   rw[e1]
   unfold Lib.keeps
   rw[e1]
   cases m with
   |zero=>simp
   | succ m =>
     have hm':m<l.length:=by omega
     have e2:l.toArray[m+1-1]! = l[m]:=by simp[getElem!_pos,hm']
     rw[e2]
     have e3:(l.take (m+1)).getLast?=some l[m]:=by rw[take_succ (List.getElem?_eq_getElem hm'),List.getLast?_append]; rfl
     rw[e3]
     by_cases hne:l[m+1]=l[m]
     ·simp[hne]
     ·have:¬l[m]=l[m+1]:=fun h=>hne h.symm
      simp[hne,this]
theorem aSw (l:List Int):aqb l=anv none l:=by
 unfold aqb Lib.compact
 rw[arS l l.length (Nat.le_refl _),List.take_length]
theorem aWg (l:List Int):aqb (atq l)=aNB l:=by rw[aY8,aSw]; rfl
theorem aNp:∀{l:List Int} {p:Option Int} {x:Int},p≠some x→(x∈anv p l↔x∈l)
 |[],_,_,_=>Iff.rfl
 | a :: t, p, x, hp => by
   unfold anv
   by_cases hx:x=a
   ·subst hx
    rw[if_neg hp]; simp
   ·have ih:=aNp (l:=t) (p:=some a) (x:=x) (fun e=>hx (by cases e; rfl))
    split<;>simp[ih,hx]
theorem aS6:∀{l:List Int} {p:Option Int},l.Pairwise (·≤·)→(∀q,p=some q→∀x∈l,q≤x)→(anv p l).Pairwise (·<·)∧∀q,p=some q→∀x∈anv p l,q<x
 |[],p,_,_=>⟨List.Pairwise.nil,fun _ _ _ h=>by cases h⟩
 | a :: t, p, h, hp => by
   rw[List.pairwise_cons] at h
   obtain⟨i1,i2⟩:=aS6 (l:=t) (p:=some a) h.2 (fun q hq x hx=>by cases hq; exact h.1 x hx)
   unfold anv
   split
   ·rename_i e
    exact⟨i1,fun q hq x hx=>by rw[e] at hq; cases hq; exact i2 _ rfl x hx⟩
   ·rename_i e
    refine⟨List.pairwise_cons.2 ⟨fun x hx=>i2 _ rfl x hx,i1⟩,fun q hq x hx=>?_⟩
    have:=hp q hq a (by simp)
    have hne:q≠a:=fun h=>e (by rw[hq,h])
    rcases List.mem_cons.1 hx with rfl|hx
    ·omega
    ·have:=i2 _ rfl x hx; omega
theorem apz {l:List Int} {x:Int}:x∈aNB l↔x∈l:=by
 unfold aNB
 rw[aNp (by simp),(aml l).mem_iff]
theorem ar2 (l:List Int):(aNB l).Pairwise (·<·):=(aS6 (amk l) (fun q hq=>by cases hq)).1
theorem aNq:∀(l:List Int) (p:Option Int),(anv p l).length≤l.length
 |[],_=>Nat.le_refl _
 | a :: t, p => by
   have:=aNq t (some a)
   unfold anv
   split<;>simp<;>omega
theorem ats (l:List Int):(aNB l).length≤l.length:=by
 unfold aNB
 have:=aNq (aJb l) none
 rwa [(aml l).length_eq] at this
theorem aSP {l m:List Int} (hl:l.Pairwise (·<·)) (hm:m.Pairwise (·<·)) (h:∀x,x∈l↔x∈m):l=m:=by
 induction l generalizing m with
 | nil =>
   cases m with
   |nil=>rfl
   |cons a t=>have:=(h a).2 (by simp); cases this
 | cons a t ih =>
   rw[List.pairwise_cons] at hl
   cases m with
   |nil=>have:=(h a).1 (by simp); cases this
   | cons b u =>
     rw[List.pairwise_cons] at hm
     have hab:a=b:=by
      rcases List.mem_cons.1 ((h a).1 (by simp)) with h1|h1
      ·exact h1
      ·rcases List.mem_cons.1 ((h b).2 (by simp)) with h2|h2
       ·exact h2.symm
       ·have:=hm.1 a h1; have:=hl.1 b h2; omega
     subst hab
     rw[ih hl.2 hm.2 fun x=>?_]
     constructor
     ·intro hx
      rcases List.mem_cons.1 ((h x).1 (by simp[hx])) with h1|h1
      ·have:=hl.1 x hx; omega
      ·exact h1
     ·intro hx
      rcases List.mem_cons.1 ((h x).2 (by simp[hx])) with h1|h1
      ·have:=hm.1 x hx; omega
      ·exact h1
end Go.Proofs.ZzM
end
noncomputable section
namespace Go.Proofs.ZzM
open Go Go.Am
def aqD (b:á) (s:List (Int×ç)) (c:Cmp):Int :=
 if (c.2.2.1++c.2.2.2.1).any (fun id=>agA s id c.2.1==5) then 5 else
 if (c.2.2.1++c.2.2.2.1).any (fun id=>agA s id c.2.1==4) then 4 else
 if (c.2.2.1++c.2.2.2.1).any (fun id=>(afF b id c.2.1).isSome) then 9 else
 if 1<(æ c.2.2.1 c.2.2.2.1).length then 1 else if 1<(æ c.2.2.2.1 c.2.2.1).length then 1 else
 if (æ c.2.2.1 c.2.2.2.1).length+(æ c.2.2.2.1 c.2.2.1).length=0 then 1 else 0
def aAl (c:Cmp):Bool :=
 inP c.1 1 1099511627776&&(awN c.2.1&&(inP c.2.2.2.2.1 (-1125899906842624) 1125899906842624&&(inP c.2.2.2.2.2.1 0 1073741824&&(aer c.2.2.2.2.2.2 (-10000) 10000&&(afI c.2.2.1&&afI c.2.2.2.1)))))
def ahG (b:á) (s:List (Int×ç)) (i:Nat) (c:Cmp):Int :=
 if !aAl c then 1 else if (b.2.2.2.2.1.take i).any (fun x=>x.1==c.1) then 6 else aqD b s c
theorem ao0 (a b:List Int):(æ a b).length≤a.length:=List.length_filter_le _ _
set_option maxHeartbeats 1000000 in
theorem aFt {b:á} (hn:b.2.2.2.2.1.length≤1000) (hl:b.2.2.2.1.length≤1000) (s:List (Int×ç)) {i:Nat} {c:Cmp} (hA:c.2.2.1.length≤1000) (hB:c.2.2.2.1.length≤1000)
 (hc:b.2.2.2.2.1[i]?=some c):ĺ b s i=some (ahG b s i c):=by
 have hi:i<b.2.2.2.2.1.length:=(List.getElem?_eq_some_iff.1 hc).1
 unfold ĺ ag6 ahG aAl
 rw[É hc,θ,À]
 cases inP c.1 1 1099511627776 with
 |false=>rfl
 |true =>
 rw[aMv,À]
 cases awN c.2.1 with
 |false=>rfl
 |true =>
 rw[θ,À]
 cases inP c.2.2.2.2.1 (-1125899906842624) 1125899906842624 with
 |false=>rfl
 |true =>
 rw[θ,À]
 cases inP c.2.2.2.2.2.1 0 1073741824 with
 |false=>rfl
 |true =>
 rw[av5,À]
 cases aer c.2.2.2.2.2.2 (-10000) 10000 with
 |false=>rfl
 |true =>
 rw[av3 (by omega),À]
 cases afI c.2.2.1 with
 |false=>rfl
 |true =>
 rw[av3 (by omega),À]
 cases afI c.2.2.2.1 with
 |false=>rfl
 |true =>
 have hg:((ile (0:Int) (i:Int))&&(ile (i:Int) (Ĩ b.2.2.2.2.1)))=true:=by simp[ile,Ĩ]; omega
 simp only[Bool.not_true,ã,Bool.and_self,Bool.false_eq_true,if_false]
 rw[ī hg,Int.toNat_natCast]
 -- what comes behind the IDs
 have rest:(Â (é ([c.2.2.1,c.2.2.2.1])) fun r12=>Ñ (fun(v36:Int) kk38=>Ņ s r12 (Ü ([(5:Int),(4:Int)])) c.2.1 ([(5:Int),(4:Int)]) v36 (fun u37=>kk38 u37) (fun z23=>some z23) (fun _=>Ñ (fun(v33:Int) kk35=>ń r12 (Ü r12) b.1.1 b.1.2 b.2.1 b.2.2.1 b.2.2.2.1 b.2.2.2.2.1 b.2.2.2.2.2 c.2.1 v33 (fun u34=>kk35 u34) (fun z28=>some z28) (fun _=>Â (ŝ c.2.2.1 c.2.2.2.1) fun r30=>Â (ŝ c.2.2.2.1 c.2.2.1) fun r31=>ifb (igt (Ü r30) (1:Int)) (some (1:Int)) (ifb (igt (Ü r31) (1:Int)) (some (1:Int)) (ck ((Ü r30)+(Ü r31)) fun n32=>ifb (ieq n32 (0:Int)) (some (1:Int)) (some (0:Int)))))) (0:Int))) (0:Int))=some (aqD b s c):=by
  rw[aYS (by omega) (by omega),À]
  have hall:(c.2.2.1++c.2.2.2.1).length≤2000:=by simp; omega
  have last:(Â (ŝ c.2.2.1 c.2.2.2.1) fun r30=>Â (ŝ c.2.2.2.1 c.2.2.1) fun r31=>ifb (igt (Ü r30) (1:Int)) (some (1:Int)) (ifb (igt (Ü r31) (1:Int)) (some (1:Int)) (ck ((Ü r30)+(Ü r31)) fun n32=>ifb (ieq n32 (0:Int)) (some (1:Int)) (some (0:Int))))) =
   some (if 1<(æ c.2.2.1 c.2.2.2.1).length then 1 else if 1<(æ c.2.2.2.1 c.2.2.1).length then 1 else if (æ c.2.2.1 c.2.2.2.1).length+(æ c.2.2.2.1 c.2.2.1).length=0 then 1 else 0):=by
   rw[akd (by omega) (by omega),À,akd (by omega) (by omega),À]
   have l1:=ao0 c.2.2.1 c.2.2.2.1
   have l2:=ao0 c.2.2.2.1 c.2.2.1
   rw[â,â,Û (by omega) (by omega)]
   by_cases c1:1<(æ c.2.2.1 c.2.2.2.1).length
   ·rw[Õ (by simp[igt]; omega),if_pos c1]
   rw[Ò (by simp[igt]; omega),if_neg c1]
   by_cases c2:1<(æ c.2.2.2.1 c.2.2.1).length
   ·rw[Õ (by simp[igt]; omega),if_pos c2]
   rw[Ò (by simp[igt]; omega),if_neg c2]
   by_cases c3:(æ c.2.2.1 c.2.2.2.1).length+(æ c.2.2.2.1 c.2.2.1).length=0
   ·rw[Õ (by simp[ieq]; omega),if_pos c3]
   rw[Ò (by simp[ieq]; omega),if_neg c3]
  refine Eq.trans (aec [(5:Int),4] (fun _ want=>if (c.2.2.1++c.2.2.2.1).any (fun id=>agA s id c.2.1==want) then some want else none) some (some (if (c.2.2.1++c.2.2.2.1).any (fun id=>(afF b id c.2.1).isSome) then 9 else if 1<(æ c.2.2.1 c.2.2.2.1).length then 1 else if 1<(æ c.2.2.2.1 c.2.2.1).length then 1 else if (æ c.2.2.1 c.2.2.2.1).length+(æ c.2.2.2.1 c.2.2.1).length=0 then 1 else 0)) (fun j want hj hw kn=>?_) (fun kn=>?_)) ?_
  ·try dsimp only
   unfold Ņ
   rw[Ô hj,ς hj,Ĥ hw]
   refine Eq.trans (ģ (c.2.2.1++c.2.2.2.1) (fun id=>agA s id c.2.1==want) (fun _=>some want) (some want) (kn ((j:Int)+1)) (fun _=>rfl) (fun k a hk ha kn'=>?_) (fun kn'=>?_)) ?_
   ·try dsimp only
    unfold adq
    rw[Ô hk,É ha,aRo,À,Ì hk (by omega),ď]
   ·try dsimp only
    unfold adq
    rw[Ý,Ì hj (by simp)]
   ·cases List.any (c.2.2.1++c.2.2.2.1) (fun id=>agA s id c.2.1==want)<;>rfl
  ·try dsimp only
   unfold Ņ
   rw[Ý]
   refine Eq.trans (ģ (c.2.2.1++c.2.2.2.1) (fun id=>(afF b id c.2.1).isSome) (fun _=>some 9) (some 9) (some (if 1<(æ c.2.2.1 c.2.2.2.1).length then 1 else if 1<(æ c.2.2.2.1 c.2.2.1).length then 1 else if (æ c.2.2.1 c.2.2.2.1).length+(æ c.2.2.2.1 c.2.2.1).length=0 then 1 else 0)) (fun _=>rfl) (fun k a hk ha kn'=>?_) (fun kn'=>?_)) ?_
   ·try dsimp only
    unfold ń
    have haw:=a1N hl a c.2.1
    rw[Ô hk,É ha,Ì hk (by omega)]
    rw[show ap9 ((b.1.1,b.1.2),b.2.1,b.2.2.1,b.2.2.2.1,b.2.2.2.2.1,b.2.2.2.2.2) a c.2.1=ap9 b a c.2.1 from rfl,haw,À]
    cases afF b a c.2.1<;>rfl
   ·try dsimp only
    unfold ń
    rw[Ý,last]
   ·cases List.any (c.2.2.1++c.2.2.2.1) (fun id=>(afF b id c.2.1).isSome)<;>rfl
  ·unfold aqD ħ ħ ħ
   try dsimp only
   cases List.any (c.2.2.1++c.2.2.2.1) (fun id=>agA s id c.2.1==5) with
   |true=>rfl
   |false =>
   cases List.any (c.2.2.1++c.2.2.2.1) (fun id=>agA s id c.2.1==4)<;>rfl
 refine Eq.trans (ģ (b.2.2.2.2.1.take i) (fun x=>x.1==c.1) (fun z11=>ifb (ige z11 (0:Int)) (some 6) (some (aqD b s c))) (some 6) (some (aqD b s c)) (fun j=>?_) (fun j a hj ha kn=>?_) (fun kn=>?_)) ?_
 ·have:ige (j:Int) 0=true:=by simp[ige]
  rw[Õ this]
 ·try dsimp only
  unfold adr
  rw[rest,Ô hj,É ha,Ì hj (by rw[List.length_take]; omega),ď]
 ·try dsimp only
  unfold adr
  rw[Ý,rest]
 ·cases List.any (b.2.2.2.2.1.take i) (fun x=>x.1==c.1)<;>rfl
def aSr (b:á) (g:ç):List Int :=
 [g.2.1]++(b.2.2.2.2.1.filter fun c=>!(c.2.2.1.contains g.1==c.2.2.2.1.contains g.1)).map (fun c=>c.2.1)++(b.2.2.2.2.2.filter fun n=>n.1==g.1).map (fun n=>n.2)
def ß (b:á) (g:ç):List Int:=aNB (aSr b g)
structure Ļ (b:á):Prop where
 gauges:b.2.1.length≤1000
 uses:b.2.2.1.length≤1000
 loans:b.2.2.2.1.length≤1000
 compares:b.2.2.2.2.1.length≤1000
 looks:b.2.2.2.2.2.length≤1000
 piles:∀c∈b.2.2.2.2.1,c.2.2.1.length≤1000∧c.2.2.2.1.length≤1000
theorem aNx (l:List Int):(atq l).length=l.length:=List.length_mergeSort l
theorem aQh {b:á} (hs:Ļ b) (g:ç):(aSr b g).length≤2001:=by
 have h1:=hs.compares
 have h2:=hs.looks
 have h3:=List.length_filter_le (fun c:Cmp=>!(c.2.2.1.contains g.1==c.2.2.2.1.contains g.1)) b.2.2.2.2.1
 have h4:=List.length_filter_le (fun n:Int×Int=>n.1==g.1) b.2.2.2.2.2
 simp only[aSr,List.length_append,List.length_map,List.length_singleton]
 omega
theorem aXJ {b:á} (hs:Ļ b) (g:ç):ahE b g=some (ß b g):=by
 unfold ahE aMf
 have hr:=aQh hs g
 have hd:(ß b g).length≤2001:=by
  unfold ß
  have:=ats (aSr b g)
  omega
 have hcl:=hs.compares
 have hll:=hs.looks
 refine ù b.2.2.2.2.1 (fun i=>[g.2.1]++((b.2.2.2.2.1.take i).filter fun c=>!(c.2.2.1.contains g.1==c.2.2.2.1.contains g.1)).map (fun c=>c.2.1)) _ rfl (fun i c hi hc kn=>?_) (fun kn=>?_)
 ·try dsimp only
  unfold amf
  obtain⟨p1,p2⟩:=hs.piles c (List.mem_of_getElem? hc)
  rw[Ô hi,É hc,agY (by omega),À,agY (by omega),À,Ì hi (by omega),Ì hi (by omega),take_succ hc,List.filter_append,List.map_append]
  have hlen:([g.2.1]++((b.2.2.2.2.1.take i).filter fun c=>!(c.2.2.1.contains g.1==c.2.2.2.1.contains g.1)).map (fun c=>c.2.1)).length≤1001:=by
   have h3:=List.length_filter_le (fun c:Cmp=>!(c.2.2.1.contains g.1==c.2.2.2.1.contains g.1)) (b.2.2.2.2.1.take i)
   rw[List.length_take] at h3
   simp only[List.length_append,List.length_map,List.length_singleton]
   omega
  rw[Ù (by simp only[List.length_singleton]; omega),Am.iff_true]
  cases h:(c.2.2.1.contains g.1==c.2.2.2.1.contains g.1) with
  |true=>simp only[Bool.not_true,ã,List.filter_cons,h,Bool.false_eq_true,if_false,List.filter_nil,List.map_nil,List.append_nil]
  |false=>simp only[Bool.not_false,Ġ,List.filter_cons,h,if_true,List.filter_nil,List.map_cons,List.map_nil,List.append_assoc]
 ·try dsimp only
  unfold amf
  rw[Ý,List.take_length]
  refine ù b.2.2.2.2.2 (fun i=>[g.2.1]++(b.2.2.2.2.1.filter fun c=>!(c.2.2.1.contains g.1==c.2.2.2.1.contains g.1)).map (fun c=>c.2.1)++((b.2.2.2.2.2.take i).filter fun n=>n.1==g.1).map (fun n=>n.2)) _ (by simp) (fun i n hi hn kn=>?_) (fun kn=>?_)
  ·try dsimp only
   unfold ame
   rw[Ô hi,É hn,Ì hi (by omega),Ì hi (by omega),take_succ hn,List.filter_append,List.map_append]
   have hlen:([g.2.1]++(b.2.2.2.2.1.filter fun c=>!(c.2.2.1.contains g.1==c.2.2.2.1.contains g.1)).map (fun c=>c.2.1)++((b.2.2.2.2.2.take i).filter fun n=>n.1==g.1).map (fun n=>n.2)).length≤2001:=by
    have h3:=List.length_filter_le (fun c:Cmp=>!(c.2.2.1.contains g.1==c.2.2.2.1.contains g.1)) b.2.2.2.2.1
    have h4:=List.length_filter_le (fun n:Int×Int=>n.1==g.1) (b.2.2.2.2.2.take i)
    rw[List.length_take] at h4
    simp only[List.length_append,List.length_map,List.length_singleton]
    omega
   rw[Ù (by simp only[List.length_singleton]; omega),Am.iff_true]
   cases h:(n.1==g.1) with
   | true =>
     have:ieq n.1 g.1=true:=h
     simp[h,this]
   | false =>
     have:ieq n.1 g.1=false:=h
     simp[h,this]
  ·try dsimp only
   unfold ame
   rw[Ý,List.take_length]
   rw[show([g.2.1]++(b.2.2.2.2.1.filter fun c=>!(c.2.2.1.contains g.1==c.2.2.2.1.contains g.1)).map (fun c=>c.2.1)++(b.2.2.2.2.2.filter fun n=>n.1==g.1).map (fun n=>n.2))=aSr b g from rfl]
   dsimp only
   rw[Ù (by omega),Am.iff_true,Ù (by rw[aNx]; omega),Am.iff_true,aWg]
   rfl
def Ï (b:á):List (Int×Int):=b.2.1.flatMap fun g=>(ß b g).map fun d=>((g.1,d):Int×Int)
theorem aww {b:á} (hs:Ļ b) (g:ç):(ß b g).length≤2001:=by
 unfold ß
 have:=ats (aSr b g)
 have:=aQh hs g
 omega
theorem amt {α β:Type} (f:α→List β) (n:Nat) (h:∀a,(f a).length≤n):∀l:List α,(l.flatMap f).length≤l.length*n
 |[]=>by simp
 | a :: l => by
   have:=amt f n h l
   have:=h a
   simp only[List.flatMap_cons,List.length_append,List.length_cons,Nat.add_mul,Nat.one_mul]
   omega
theorem aKe {b:á} (hs:Ļ b):aiF b=some (Ï b):=by
 unfold aiF aED
 have hg:=hs.gauges
 have hlen:∀l:List ç,(l.flatMap fun g=>(ß b g).map fun d=>((g.1,d):Int×Int)).length≤l.length*2001:=fun l =>
  amt _ 2001 (fun g=>by rw[List.length_map]; exact aww hs g) l
 refine ù b.2.1 (fun i=>(b.2.1.take i).flatMap fun g=>(ß b g).map fun d=>((g.1,d):Int×Int)) _ rfl (fun i g hi hg' kn=>?_) (fun kn=>?_)
 ·try dsimp only
  unfold ajD
  rw[Ô hi,É hg']
  rw[show ahE ((b.1.1,b.1.2),b.2.1,b.2.2.1,b.2.2.2.1,b.2.2.2.2.1,b.2.2.2.2.2) g=ahE b g from rfl,aXJ hs,À]
  have hd:=aww hs g
  have hi2:=hlen (b.2.1.take i)
  have htl:(b.2.1.take i).length≤1000:=by rw[List.length_take]; omega
  refine ù (ß b g) (fun j=>((b.2.1.take i).flatMap fun g=>(ß b g).map fun d=>((g.1,d):Int×Int))++((ß b g).take j).map fun d=>((g.1,d):Int×Int)) _ (by simp) (fun j d hj hd' kn'=>?_) (fun kn'=>?_)
  ·try dsimp only
   unfold ajC
   rw[Ô hj,É hd',Ì hj (by omega),take_succ hd',List.map_append]
   rw[Ù (by simp only[List.length_append,List.length_map,List.length_take,List.length_singleton]; omega),Am.iff_true]
   simp
  ·try dsimp only
   unfold ajC
   rw[Ý,List.take_length]
   dsimp only
   rw[Ì hi (by omega),take_succ hg',List.flatMap_append]
   simp
 ·try dsimp only
  unfold ajD
  rw[Ý,List.take_length]
  rfl
def anE (b:á) (s:List (Int×ç)):List Int :=
 b.2.2.1.map (fun u=>aVU s u.1 u.2)++(b.2.2.2.1.mapIdx (fun i l=>aHV b s i l)++(b.2.2.2.2.1.mapIdx (fun i c=>ahG b s i c)++b.2.2.2.2.2.map (fun u=>aVU s u.1 u.2)))
theorem aOs {α:Type} {f:Int→Option Int} {g:Nat→α→Int} (l:List α) (h:∀(i:Nat) (a:α),l[i]?=some a→f i=some (g i a)):aCv f (anu l.length)=some (l.mapIdx g):=by
 have h1:∀i,i<l.length→f (i:Int)=some ((l.mapIdx g)[i]?.getD 0):=by
  intro i hi
  rw[h i l[i] (List.getElem?_eq_getElem hi)]
  simp[hi]
 have h2:∀x∈anu l.length,f x=some ((l.mapIdx g)[x.toNat]?.getD 0):=by
  intro x hx
  unfold anu at hx
  obtain⟨i,hi,rfl⟩:=List.mem_map.1 hx
  rw[h1 i (by simpa using hi)]
  rfl
 rw[at6 h2]
 congr 1
 refine List.ext_getElem (by simp[anu]) fun i h3 h4=>?_
 have h5:i<l.length:=by simpa using h4
 simp[anu,h5]
theorem aZi {b:á} (hs:Ļ b) (s:List (Int×ç)):agQ b s=some (anE b s):=by
 unfold agQ anE
 rw[at6 (fun u _=>aNQ s u.1 u.2),À,aOs b.2.2.2.1 (fun i l hl=>aQl hs.loans hs.uses s hl),À,
  aOs b.2.2.2.2.1 (fun i c hc=>aFt hs.compares hs.loans s (hs.piles c (List.mem_of_getElem? hc)).1 (hs.piles c (List.mem_of_getElem? hc)).2 hc),À,at6 (fun u _=>aNQ s u.1 u.2),À]
def à (b:á):Int :=
 if !aer b.1 0 1000000 then 1 else
 if 12<b.2.1.length then 2 else if 40<b.2.2.1.length then 2 else if 12<b.2.2.2.1.length then 2 else if 40<b.2.2.2.2.1.length then 2 else if 10<b.2.2.2.2.2.length then 2 else
 if adZ b != 0 then adZ b else
 match (anE b (adl b)).find? (fun e=>e != 0) with
 |some e=>e
 |none=>if 59<(Ï b).length then 2 else if 300<2*b.2.1.length+2*((Ï b).length-b.2.1.length:Int)+2*b.2.2.2.2.1.length then 2 else 0
theorem aw5 {b:á} (hs:Ļ b):(Ï b).length≤2001000:=by
 have:=amt (fun g:ç=>(ß b g).map fun d=>((g.1,d):Int×Int)) 2001 (fun g=>by rw[List.length_map]; exact aww hs g) b.2.1
 have h2:=hs.gauges
 unfold Ï
 omega
theorem η {b:á} (hs:Ļ b) (hr:∀g∈b.2.1,I64 g.2.2.2.2.1.1):ö b=some (à b):=by
 unfold ö aEO à
 rw[av5,À]
 cases aer b.1 0 1000000 with
 |false=>rfl
 |true =>
 have h1:=hs.gauges
 have h2:=hs.compares
 have h3:=aw5 hs
 rw[Ò (show(!true)=false from rfl),if_neg (by simp)]
 simp only[â]
 by_cases c0:12<b.2.1.length
 ·rw[Õ (by simp[igt]; omega),if_pos c0]
 rw[Ò (by simp[igt]; omega),if_neg c0]
 by_cases c1:40<b.2.2.1.length
 ·rw[Õ (by simp[igt]; omega),if_pos c1]
 rw[Ò (by simp[igt]; omega),if_neg c1]
 by_cases c2:12<b.2.2.2.1.length
 ·rw[Õ (by simp[igt]; omega),if_pos c2]
 rw[Ò (by simp[igt]; omega),if_neg c2]
 by_cases c3:40<b.2.2.2.2.1.length
 ·rw[Õ (by simp[igt]; omega),if_pos c3]
 rw[Ò (by simp[igt]; omega),if_neg c3]
 by_cases c4:10<b.2.2.2.2.2.length
 ·rw[Õ (by simp[igt]; omega),if_pos c4]
 rw[Ò (by simp[igt]; omega),if_neg c4]
 rw[aHY hr h1,À]
 cases hm:(adZ b != 0) with
 | true =>
   have:ine (adZ b) 0=true:=hm
   rw[Õ this,if_pos rfl]
 |false =>
 have:ine (adZ b) 0=false:=hm
 rw[Ò this,if_neg (by simp)]
 rw[aIf h1,À]
 unfold aNJ
 rw[aZi hs,À]
 cases(anE b (adl b)).find? (fun e=>e != 0) with
 |some e=>rfl
 |none =>
 dsimp only
 rw[aKe hs,À]
 by_cases c5:59<(Ï b).length
 ·rw[Õ (by simp[igt]; omega),if_pos c5]
 rw[Ò (by simp[igt]; omega),if_neg c5]
 rw[Û (by omega) (by omega),Û (by omega) (by omega),Û (by omega) (by omega),Û (by omega) (by omega),Û (by omega) (by omega),Û (by omega) (by omega)]
 by_cases c6:300<2*b.2.1.length+2*((Ï b).length-b.2.1.length:Int)+2*b.2.2.2.2.1.length
 ·rw[Õ (by simp[igt]; omega),if_pos c6]
 rw[Ò (by simp[igt]; omega),if_neg c6]
end Go.Proofs.ZzM
end
noncomputable section
namespace Go.Proofs.ZzM
open Go Go.Am
theorem wrapU {n:Nat} (h:n<18446744073709551616):IntKind.wrap .u64 (n:Int)=n:=by
 simp only[IntKind.wrap,IntKind.bits,IntKind.signed]
 simp
 omega
theorem wrapI {n:Nat} (h:n<9223372036854775808):IntKind.wrap .i64 (n:Int)=n:=by
 simp only[IntKind.wrap,IntKind.bits,IntKind.signed]
 simp
 omega
def adJ (l:List (Int×Int)) (x d:Int):Option Nat:=l.findIdx? fun n=>decide (x=n.1)&&decide (d=n.2)
theorem aQN {l:List (Int×Int)} (hn:l.length≤100000000) (x d:Int):ø l (x,d)=some (match adJ l x d with|some j=>(j:Int)|none=>-1):=by
 unfold ø ū
 refine Eq.trans (π l (fun n=>decide (x=n.1)&&decide (d=n.2)) some (some (-1)) (fun i a hi ha kn=>?_) (fun kn=>?_)) ?_
 ·try dsimp only
  unfold Ģ
  rw[Ô hi,É ha,Ì hi (by omega),ď,Bool.and_true]
 ·try dsimp only
  unfold Ģ
  rw[Ý]
 ·unfold adJ
  cases List.findIdx? (fun n=>decide (x=n.1)&&decide (d=n.2)) l<;>rfl
def atP (l:List (Int×Int)) (p:List Int) (d:Int):Int :=
 match p with
 |[]=>0
 |x::_=>match adJ l x d with|some j=>(j:Int)+1|none=>0
theorem afV {l:List (Int×Int)} {x d:Int} {j:Nat} (h:adJ l x d=some j):j<l.length∧l[j]?=some (x,d):=by
 unfold adJ at h
 obtain⟨hj,hp,_⟩:=List.findIdx?_eq_some_iff_getElem.1 h
 refine⟨hj,?_⟩
 rw[List.getElem?_eq_getElem hj]
 simp only[Bool.and_eq_true,decide_eq_true_eq] at hp
 congr 1
 exact Prod.ext hp.1.symm hp.2.symm
theorem aYq (m:Maker) (p:List Int) (d:Int) (hn:m.2.1.length≤100000000):adk m p d=some (atP m.2.1 p d):=by
 unfold adk aoM atP
 cases p with
 |nil=>simp[â,ieq]
 | cons x p =>
   have h:ieq (Ü (x::p)) 0=false:=by
    rw[â]
    simp only[ieq,List.length_cons,beq_eq_false_iff_ne,ne_eq]
    omega
   rw[h,ã,show(0:Int)=((0:Nat):Int) from rfl,É (a:=x) rfl,aQN hn,À]
   cases hx:adJ m.2.1 x d with
   |none=>dsimp only; rw[Û (by omega) (by omega)]; simp only[hx]; rfl
   | some j =>
     have:=(afV hx).1
     dsimp only
     rw[Û (by omega) (by omega)]
     simp only[hx]
def atw (s:List (Int×ç)) (p:List Int):Int×Int :=
 match p with
 |[]=>(0,1)
 | x :: _ => match akz (k := tI) (v := Ð) x s with
   |some g=>g.2.2.2.2.1
   |none=>(0,0)
theorem aNI (s:List (Int×ç)) (p:List Int):adF s p=some (atw s p):=by
 unfold adF ag5 atw
 cases p with
 |nil=>simp[â,ieq]
 | cons x p =>
   have h:ieq (Ü (x::p)) 0=false:=by
    rw[â]
    simp only[ieq,List.length_cons,beq_eq_false_iff_ne,ne_eq]
    omega
   rw[h,ã,show(0:Int)=((0:Nat):Int) from rfl,É (a:=x) rfl]
   cases hx:akz (k:=tI) (v:=Ð) x s with
   |none=>simp only[aNg,hx]
   |some g=>simp only[aNg,hx]
theorem aS2 {l:List (Int×Int)} (hr:∀r∈l,I64 r.1) (hn:l.length≤1000):aeC l=some (if l.any (fun r=>!ayZ r) then 1 else 0):=by
 unfold aeC aEi
 refine Eq.trans (ģ l (fun r=>!ayZ r) (fun _=>some 1) (some 1) (some 0) (fun _=>rfl) (fun i a hi ha kn=>?_) (fun kn=>?_)) ?_
 ·try dsimp only
  unfold ajy
  rw[Ô hi,É ha,aM8 (hr a (List.mem_of_getElem? ha)),À,Ì hi (by omega),ď]
 ·try dsimp only
  unfold ajy
  rw[Ý]
 ·cases l.any (fun r=>!ayZ r)<;>rfl
def ag0 (n d:Int):Int×Int:=(n / (Nat.gcd n.natAbs d.natAbs:Nat),d / (Nat.gcd n.natAbs d.natAbs:Nat))
theorem aeG (r:Int×Int):ayZ r=true↔1≤r.2∧r.2≤2147483647∧(r.1.natAbs:Int)≤2147483647∧Nat.gcd r.1.natAbs r.2.natAbs=1:=by
 simp[ayZ]
theorem apA {n d:Int} (hd:0<d):∃g:Nat,0<g∧g=Nat.gcd n.natAbs d.natAbs∧n=(ag0 n d).1*g∧d=(ag0 n d).2*g:=by
 have hg:0<Nat.gcd n.natAbs d.natAbs:=Nat.gcd_pos_of_pos_right _ (by omega)
 refine⟨_,hg,rfl,?_,?_⟩
 ·exact(Int.ediv_mul_cancel (Int.ofNat_dvd_left.2 (Nat.gcd_dvd_left _ _))).symm
 ·exact(Int.ediv_mul_cancel (Int.ofNat_dvd_left.2 (Nat.gcd_dvd_right _ _))).symm
theorem aJS {n d:Int} (hd:0<d) (hn:n.natAbs≤2147483647) (hd2:d≤2147483647):ayZ (ag0 n d)=true:=by
 obtain⟨g,h0,hg,h1,h2⟩:=apA (n:=n) hd
 rw[aeG]
 have a1:n.natAbs=(ag0 n d).1.natAbs*g:=by conv=>lhs; rw[h1]; rw[Int.natAbs_mul,Int.natAbs_natCast]
 have a2:d.natAbs=(ag0 n d).2.natAbs*g:=by conv=>lhs; rw[h2]; rw[Int.natAbs_mul,Int.natAbs_natCast]
 have p2:0<(ag0 n d).2:=by
  rcases Int.lt_trichotomy (ag0 n d).2 0 with h|h|h
  ·have:=Int.mul_neg_of_neg_of_pos h (show(0:Int)<g by omega); omega
  ·rw[h] at h2; simp at h2; omega
  ·exact h
 have b1:(ag0 n d).1.natAbs≤n.natAbs:=by rw[a1]; exact Nat.le_mul_of_pos_right _ h0
 have b2:(ag0 n d).2.natAbs≤d.natAbs:=by rw[a2]; exact Nat.le_mul_of_pos_right _ h0
 refine⟨by omega,by omega,by omega,?_⟩
 have:=Nat.gcd_mul_right (ag0 n d).1.natAbs g (ag0 n d).2.natAbs
 rw[←a1,←a2,←hg] at this
 have h3:(Nat.gcd (ag0 n d).1.natAbs (ag0 n d).2.natAbs)*g=1*g:=by omega
 exact Nat.eq_of_mul_eq_mul_right h0 h3
theorem aIi {n d:Int} (hd:0<d) (hn:n.natAbs≤2147483647) (hd2:d≤2147483647):aiE n d=some (ag0 n d,0):=by
 obtain⟨g,h0,hg,h1,h2⟩:=apA (n:=n) hd
 have hr:=(aeG _).1 (aJS hd hn hd2)
 unfold aiE asW
 rw[aJN ⟨by omega,by omega⟩,À,aJN ⟨by omega,by omega⟩,À,a0F,À,←hg]
 have a1:n.natAbs=(ag0 n d).1.natAbs*g:=by conv=>lhs; rw[h1]; rw[Int.natAbs_mul,Int.natAbs_natCast]
 have a2:d.natAbs=(ag0 n d).2.natAbs*g:=by conv=>lhs; rw[h2]; rw[Int.natAbs_mul,Int.natAbs_natCast]
 have q1:Int.tdiv (n.natAbs:Int) (g:Int)=((ag0 n d).1.natAbs:Int):=by
  rw[a1,Int.natCast_mul]; exact Int.mul_tdiv_cancel _ (by omega)
 have q2:Int.tdiv (d.natAbs:Int) (g:Int)=((ag0 n d).2.natAbs:Int):=by
  rw[a2,Int.natCast_mul]; exact Int.mul_tdiv_cancel _ (by omega)
 have z:û (g:Int) 0=false:=by simp[û]; omega
 have g1:igt ((ag0 n d).1.natAbs:Int) 2147483647=false:=by simp[igt]; omega
 have g2:igt ((ag0 n d).2.natAbs:Int) 2147483647=false:=by simp[igt]; omega
 rw[Ò z,Ò z,q1,q2,wrapU (by omega),wrapU (by omega),wrapI (by omega),wrapI (by omega),Ò g1,Ò g2]
 have hd0:ilt d 0=false:=by simp[ilt]; omega
 rw[hd0]
 have e2:((ag0 n d).2.natAbs:Int)=(ag0 n d).2:=by omega
 rw[e2]
 by_cases hneg:n<0
 ·have hn0:ilt n 0=true:=by simp[ilt,hneg]
  have:(ag0 n d).1≤0:=by
   rcases Int.lt_or_le 0 (ag0 n d).1 with h|h
   ·have:=Int.mul_pos h (show(0:Int)<g by omega); omega
   ·exact h
  rw[hn0]
  rw[show(!true==false)=true from rfl,Ġ,Û (by omega) (by omega)]
  have:0-((ag0 n d).1.natAbs:Int)=(ag0 n d).1:=by omega
  rw[this]
 ·have hn0:ilt n 0=false:=by simp[ilt]; omega
  have:0≤(ag0 n d).1:=by
   rcases Int.lt_or_le (ag0 n d).1 0 with h|h
   ·have:=Int.mul_neg_of_neg_of_pos h (show(0:Int)<g by omega); omega
   ·exact h
  rw[hn0]
  rw[show(!false==false)=false from rfl,ã]
  have:((ag0 n d).1.natAbs:Int)=(ag0 n d).1:=by omega
  rw[this]
structure aiL (r:Int×Int) (n d:Int):Prop where
 rat:ayZ r=true
 num : -n≤r.1∧r.1≤n
 den:r.2≤d
theorem aiL.pos {r:Int×Int} {n d:Int} (h:aiL r n d):1≤r.2:=((aeG r).1 h.rat).1
theorem aiL.i64 {r:Int×Int} {n d:Int} (h:aiL r n d):I64 r.1:=by
 have:=((aeG r).1 h.rat).2.2.1
 exact⟨by omega,by omega⟩
theorem aV3 {x y:Int×Int} (hx:ayZ x=true) (hy:ayZ y=true):aeC [x,y]=some 0:=by
 rw[aS2]
 ·simp[hx,hy]
 ·intro r hr
  have:ayZ r=true:=by simp at hr; rcases hr with rfl|rfl<;>assumption
  have:=((aeG r).1 this).2.2.1
  exact⟨by omega,by omega⟩
 ·simp
theorem agn {a b m n:Int} (h1 : -m≤a∧a≤m) (h2 : -n≤b∧b≤n) : -(m*n)≤a*b∧a*b≤m*n:=by
 have hm:0≤m:=by omega
 have hn:0≤n:=by omega
 have h3:(a*b).natAbs≤(m*n).natAbs:=by
  rw[Int.natAbs_mul,Int.natAbs_mul]
  exact Nat.mul_le_mul (by omega) (by omega)
 have h4:0≤m*n:=Int.mul_nonneg hm hn
 omega
def subP (x y:Int×Int):Int×Int:=ag0 (x.1*y.2-y.1*x.2) (x.2*y.2)
theorem awQ {x y:Int×Int} (hx:aiL x 1000 100) (hy:aiL y 1000 100):(x.1*y.2-y.1*x.2).natAbs≤200000∧0<x.2*y.2∧x.2*y.2≤10000:=by
 have h1:=agn hx.num (show -100≤y.2∧y.2≤100 from⟨by have:=hy.pos; omega,hy.den⟩)
 have h2:=agn hy.num (show -100≤x.2∧x.2≤100 from⟨by have:=hx.pos; omega,hx.den⟩)
 have h3:=agn (show -100≤x.2∧x.2≤100 from⟨by have:=hx.pos; omega,hx.den⟩) (show -100≤y.2∧y.2≤100 from⟨by have:=hy.pos; omega,hy.den⟩)
 have h4:=Int.mul_pos (show 0<x.2 by have:=hx.pos; omega) (show 0<y.2 by have:=hy.pos; omega)
 refine⟨by omega,h4,by omega⟩
theorem Sub_ok {x y:Int×Int} (hx:aiL x 1000 100) (hy:aiL y 1000 100):aMH x y=some (subP x y,0):=by
 obtain⟨b1,b2,b3⟩:=awQ hx hy
 have h1:=agn hx.num (show -100≤y.2∧y.2≤100 from⟨by have:=hy.pos; omega,hy.den⟩)
 have h2:=agn hy.num (show -100≤x.2∧x.2≤100 from⟨by have:=hx.pos; omega,hx.den⟩)
 unfold aMH aRY
 rw[aV3 hx.rat hy.rat,À]
 rw[show ine (0:Int) 0=false from rfl,ã,Û (by omega) (by omega),Û (by omega) (by omega),Û (by omega) (by omega),Û (by omega) (by omega),aIi b2 (by omega) (by omega),À]
 rfl
theorem aWo {n d:Int} (hd:0<d):(ag0 n d).1.natAbs≤n.natAbs∧(ag0 n d).2≤d:=by
 obtain⟨g,h0,hg,h1,h2⟩:=apA (n:=n) hd
 have a1:n.natAbs=(ag0 n d).1.natAbs*g:=by conv=>lhs; rw[h1]; rw[Int.natAbs_mul,Int.natAbs_natCast]
 have a2:d.natAbs=(ag0 n d).2.natAbs*g:=by conv=>lhs; rw[h2]; rw[Int.natAbs_mul,Int.natAbs_natCast]
 have b1:(ag0 n d).1.natAbs≤n.natAbs:=by rw[a1]; exact Nat.le_mul_of_pos_right _ h0
 have b2:(ag0 n d).2.natAbs≤d.natAbs:=by rw[a2]; exact Nat.le_mul_of_pos_right _ h0
 exact⟨b1,by omega⟩
theorem aBT {x y:Int×Int} (hx:aiL x 1000 100) (hy:aiL y 1000 100):aiL (subP x y) 200000 10000:=by
 obtain⟨b1,b2,b3⟩:=awQ hx hy
 obtain⟨c1,c2⟩:=aWo (n:=x.1*y.2-y.1*x.2) b2
 exact⟨aJS b2 (by omega) (by omega),by unfold subP; omega,by unfold subP; omega⟩
def atW (k:Int×Int) (n:Int):Int×Int:=ag0 (k.1*n) k.2
theorem aw6 {k:Int×Int} (hk:aiL k 200000 10000) {n:Int} (hn : -10000≤n∧n≤10000):(k.1*n).natAbs≤2000000000:=by
 have:=agn hk.num hn
 omega
theorem aSd {n:Int} (hn : -10000≤n∧n≤10000):ayZ (n,1)=true:=by
 rw[aeG]
 exact⟨by simp,by simp,by simp; omega,by simp⟩
theorem a0S {k:Int×Int} (hk:aiL k 200000 10000) {n:Int} (hn : -10000≤n∧n≤10000):aFi k (n,1)=some (atW k n,0):=by
 have b:=aw6 hk hn
 have p:=hk.pos
 have q:=hk.den
 unfold aFi aR0
 rw[aV3 hk.rat (aSd hn),À]
 rw[show ine (0:Int) 0=false from rfl,ã,Û (by simp only; omega) (by simp only; omega),Int.mul_one,Û (by omega) (by omega),aIi (by omega) (by simp only; omega) (by omega),À]
 rfl
theorem aKh {k:Int×Int} (hk:aiL k 200000 10000) {n:Int} (hn : -10000≤n∧n≤10000):aiL (atW k n) 2000000000 10000:=by
 have b:=aw6 hk hn
 have p:=hk.pos
 have q:=hk.den
 obtain⟨c1,c2⟩:=aWo (n:=k.1*n) (show 0<k.2 by omega)
 exact⟨aJS (by omega) (by omega) (by omega),by unfold atW; omega,by unfold atW; omega⟩
def a0L (x y:Int×Int):Int:=if x=y then 0 else if x.1*y.2<y.1*x.2 then -1 else if y.1*x.2<x.1*y.2 then 1 else 0
theorem a0K {x y:Int×Int} {m d:Int} (hx:aiL x m d) (hy:aiL y m d) (hm:m≤2000000000) (hd:d≤10000):aFg x y=some (a0L x y):=by
 have h1:=agn hx.num (show -d≤y.2∧y.2≤d from⟨by have:=hy.pos; have:=hy.den; omega,hy.den⟩)
 have h2:=agn hy.num (show -d≤x.2∧x.2≤d from⟨by have:=hx.pos; have:=hx.den; omega,hx.den⟩)
 have h0:0≤m∧0≤d:=⟨by have:=hx.num; omega,by have:=hx.pos; have:=hx.den; omega⟩
 have h3:m*d≤2000000000*10000:=Int.mul_le_mul hm hd h0.2 (by omega)
 unfold aFg aRW a0L
 rw[Û (by omega) (by omega),Û (by omega) (by omega)]
 simp only[ď,Bool.and_true,Bool.and_eq_true,decide_eq_true_eq,û,ilt,igt,gt_iff_lt]
 have:(x.1=y.1∧x.2=y.2)↔x=y:=⟨fun h=>Prod.ext h.1 h.2,fun h=>by rw[h]; exact⟨rfl,rfl⟩⟩
 simp only[this]
 (repeat' split)<;>rfl
def aKa (k:Int×Int) (heat:Int×Int):(Int×Int)×(Int×Int) :=
 if 0<a0L (atW k heat.1) (atW k heat.2) then(atW k heat.2,atW k heat.1) else(atW k heat.1,atW k heat.2)
theorem a1f {k heat:Int×Int} (hk:aiL k 200000 10000) (hh:aer heat (-10000) 10000=true):ahD k heat=some (aKa k heat):=by
 simp only[aer,Bool.and_eq_true,decide_eq_true_eq] at hh
 obtain⟨h1,h2,h3⟩:=hh
 have n1 : -10000≤heat.1∧heat.1≤10000:=⟨by omega,by omega⟩
 have n2 : -10000≤heat.2∧heat.2≤10000:=⟨by omega,by omega⟩
 have r1:aiL (heat.1,1) 10000 10000:=⟨aSd n1,n1,by simp⟩
 have r2:aiL (heat.2,1) 10000 10000:=⟨aSd n2,n2,by simp⟩
 unfold ahD al5 aFh aEr akg aka
 rw[aV3 r1.rat r2.rat,À]
 have:ieq 0 0=true:=rfl
 rw[Õ this,a0K r1 r2 (by omega) (by omega),À]
 have hc:ile (a0L (heat.1,1) (heat.2,1)) 0=true:=by
  unfold a0L
  simp only[ile,decide_eq_true_eq,Int.mul_one]
  split
  ·omega
  ·split
   ·omega
   ·rw[if_neg (by omega)]; omega
 rw[hc,À]
 simp only[Bool.not_true,ã]
 rw[aM8 hk.i64,hk.rat,À]
 simp only[Bool.not_true,ã]
 rw[a0S hk n1,À,a0S hk n2,À]
 simp only[show ine (0:Int) 0=false from rfl,ã]
 rw[a0K (aKh hk n1) (aKh hk n2) (by omega) (by omega),À]
 unfold aKa
 rw[ď]
 by_cases h:0<a0L (atW k heat.1) (atW k heat.2)
 ·rw[if_pos h,if_pos (by simpa[igt] using h)]; rfl
 ·rw[if_neg h,if_neg (by simpa[igt] using h)]; rfl
def rateK (s:List (Int×ç)) (c:Cmp):Int×Int:=subP (atw s (æ c.2.2.1 c.2.2.2.1)) (atw s (æ c.2.2.2.1 c.2.2.1))
def ķ (b:á) (c:Cmp):(Int×Int)×(Int×Int):=aKa (rateK (adl b) c) c.2.2.2.2.2.2
theorem aP0 {b:á} (hs:Ļ b) {c:Cmp} (hA:c.2.2.1.length≤1000) (hB:c.2.2.2.1.length≤1000)
 (h1:aiL (atw (adl b) (æ c.2.2.1 c.2.2.2.1)) 1000 100) (h2:aiL (atw (adl b) (æ c.2.2.2.1 c.2.2.1)) 1000 100) (hh:aer c.2.2.2.2.2.2 (-10000) 10000=true):ahV b c=some (ķ b c):=by
 unfold ahV ayb
 rw[aIf hs.gauges,À,akd (by omega) (by omega),À,aNI,À,akd (by omega) (by omega),À,aNI,À]
 unfold amC al6
 rw[Sub_ok h1 h2,À,À]
 try dsimp only
 rw[a1f (aBT h1 h2) hh,À]
 rfl
def aem (b:á) (c:Cmp):Int×Int :=
 (((c.2.2.1.length-1:Nat):Int)*b.1.1-((c.2.2.2.1.length-1:Nat):Int)*b.1.2,((c.2.2.1.length-1:Nat):Int)*b.1.2-((c.2.2.2.1.length-1:Nat):Int)*b.1.1)
theorem aTS {b:á} {c:Cmp} (hA:c.2.2.1.length≤1000) (hB:c.2.2.2.1.length≤1000) (h1:0≤b.1.1) (h2:b.1.1≤1000000) (h3:0≤b.1.2) (h4:b.1.2≤1000000):alm b c=some (aem b c):=by
 unfold alm aEK aem
 have e:∀n:Nat,aFZ 0 ((n:Int)-1)=((n-1:Nat):Int):=by
  intro n
  unfold aFZ
  split<;>omega
 have bd:∀(n:Nat) (x:Int),n≤1000→0≤x→x≤1000000→0≤((n-1:Nat):Int)*x∧((n-1:Nat):Int)*x≤1000000000:=by
  intro n x hn h0 hx
  refine⟨Int.mul_nonneg (by omega) h0,?_⟩
  have:=Int.mul_le_mul (show((n-1:Nat):Int)≤1000 by omega) hx h0 (by omega)
  omega
 have b1:=bd _ _ hA h1 h2
 have b2:=bd _ _ hA h3 h4
 have b3:=bd _ _ hB h1 h2
 have b4:=bd _ _ hB h3 h4
 simp only[â]
 rw[Û (by omega) (by omega),Û (by omega) (by omega)]
 simp only[e]
 rw[Û (by omega) (by omega),Û (by omega) (by omega),Û (by omega) (by omega),Û (by omega) (by omega),Û (by omega) (by omega),Û (by omega) (by omega)]
theorem aMB {n d:Int} (hd:1≤d) (hn : -4000000000≤n∧n≤4000000000):ali n d=some (n / d):=by
 unfold ali avy
 have z:û d 0=false:=by simp[û]; omega
 rw[Ò z]
 have t:=Int.mul_tdiv_add_tmod n d
 have b1 : -4000000000≤Int.tdiv n d∧Int.tdiv n d≤4000000000:=by
  have:=Int.natAbs_tdiv_le_natAbs n d
  omega
 rw[Û (by omega) (by omega),Ò z,ď]
 by_cases h:Int.tmod n d<0
 ·rw[if_pos (by simpa[ilt] using h),Û (by omega) (by omega)]
  congr 1
  have h5 : -d<Int.tmod n d:=by
   have h6:=Int.natAbs_tmod n d
   have h7:=Nat.mod_lt n.natAbs (show 0<d.natAbs by omega)
   omega
  refine(Int.ediv_eq_iff_of_pos (by omega)).2 ⟨?_,?_⟩ |>.symm
  ·rw[Int.sub_mul,Int.mul_comm]; omega
  ·rw[Int.sub_mul,Int.mul_comm (Int.tdiv n d)]; omega
 ·rw[if_neg (by simpa[ilt] using h)]
  congr 1
  have h5:Int.tmod n d<d:=by
   have h6:=Int.natAbs_tmod n d
   have h7:=Nat.mod_lt n.natAbs (show 0<d.natAbs by omega)
   omega
  refine(Int.ediv_eq_iff_of_pos (by omega)).2 ⟨?_,?_⟩ |>.symm
  ·rw[Int.mul_comm]; omega
  ·rw[Int.mul_comm (Int.tdiv n d)]; omega
theorem a0y {x:Int×Int} (hx:ayZ x=true):aeC [x]=some 0:=by
 rw[aS2]
 ·simp[hx]
 ·intro r hr
  have:ayZ r=true:=by simp at hr; subst hr; assumption
  have:=((aeG r).1 this).2.2.1
  exact⟨by omega,by omega⟩
 ·simp
def ayH (r:Int×Int):Int:=-(-r.1 / r.2)
theorem aUr {r:Int×Int} (h:ayZ r=true):apd r=some (r.1 / r.2,0):=by
 unfold apd aEu
 have:=(aeG r).1 h
 rw[a0y h,À]
 rw[show ine (0:Int) 0=false from rfl,ã,aMB (by omega) (by omega),À]
theorem ayA {n d:Int} (hd:1≤d):(n / d).natAbs≤n.natAbs:=by
 exact Int.natAbs_ediv_le_natAbs n d
theorem aYT {r:Int×Int} (h:ayZ r=true):awr r=some (ayH r,0):=by
 unfold awr aLS ayH
 have:=(aeG r).1 h
 rw[a0y h,À]
 rw[show ine (0:Int) 0=false from rfl,ã,Û (by omega) (by omega),aMB (by omega) (by omega),À]
 have hb:=ayA (n:=0-r.1) (show 1≤r.2 by omega)
 rw[Û (by omega) (by omega),Int.zero_sub,Int.zero_sub]
def ž (b:á) (c:Cmp):Int×Int :=
 (c.2.2.2.2.1-c.2.2.2.2.2.1-(aem b c).2-(ķ b c).2.1 / (ķ b c).2.2,c.2.2.2.2.1+c.2.2.2.2.2.1-(aem b c).1-ayH (ķ b c).1)
end Go.Proofs.ZzM
end
noncomputable section
namespace Go.Proofs.ZzM
open Go Go.Am
structure ğ (b:á):Prop where
 film:0≤b.1.1∧b.1.1≤b.1.2∧b.1.2≤1000000
 nG:b.2.1.length≤12
 nU:b.2.2.1.length≤40
 nL:b.2.2.2.1.length≤12
 nC:b.2.2.2.2.1.length≤40
 nK:b.2.2.2.2.2.length≤10
 gauge:∀g∈b.2.1,ais g=true
 ids:b.2.1.Pairwise fun a b=>a.1<b.1
 uses:∀u∈b.2.2.1,aVU (adl b) u.1 u.2=0
 loans:∀i l,b.2.2.2.1[i]?=some l→aHV b (adl b) i l=0
 compares:∀i c,b.2.2.2.2.1[i]?=some c→ahG b (adl b) i c=0
 looks:∀u∈b.2.2.2.2.2,aVU (adl b) u.1 u.2=0
 nodes:(Ï b).length≤59
 links:2*(Ï b).length+2*b.2.2.2.2.1.length≤300
theorem amo (b:á):adZ b=0↔(∀g∈b.2.1,ais g=true)∧b.2.1.Pairwise fun a b=>a.1<b.1:=by
 have h0:ħ (ahf b.2.1) 0 b.2.1=none↔(∀g∈b.2.1,ais g=true)∧b.2.1.Pairwise fun a b=>a.1<b.1:=by
  rw[adu,←aM0 (fun g:ç=>g.1) b.2.1]
  constructor
  ·intro h
   have h1:∀(j:Nat) (a:ç),b.2.1[j]?=some a→ais a=true∧ati (fun g:ç=>g.1) b.2.1 j a=false:=by
    intro j a ha
    have:=h j a ha
    rw[Nat.zero_add] at this
    unfold ahf at this
    split at this
    ·cases this
    ·split at this
     ·cases this
     ·rename_i h1 h2
      exact⟨by simpa using h1,by simpa using h2⟩
   refine⟨fun x hx=>?_,fun i a ha=>(h1 i a ha).2⟩
   obtain⟨j,hj,rfl⟩:=List.mem_iff_getElem.1 hx
   exact(h1 j _ (List.getElem?_eq_getElem hj)).1
  ·rintro⟨h1,h2⟩ j a ha
   rw[Nat.zero_add]
   simp[ahf,h1 a (List.mem_of_getElem? ha),h2 j a ha]
 rw[←h0]
 unfold adZ
 cases h:ħ (ahf b.2.1) 0 b.2.1 with
 |none=>simp
 | some e =>
   have:∀(m:List ç) (j:Nat) (x:Int),ħ (ahf b.2.1) j m=some x→x≠0:=by
    intro m
    induction m with
    |nil=>intro j x h; cases h
    | cons a m ih =>
      intro j x h
      unfold ħ at h
      cases hp:ahf b.2.1 j a with
      |none=>rw[hp] at h; exact ih _ _ h
      | some y =>
        rw[hp] at h
        cases h
        unfold ahf at hp
        split at hp
        ·cases hp; omega
        ·split at hp
         ·cases hp; omega
         ·cases hp
   simp[this _ _ _ h]
theorem ð (b:á):à b=0↔ğ b:=by
 unfold à
 constructor
 ·intro h
  split at h
  ·omega
  rename_i h1
  (repeat' split at h)<;>try omega
  ·rename_i hg
   have hg':adZ b≠0:=by simpa using hg
   exact(hg' h).elim
  ·rename_i hf
   have:=List.find?_some hf
   rename_i e
   simp at this
   exact(this h).elim
  ·rename_i hn1 hn2 hn3 hn4 hn5 hg e hf hn6 hn7
   have hg0:adZ b=0:=by simpa using hg
   obtain⟨g1,g2⟩:=(amo b).1 hg0
   have hall:∀x∈anE b (adl b),x=0:=fun x hx=>by
    have:=List.find?_eq_none.1 hf x hx
    simpa using this
   simp only[anE,List.mem_append] at hall
   have hs:aer b.1 0 1000000=true:=by simpa using h1
   simp only[aer,Bool.and_eq_true,decide_eq_true_eq] at hs
   refine⟨⟨hs.1,hs.2.1,hs.2.2⟩,by omega,by omega,by omega,by omega,by omega,g1,g2,fun u hu=>hall _ (.inl (List.mem_map.2 ⟨u,hu,rfl⟩)),fun i l hl=>?_,fun i c hc=>?_,fun u hu=>hall _ (.inr (.inr (.inr (List.mem_map.2 ⟨u,hu,rfl⟩)))),by omega,by omega⟩
   ·obtain⟨hi,rfl⟩:=List.getElem?_eq_some_iff.1 hl
    exact hall _ (.inr (.inl (List.mem_mapIdx.2 ⟨i,hi,rfl⟩)))
   ·obtain⟨hi,rfl⟩:=List.getElem?_eq_some_iff.1 hc
    exact hall _ (.inr (.inr (.inl (List.mem_mapIdx.2 ⟨i,hi,rfl⟩))))
 ·intro h
  have hs:aer b.1 0 1000000=true:=by simp[aer,h.film.1,h.film.2.1,h.film.2.2]
  have hg:adZ b=0:=(amo b).2 ⟨h.gauge,h.ids⟩
  have hall:(anE b (adl b)).find? (fun e=>e != 0)=none:=by
   rw[List.find?_eq_none]
   intro x hx
   simp only[anE,List.mem_append,List.mem_map,List.mem_mapIdx] at hx
   have:x=0:=by
    rcases hx with⟨u,hu,rfl⟩|⟨i,hi,rfl⟩|⟨i,hi,rfl⟩|⟨u,hu,rfl⟩
    ·exact h.uses u hu
    ·exact h.loans i _ (List.getElem?_eq_getElem hi)
    ·exact h.compares i _ (List.getElem?_eq_getElem hi)
    ·exact h.looks u hu
   simp[this]
  have:=h.nG; have:=h.nU; have:=h.nL; have:=h.nC; have:=h.nK; have:=h.nodes; have:=h.links
  rw[hs,hg,hall]
  simp only[Bool.not_true,Bool.false_eq_true,if_false,bne_self_eq_false]
  rw[if_neg (by omega),if_neg (by omega),if_neg (by omega),if_neg (by omega),if_neg (by omega),if_neg (by omega),if_neg (by omega)]
section
variable {b:á}
theorem ĩ {l:List Int} (h:afI l=true):l.length≤6:=((atz l).1 h).2.2
theorem ğ.nums (h:ğ b) {c:Cmp} (hc:c∈b.2.2.2.2.1):aAl c=true:=by
 obtain⟨i,hi,rfl⟩:=List.mem_iff_getElem.1 hc
 have:=h.compares i _ (List.getElem?_eq_getElem hi)
 unfold ahG at this
 split at this
 ·omega
 ·rename_i h; simpa using h
theorem ğ.pilesOf (h:ğ b) {c:Cmp} (hc:c∈b.2.2.2.2.1):aqD b (adl b) c=0:=by
 obtain⟨i,hi,rfl⟩:=List.mem_iff_getElem.1 hc
 have:=h.compares i _ (List.getElem?_eq_getElem hi)
 unfold ahG at this
 split at this
 ·omega
 ·split at this
  ·omega
  ·exact this
theorem Α (c:Cmp):aAl c=true↔(1≤c.1∧c.1≤1099511627776)∧(0≤c.2.1∧c.2.1≤20000)∧(-1125899906842624≤c.2.2.2.2.1∧c.2.2.2.2.1≤1125899906842624)∧(0≤c.2.2.2.2.2.1∧c.2.2.2.2.2.1≤1073741824)∧aer c.2.2.2.2.2.2 (-10000) 10000=true∧afI c.2.2.1=true∧afI c.2.2.2.1=true:=by
 simp[aAl,inP,awN,and_assoc]
theorem ğ.size (h:ğ b):Ļ b:=by
 have h1:=h.nG; have h2:=h.nU; have h3:=h.nL; have h4:=h.nC; have h5:=h.nK
 refine⟨by omega,by omega,by omega,by omega,by omega,fun c hc=>?_⟩
 have:=(Α c).1 (h.nums hc)
 have a:=ĩ this.2.2.2.2.2.1
 have b:=ĩ this.2.2.2.2.2.2
 omega
theorem alb (g:ç):ais g=true↔ayZ g.2.2.2.2.1=true∧(-1000≤g.2.2.2.2.1.1∧g.2.2.2.2.1.1≤1000)∧g.2.2.2.2.1.2≤100∧(1≤g.1∧g.1≤1099511627776)∧(0≤g.2.1∧g.2.1≤20000)∧(1≤g.2.2.1∧g.2.2.1≤1125899906842624)∧(-1073741824≤g.2.2.2.1.1∧g.2.2.2.1.1≤g.2.2.2.1.2∧g.2.2.2.1.2≤1073741824)∧(0≤g.2.2.2.2.2∧g.2.2.2.2.2≤1048576):=by
 simp[ais,inP,awN,aer,and_assoc]
theorem ajH {id:Int} {g:ç} (h:Ŝ b id=some g):g∈b.2.1∧g.1=id:=by
 unfold Ŝ at h
 exact⟨List.mem_of_find?_eq_some h,by simpa using List.find?_some h⟩
theorem amq (hi:b.2.1.Pairwise fun a b=>a.1<b.1) {g:ç} (hg:g∈b.2.1):Ŝ b g.1=some g:=by
 unfold Ŝ
 induction hl:b.2.1 generalizing b with
 |nil=>rw[hl] at hg; cases hg
 | cons a t ih =>
   rw[hl] at hg hi
   rw[List.pairwise_cons] at hi
   rw[List.find?_cons]
   rcases List.mem_cons.1 hg with rfl|hg
   ·simp
   ·have h1:=hi.1 g hg
    have:(a.1==g.1)=false:=by simp; omega
    rw[this]
    have:=ih (b:=(b.1,t,b.2.2)) hi.2 hg rfl
    exact this
theorem aIK (h:ğ b) {id day:Int} (hm:agA (adl b) id day=0):∃g,Ŝ b id=some g∧g.2.1≤day:=by
 unfold agA at hm
 rw[apF h.ids] at hm
 split at hm
 ·rename_i g hg
  split at hm
  ·omega
  ·exact⟨g,hg,by omega⟩
 ·omega
theorem aCw (s:List (Int×ç)) (id day:Int):agA s id day=0∨agA s id day=4∨agA s id day=5:=by
 unfold agA
 split
 ·split<;>simp
 ·simp
theorem ğ.pile (h:ğ b) {c:Cmp} (hc:c∈b.2.2.2.2.1) {x:Int} (hx:x∈c.2.2.1++c.2.2.2.1):(∃g,Ŝ b x=some g∧g.2.1≤c.2.1)∧afF b x c.2.1=none:=by
 have hp:=h.pilesOf hc
 unfold aqD at hp
 split at hp
 ·omega
 rename_i h5
 split at hp
 ·omega
 rename_i h4
 split at hp
 ·omega
 rename_i h9
 have a5:=(List.any_eq_false.1 (Bool.eq_false_iff.2 h5)) x hx
 have a4:=(List.any_eq_false.1 (Bool.eq_false_iff.2 h4)) x hx
 have a9:=(List.any_eq_false.1 (Bool.eq_false_iff.2 h9)) x hx
 simp at a5 a4 a9
 refine⟨aIK h ?_,a9⟩
 rcases aCw (adl b) x c.2.1 with h0|h0|h0
 ·exact h0
 ·exact(a4 h0).elim
 ·exact(a5 h0).elim
theorem ğ.lefts (h:ğ b) {c:Cmp} (hc:c∈b.2.2.2.2.1):(æ c.2.2.1 c.2.2.2.1).length≤1∧(æ c.2.2.2.1 c.2.2.1).length≤1∧(æ c.2.2.1 c.2.2.2.1).length+(æ c.2.2.2.1 c.2.2.1).length≠0:=by
 have hp:=h.pilesOf hc
 unfold aqD at hp
 (repeat' split at hp)<;>first|omega|exact⟨by omega,by omega,by omega⟩
theorem aex {a c:List Int} {x:Int}:x∈æ a c↔x∈a∧x∉c:=by
 simp[æ]
theorem ğ.rate (h:ğ b) {p:List Int} (hp:∀x∈p,∃g,Ŝ b x=some g):aiL (atw (adl b) p) 1000 100:=by
 unfold atw
 cases p with
 | nil =>
   have:aiL (0,1) 1000 100:=⟨by decide,by decide,by decide⟩
   exact this
 | cons x t =>
   obtain⟨g,hg⟩:=hp x (by simp)
   try dsimp only
   rw[apF h.ids,hg]
   have:=(alb g).1 (h.gauge g (ajH hg).1)
   exact⟨this.1,this.2.1,this.2.2.1⟩
theorem ğ.rates (h:ğ b) {c:Cmp} (hc:c∈b.2.2.2.2.1):aiL (atw (adl b) (æ c.2.2.1 c.2.2.2.1)) 1000 100∧aiL (atw (adl b) (æ c.2.2.2.1 c.2.2.1)) 1000 100:=by
 constructor
 ·exact h.rate fun x hx=>by
   obtain⟨⟨g,hg,_⟩,_⟩:=h.pile hc (List.mem_append_left _ (aex.1 hx).1)
   exact⟨g,hg⟩
 ·exact h.rate fun x hx=>by
   obtain⟨⟨g,hg,_⟩,_⟩:=h.pile hc (List.mem_append_right _ (aex.1 hx).1)
   exact⟨g,hg⟩
theorem ğ.growth (h:ğ b) {c:Cmp} (hc:c∈b.2.2.2.2.1):ahV b c=some (ķ b c):=by
 obtain⟨r1,r2⟩:=h.rates hc
 have hn:=(Α c).1 (h.nums hc)
 have a:=ĩ hn.2.2.2.2.2.1
 have b:=ĩ hn.2.2.2.2.2.2
 exact aP0 h.size (by omega) (by omega) r1 r2 hn.2.2.2.2.1
theorem ğ.films (h:ğ b) {c:Cmp} (hA:c.2.2.1.length≤1000) (hB:c.2.2.2.1.length≤1000):alm b c=some (aem b c):=by
 have:=h.film
 exact aTS hA hB (by omega) (by omega) (by omega) (by omega)
theorem aJ9 {k heat:Int×Int} (hk:aiL k 200000 10000) (hh:aer heat (-10000) 10000=true):aiL (aKa k heat).1 2000000000 10000∧aiL (aKa k heat).2 2000000000 10000:=by
 simp only[aer,Bool.and_eq_true,decide_eq_true_eq] at hh
 have r1:=aKh hk (n:=heat.1) ⟨by omega,by omega⟩
 have r2:=aKh hk (n:=heat.2) ⟨by omega,by omega⟩
 unfold aKa
 split
 ·exact⟨r2,r1⟩
 ·exact⟨r1,r2⟩
theorem amu {c:Cmp} (hA:c.2.2.1.length≤1000) (hB:c.2.2.2.1.length≤1000) (h1:0≤b.1.1) (h2:b.1.1≤1000000) (h3:0≤b.1.2) (h4:b.1.2≤1000000) :
 (-1000000000≤(aem b c).1∧(aem b c).1≤1000000000)∧(-1000000000≤(aem b c).2∧(aem b c).2≤1000000000):=by
 have bd:∀(n:Nat) (x:Int),n≤1000→0≤x→x≤1000000→0≤((n-1:Nat):Int)*x∧((n-1:Nat):Int)*x≤1000000000:=by
  intro n x hn h0 hx
  refine⟨Int.mul_nonneg (by omega) h0,?_⟩
  have:=Int.mul_le_mul (show((n-1:Nat):Int)≤1000 by omega) hx h0 (by omega)
  omega
 have b1:=bd _ _ hA h1 h2
 have b2:=bd _ _ hA h3 h4
 have b3:=bd _ _ hB h1 h2
 have b4:=bd _ _ hB h3 h4
 unfold aem
 try dsimp only
 omega
theorem ams {r:Int×Int} (h:aiL r 2000000000 10000) : -2000000000≤r.1 / r.2∧r.1 / r.2≤2000000000:=by
 have:=ayA (n:=r.1) h.pos
 have:=h.num
 omega
theorem aqd {r:Int×Int} (h:aiL r 2000000000 10000) : -2000000000≤ayH r∧ayH r≤2000000000:=by
 have:=ayA (n:=-r.1) h.pos
 have:=h.num
 unfold ayH
 omega
theorem ğ.says (h:ğ b) {c:Cmp} (hc:c∈b.2.2.2.2.1):amB b c=some (ž b c):=by
 obtain⟨r1,r2⟩:=h.rates hc
 have hn:=(Α c).1 (h.nums hc)
 have ha:=ĩ hn.2.2.2.2.2.1
 have hb:=ĩ hn.2.2.2.2.2.2
 have hf:=h.film
 obtain⟨g1,g2⟩:=aJ9 (aBT r1 r2) hn.2.2.2.2.1
 have fb:=amu (b:=b) (c:=c) (by omega) (by omega) (by omega) (by omega) (by omega) (by omega)
 have q1:aiL (ķ b c).1 2000000000 10000:=g1
 have q2:aiL (ķ b c).2 2000000000 10000:=g2
 have c1:=aqd q1
 have c2:=ams q2
 unfold amB aLW ž
 rw[h.growth hc,À,h.films (by omega) (by omega),À,aUr q2.rat,À,aYT q1.rat,À]
 try dsimp only
 have n3:=hn.2.2.1
 have n4:=hn.2.2.2.1
 rw[Û (by omega) (by omega),Û (by omega) (by omega),Û (by omega) (by omega),Û (by omega) (by omega),Û (by omega) (by omega),Û (by omega) (by omega)]
end
def ē (l:aBf) (f t:Int):Int:=min l.2.1.2 (t-1)-max l.2.1.1 f+1
def ĭ (id f t:Int):List aBf→Int
 |[]=>0
 |l::r=>(if l.1=id∧0<ē l f t then ē l f t*l.2.2 else 0)+ĭ id f t r
theorem aoX (id f t:Int):∀(x y:List aBf),ĭ id f t (x++y)=ĭ id f t x+ĭ id f t y
 |[],y=>by simp[ĭ]
 | l :: r, y => by
   simp only[List.cons_append,ĭ,aoX id f t r y]
   omega
def adI (b:á) (id f t:Int):List Int:=(b.2.2.1.filter fun u=>u.1==id&&inP u.2 f (t-1)).map fun u=>u.2
def adE (b:á) (g:ç) (f t:Int):Int:=ĭ g.1 f t b.2.2.2.1+(aNB (adI b g.1 f t)).length*g.2.2.2.2.2
theorem ayq (a c:Int):aPV a c=min a c:=by unfold aPV; split<;>omega
theorem aSg (a c:Int):aFZ a c=max a c:=by unfold aFZ; split<;>omega
theorem ayi {b:á} (h:ğ b) {l:aBf} (hl:l∈b.2.2.2.1):(0≤l.2.1.1∧l.2.1.1≤l.2.1.2∧l.2.1.2≤20000)∧(0≤l.2.2∧l.2.2≤1048576):=by
 obtain⟨i,hi,rfl⟩:=List.mem_iff_getElem.1 hl
 have:=h.loans i _ (List.getElem?_eq_getElem hi)
 unfold aHV at this
 split at this
 ·omega
 rename_i h1
 split at this
 ·omega
 rename_i h2
 simp only[Bool.not_eq_true',Bool.not_eq_false,aer,inP,Bool.and_eq_true,decide_eq_true_eq] at h1 h2
 exact⟨h1,h2⟩
theorem aI3 {l:aBf} (h:(0≤l.2.1.1∧l.2.1.1≤l.2.1.2∧l.2.1.2≤20000)∧(0≤l.2.2∧l.2.2≤1048576)) {f t:Int} (hf:0≤f) (hd:0<ē l f t):0≤ē l f t*l.2.2∧ē l f t*l.2.2≤20001*1048576:=by
 refine⟨Int.mul_nonneg (by omega) h.2.1,Int.mul_le_mul ?_ h.2.2 h.2.1 (by omega)⟩
 unfold ē
 omega
theorem akc {id f t:Int} (hf:0≤f):∀{x:List aBf},(∀l∈x,(0≤l.2.1.1∧l.2.1.1≤l.2.1.2∧l.2.1.2≤20000)∧(0≤l.2.2∧l.2.2≤1048576))→0≤ĭ id f t x∧ĭ id f t x≤x.length*(20001*1048576)
 |[],_=>by simp[ĭ]
 | l :: r, h => by
   have ih:=akc (id:=id) (t:=t) hf (x:=r) fun l hl=>h l (by simp[hl])
   simp only[ĭ,List.length_cons,Int.natCast_succ,Int.add_mul,Int.one_mul]
   split
   ·rename_i hc
    have:=aI3 (h l (by simp)) hf hc.2
    omega
   ·omega
theorem a1m {b:á} (h:ğ b) {g:ç} (hg:0≤g.2.2.2.2.2∧g.2.2.2.2.2≤1048576) {f t:Int} (hf:0≤f∧f≤100000) (ht:0≤t∧t≤100000):ap8 b g f t=some (adE b g f t):=by
 have hL:=h.nL
 have hU:=h.nU
 have hlb:∀i,0≤ĭ g.1 f t (b.2.2.2.1.take i)∧ĭ g.1 f t (b.2.2.2.1.take i)≤12*(20001*1048576):=by
  intro i
  have h1:=akc (id:=g.1) (t:=t) hf.1 (x:=b.2.2.2.1.take i) fun l hl=>ayi h (List.mem_of_mem_take hl)
  have h2:((b.2.2.2.1.take i).length:Int)*(20001*1048576)≤12*(20001*1048576):=Int.mul_le_mul_of_nonneg_right (by rw[List.length_take]; omega) (by omega)
  omega
 unfold ap8 aL4
 refine ő (fun x:Int×Int=>∃i:Nat,i≤b.2.2.2.1.length∧x=(ĭ g.1 f t (b.2.2.2.1.take i),(i:Int))) (fun x=>b.2.2.2.1.length-x.2.toNat) ?_ ⟨0,by omega,rfl⟩
 rintro x ⟨i,hi,rfl⟩
 rcases Nat.lt_or_ge i b.2.2.2.1.length with hlt|hge
 ·have hl:b.2.2.2.1[i]?=some b.2.2.2.1[i]:=List.getElem?_eq_getElem hlt
  have hz:=ayi h (List.mem_of_getElem? hl)
  refine .inr ⟨(ĭ g.1 f t (b.2.2.2.1.take (i+1)),(i:Int)+1),⟨i+1,hlt,by simp⟩,by simp; omega,fun kn=>?_⟩
  try dsimp only
  unfold amc
  have b1:=hlb i
  have b2:=hlb (i+1)
  have e1:ĭ g.1 f t (b.2.2.2.1.take (i+1))=ĭ g.1 f t (b.2.2.2.1.take i)+(if b.2.2.2.1[i].1=g.1∧0<ē b.2.2.2.1[i] f t then ē b.2.2.2.1[i] f t*b.2.2.2.1[i].2.2 else 0):=by
   rw[take_succ hl,aoX]; simp[ĭ]
  rw[Ô hlt,É hl,Û (by omega) (by omega),ayq,aSg,Û (by omega) (by omega),Û (by omega) (by omega)]
  rw[show min b.2.2.2.1[i].2.1.2 (t-1)-max b.2.2.2.1[i].2.1.1 f+1=ē b.2.2.2.1[i] f t from rfl,ď]
  by_cases hid:b.2.2.2.1[i].1=g.1
  ·rw[if_pos (by simpa[ieq] using hid),ď]
   by_cases hd:0<ē b.2.2.2.1[i] f t
   ·have lb:=aI3 hz hf.1 hd
    rw[if_pos ⟨hid,hd⟩] at e1
    rw[if_pos (by simpa[igt] using hd),Û (by omega) (by omega),Û (by omega) (by omega),Ì hlt (by omega),e1]
   ·rw[if_neg (fun hc=>hd hc.2)] at e1
    rw[if_neg (by simpa[igt] using hd),Ì hlt (by omega),e1,Int.add_zero]
  ·rw[if_neg (fun hc=>hid hc.1)] at e1
   rw[if_neg (by simpa[ieq] using hid),Ì hlt (by omega),e1,Int.add_zero]
 ·refine .inl fun kn=>?_
  have:i=b.2.2.2.1.length:=by omega
  subst this
  try dsimp only
  unfold amc
  rw[Ý,List.take_length]
  have hud:∀x:List (Int×Int),x.length≤40→((x.filter fun u=>u.1==g.1&&inP u.2 f (t-1)).map fun u=>u.2).length≤40:=by
   intro x hx
   rw[List.length_map]
   exact Nat.le_trans (List.length_filter_le _ _) hx
  refine ù b.2.2.1 (fun i=>((b.2.2.1.take i).filter fun u=>u.1==g.1&&inP u.2 f (t-1)).map fun u=>u.2) _ rfl (fun i u hi hu kn'=>?_) (fun kn'=>?_)
  ·try dsimp only
   unfold amb
   have hx:=hud (b.2.2.1.take i) (by rw[List.length_take]; omega)
   rw[Ô hi,É hu,Û (by omega) (by omega),θ,À,Ù (by simp only[List.length_singleton]; omega),Am.iff_true,Ì hi (by omega),Ì hi (by omega),take_succ hu,List.filter_append,List.map_append]
   cases h1:(u.1==g.1) with
   | false =>
     have:ieq u.1 g.1=false:=h1
     simp only[this,ã,List.filter_cons,h1,Bool.false_and,Bool.false_eq_true,if_false,List.filter_nil,List.map_nil,List.append_nil]
   | true =>
     have:ieq u.1 g.1=true:=h1
     rw[this]
     cases h2:inP u.2 f (t-1) with
     |false=>simp only[Ġ,ã,List.filter_cons,h1,h2,Bool.true_and,Bool.false_eq_true,if_false,List.filter_nil,List.map_nil,List.append_nil]
     |true=>simp only[Ġ,List.filter_cons,h1,h2,Bool.true_and,if_true,List.filter_nil,List.map_nil,List.map_cons]
  ·try dsimp only
   unfold amb
   rw[Ý,List.take_length]
   rw[show((b.2.2.1.filter fun u=>u.1==g.1&&inP u.2 f (t-1)).map fun u=>u.2)=adI b g.1 f t from rfl]
   have h40:(adI b g.1 f t).length≤40:=hud _ hU
   have hc40:(aNB (adI b g.1 f t)).length≤40:=by
    have:=ats (adI b g.1 f t)
    omega
   have hm:0≤((aNB (adI b g.1 f t)).length:Int)*g.2.2.2.2.2∧((aNB (adI b g.1 f t)).length:Int)*g.2.2.2.2.2≤40*1048576 :=
    ⟨Int.mul_nonneg (by omega) hg.1,Int.mul_le_mul (by omega) hg.2 hg.1 (by omega)⟩
   have b1:=hlb b.2.2.2.1.length
   rw[List.take_length] at b1
   dsimp only
   rw[Ù (by omega),Am.iff_true,Ù (by rw[aNx]; omega),Am.iff_true,aWg,â,Û (by omega) (by omega),Û (by omega) (by omega)]
   rfl
end Go.Proofs.ZzM
end
noncomputable section
namespace Go.Proofs.ZzM
open Go Go.Am
abbrev Lk:Type:=Int×Int×Int
inductive Wl (L:List Lk) (S:Int→Prop):List Int→Int→Int→Prop
 |nil {v:Int}:S v→Wl L S [] v 0
 |step {vs:List Int} {u v m d:Int}:Wl L S vs u d→(u,v,m)∈L→Wl L S (u::vs) v (d+m)
def Pot (L:List Lk) (p:Int→Int):Prop:=∀u v m,(u,v,m)∈L→p v≤p u+m
def InR (L:List Lk) (N:Nat):Prop:=∀l∈L,(0≤l.1∧l.1<N)∧(0≤l.2.1∧l.2.1<N)
section
variable {L:List Lk} {S:Int→Prop} {N:Nat} {p:Int→Int}
theorem Wl.cut (hp:Pot L p) {vs:List Int} {v d:Int} (h:Wl L S vs v d):∀x∈vs,∃vs1 d1,Wl L S vs1 x d1∧(x::vs1) <:+ vs∧d1+(p v-p x)≤d:=by
 induction h with
 |nil h=>intro x hx; cases hx
 | @step vs u v m d hw hl ih =>
   intro x hx
   have h1:=hp u v m hl
   rcases List.mem_cons.1 hx with rfl|hx
   ·exact⟨vs,d,hw,List.suffix_refl _,by omega⟩
   ·obtain⟨vs1,d1,g1,g2,g3⟩:=ih x hx
    exact⟨vs1,d1,g1,g2.trans (List.suffix_cons _ _),by omega⟩
theorem Wl.simple (hp:Pot L p) {vs:List Int} {v d:Int} (h:Wl L S vs v d):∃vs' d',Wl L S vs' v d'∧d'≤d∧(v::vs').Nodup:=by
 induction h with
 |nil h=>exact⟨[],0,.nil h,Int.le_refl _,by simp⟩
 | @step vs u v m d hw hl ih =>
   obtain⟨vs1,d1,g1,g2,g3⟩:=ih
   have hw1:=Wl.step g1 hl
   by_cases hv:v∈u::vs1
   ·obtain⟨vs2,d2,k1,k2,k3⟩:=hw1.cut hp v hv
    exact⟨vs2,d2,k1,by omega,g3.sublist k2.sublist⟩
   ·exact⟨u::vs1,d1+m,hw1,by omega,List.nodup_cons.2 ⟨hv,g3⟩⟩
theorem Wl.range (hL:InR L N) (hS:∀v,S v→0≤v∧v<N) {vs:List Int} {v d:Int} (h:Wl L S vs v d):(0≤v∧v<N)∧∀u∈vs,0≤u∧u<N:=by
 induction h with
 |nil h=>exact⟨hS _ h,fun u hu=>by cases hu⟩
 | @step vs u v m d hw hl ih =>
   refine⟨(hL _ hl).2,fun w hw'=>?_⟩
   rcases List.mem_cons.1 hw' with rfl|h
   ·exact ih.1
   ·exact ih.2 w h
theorem aTk:∀(N:Nat) (l:List Int),l.Nodup→(∀x∈l,0≤x∧x<N)→l.length≤N
 | 0, l, _, h => by
   cases l with
   |nil=>simp
   |cons a l=>have:=h a (by simp); omega
 | N + 1, l, hn, h => by
   have h1:(l.erase (N:Int)).length≤N:=aTk N _ (hn.erase _) fun x hx=>by
    have h2:=(hn.mem_erase_iff).1 hx
    have:=h x h2.2
    have:=h2.1
    omega
   have:=List.length_erase (a:=(N:Int)) (l:=l)
   split at this<;>omega
theorem Wl.short (hL:InR L N) (hS:∀v,S v→0≤v∧v<N) {vs:List Int} {v d:Int} (h:Wl L S vs v d) (hn:(v::vs).Nodup):vs.length+1≤N:=by
 have:=h.range hL hS
 exact aTk N (v::vs) hn fun x hx=>by
  rcases List.mem_cons.1 hx with rfl|hx
  ·exact this.1
  ·exact this.2 x hx
def aAm (f:Lk→Bool):List Lk→Int
 |[]=>0
 |l::t=>(if f l then min l.2.2 0 else 0)+aAm f t
theorem aWO (f:Lk→Bool):∀L:List Lk,aAm (fun _=>true) L≤aAm f L
 |[]=>Int.le_refl _
 | l :: t => by
   have:=aWO f t
   simp only[aAm,if_true]
   split<;>omega
theorem alw (f:Lk→Bool):∀L:List Lk,aAm f L≤0
 |[]=>Int.le_refl _
 | l :: t => by
   have:=alw f t
   simp only[aAm]
   split<;>omega
theorem aTA {f:Lk→Bool} {l:Lk} (hf:f l=true):∀{L:List Lk},l∈L→aAm f L≤l.2.2
 | a :: t, h => by
   simp only[aAm]
   rcases List.mem_cons.1 h with rfl|h
   ·have:=alw f t
    rw[if_pos hf]; omega
   ·have:=aTA hf h
    split<;>omega
theorem aWN {f g:Lk→Bool} (h:∀l,f l=true→g l=false):∀L:List Lk,aAm (fun l=>f l||g l) L=aAm f L+aAm g L
 |[]=>rfl
 | l :: t => by
   have ih:=aWN h t
   simp only[aAm,ih]
   by_cases hf:f l=true
   ·simp[hf,h l hf]; omega
   ·have hf':f l=false:=by simpa using hf
    by_cases hg:g l=true
    ·simp[hf',hg]; omega
    ·simp[hf',hg]
theorem Wl.low {vs:List Int} {v d:Int} (h:Wl L S vs v d):vs.Nodup→aAm (fun l=>vs.contains l.1) L≤d:=by
 induction h with
 |nil h=>intro _; exact alw _ _
 | @step vs u v m d hw hl ih =>
   intro hn
   rw[List.nodup_cons] at hn
   have h1:=ih hn.2
   have h2:aAm (fun l=>l.1==u) L≤m:=aTA (f:=fun l=>l.1==u) (l:=(u,v,m)) (by simp) hl
   have h3:=aWN (f:=fun l:Lk=>l.1==u) (g:=fun l=>vs.contains l.1) (fun l hf=>by
    simp only[beq_iff_eq] at hf
    rw[hf]
    simpa using hn.1) L
   have h4:(fun l:Lk=>(u::vs).contains l.1)=fun l=>(l.1==u)||vs.contains l.1:=by funext l; rw[List.contains_cons]
   rw[h4,h3]
   omega
def aBq (L:List Lk):Int:=aAm (fun _=>true) L
theorem Wl.low' (hp:Pot L p) {vs:List Int} {v d:Int} (h:Wl L S vs v d):aBq L≤d:=by
 obtain⟨vs',d',h1,h2,h3⟩:=h.simple hp
 have:=h1.low (List.nodup_cons.1 h3).2
 have:=aWO (fun l=>vs'.contains l.1) L
 unfold aBq
 omega
theorem Wl.high {M:Int} (hM:∀l∈L,l.2.2≤M) {vs:List Int} {v d:Int} (h:Wl L S vs v d):d≤vs.length*M:=by
 induction h with
 |nil h=>simp
 | @step vs u v m d hw hl ih =>
   have:=hM _ hl
   simp only[List.length_cons,Int.natCast_succ,Int.add_mul,Int.one_mul]
   simp only at this
   omega
theorem Wl.mono {S':Int→Prop} (hS:∀v,S v→S' v) {vs:List Int} {v d:Int} (h:Wl L S vs v d):Wl L S' vs v d:=by
 induction h with
 |nil h=>exact .nil (hS _ h)
 |step hw hl ih=>exact .step ih hl
theorem Wl.pot (hp:Pot L p) {vs:List Int} {v d:Int} (h:Wl L S vs v d):∃s,S s∧p v-p s≤d:=by
 induction h with
 | @nil v h=>exact⟨v,h,by omega⟩
 | @step vs u v m d hw hl ih =>
   obtain⟨s,h1,h2⟩:=ih
   have:=hp u v m hl
   exact⟨s,h1,by omega⟩
end
abbrev ade:Int:=1152921504606846976
structure aVY (L:List Lk) (S:Int→Prop) (N:Nat) (x:Int→Int):Prop where
 att:∀v:Int,0≤v→v<N→x v≠ade→∃vs,Wl L S vs v (x v)
 low:∀v vs d,Wl L S vs v d→x v≤d
 bd:∀v:Int,0≤v→v<N→x v≤ade
theorem aVY.uniq {L:List Lk} {S:Int→Prop} {N:Nat} {x y:Int→Int} (hx:aVY L S N x) (hy:aVY L S N y) {v:Int} (h0:0≤v) (h1:v<N):x v=y v:=by
 have key:∀{x y:Int→Int},aVY L S N x→aVY L S N y→x v≤y v:=by
  intro x y hx hy
  by_cases h:y v=ade
  ·rw[h]; exact hx.bd v h0 h1
  ·obtain⟨vs,hw⟩:=hy.att v h0 h1 h
   exact hx.low v vs _ hw
 exact Int.le_antisymm (key hx hy) (key hy hx)
def gv (x:List Int) (v:Int):Int:=x[v.toNat]?.getD 0
theorem aTL {x:List Int} {v:Int} (h:v.toNat<x.length):x[v.toNat]?=some (gv x v):=by
 unfold gv; rw[List.getElem?_eq_getElem h]; rfl
theorem ao3 {x:List Int} {u v:Int} (hu:0≤u) (hv:0≤v) (h:u.toNat<x.length) (y:Int):gv (x.set u.toNat y) v=if v=u then y else gv x v:=by
 unfold gv
 rw[List.getElem?_set]
 by_cases hvu:v=u
 ·subst hvu; simp[h]
 ·have:¬u.toNat=v.toNat:=by omega
  simp[hvu,this]
theorem aTM {x y:List Int} (hl:x.length=y.length) (h:∀v:Int,0≤v→v<x.length→gv x v=gv y v):x=y:=by
 refine List.ext_getElem hl fun i h1 h2=>?_
 have:=h i (by omega) (by omega)
 unfold gv at this
 simpa[h1,h2] using this
def afO (x:List Int) (l:Lk):List Int:=if gv x l.1<ade∧gv x l.1+l.2.2<gv x l.2.1 then x.set l.2.1.toNat (gv x l.1+l.2.2) else x
def aAi (L:List Lk) (x:List Int):List Int:=L.foldl afO x
def afg (L:List Lk):Nat→List Int→List Int
 |0,x=>x
 |n+1,x=>afg L n (aAi L x)
theorem ahj (x:List Int) (l:Lk):(afO x l).length=x.length:=by unfold afO; split<;>simp
theorem anD (L:List Lk):∀x:List Int,(aAi L x).length=x.length:=by
 induction L with
 |nil=>intro x; rfl
 |cons l t ih=>intro x; show(aAi t (afO x l)).length=_; rw[ih,ahj]
theorem Ś (L:List Lk):∀(n:Nat) (x:List Int),(afg L n x).length=x.length
 |0,x=>rfl
 |n+1,x=>by rw[afg,Ś L n,anD]
theorem ar8 (L:List Lk):∀(n:Nat) (x:List Int),afg L (n+1) x=aAi L (afg L n x)
 |0,x=>rfl
 |n+1,x=>by rw[afg,ar8 L n]; rfl
section
variable {L0:List Lk} {S:Int→Prop} {N:Nat}
theorem aNH {x:List Int} {l:Lk} (hl:(0≤l.1∧l.1<N)∧(0≤l.2.1∧l.2.1<N)) (hx:x.length=N) (v:Int) (hv:0≤v):gv (afO x l) v≤gv x v:=by
 unfold afO
 split
 ·rename_i h
  rw[ao3 hl.2.1 hv (by omega)]
  split
  ·rename_i h2; subst h2; omega
  ·exact Int.le_refl _
 ·exact Int.le_refl _
theorem atB:∀{L:List Lk},InR L N→∀{x:List Int},x.length=N→∀v,0≤v→gv (aAi L x) v≤gv x v
 |[],_,x,_,v,_=>Int.le_refl _
 | l :: t, hL, x, hx, v, hv => by
   have h1:=aNH (hL l (by simp)) hx v hv
   have h2:=atB (L:=t) (fun l hl=>hL l (by simp[hl])) (x:=afO x l) (by rw[ahj,hx]) v hv
   show gv (aAi t (afO x l)) v≤_
   omega
theorem awY:∀{L:List Lk},InR L N→∀{x:List Int},x.length=N→∀u v m,(u,v,m)∈L→gv x u<ade→gv (aAi L x) v≤gv x u+m
 | l :: t, hL, x, hx, u, v, m, hm, hf => by
   have ht:InR t N:=fun l hl=>hL l (by simp[hl])
   have hx':(afO x l).length=N:=by rw[ahj,hx]
   show gv (aAi t (afO x l)) v≤_
   rcases List.mem_cons.1 hm with rfl|hm
   ·have hl:=hL (u,v,m) (by simp)
    have h2:=atB ht hx' v hl.2.1
    have h3:gv (afO x (u,v,m)) v≤gv x u+m:=by
     unfold afO
     split
     ·rw[ao3 hl.2.1 hl.2.1 (by simp only at hl; simp only; omega),if_pos rfl]; exact Int.le_refl _
     ·rename_i h; simp only[not_and,Int.not_lt] at h; exact h hf
    omega
   ·have hl:=hL (u,v,m) (by simp[hm])
    have h1:=aNH (hL l (by simp)) hx u hl.1.1
    have:=awY ht hx' u v m hm (by omega)
    omega
def Att (L0:List Lk) (S:Int→Prop) (N:Nat) (x:List Int):Prop:=∀v:Int,0≤v→v<N→gv x v<ade→∃vs,Wl L0 S vs v (gv x v)
theorem aUG {x:List Int} {l:Lk} (hl:(0≤l.1∧l.1<N)∧(0≤l.2.1∧l.2.1<N)) (hm:l∈L0) (hx:x.length=N) (h:Att L0 S N x):Att L0 S N (afO x l):=by
 unfold afO
 split
 ·rename_i hc
  intro v h0 h1 hf
  rw[ao3 hl.2.1 h0 (by omega)] at hf ⊢
  split
  ·rename_i h2
   obtain⟨vs,hw⟩:=h l.1 hl.1.1 hl.1.2 hc.1
   exact⟨_,h2▸Wl.step hw hm⟩
  ·rename_i h2
   rw[if_neg h2] at hf
   exact h v h0 h1 hf
 ·exact h
theorem aNP:∀{L:List Lk},InR L N→(∀l∈L,l∈L0)→∀{x:List Int},x.length=N→Att L0 S N x→Att L0 S N (aAi L x)
 |[],_,_,_,_,h=>h
 |l::t,hL,hsub,x,hx,h=>aNP (L:=t) (fun l hl=>hL l (by simp[hl])) (fun l hl=>hsub l (by simp[hl])) (x:=afO x l) (by rw[ahj,hx]) (aUG (hL l (by simp)) (hsub l (by simp)) hx h)
theorem aIm (hL:InR L0 N):∀(n:Nat) {x:List Int},x.length=N→Att L0 S N x→Att L0 S N (afg L0 n x)
 |0,_,_,h=>h
 |n+1,x,hx,h=>aIm hL n (by rw[anD,hx]) (aNP hL (fun _ h=>h) hx h)
theorem atA (hL:InR L0 N):∀(n:Nat) {x:List Int},x.length=N→∀v,0≤v→gv (afg L0 n x) v≤gv x v
 |0,_,_,_,_=>Int.le_refl _
 |n+1,x,hx,v,hv=>Int.le_trans (atA hL n (by rw[anD,hx]) v hv) (atB hL hx v hv)
def alr (S:Int→Bool) (N:Nat):List Int:=(List.range N).map fun(i:Nat)=>if S i then 0 else ade
theorem adM (S:Int→Bool) {N:Nat} {v:Int} (h0:0≤v) (h1:v<N):gv (alr S N) v=if S v then 0 else ade:=by
 unfold gv alr
 have:v.toNat<N:=by omega
 rw[List.getElem?_map,List.getElem?_range this]
 simp only[Option.map_some,Option.getD_some]
 rw[Int.toNat_of_nonneg h0]
theorem ą (S:Int→Bool) (N:Nat):(alr S N).length=N:=by simp[alr]
end
theorem awX {L:List Lk} {S:Int→Bool} {N:Nat} {M:Int} (hL:InR L N) (hS:∀v,S v=true→0≤v∧v<N) (hM:∀l∈L,l.2.2≤M):∀(n:Nat),n*M<ade→0≤M→∀vs v d,Wl L (fun v=>S v=true) vs v d→vs.length≤n→gv (afg L n (alr S N)) v≤d
 | 0, _, _, vs, v, d, hw, hl => by
   cases hw with
   | nil h =>
     have:=hS v h
     rw[afg,adM S this.1 this.2,if_pos h]; exact Int.le_refl _
   |step=>simp at hl
 | n + 1, hn, hM0, vs, v, d, hw, hl => by
   have hn':n*M<ade:=by rw[Int.natCast_succ,Int.add_mul,Int.one_mul] at hn; omega
   have hlen:(afg L n (alr S N)).length=N:=by rw[Ś,ą]
   rw[ar8]
   cases hw with
   | nil h =>
     have h1:=atB hL hlen v (hS v h).1
     have h2:=awX hL hS hM n hn' hM0 [] v 0 (.nil h) (by simp)
     omega
   | @step vs u _ m d hw hlk =>
     have h2:=awX hL hS hM n hn' hM0 vs u d hw (by simpa using hl)
     have h3:=hw.high hM
     have h4:(vs.length:Int)*M≤n*M:=Int.mul_le_mul_of_nonneg_right (by simp at hl; omega) hM0
     have:=awY hL hlen u v m hlk (by omega)
     omega
theorem aCa {L:List Lk} {S:Int→Bool} {N:Nat} {M:Int} {p:Int→Int} (hp:Pot L p) (hL:InR L N) (hS:∀v,S v=true→0≤v∧v<N) (hM:∀l∈L,l.2.2≤M) (hM0:0≤M) (hN:N*M<ade) (n:Nat) (hn:N≤n+1):aVY L (fun v=>S v=true) N (gv (afg L n (alr S N))):=by
 have hatt:Att L (fun v=>S v=true) N (alr S N):=fun v h0 h1 hf=>by
  rw[adM S h0 h1] at hf ⊢
  split
  ·rename_i h; exact⟨[],.nil h⟩
  ·rename_i h; rw[if_neg h] at hf; omega
 have hbd:∀v:Int,0≤v→v<N→gv (afg L n (alr S N)) v≤ade:=fun v h0 h1=>by
  have:=atA hL n (ą S N) v h0
  rw[adM S h0 h1] at this
  have hF:(0:Int)≤ade:=by decide
  split at this<;>omega
 have hlow:∀(n:Nat),N≤n+1→∀v vs d,Wl L (fun v=>S v=true) vs v d→gv (afg L n (alr S N)) v≤d:=by
  intro n hn v vs d hw
  obtain⟨vs',d',h1,h2,h3⟩:=hw.simple hp
  have h4:=h1.short hL hS h3
  have hpos:0<N:=by omega
  obtain⟨k,rfl⟩:∃k,N=k+1:=⟨N-1,by omega⟩
  have hk:(k:Int)*M<ade:=by rw[Int.natCast_succ,Int.add_mul,Int.one_mul] at hN; omega
  have h5:=awX hL hS hM k hk hM0 vs' v d' h1 (by omega)
  obtain⟨j,rfl⟩:∃j,n=k+j:=⟨n-k,by omega⟩
  have h6:∀(j:Nat),gv (afg L (k+j) (alr S (k+1))) v≤gv (afg L k (alr S (k+1))) v:=by
   intro j
   induction j with
   |zero=>exact Int.le_refl _
   | succ j ih =>
     rw[←Nat.add_assoc,ar8]
     have:=atB hL (x:=afg L (k+j) (alr S (k+1))) (by rw[Ś,ą]) v (h1.range hL hS).1.1
     omega
  have:=h6 j
  omega
 exact⟨fun v h0 h1 hne=>aIm hL n (ą S N) hatt v h0 h1 (by have:=hbd v h0 h1; omega),hlow n hn,hbd⟩
theorem aVY.pot {L:List Lk} {S:Int→Prop} {N:Nat} {x:Int→Int} (h:aVY L S N x) (hL:InR L N) {u v m:Int} (hl:(u,v,m)∈L) (hf:x u≠ade):x v≤x u+m:=by
 obtain⟨vs,hw⟩:=h.att u (hL _ hl).1.1 (hL _ hl).1.2 hf
 exact h.low v _ _ (.step hw hl)
end Go.Proofs.ZzM
end
noncomputable section
namespace Go.Proofs.ZzM
open Go Go.Am
def ó (b:á) (g:ç):List Lk :=
 [(0,atP (Ï b) [g.1] g.2.1,g.2.2.1+g.2.2.2.1.2),(atP (Ï b) [g.1] g.2.1,0,-(g.2.2.1+g.2.2.2.1.1))] ++
 (List.range ((ß b g).length-1)).flatMap fun(k:Nat)=>[(atP (Ï b) [g.1] g.2.1+k,atP (Ï b) [g.1] g.2.1+k+1,0),(atP (Ï b) [g.1] g.2.1+k+1,atP (Ï b) [g.1] g.2.1+k,adE b g ((ß b g)[k]?.getD 0) ((ß b g)[k+1]?.getD 0))]
def cx (b:á) (c:Cmp):Int:=atP (Ï b) (æ c.2.2.1 c.2.2.2.1) c.2.1
def cy (b:á) (c:Cmp):Int:=atP (Ï b) (æ c.2.2.2.1 c.2.2.1) c.2.1
def ā (b:á) (c:Cmp):List Lk:=[(cy b c,cx b c,(ž b c).2),(cx b c,cy b c,-(ž b c).1)]
def Ú (b:á):List Lk:=b.2.1.flatMap (ó b)++b.2.2.2.2.1.flatMap (ā b)
def ñ (b:á) (i:Nat) (g:ç):List (Int×Int):=[(1,(i:Int)),(1,(i:Int))]++(List.range ((ß b g).length-1)).flatMap fun _=>[(2,(i:Int)),(2,(i:Int))]
def ř (b:á):List (Int×Int):=(b.2.1.mapIdx (ñ b)).flatten++(b.2.2.2.2.1.mapIdx fun i _=>[(3,(i:Int)),(3,(i:Int))]).flatten
section
variable {b:á}
theorem aNk (h:ğ b) {id day:Int} (hu:aVU (adl b) id day=0):(0≤day∧day≤20000)∧∃g,Ŝ b id=some g∧g.2.1≤day:=by
 unfold aVU at hu
 split at hu
 ·omega
 ·rename_i hd
  simp only[Bool.not_eq_true',Bool.not_eq_false,awN,inP,Bool.and_eq_true,decide_eq_true_eq] at hd
  exact⟨hd,aIK h hu⟩
theorem aeD {g:ç} {d:Int}:d∈ß b g↔d=g.2.1∨(∃c∈b.2.2.2.2.1,(c.2.2.1.contains g.1)≠(c.2.2.2.1.contains g.1)∧c.2.1=d)∨(∃n∈b.2.2.2.2.2,n.1=g.1∧n.2=d):=by
 unfold ß
 rw[apz,aSr]
 simp only[List.mem_append,List.mem_singleton,List.mem_map,List.mem_filter]
 constructor
 ·rintro((h|⟨c,⟨h1,h2⟩,h3⟩)|⟨n,⟨h1,h2⟩,h3⟩)
  ·exact .inl h
  ·exact .inr (.inl ⟨c,h1,by simpa using h2,h3⟩)
  ·exact .inr (.inr ⟨n,h1,by simpa using h2,h3⟩)
 ·rintro(h|⟨c,h1,h2,h3⟩|⟨n,h1,h2,h3⟩)
  ·exact .inl (.inl h)
  ·exact .inl (.inr ⟨c,⟨h1,by simpa using h2⟩,h3⟩)
  ·exact .inr ⟨n,⟨h1,by simpa using h2⟩,h3⟩
theorem ğ.gaugeR (h:ğ b) {g:ç} (hg:g∈b.2.1):ayZ g.2.2.2.2.1=true∧(-1000≤g.2.2.2.2.1.1∧g.2.2.2.2.1.1≤1000)∧g.2.2.2.2.1.2≤100∧(1≤g.1∧g.1≤1099511627776)∧(0≤g.2.1∧g.2.1≤20000)∧(1≤g.2.2.1∧g.2.2.1≤1125899906842624)∧(-1073741824≤g.2.2.2.1.1∧g.2.2.2.1.1≤g.2.2.2.1.2∧g.2.2.2.1.2≤1073741824)∧(0≤g.2.2.2.2.2∧g.2.2.2.2.2≤1048576):=(alb g).1 (h.gauge g hg)
theorem ğ.day (h:ğ b) {g:ç} (hg:g∈b.2.1) {d:Int} (hd:d∈ß b g):g.2.1≤d∧0≤d∧d≤20000:=by
 have hr:=h.gaugeR hg
 have hgo:=amq h.ids hg
 rcases aeD.1 hd with rfl|⟨c,hc,h1,rfl⟩|⟨n,hn,h1,rfl⟩
 ·have:=hr.2.2.2.2.1; omega
 ·have hn:=(Α c).1 (h.nums hc)
  have hx:g.1∈c.2.2.1++c.2.2.2.1:=by
   rw[List.mem_append]
   by_cases h2:g.1∈c.2.2.1
   ·exact .inl h2
   ·refine .inr ?_
    have e1:c.2.2.1.contains g.1=false:=by simpa using h2
    rw[e1] at h1
    have:c.2.2.2.1.contains g.1=true:=by cases hh:c.2.2.2.1.contains g.1<;>simp_all
    simpa using this
  obtain⟨⟨g',h3,h4⟩,_⟩:=h.pile hc hx
  rw[hgo] at h3; cases h3
  have:=hn.2.1
  omega
 ·obtain⟨h2,g',h3,h4⟩:=aNk h (h.looks n hn)
  rw[h1,hgo] at h3; cases h3
  omega
theorem aeN (g:ç):g.2.1∈ß b g:=aeD.2 (.inl rfl)
theorem awv (h:ğ b) {g:ç} (hg:g∈b.2.1):(ß b g).length≤59:=by
 have h1:∀l:List ç,g∈l→(ß b g).length≤(l.flatMap fun g=>(ß b g).map fun d=>((g.1,d):Int×Int)).length:=by
  intro l
  induction l with
  |nil=>intro hg; cases hg
  | cons a t ih =>
    intro hg
    rw[List.flatMap_cons,List.length_append,List.length_map]
    rcases List.mem_cons.1 hg with rfl|hg
    ·omega
    ·have:=ih hg; omega
 have:=h1 b.2.1 hg
 have:=h.nodes
 unfold Ï at this
 omega
theorem aYr {p:List Int} {d:Int}:0≤atP (Ï b) p d∧atP (Ï b) p d≤(Ï b).length:=by
 unfold atP
 cases p with
 |nil=>simp
 | cons x t =>
   try dsimp only
   cases h:adJ (Ï b) x d with
   |none=>simp
   |some j=>have:=(afV h).1; dsimp only; omega
theorem ar4 (h:ğ b) {c:Cmp} (hc:c∈b.2.2.2.2.1):(-1125904000000000≤(ž b c).1∧(ž b c).1≤1125904000000000)∧(-1125904000000000≤(ž b c).2∧(ž b c).2≤1125904000000000):=by
 obtain⟨r1,r2⟩:=h.rates hc
 have hn:=(Α c).1 (h.nums hc)
 have ha:=ĩ hn.2.2.2.2.2.1
 have hb:=ĩ hn.2.2.2.2.2.2
 have hf:=h.film
 obtain⟨g1,g2⟩:=aJ9 (aBT r1 r2) hn.2.2.2.2.1
 have fb:=amu (b:=b) (c:=c) (by omega) (by omega) (by omega) (by omega) (by omega) (by omega)
 have q1:aiL (ķ b c).1 2000000000 10000:=g1
 have q2:aiL (ķ b c).2 2000000000 10000:=g2
 have c1:=aqd q1
 have c2:=ams q2
 have n3:=hn.2.2.1
 have n4:=hn.2.2.2.1
 unfold ž
 try dsimp only
 omega
theorem aeZ (h:ğ b) {g:ç} (hg:g∈b.2.1) {f t:Int} (hf:0≤f):0≤adE b g f t∧adE b g f t≤12*(20001*1048576)+40*1048576:=by
 have hr:=(h.gaugeR hg).2.2.2.2.2.2.2
 have h1:=akc (id:=g.1) (t:=t) hf (x:=b.2.2.2.1) fun l hl=>ayi h hl
 have h2:(b.2.2.2.1.length:Int)*(20001*1048576)≤12*(20001*1048576):=Int.mul_le_mul_of_nonneg_right (by have:=h.nL; omega) (by omega)
 have h3:(adI b g.1 f t).length≤40:=by
  unfold adI
  rw[List.length_map]
  exact Nat.le_trans (List.length_filter_le _ _) h.nU
 have h4:=ats (adI b g.1 f t)
 have hm:0≤((aNB (adI b g.1 f t)).length:Int)*g.2.2.2.2.2∧((aNB (adI b g.1 f t)).length:Int)*g.2.2.2.2.2≤40*1048576 :=
  ⟨Int.mul_nonneg (by omega) hr.1,Int.mul_le_mul (by omega) hr.2 hr.1 (by omega)⟩
 unfold adE
 omega
end
theorem adp {α β:Type} (f:Nat→α→β) {l:List α} {i:Nat} {a:α} (h:l[i]?=some a):(l.take (i+1)).mapIdx f=(l.take i).mapIdx f++[f i a]:=by
 have hi:i<l.length:=(List.getElem?_eq_some_iff.1 h).1
 have:(l.take i).length=i:=by rw[List.length_take]; omega
 rw[take_succ h,List.mapIdx_append]
 simp[this]
theorem akr {α:Type} (f:Nat→List α) (j:Nat):(List.range (j+1)).flatMap f=(List.range j).flatMap f++f j:=by
 rw[List.range_succ,List.flatMap_append]; simp
theorem ŧ {α:Type} (f:Nat→List α) (n:Nat) (h:∀k,(f k).length=2):((List.range n).flatMap f).length=2*n:=by
 induction n with
 |zero=>rfl
 |succ n ih=>rw[akr,List.length_append,ih,h]; omega
set_option maxHeartbeats 2000000 in
theorem aTF {b:á} (h:ğ b):awt b=some (b,Ï b,(((Ï b).length:Int)+1,Ú b),ř b):=by
 unfold awt aL1
 have hN:=h.nodes
 have hG:=h.nG
 have hC:=h.nC
 rw[aKe h.size,À,â,Û (by omega) (by omega)]
 -- lengths of what comes
 have gl:∀g∈b.2.1,(ó b g).length≤120∧∀i,(ñ b i g).length≤120:=by
  intro g hg
  have:=awv h hg
  constructor
  ·unfold ó
   rw[List.length_append,ŧ _ _ (fun _=>rfl)]
   simp only[List.length_cons,List.length_nil]; omega
  ·intro i
   unfold ñ
   rw[List.length_append,ŧ _ _ (fun _=>rfl)]
   simp only[List.length_cons,List.length_nil]; omega
 have gls:∀i,((b.2.1.take i).flatMap (ó b)).length≤1440∧(((b.2.1.take i).mapIdx (ñ b)).flatten).length≤1440:=by
  intro i
  induction i with
  |zero=>simp
  | succ i ih =>
    have key:∀i,i≤b.2.1.length→((b.2.1.take i).flatMap (ó b)).length≤i*120∧(((b.2.1.take i).mapIdx (ñ b)).flatten).length≤i*120:=by
     intro i
     induction i with
     |zero=>intro _; simp
     | succ i ih =>
       intro hi
       have ih:=ih (by omega)
       have hg:b.2.1[i]?=some b.2.1[i]:=List.getElem?_eq_getElem hi
       have h2:=gl _ (List.mem_of_getElem? hg)
       have h3:=h2.2 i
       rw[adp _ hg,take_succ hg,List.flatMap_append,List.flatten_append,List.length_append,List.length_append]
       simp only[List.flatMap_cons,List.flatMap_nil,List.append_nil,List.flatten_cons,List.flatten_nil]
       omega
    rcases Nat.lt_or_ge b.2.1.length (i+1) with h1|h1
    ·rw[List.take_of_length_le (by omega)]
     have:=key b.2.1.length (Nat.le_refl _)
     rw[List.take_length] at this
     omega
    ·have:=key (i+1) h1
     omega
 refine ù b.2.1 (fun i=>((b.2.1.take i).flatMap (ó b),((b.2.1.take i).mapIdx (ñ b)).flatten)) _ rfl (fun i g hi hg kn=>?_) (fun kn=>?_)
 ·try dsimp only
  unfold ama
  have hgm:=List.mem_of_getElem? hg
  have hr:=h.gaugeR hgm
  have hd:=awv h hgm
  have hls:=gls i
  have hat:=aYr (b:=b) (p:=[g.1]) (d:=g.2.1)
  rw[Ô hi,É hg]
  rw[show ahE ((b.1.1,b.1.2),b.2.1,b.2.2.1,b.2.2.2.1,b.2.2.2.2.1,b.2.2.2.2.2) g=ahE b g from rfl,aXJ h.size,À]
  rw[aYq _ _ _ (by dsimp only; omega),À]
  try dsimp only
  have r1:=hr.2.2.2.2.2.1
  have r2:=hr.2.2.2.2.2.2.1
  rw[Û (by omega) (by omega),Û (by omega) (by omega),Û (by omega) (by omega),Ù (by simp only[List.length_cons,List.length_nil]; omega),Am.iff_true,Ù (by simp only[List.length_cons,List.length_nil]; omega),Am.iff_true]
  refine ő (fun x:Int×List Lk×List (Int×Int)=>∃j:Nat,j+1≤(ß b g).length∧x.1=(j:Int)+1 ∧
   x.2.1=(b.2.1.take i).flatMap (ó b)++([(0,atP (Ï b) [g.1] g.2.1,g.2.2.1+g.2.2.2.1.2),(atP (Ï b) [g.1] g.2.1,0,-(g.2.2.1+g.2.2.2.1.1))] ++
    (List.range j).flatMap fun(k:Nat)=>[(atP (Ï b) [g.1] g.2.1+k,atP (Ï b) [g.1] g.2.1+k+1,0),(atP (Ï b) [g.1] g.2.1+k+1,atP (Ï b) [g.1] g.2.1+k,adE b g ((ß b g)[k]?.getD 0) ((ß b g)[k+1]?.getD 0))]) ∧
   x.2.2=((b.2.1.take i).mapIdx (ñ b)).flatten++([(1,(i:Int)),(1,(i:Int))]++(List.range j).flatMap fun _=>[(2,(i:Int)),(2,(i:Int))])) (fun x=>(ß b g).length-x.1.toNat) ?_
   ⟨0,List.length_pos_of_mem (aeN g),rfl,by simp,by simp⟩
  rintro⟨x1,ls,ss⟩ ⟨j,hj,e1,e2,e3⟩
  dsimp only at e1 e2 e3 ⊢
  subst e1
  have hlls:ls.length≤1562:=by
   rw[e2,List.length_append,List.length_append,ŧ _ _ (fun _=>rfl)]
   simp only[List.length_cons,List.length_nil]; omega
  have hlss:ss.length≤1562:=by
   rw[e3,List.length_append,List.length_append,ŧ _ _ (fun _=>rfl)]
   simp only[List.length_cons,List.length_nil]; omega
  rcases Nat.lt_or_ge (j+1) (ß b g).length with hlt|hge
  ·refine .inr ⟨((j:Int)+1+1,_,_),⟨j+1,hlt,by push_cast; rfl,rfl,rfl⟩,by dsimp only; omega,fun kn'=>?_⟩
   try dsimp only
   unfold al9
   have g1:(ß b g)[j]?=some ((ß b g)[j]?.getD 0):=by rw[List.getElem?_eq_getElem (by omega)]; rfl
   have g2:(ß b g)[j+1]?=some ((ß b g)[j+1]?.getD 0):=by rw[List.getElem?_eq_getElem hlt]; rfl
   have d1:=h.day hgm (List.mem_of_getElem? g1)
   have d2:=h.day hgm (List.mem_of_getElem? g2)
   have lb:=aeZ h hgm (t:=(ß b g)[j+1]?.getD 0) d1.2.1
   have ec:((j:Int)+1)=((j+1:Nat):Int):=by push_cast; rfl
   rw[ec,Ô hlt,Û (by omega) (by omega),Û (by omega) (by omega),Û (by omega) (by omega),Û (by omega) (by omega)]
   rw[show(((j+1:Nat):Int)-1)=((j:Nat):Int) by omega,É g1,É g2]
   rw[show ap8 ((b.1.1,b.1.2),b.2.1,b.2.2.1,b.2.2.2.1,b.2.2.2.2.1,b.2.2.2.2.2) (g.1,g.2.1,g.2.2.1,(g.2.2.2.1.1,g.2.2.2.1.2),(g.2.2.2.2.1.1,g.2.2.2.2.1.2),g.2.2.2.2.2) ((ß b g)[j]?.getD 0) ((ß b g)[j+1]?.getD 0)=ap8 b g ((ß b g)[j]?.getD 0) ((ß b g)[j+1]?.getD 0) from rfl]
   rw[a1m h hr.2.2.2.2.2.2.2 ⟨by omega,by omega⟩ ⟨by omega,by omega⟩,À,Û (by omega) (by omega),Û (by omega) (by omega),Ù (by simp only[List.length_cons,List.length_nil]; omega),Am.iff_true,Ù (by simp only[List.length_cons,List.length_nil]; omega),Am.iff_true,Ì hlt (by omega)]
   rw[akr,akr,e2,e3]
   have a1:atP (Ï b) [g.1] g.2.1+((j+1:Nat):Int)-1=atP (Ï b) [g.1] g.2.1+(j:Int):=by push_cast; omega
   have a2:atP (Ï b) [g.1] g.2.1+((j+1:Nat):Int)=atP (Ï b) [g.1] g.2.1+(j:Int)+1:=by push_cast; omega
   have a3:0-(0-adE b g ((ß b g)[j]?.getD 0) ((ß b g)[j+1]?.getD 0))=adE b g ((ß b g)[j]?.getD 0) ((ß b g)[j+1]?.getD 0):=by omega
   rw[a1,a2,a3]
   simp only[List.append_assoc]
  ·refine .inl fun kn'=>?_
   have hje:j+1=(ß b g).length:=by omega
   unfold al9
   rw[show((j:Int)+1)=(((ß b g).length:Nat):Int) by rw[←hje]; push_cast; rfl,Ý]
   dsimp only
   rw[Ì hi (by omega)]
   rw[adp _ hg,take_succ hg,List.flatMap_append,List.flatten_append,e2,e3,show j=(ß b g).length-1 by omega]
   simp only[List.flatMap_cons,List.flatMap_nil,List.append_nil,List.flatten_cons,List.flatten_nil]
   rfl
 ·try dsimp only
  unfold ama
  rw[Ý,List.take_length]
  have hls:=gls b.2.1.length
  rw[List.take_length] at hls
  have cl:∀i,i≤b.2.2.2.2.1.length→((b.2.2.2.2.1.take i).flatMap (ā b)).length=2*i∧(((b.2.2.2.2.1.take i).mapIdx fun i _=>[((3:Int),(i:Int)),((3:Int),(i:Int))]).flatten).length=2*i:=by
   intro i
   induction i with
   |zero=>intro _; simp
   | succ i ih =>
     intro hi
     have ih:=ih (by omega)
     have hg:b.2.2.2.2.1[i]?=some b.2.2.2.2.1[i]:=List.getElem?_eq_getElem hi
     rw[adp _ hg,take_succ hg,List.flatMap_append,List.flatten_append,List.length_append,List.length_append]
     simp only[List.flatMap_cons,List.flatMap_nil,List.append_nil,List.flatten_cons,List.flatten_nil,ā,List.length_cons,List.length_nil]
     omega
  refine ù b.2.2.2.2.1 (fun i=>(b.2.1.flatMap (ó b)++(b.2.2.2.2.1.take i).flatMap (ā b),(b.2.1.mapIdx (ñ b)).flatten++((b.2.2.2.2.1.take i).mapIdx fun i _=>[((3:Int),(i:Int)),((3:Int),(i:Int))]).flatten)) _ (by simp) (fun i c hi hc kn'=>?_) (fun kn'=>?_)
  ·try dsimp only
   unfold al8
   have hcm:=List.mem_of_getElem? hc
   have hn:=(Α c).1 (h.nums hcm)
   have ha:=ĩ hn.2.2.2.2.2.1
   have hb:=ĩ hn.2.2.2.2.2.2
   have sb:=ar4 h hcm
   have c1:=cl i (by omega)
   rw[Ô hi,É hc,akd (by omega) (by omega),À,aYq _ _ _ (by dsimp only; omega),À,akd (by omega) (by omega),À,aYq _ _ _ (by dsimp only; omega),À]
   rw[show amB ((b.1.1,b.1.2),b.2.1,b.2.2.1,b.2.2.2.1,b.2.2.2.2.1,b.2.2.2.2.2) c=amB b c from rfl,h.says hcm,À]
   rw[Û (by omega) (by omega),Ù (by simp only[List.length_append,List.length_cons,List.length_nil]; omega),Am.iff_true,Ù (by simp only[List.length_append,List.length_cons,List.length_nil]; omega),Am.iff_true,Ì hi (by omega),adp _ hc,take_succ hc,List.flatMap_append,List.flatten_append]
   simp only[List.flatMap_cons,List.flatMap_nil,List.append_nil,List.flatten_cons,List.flatten_nil,List.append_assoc,Int.zero_sub]
   rfl
  ·try dsimp only
   unfold al8
   rw[Ý,List.take_length]
   rfl
end Go.Proofs.ZzM
end
noncomputable section
namespace Go.Proofs.ZzM
open Go Go.Am
section
variable {ρ:Type}
def wv (w:List Bool) (v:Int):Bool:=w[v.toNat]?.getD false
theorem aSX {w:List Bool} {u v:Int} (hu:0≤u) (hv:0≤v) (h:u.toNat<w.length) (y:Bool):wv (w.set u.toNat y) v=if v=u then y else wv w v:=by
 unfold wv
 rw[List.getElem?_set]
 by_cases hvu:v=u
 ·subst hvu; simp[h]
 ·have:¬u.toNat=v.toNat:=by omega
  simp[hvu,this]
theorem aeR {x:List Int} {v:Int} (h:v.toNat<x.length) (f:Int→Option ρ):Ψ x v.toNat f=f (gv x v):=alv (aTL h) f
theorem aKf {w:List Bool} {v:Int} (h:v.toNat<w.length) (f:Bool→Option ρ):Ψ w v.toNat f=f (wv w v):=by
 refine alv ?_ f
 unfold wv; rw[List.getElem?_eq_getElem h]; rfl
theorem adY {v:Int} {n:Nat} (h0:0≤v) (h1:v<n) (x:Option ρ):ô ((ile 0 v)&&(ilt v (n:Int))) x=x:=by
 have:((ile 0 v)&&(ilt v (n:Int)))=true:=by simp[ile,ilt,h0,h1]
 rw[this,Am.iff_true]
end
def aip (n least:Int):List Lk→List Int→List Bool→List Int→Bool×List Int×List Bool×List Int
 |[],x,w,q=>(true,x,w,q)
 | l :: t, x, w, q =>
   if l.1≠n then aip n least t x w q else
   if gv x l.2.1≤gv x n+l.2.2 then aip n least t x w q else
   if gv x n+l.2.2<least then(false,x.set l.2.1.toNat (gv x n+l.2.2),w,q) else
   if wv w l.2.1 then aip n least t (x.set l.2.1.toNat (gv x n+l.2.2)) w q else aip n least t (x.set l.2.1.toNat (gv x n+l.2.2)) (w.set l.2.1.toNat true) (q++[l.2.1])
structure ady (L:List Lk) (N:Nat) (M:Int):Prop where
 inr:InR L N
 noloop:∀l∈L,l.1≠l.2.1
 most:∀l∈L,-M≤l.2.2∧l.2.2≤M
 len:L.length≤400
 nodes:N≤1000
 m0:0≤M
 m1:M≤4503599627370496
set_option maxHeartbeats 1000000 in
theorem aZB {ρ:Type} {L:List Lk} {N:Nat} {M:Int} (hL:ady L N M) {n least:Int} (hn:0≤n∧n<N) {x:List Int} {w:List Bool} {q:List Int} (hx:x.length=N) (hw:w.length=N) (hq:q.length≤1000000)
 (hb : -2305843009213693952≤gv x n∧gv x n≤2305843009213693952) (K0:(Val (.pair .bool (.pair (.slice tI) (.pair (.slice .bool) (.slice tI)))))→Option ρ) (K1:(Val (.pair (.slice tI) (.pair (.slice .bool) (.slice tI))))→Option ρ) :
 Ñ (fun(v47:(Val (.pair tI (.pair (.slice tI) (.pair (.slice .bool) (.slice tI)))))) kk52=>adW [] least n L (Ü L) v47.1 v47.2.1 v47.2.2.1 v47.2.2.2 (fun u48 u49 u50 u51=>kk52 (u48,u49,u50,u51)) K0 K1) ((0:Int),x,w,q) =
  match aip n least L x w q with
  |(true,r)=>K1 r
  |(false,r)=>K0 (false,r):=by
 have hlen:=hL.len
 refine aBy L (fun i (s:List Int×List Bool×List Int) t=>match aip n least t s.1 s.2.1 s.2.2 with|(true,r)=>K1 r|(false,r)=>K0 (false,r))
  (fun i s=>s.1.length=N∧s.2.1.length=N∧gv s.1 n=gv x n∧s.2.2.length≤1000000+i) (fun s hs kn=>?_) (fun i l t s hd hi hl hI kn hk=>?_) (s:=(x,w,q)) ⟨hx,hw,rfl,by simpa using hq⟩
 ·try dsimp only
  unfold adW
  rw[Ý]
  rfl
 ·obtain⟨y,u,p⟩:=s
  obtain⟨h1,h2,h3,h4⟩:=hI
  dsimp only at h1 h2 h3 h4 hk ⊢
  have hmem:l∈L:=List.mem_of_getElem? hl
  have hr:=hL.inr l hmem
  have hm:=hL.most l hmem
  have hm1:=hL.m1
  have hnl:=hL.noloop l hmem
  unfold adW
  rw[Ô hi,É hl]
  unfold aip
  by_cases hln:l.1=n
  ·have e0:ine l.1 n=false:=by simp[ine,hln]
   rw[Ò e0]
   have e1:∀(f:Bool→Option ρ) (g:Option ρ),aNg (k:=tI) (v:=.bool) (i:Int) [] f g=g:=fun f g=>rfl
   rw[e1,if_neg (by simp[hln])]
   have tn:n.toNat<y.length:=by omega
   have tt:l.2.1.toNat<y.length:=by omega
   have tu:l.2.1.toNat<u.length:=by omega
   rw[adY hn.1 (by omega),aeR tn,Û (by omega) (by omega),adY hr.2.1 (by omega),aeR tt,ď]
   by_cases hge:gv y l.2.1≤gv y n+l.2.2
   ·rw[if_pos (by simpa[ige] using hge),if_pos hge,Ì hi (by omega)]
    exact hk (y,u,p) ⟨h1,h2,h3,by dsimp only; omega⟩
   ·rw[if_neg (by simpa[ige] using hge),if_neg hge]
    have hset:gv (y.set l.2.1.toNat (gv y n+l.2.2)) n=gv x n:=by
     rw[ao3 hr.2.1 hn.1 tt,if_neg (fun h=>hnl (hln.trans h)),h3]
    have hself:gv (y.set l.2.1.toNat (gv y n+l.2.2)) l.2.1=gv y n+l.2.2:=by
     rw[ao3 hr.2.1 hr.2.1 tt,if_pos rfl]
    rw[adY hn.1 (by omega),aeR tn,Û (by omega) (by omega),adY hr.2.1 (by omega),aeR tt]
    rw[show(Ĩ (List.set y l.2.1.toNat (gv y n+l.2.2)))=((y.length:Nat):Int) by simp[Ĩ]]
    rw[adY hr.2.1 (by omega),aeR (by simpa using tt),hself,ď]
    by_cases hlt:gv y n+l.2.2<least
    ·rw[if_pos (by simpa[ilt] using hlt),if_pos hlt]
    ·rw[if_neg (by simpa[ilt] using hlt),if_neg hlt,adY hr.2.1 (by omega),aKf tu,ď]
     cases hwv:wv u l.2.1 with
     | true =>
       rw[if_neg (by simp),if_pos rfl,Ì hi (by omega)]
       exact hk (y.set l.2.1.toNat (gv y n+l.2.2),u,p) ⟨by simpa using h1,h2,hset,by dsimp only; omega⟩
     | false =>
       rw[if_pos (by simp),if_neg (by simp),Ù (by simp only[List.length_singleton]; omega),Am.iff_true,adY hr.2.1 (by omega),aKf tu,Ì hi (by omega)]
       exact hk (y.set l.2.1.toNat (gv y n+l.2.2),u.set l.2.1.toNat true,p++[l.2.1]) ⟨by simpa using h1,by simpa using h2,hset,by simp only[List.length_append,List.length_singleton]; omega⟩
  ·have e0:ine l.1 n=true:=by simp[ine,hln]
   rw[Õ e0,if_pos hln,Ì hi (by omega)]
   exact hk (y,u,p) ⟨h1,h2,h3,by dsimp only; omega⟩
structure a0x (N:Nat) (n least:Int) (L:List Lk) (x:List Int) (q:List Int) (x':List Int) (w':List Bool) (q':List Int):Prop where
 lx:x'.length=N
 lw:w'.length=N
 same:gv x' n=gv x n
 le:∀v:Int,0≤v→v<N→gv x' v≤gv x v
 link:∀v m,(n,v,m)∈L→gv x' v≤gv x n+m
 chg:∀v:Int,0≤v→v<N→gv x' v=gv x v∨(v∈q'∧gv x' v<gv x v∧∃m,(n,v,m)∈L∧gv x' v=gv x n+m∧least≤gv x' v)
 new:∃l,q'=q++l∧∀v∈l,(0≤v∧v<N)∧gv x' v<gv x v
 nodup:q'.Nodup
 waits:∀v:Int,0≤v→v<N→(wv w' v=true↔v∈q')
theorem ae7 {N:Nat} {n least:Int} (hn:0≤n∧n<N):∀{L:List Lk},InR L N→(∀l∈L,l.1≠l.2.1)→∀{x:List Int} {w:List Bool} {q:List Int},x.length=N→w.length=N→q.Nodup→(∀v:Int,0≤v→v<N→(wv w v=true↔v∈q)) →
 ∀{x':List Int} {w':List Bool} {q':List Int},aip n least L x w q=(true,x',w',q')→a0x N n least L x q x' w' q'
 | [], _, _, x, w, q, hx, hw, hq, hwq, x', w', q', h => by
   cases h
   exact⟨hx,hw,rfl,fun _ _ _=>Int.le_refl _,fun _ _ h=>(by cases h),fun _ _ _=>.inl rfl,⟨[],by simp,fun _ h=>by cases h⟩,hq,hwq⟩
 | l :: t, hL, hnl, x, w, q, hx, hw, hq, hwq, x', w', q', h => by
   have hLt:InR t N:=fun l hl=>hL l (by simp[hl])
   have hnt:∀l∈t,l.1≠l.2.1:=fun l hl=>hnl l (by simp[hl])
   have hr:=hL l (by simp)
   have hl0:=hnl l (by simp)
   unfold aip at h
   split at h
   ·rename_i hne
    have a:=ae7 hn hLt hnt hx hw hq hwq h
    exact⟨a.lx,a.lw,a.same,a.le,fun v m hm=>by
     rcases List.mem_cons.1 hm with rfl|hm
     ·exact(hne rfl).elim
     ·exact a.link v m hm,fun v h0 h1=>(a.chg v h0 h1).imp id fun⟨g1,g2,m,g3,g4⟩=>⟨g1,g2,m,by simp[g3],g4⟩,a.new,a.nodup,a.waits⟩
   ·rename_i hne
    have hln:l.1=n:=by simpa using hne
    split at h
    ·rename_i hle
     have a:=ae7 hn hLt hnt hx hw hq hwq h
     exact⟨a.lx,a.lw,a.same,a.le,fun v m hm=>by
      rcases List.mem_cons.1 hm with rfl|hm
      ·have:=a.le v hr.2.1 hr.2.2; simp only at hle; omega
      ·exact a.link v m hm,fun v h0 h1=>(a.chg v h0 h1).imp id fun⟨g1,g2,m,g3,g4⟩=>⟨g1,g2,m,by simp[g3],g4⟩,a.new,a.nodup,a.waits⟩
    ·rename_i hgt
     split at h
     ·cases h
     ·rename_i hls
      have tt:l.2.1.toNat<x.length:=by omega
      have tw:l.2.1.toNat<w.length:=by omega
      have hy:(x.set l.2.1.toNat (gv x n+l.2.2)).length=N:=by simpa using hx
      have hyn:gv (x.set l.2.1.toNat (gv x n+l.2.2)) n=gv x n:=by
       rw[ao3 hr.2.1 hn.1 tt,if_neg (fun h=>hl0 (hln.trans h))]
      have hyv:∀v,0≤v→gv (x.set l.2.1.toNat (gv x n+l.2.2)) v=if v=l.2.1 then gv x n+l.2.2 else gv x v:=fun v h0=>ao3 hr.2.1 h0 tt _
      have hlm:(n,l.2.1,l.2.2)∈l::t:=by rw[←hln]; simp
      -- what both ways have in common
      have fin:∀{w1:List Bool} {q1:List Int},a0x N n least t (x.set l.2.1.toNat (gv x n+l.2.2)) q1 x' w' q'→l.2.1∈q1→(∃l',q1=q++l'∧∀v∈l',v=l.2.1)→a0x N n least (l::t) x q x' w' q':=by
       intro w1 q1 a hmem hq1
       obtain⟨new,hnew,hnv⟩:=a.new
       obtain⟨l',hl',hlv⟩:=hq1
       have hto:gv x' l.2.1≤gv x n+l.2.2:=by
        have:=a.le l.2.1 hr.2.1 hr.2.2
        rw[hyv _ hr.2.1,if_pos rfl] at this
        exact this
       refine⟨a.lx,a.lw,a.same.trans hyn,fun v h0 h1=>?_,fun v m hm=>?_,fun v h0 h1=>?_,⟨l'++new,by rw[hnew,hl',List.append_assoc],fun v hv=>?_⟩,a.nodup,a.waits⟩
       ·have:=a.le v h0 h1
        rw[hyv v h0] at this
        split at this
        ·rename_i e; subst e; omega
        ·exact this
       ·rcases List.mem_cons.1 hm with rfl|hm
        ·exact hto
        ·have:=a.link v m hm
         rwa [hyn] at this
       ·rcases a.chg v h0 h1 with g|⟨g1,g2,m,g3,g4,g5⟩
        ·rw[hyv v h0] at g
         split at g
         ·rename_i e
          subst e
          exact .inr ⟨by rw[hnew]; exact List.mem_append_left _ hmem,by omega,l.2.2,hlm,g,by omega⟩
         ·exact .inl g
        ·rw[hyv v h0] at g2
         rw[hyn] at g4
         refine .inr ⟨g1,?_,m,by simp[g3],g4,g5⟩
         split at g2
         ·rename_i e; subst e; omega
         ·exact g2
       ·rcases List.mem_append.1 hv with hv|hv
        ·rw[hlv v hv]; exact⟨hr.2,by omega⟩
        ·obtain⟨g1,g2⟩:=hnv v hv
         rw[hyv v g1.1] at g2
         refine⟨g1,?_⟩
         split at g2
         ·rename_i e; subst e; omega
         ·exact g2
      split at h
      ·rename_i hwt
       exact fin (w1:=w) (ae7 hn hLt hnt hy hw hq hwq h) ((hwq _ hr.2.1 hr.2.2).1 hwt) ⟨[],by simp,fun _ h=>by cases h⟩
      ·rename_i hwt
       have hnq:l.2.1∉q:=fun hc=>hwt ((hwq _ hr.2.1 hr.2.2).2 hc)
       refine fin (w1:=w.set l.2.1.toNat true) (ae7 hn hLt hnt hy (by simpa using hw) ?_ ?_ h) (by simp) ⟨[l.2.1],rfl,fun v hv=>by simpa using hv⟩
       ·rw[List.nodup_append]
        exact⟨hq,by simp,fun a ha b hb=>by simp at hb; subst hb; exact fun e=>hnq (e▸ha)⟩
       ·intro v h0 h1
        rw[aSX hr.2.1 h0 tw]
        by_cases hv:v=l.2.1
        ·simp[hv]
        ·simp only[hv,if_false,List.mem_append,List.mem_singleton,or_false]
         exact hwq v h0 h1
theorem agP {n least:Int}:∀{L:List Lk},(∀l∈L,l.1≠l.2.1)→(∀l∈L,0≤l.2.1)→0≤n→∀{x:List Int} {w:List Bool} {q:List Int} {r},aip n least L x w q=(false,r)→∃v m,(n,v,m)∈L∧gv x n+m<least
 |[],_,_,_,x,w,q,r,h=>by cases h
 | l :: t, hnl, h0, hn, x, w, q, r, h => by
   have hnt:∀l∈t,l.1≠l.2.1:=fun l hl=>hnl l (by simp[hl])
   have h0t:∀l∈t,0≤l.2.1:=fun l hl=>h0 l (by simp[hl])
   have up:(∃v m,(n,v,m)∈t∧gv x n+m<least)→∃v m,(n,v,m)∈l::t∧gv x n+m<least:=fun⟨v,m,g1,g2⟩=>⟨v,m,by simp[g1],g2⟩
   unfold aip at h
   split at h
   ·exact up (agP hnt h0t hn h)
   ·rename_i hne
    have hln:l.1=n:=by simpa using hne
    split at h
    ·exact up (agP hnt h0t hn h)
    ·split at h
     ·rename_i hlt
      exact⟨l.2.1,l.2.2,by rw[←hln]; simp,hlt⟩
     ·have hyn:gv (x.set l.2.1.toNat (gv x n+l.2.2)) n=gv x n:=by
       unfold gv
       rw[List.getElem?_set]
       have h1:=hnl l (by simp)
       have h2:=h0 l (by simp)
       have:¬l.2.1.toNat=n.toNat:=by omega
       simp[this]
      split at h
      ·have:=agP hnt h0t hn h
       rw[hyn] at this
       exact up this
      ·have:=agP hnt h0t hn h
       rw[hyn] at this
       exact up this
end Go.Proofs.ZzM
end
noncomputable section
namespace Go.Proofs.ZzM
open Go Go.Am
theorem aTy {ρ:Type} {L:List Lk} {N:Nat} {M:Int} (hL:ady L N M) {n least:Int} (hn:0≤n∧n<N) {x:List Int} {w:List Bool} {t rest:List Int} (hx:x.length=N) (hw:w.length=N) (ht:t.length=N) (hq:rest.length≤1000000)
 (hb : -2305843009213693952≤gv x n∧gv x n≤2305843009213693952) (htn:0≤gv t n∧gv t n≤1000000) (kn:List Int→List Bool→List Int→List Int→Option ρ) (k0:(Val (.pair .bool (.pair (.slice tI) (.pair (.slice .bool) (.pair (.slice tI) (.slice tI))))))→Option ρ) :
 Ħ [] least (N:Int) L x w t (n::rest) kn k0 =
  if (N:Int)+1<gv t n+1 then k0 (false,x,w.set n.toNat false,t.set n.toNat (gv t n+1),rest) else
  match aip n least L x (w.set n.toNat false) rest with
  |(true,x',w',q')=>kn x' w' (t.set n.toNat (gv t n+1)) q'
  |(false,x',w',q')=>k0 (false,x',w',t.set n.toNat (gv t n+1),q'):=by
 have hN:=hL.nodes
 have tn:n.toNat<x.length:=by omega
 have tw:n.toNat<w.length:=by omega
 have tt:n.toNat<t.length:=by omega
 unfold Ħ
 have e0:ieq (Ü (n::rest)) 0=false:=by
  rw[â]
  simp only[ieq,List.length_cons,beq_eq_false_iff_ne,ne_eq]
  omega
 have e1:ilt (0:Int) (Ĩ (n::rest))=true:=by simp[ilt,Ĩ]
 have e2:ile (1:Int) (Ĩ (n::rest))=true:=by simp[ile,Ĩ]; omega
 have e3:decide (1+(List.length (n::rest)-1)=List.length (n::rest))=true:=by simp; omega
 rw[Ò e0,ī e1]
 rw[show Ψ (n::rest) 0=fun(f:Int→Option ρ)=>f n from rfl]
 try dsimp only
 rw[ī e2,ī e3,adY hn.1 (by omega),aKf tw,adY hn.1 (by omega),aeR tt,Û (by omega) (by omega),adY hn.1 (by omega),aeR tt]
 rw[show(Ĩ (List.set t n.toNat (gv t n+1)))=((t.length:Nat):Int) by simp[Ĩ]]
 rw[adY hn.1 (by omega),aeR (by simpa using tt),ao3 hn.1 hn.1 tt,if_pos rfl,Û (by omega) (by omega),ď]
 rw[show List.drop 1 (n::rest)=rest from rfl]
 by_cases hlt:(N:Int)+1<gv t n+1
 ·rw[if_pos (by simpa[igt] using hlt),if_pos hlt]
 ·rw[if_neg (by simpa[igt] using hlt),if_neg hlt]
  rw[aZB hL hn hx (w:=w.set n.toNat false) (by simpa using hw) hq hb]
  generalize aip n least L x (w.set n.toNat false) rest=r
  obtain⟨b,x',w',q'⟩:=r
  cases b<;>rfl
theorem aWt {ρ:Type} {L:List Lk} {N:Int} {least:Int} {x:List Int} {w:List Bool} {t:List Int} (kn:List Int→List Bool→List Int→List Int→Option ρ) (k0:(Val (.pair .bool (.pair (.slice tI) (.pair (.slice .bool) (.pair (.slice tI) (.slice tI))))))→Option ρ) :
 Ħ [] least N L x w t [] kn k0=k0 (true,x,w,t,[]):=by
 unfold Ħ
 have e0:ieq (Ü ([]:List Int)) 0=true:=by rw[â]; rfl
 rw[Õ e0]
def aMs (N:Nat) (t:List Int):Nat:=(t.map fun a=>((N:Int)+2-a).toNat).sum
theorem aTI (N:Nat):∀(t:List Int) (i:Nat) (a b:Int),t[i]?=some a→a<b→a<(N:Int)+2→aMs N (t.set i b)<aMs N t
 | a0 :: t, 0, a, b, h, h1, h2 => by
   simp at h; subst h
   simp only[aMs,List.set_cons_zero,List.map_cons,List.sum_cons]
   omega
 | a0 :: t, i + 1, a, b, h, h1, h2 => by
   have:=aTI N t i a b (by simpa using h) h1 h2
   simp only[aMs] at this
   simp only[aMs,List.set_cons_succ,List.map_cons,List.sum_cons]
   omega
theorem aPO {N:Nat} {t:List Int} {n:Int} (hn:n.toNat<t.length) (h:gv t n≤(N:Int)+1):aMs N (t.set n.toNat (gv t n+1))<aMs N t :=
 aTI N t n.toNat (gv t n) _ (aTL hn) (by omega) (by omega)
structure aVX (L:List Lk) (S:Int→Prop) (N:Nat) (M:Int) (k:Nat) (A B:List Int) (x:List Int) (w:List Bool) (t q:List Int):Prop where
 q_eq:q=A++B
 lx:x.length=N
 lw:w.length=N
 lt:t.length=N
 nodup:q.Nodup
 rng:∀v∈q,0≤v∧v<N
 waits:∀v:Int,0≤v→v<N→(wv w v=true↔v∈q)
 t0:∀v:Int,0≤v→v<N→0≤gv t v∧gv t v≤(k:Int)+1
 tA:∀v∈A,gv t v≤k
 low:∀vs v d,Wl L S vs v d→vs.length≤k→gv x v≤d
 nxt:∀vs u d,Wl L S vs u d→vs.length≤k→u∉A→∀v m,(u,v,m)∈L→gv x v≤d+m
 rel:∀u:Int,0≤u→u<N→u∉q→gv x u≠ade→∀v m,(u,v,m)∈L→gv x v≤gv x u+m
 att:∀v:Int,0≤v→v<N→gv x v≠ade→∃vs,Wl L S vs v (gv x v)
 bd:∀v:Int,0≤v→v<N→gv x v=ade∨gv x v≤((k:Int)+1)*M
 bA:∀v∈A,gv x v≤(k:Int)*M
 fin:∀v∈q,gv x v<ade
 kN:k+1≤N
 last:k+1=N→B=[]
section
variable {L:List Lk} {S:Int→Prop} {N:Nat} {M:Int} {p:Int→Int} {k:Nat} {A B x:List Int} {w:List Bool} {t q:List Int}
theorem aBr {a b:Nat} {M:Int} (h:a≤b) (hM:0≤M):(a:Int)*M≤(b:Int)*M:=Int.mul_le_mul_of_nonneg_right (by omega) hM
theorem Wl.lt_free (hL:ady L N M) (hNM:N*M<ade) {vs:List Int} {v d:Int} (hw:Wl L S vs v d) (h:vs.length≤N):d<ade:=by
 have h1:=hw.high fun l hl=>(hL.most l hl).2
 have h2:=aBr h hL.m0
 omega
theorem aVX.next (hL:ady L N M) (hNM:N*M<ade) (hS:∀v,S v→0≤v∧v<N) (h:aVX L S N M k [] B x w t q) (hB:B≠[]):aVX L S N M (k+1) B [] x w t q:=by
 have hM:=hL.m0
 have hq:q=B:=by simpa using h.q_eq
 have hk:k+1≠N:=fun e=>hB (h.last e)
 have hkN:=h.kN
 have low':∀vs v d,Wl L S vs v d→vs.length≤k+1→gv x v≤d:=by
  intro vs v d hw hl
  cases hw with
  |nil hs=>exact h.low [] v 0 (.nil hs) (by simp)
  | @step vs u _ m d hw hlk=>exact h.nxt vs u d hw (by simpa using hl) (by simp) v m hlk
 refine⟨by simp[hq],h.lx,h.lw,h.lt,h.nodup,h.rng,h.waits,fun v h0 h1=>⟨(h.t0 v h0 h1).1,by have:=(h.t0 v h0 h1).2; push_cast; omega⟩,fun v hv=>?_,low',fun vs u d hw hl hu v m hlk=>?_,h.rel,h.att,fun v h0 h1=>?_,fun v hv=>?_,h.fin,by omega,fun _=>rfl⟩
 ·have:=h.rng v (by rw[hq]; exact hv)
  have:=(h.t0 v this.1 this.2).2
  push_cast; omega
 ·have h1:=low' vs u d hw hl
  have h2:=hw.lt_free hL hNM (by omega)
  have h3:=(hw.range hL.inr hS).1
  have:=h.rel u h3.1 h3.2 (by rw[hq]; exact hu) (by omega) v m hlk
  omega
 ·rcases h.bd v h0 h1 with h2|h2
  ·exact .inl h2
  ·refine .inr ?_
   have:=aBr (show k+1≤k+1+1 by omega) hM
   push_cast at this ⊢
   omega
 ·have h1:=h.rng v (by rw[hq]; exact hv)
  have h2:=h.fin v (by rw[hq]; exact hv)
  rcases h.bd v h1.1 h1.2 with h3|h3
  ·omega
  ·push_cast; exact h3
theorem aVX.step {n:Int} {A':List Int} {least:Int} {x':List Int} {w':List Bool} {q':List Int} (hL:ady L N M) (hNM:N*M<ade) (hp:Pot L p) (hS:∀v,S v→0≤v∧v<N) (h:aVX L S N M k (n::A') B x w t q)
 (ha:a0x N n least L x (A'++B) x' w' q'):∃B',aVX L S N M k A' B' x' w' (t.set n.toNat (gv t n+1)) q':=by
 have hM:=hL.m0
 have hq:q=n::(A'++B):=by simpa using h.q_eq
 have hkN:=h.kN
 have hnr:=h.rng n (by rw[hq]; simp)
 have hnf:=h.fin n (by rw[hq]; simp)
 have hnd:n∉A'++B:=by have:=h.nodup; rw[hq,List.nodup_cons] at this; exact this.1
 have htn:n.toNat<t.length:=by have:=h.lt; omega
 have tset:∀v,0≤v→gv (t.set n.toNat (gv t n+1)) v=if v=n then gv t n+1 else gv t v:=fun v h0=>ao3 hnr.1 h0 htn _
 have hkM:((k:Int)+1)*M<ade:=by
  have:=aBr hkN hM
  push_cast at this
  omega
 have xle:∀v:Int,0≤v→v<N→gv x v≤ade:=fun v h0 h1=>by rcases h.bd v h0 h1 with h2|h2<;>omega
 obtain⟨l,hl,hlv⟩:=ha.new
 have att':∀v:Int,0≤v→v<N→gv x' v≠ade→∃vs,Wl L S vs v (gv x' v):=by
  intro v h0 h1 hne
  rcases ha.chg v h0 h1 with g|⟨_,_,m,g3,g4,_⟩
  ·rw[g] at hne ⊢; exact h.att v h0 h1 hne
  ·obtain⟨vs,hw⟩:=h.att n hnr.1 hnr.2 (by omega)
   rw[g4]; exact⟨_,hw.step g3⟩
 refine⟨B++l,by rw[hl,List.append_assoc],ha.lx,ha.lw,by rw[List.length_set]; exact h.lt,ha.nodup,fun v hv=>?_,ha.waits,fun v h0 h1=>?_,fun v hv=>?_,fun vs v d hw hlen=>?_,fun vs u d hw hlen hu v m hlk=>?_,
  fun u h0 h1 hu hf v m hlk=>?_,att',fun v h0 h1=>?_,fun v hv=>?_,fun v hv=>?_,hkN,fun hk=>?_⟩
 ·rw[hl] at hv
  rcases List.mem_append.1 hv with hv|hv
  ·exact h.rng v (by rw[hq]; simp only[List.mem_cons]; exact .inr hv)
  ·exact(hlv v hv).1
 ·rw[tset v h0]
  have h2:=h.t0 v h0 h1
  split
  ·have h3:=h.tA n (by simp)
   have h4:=h.t0 n hnr.1 hnr.2
   omega
  ·exact h2
 ·have h1:=h.rng v (by rw[hq]; simp[hv])
  rw[tset v h1.1,if_neg (fun e=>hnd (by rw[←e]; simp[hv]))]
  exact h.tA v (by simp[hv])
 ·have h1:=h.low vs v d hw hlen
  have h2:=(hw.range hL.inr hS).1
  have:=ha.le v h2.1 h2.2
  omega
 ·have hvr:=(hL.inr _ hlk).2
  by_cases hun:u=n
  ·subst hun
   have h1:=ha.link v m hlk
   have h2:=h.low vs u d hw hlen
   omega
  ·have h1:=h.nxt vs u d hw hlen (by simp[hun,hu]) v m hlk
   have:=ha.le v hvr.1 hvr.2
   omega
 ·have hvr:=(hL.inr _ hlk).2
  have heq:gv x' u=gv x u:=by
   rcases ha.chg u h0 h1 with g|⟨g,_⟩
   ·exact g
   ·exact(hu g).elim
  by_cases hun:u=n
  ·subst hun
   have h1:=ha.link v m hlk
   omega
  ·have hur:u∉q:=by
    rw[hq]
    intro hc
    rcases List.mem_cons.1 hc with e|hc
    ·exact hun e
    ·exact hu (by rw[hl]; exact List.mem_append_left _ hc)
   have h2:=h.rel u h0 h1 hur (by rw[←heq]; exact hf) v m hlk
   have:=ha.le v hvr.1 hvr.2
   omega
 ·rcases ha.chg v h0 h1 with g|⟨_,_,m,g3,g4,_⟩
  ·rw[g]; exact h.bd v h0 h1
  ·have h2:=h.bA n (by simp)
   have h3:=(hL.most _ g3).2
   simp only at h3
   refine .inr ?_
   rw[g4,Int.add_mul,Int.one_mul]
   omega
 ·have h1:=h.rng v (by rw[hq]; simp[hv])
  have h2:=h.bA v (by simp[hv])
  have:=ha.le v h1.1 h1.2
  omega
 ·rw[hl] at hv
  rcases List.mem_append.1 hv with hv|hv
  ·have h1:=h.rng v (by rw[hq]; simp only[List.mem_cons]; exact .inr hv)
   have h2:=h.fin v (by rw[hq]; simp only[List.mem_cons]; exact .inr hv)
   have:=ha.le v h1.1 h1.2
   omega
  ·obtain⟨g1,g2⟩:=hlv v hv
   have:=xle v g1.1 g1.2
   omega
 ·rw[h.last hk]
  cases l with
  |nil=>rfl
  | cons v l =>
    exfalso
    obtain⟨g1,g2⟩:=hlv v (by simp)
    have:=xle v g1.1 g1.2
    obtain⟨vs,hw⟩:=att' v g1.1 g1.2 (by omega)
    obtain⟨vs',d',k1,k2,k3⟩:=hw.simple hp
    have k4:=k1.short hL.inr hS k3
    have:=h.low vs' v d' k1 (by omega)
    omega
theorem aVX.done (hL:ady L N M) (hNM:N*M<ade) (hp:Pot L p) (hS:∀v,S v→0≤v∧v<N) (h:aVX L S N M k A B x w t []):aVY L S N (gv x):=by
 have hkN:=h.kN
 have hM:=hL.m0
 have hkM:((k:Int)+1)*M<ade:=by
  have:=aBr hkN hM
  push_cast at this
  omega
 have key:∀vs v d,Wl L S vs v d→vs.length+1≤N→gv x v≤d:=by
  intro vs v d hw
  induction hw with
  |nil hs=>intro _; exact h.low [] _ 0 (.nil hs) (by simp)
  | @step vs u v m d hw hlk ih =>
    intro hlen
    simp only[List.length_cons] at hlen
    have h1:=ih (by omega)
    have h2:=hw.lt_free hL hNM (by omega)
    have h3:=(hw.range hL.inr hS).1
    have:=h.rel u h3.1 h3.2 (by simp) (by omega) v m hlk
    omega
 refine⟨h.att,fun v vs d hw=>?_,fun v h0 h1=>?_⟩
 ·obtain⟨vs',d',k1,k2,k3⟩:=hw.simple hp
  have:=key vs' v d' k1 (k1.short hL.inr hS k3)
  omega
 ·rcases h.bd v h0 h1 with h2|h2<;>omega
theorem aNw {ρ:Type} {r:Option ρ} (hL:ady L N M) (hNM:N*M<ade) (hp:Pot L p) (hS:∀v,S v→0≤v∧v<N) (k0:(Val (.pair .bool (.pair (.slice tI) (.pair (.slice .bool) (.pair (.slice tI) (.slice tI))))))→Option ρ)
 (hK:∀x w t q,x.length=N→aVY L S N (gv x)→k0 (true,x,w,t,q)=r) (h:aVX L S N M k A B x w t q) :
 Ñ (fun(v64:(Val (.pair (.slice tI) (.pair (.slice .bool) (.pair (.slice tI) (.slice tI)))))) kk69=>Ħ [] (aBq L) (N:Int) L v64.1 v64.2.1 v64.2.2.1 v64.2.2.2 (fun u65 u66 u67 u68=>kk69 (u65,u66,u67,u68)) k0) (x,w,t,q)=r:=by
 refine ő (fun s:List Int×List Bool×List Int×List Int=>∃k A B,aVX L S N M k A B s.1 s.2.1 s.2.2.1 s.2.2.2) (fun s=>aMs N s.2.2.1) ?_ ⟨k,A,B,h⟩
 rintro⟨x,w,t,q⟩ ⟨k,A,B,h⟩
 dsimp only at h ⊢
 have hN:=hL.nodes
 cases q with
 |nil=>exact .inl fun kn=>by rw[aWt]; exact hK x w t [] h.lx (h.done hL hNM hp hS)
 | cons n rest =>
   -- the phase in which the first one is
   have hph:∃k A' B,aVX L S N M k (n::A') B x w t (n::rest):=by
    cases A with
    | nil =>
      have hB:B=n::rest:=by simpa using h.q_eq.symm
      subst hB
      exact⟨k+1,rest,[],h.next hL hNM hS (by simp)⟩
    | cons a A' =>
      have:=h.q_eq
      simp only[List.cons_append,List.cons.injEq] at this
      obtain⟨rfl,_⟩:=this
      exact⟨k,A',B,h⟩
   clear h k A B
   obtain⟨k,A',B,h⟩:=hph
   have hrest:rest=A'++B:=by have:=h.q_eq; simpa using this
   have hnr:=h.rng n (by simp)
   have hnf:=h.fin n (by simp)
   have hkN:=h.kN
   have h1:=h.tA n (by simp)
   have h2:=h.t0 n hnr.1 hnr.2
   obtain⟨vs,hw⟩:=h.att n hnr.1 hnr.2 (by omega)
   have hlow:=hw.low' hp
   have hneg : -(400*4503599627370496)≤aBq L:=by
    have:∀L':List Lk,(∀l∈L',-M≤l.2.2)→-((L'.length:Int)*M)≤aBq L':=by
     intro L'
     induction L' with
     |nil=>intro _; simp[aBq,aAm]
     | cons l t ih =>
       intro hh
       have i1:=ih fun l hl=>hh l (by simp[hl])
       have i2:=hh l (by simp)
       have i3:=hL.m0
       unfold aBq at i1 ⊢
       simp only[aAm,if_true,List.length_cons,Int.natCast_succ,Int.add_mul,Int.one_mul]
       omega
    have h3:=this L fun l hl=>(hL.most l hl).1
    have h4:(L.length:Int)*M≤400*4503599627370496:=Int.mul_le_mul (by have:=hL.len; omega) hL.m1 hL.m0 (by omega)
    omega
   have hrl:rest.length≤1000000:=by
    have:=aTk N (n::rest) h.nodup h.rng
    simp only[List.length_cons] at this
    omega
   refine .inr ?_
   have hw':(w.set n.toNat false).length=N:=by rw[List.length_set]; exact h.lw
   cases hr:aip n (aBq L) L x (w.set n.toNat false) rest with
   |mk b r' =>
   obtain⟨x',w',q'⟩:=r'
   cases b with
   | false =>
     exfalso
     obtain⟨v,m,g1,g2⟩:=agP hL.noloop (fun l hl=>(hL.inr l hl).2.1) hnr.1 hr
     have:=(hw.step g1).low' hp
     omega
   | true =>
     have hnd:=h.nodup
     rw[List.nodup_cons] at hnd
     have ha:=ae7 hnr hL.inr hL.noloop h.lx hw' hnd.2 (fun v h0 h1=>by
      rw[aSX hnr.1 h0 (by have:=h.lw; omega)]
      by_cases hv:v=n
      ·subst hv; simp[hnd.1]
      ·rw[if_neg hv,h.waits v h0 h1]
       simp[hv]) hr
     rw[hrest] at ha
     obtain⟨B',hB'⟩:=h.step hL hNM hp hS ha
     refine⟨(x',w',t.set n.toNat (gv t n+1),q'),⟨k,A',B',hB'⟩,aPO (by have:=h.lt; omega) (by omega),fun kn=>?_⟩
     have hF:ade=1152921504606846976:=rfl
     rw[aTy hL hnr h.lx h.lw h.lt hrl (by constructor<;>omega) (by constructor<;>omega),if_neg (by omega),hr]
end
end Go.Proofs.ZzM
end
noncomputable section
namespace Go.Proofs.ZzM
open Go Go.Am
theorem aCq (f:Lk→Bool):∀(L L':List Lk),aAm f (L++L')=aAm f L+aAm f L'
 |[],L'=>by simp[aAm]
 | l :: t, L' => by
   simp only[List.cons_append,aAm,aCq f t L']
   omega
theorem aOj {L:List Lk} {i:Nat} {l:Lk} (h:L[i]?=some l):aBq (L.take (i+1))=aBq (L.take i)+min l.2.2 0:=by
 rw[take_succ h,aBq,aBq,aCq]
 simp[aAm]
theorem imin0 (e:Int):aPV e 0=min e 0:=by
 unfold aPV
 split<;>omega
theorem aKg {L:List Lk} {M:Int} (h:∀l∈L,-M≤l.2.2) (hM:0≤M) : -((L.length:Int)*M)≤aBq L:=by
 induction L with
 |nil=>simp[aBq,aAm]
 | cons l t ih =>
   have i1:=ih fun l hl=>h l (by simp[hl])
   have i2:=h l (by simp)
   unfold aBq at i1 ⊢
   simp only[aAm,if_true,List.length_cons,Int.natCast_succ,Int.add_mul,Int.one_mul]
   omega
theorem a1j (L:List Lk):aBq L≤0:=alw _ L
section
variable {ρ:Type} {L:List Lk} {N:Nat} {M:Int}
theorem aTJ (hL:ady L N M) (k0:Int→Option ρ):Ñ (fun(v75:Val Ã) kk78=>ο L (Ü L) v75.1 v75.2 (fun u76 u77=>kk78 (u76,u77)) k0) ((0:Int),(0:Int))=k0 (aBq L):=by
 refine ő (fun x:Int×Int=>∃i:Nat,i≤L.length∧x=(aBq (L.take i),(i:Int))) (fun x=>L.length-x.2.toNat) ?_ ⟨0,by omega,rfl⟩
 rintro x ⟨i,hi,rfl⟩
 have hlen:=hL.len
 rcases Nat.lt_or_ge i L.length with h|h
 ·have hl:L[i]?=some L[i]:=List.getElem?_eq_getElem h
  refine .inr ⟨(aBq (L.take (i+1)),(i:Int)+1),⟨i+1,h,by simp⟩,by simp; omega,fun kn=>?_⟩
  try dsimp only
  unfold ο
  have hb:∀j,j≤L.length→-(400*4503599627370496)≤aBq (L.take j):=by
   intro j hj
   have h1:=aKg (L:=L.take j) (fun l hl=>(hL.most l (List.mem_of_mem_take hl)).1) hL.m0
   have h2:((L.take j).length:Int)*M≤400*4503599627370496:=Int.mul_le_mul (by rw[List.length_take]; omega) hL.m1 hL.m0 (by omega)
   omega
  have h1:=hb i hi
  have h2:=hb (i+1) h
  have h3:=a1j (L.take i)
  rw[aOj hl] at h2
  rw[Ô h,É hl,imin0,Û (by omega) (by omega),Ì h (by omega),aOj hl]
 ·refine .inl fun kn=>?_
  have:i=L.length:=by omega
  subst this
  try dsimp only
  unfold ο
  rw[Ý,List.take_length]
theorem aWc {x:List Int} (hx:x.length=N) (hN:N≤1000) {r:Option ρ} (k0:(Val (.pair (.slice .bool) (.slice tI)))→Option ρ)
 (hK:∀(w:List Bool) (q:List Int),w.length=N→q.Nodup→(∀v∈q,0≤v∧v<N)→(∀v:Int,0≤v→v<N→(wv w v=true↔v∈q))→(∀v:Int,0≤v→v<N→(v∈q↔gv x v≠ade))→k0 (w,q)=r) :
 Ñ (fun(v70:(Val (.pair tI (.pair (.slice .bool) (.slice tI))))) kk74=>Ō (N:Int) x v70.1 v70.2.1 v70.2.2 (fun u71 u72 u73=>kk74 (u71,u72,u73)) k0) ((0:Int),(List.replicate N false),([]:List Int))=r:=by
 refine ő (fun s:Int×List Bool×List Int=>∃i:Nat,i≤N∧s.1=i∧s.2.1.length=N∧s.2.2.Nodup∧s.2.2.length≤i∧(∀v∈s.2.2,0≤v∧v<i)∧(∀v:Int,0≤v→v<N→(wv s.2.1 v=true↔v∈s.2.2))∧(∀v:Int,0≤v→v<i→(v∈s.2.2↔gv x v≠ade))) (fun s=>N-s.1.toNat) ?_
  ⟨0,by omega,rfl,by simp,by simp,by simp,by simp,fun v h0 h1=>?_,fun v h0 h1=>by omega⟩
 ·rintro⟨s,w,q⟩ ⟨i,hi,h1,h2,h3,h4,h5,h6,h7⟩
  simp only at h1 h2 h3 h4 h5 h6 h7
  subst h1
  rcases Nat.lt_or_ge i N with h|h
  ·refine .inr ?_
   have hix:i<x.length:=by omega
   have hiw:i<w.length:=by omega
   have hnq:((i:Int))∉q:=fun hc=>by have:=(h5 _ hc).2; omega
   by_cases hf:gv x i=ade
   ·refine⟨((i:Int)+1,w,q),⟨i+1,h,by simp,h2,h3,by simp only; omega,fun v hv=>⟨(h5 v hv).1,by have:=(h5 v hv).2; push_cast; omega⟩,h6,fun v h0 h1=>?_⟩,by simp; omega,fun kn=>?_⟩
    ·by_cases hv:v=i
     ·subst hv; simp[hf,hnq]
     ·exact h7 v h0 (by push_cast at h1; omega)
    ·try dsimp only
     unfold Ō
     have e:ilt (i:Int) (N:Int)=true:=by simp[ilt,h]
     rw[Õ e,ς hix,aeR (by simpa using hix)]
     have e2:ine (gv x i) 1152921504606846976=false:=by simp[ine,hf]
     rw[Ò e2,Ì h (by omega)]
   ·refine⟨((i:Int)+1,w.set i true,q++[(i:Int)]),⟨i+1,h,by simp,by simpa using h2,?_,by simp; omega,fun v hv=>?_,fun v h0 h1=>?_,fun v h0 h1=>?_⟩,by simp; omega,fun kn=>?_⟩
    ·rw[List.nodup_append]
     exact⟨h3,by simp,fun a ha b hb=>by simp at hb; subst hb; exact fun e=>hnq (e▸ha)⟩
    ·rcases List.mem_append.1 hv with hv|hv
     ·exact⟨(h5 v hv).1,by have:=(h5 v hv).2; push_cast; omega⟩
     ·simp at hv; subst hv; push_cast; omega
    ·have:=aSX (w:=w) (u:=(i:Int)) (by omega) h0 (by simpa using hiw) true
     rw[Int.toNat_natCast] at this
     show wv (w.set i true) v=true↔v∈q++[(i:Int)]
     rw[this]
     by_cases hv:v=i
     ·simp[hv]
     ·simp only[hv,if_false,List.mem_append,List.mem_singleton,or_false]
      exact h6 v h0 h1
    ·show v∈q++[(i:Int)]↔_
     by_cases hv:v=i
     ·subst hv; simp[hf]
     ·simp only[List.mem_append,List.mem_singleton,hv,or_false]
      exact h7 v h0 (by push_cast at h1; omega)
    ·try dsimp only
     unfold Ō
     have e:ilt (i:Int) (N:Int)=true:=by simp[ilt,h]
     rw[Õ e,ς hix,aeR (by simpa using hix)]
     have e2:ine (gv x i) 1152921504606846976=true:=by simp[ine,hf]
     rw[Õ e2,Ù (by simp only[List.length_singleton]; omega),Am.iff_true,ς hiw,aKf (by simpa using hiw),Ì h (by omega),Int.toNat_natCast]
  ·refine .inl fun kn=>?_
   have:i=N:=by omega
   subst this
   try dsimp only
   unfold Ō
   have e:ilt (i:Int) (i:Int)=false:=by simp[ilt]
   rw[Ò e]
   exact hK w q h2 h3 h5 h6 h7
 ·have:wv (List.replicate N false) v=false:=by
   unfold wv
   rw[List.getElem?_replicate]
   split<;>rfl
  simp[this]
theorem aId (hL:ady L N M) (hN:1≤N) {S:Int→Bool} (hS:∀v,S v=true→0≤v∧v<N) {w:List Bool} {q:List Int} (hw:w.length=N) (hq:q.Nodup) (hr:∀v∈q,0≤v∧v<N) (hwq:∀v:Int,0≤v→v<N→(wv w v=true↔v∈q)) (hqs:∀v:Int,0≤v→v<N→(v∈q↔gv (alr S N) v≠ade)) :
 aVX L (fun v=>S v=true) N M 0 q [] (alr S N) w (List.replicate N 0) q:=by
 have ht:∀v:Int,0≤v→v<N→gv (List.replicate N (0:Int)) v=0:=by
  intro v h0 h1
  unfold gv
  rw[List.getElem?_replicate]
  split<;>rfl
 have hg:∀v:Int,0≤v→v<N→(v∈q↔S v=true):=by
  intro v h0 h1
  rw[hqs v h0 h1,adM S h0 h1]
  cases S v<;>simp[ade]
 have hM:=hL.m0
 refine⟨by simp,ą S N,hw,by simp,hq,hr,hwq,fun v h0 h1=>?_,fun v hv=>?_,fun vs v d hw hl=>?_,fun vs u d hw hl hu v m hlk=>?_,fun u h0 h1 hu hf v m hlk=>?_,fun v h0 h1 hf=>?_,fun v h0 h1=>?_,fun v hv=>?_,fun v hv=>?_,by omega,fun _=>rfl⟩
 ·rw[ht v h0 h1]; omega
 ·have:=hr v hv
  rw[ht v this.1 this.2]; omega
 ·cases hw with
  | nil hs =>
    have:=hS v hs
    rw[adM S this.1 this.2,if_pos hs]; omega
  |step=>simp at hl
 ·cases hw with
  | nil hs =>
    have:=hS u hs
    exact(hu ((hg u this.1 this.2).2 hs)).elim
  |step=>simp at hl
 ·rw[adM S h0 h1] at hf
  have:=mt (hg u h0 h1).2 hu
  rw[if_neg this] at hf
  exact(hf rfl).elim
 ·rw[adM S h0 h1] at hf ⊢
  split at hf
  ·rename_i hs
   rw[if_pos hs]; exact⟨[],.nil hs⟩
  ·exact(hf rfl).elim
 ·rw[adM S h0 h1]
  split
  ·exact .inr (by simp[hM])
  ·exact .inl rfl
 ·have h1:=hr v hv
  rw[adM S h1.1 h1.2,if_pos ((hg v h1.1 h1.2).1 hv)]; simp
 ·have h1:=hr v hv
  rw[adM S h1.1 h1.2,if_pos ((hg v h1.1 h1.2).1 hv)]; simp[ade]
structure Bad (L:List Lk) (N:Nat) (x:List Int) (w:List Bool) (t q:List Int):Prop where
 lx:x.length=N
 lw:w.length=N
 lt:t.length=N
 nodup:q.Nodup
 rng:∀v∈q,0≤v∧v<N
 waits:∀v:Int,0≤v→v<N→(wv w v=true↔v∈q)
 t0:∀v:Int,0≤v→v<N→0≤gv t v∧gv t v≤(N:Int)+1
 bd:∀v:Int,0≤v→v<N→-2305843009213693952≤gv x v∧gv x v≤0
 rel:∀u:Int,0≤u→u<N→u∉q→∀v m,(u,v,m)∈L→gv x v≤gv x u+m
theorem aY7 {r:Option ρ} {x:List Int} {w:List Bool} {t q:List Int} (hL:ady L N M) (hp:¬∃p,Pot L p) (k0:(Val (.pair .bool (.pair (.slice tI) (.pair (.slice .bool) (.pair (.slice tI) (.slice tI))))))→Option ρ)
 (hK:∀x w t q,k0 (false,x,w,t,q)=r) (h:Bad L N x w t q) :
 Ñ (fun(v64:(Val (.pair (.slice tI) (.pair (.slice .bool) (.pair (.slice tI) (.slice tI)))))) kk69=>Ħ [] (aBq L) (N:Int) L v64.1 v64.2.1 v64.2.2.1 v64.2.2.2 (fun u65 u66 u67 u68=>kk69 (u65,u66,u67,u68)) k0) (x,w,t,q)=r:=by
 refine ő (fun s:List Int×List Bool×List Int×List Int=>Bad L N s.1 s.2.1 s.2.2.1 s.2.2.2) (fun s=>aMs N s.2.2.1) ?_ h
 rintro⟨x,w,t,q⟩ h
 dsimp only at h ⊢
 have hN:=hL.nodes
 cases q with
 | nil =>
   exfalso
   exact hp ⟨gv x,fun u v m hl=>h.rel u (hL.inr _ hl).1.1 (hL.inr _ hl).1.2 (by simp) v m hl⟩
 | cons n rest =>
   have hnr:=h.rng n (by simp)
   have hb:=h.bd n hnr.1 hnr.2
   have ht:=h.t0 n hnr.1 hnr.2
   have hrl:rest.length≤1000000:=by
    have:=aTk N (n::rest) h.nodup h.rng
    simp only[List.length_cons] at this
    omega
   have hout:=fun(kn:List Int→List Bool→List Int→List Int→Option ρ)=>aTy (ρ:=ρ) hL (least:=aBq L) hnr h.lx h.lw h.lt hrl ⟨hb.1,by omega⟩ ⟨ht.1,by omega⟩ kn k0
   by_cases hlt:(N:Int)+1<gv t n+1
   ·exact .inl fun kn=>by rw[hout,if_pos hlt]; exact hK _ _ _ _
   ·have hw':(w.set n.toNat false).length=N:=by rw[List.length_set]; exact h.lw
    cases hr:aip n (aBq L) L x (w.set n.toNat false) rest with
    |mk b r' =>
    obtain⟨x',w',q'⟩:=r'
    cases b with
    |false=>exact .inl fun kn=>by rw[hout,if_neg hlt,hr]; exact hK _ _ _ _
    | true =>
      have hnd:=h.nodup
      rw[List.nodup_cons] at hnd
      have htl:n.toNat<t.length:=by have:=h.lt; omega
      have ha:=ae7 hnr hL.inr hL.noloop h.lx hw' hnd.2 (fun v h0 h1=>by
       rw[aSX hnr.1 h0 (by have:=h.lw; omega)]
       by_cases hv:v=n
       ·subst hv; simp[hnd.1]
       ·rw[if_neg hv,h.waits v h0 h1]
        simp[hv]) hr
      obtain⟨l,hl,hlv⟩:=ha.new
      refine .inr ⟨(x',w',t.set n.toNat (gv t n+1),q'),⟨ha.lx,ha.lw,by rw[List.length_set]; exact h.lt,ha.nodup,fun v hv=>?_,ha.waits,fun v h0 h1=>?_,fun v h0 h1=>?_,fun u h0 h1 hu v m hlk=>?_⟩,aPO htl (by omega),fun kn=>by rw[hout,if_neg hlt,hr]⟩
      ·dsimp only at hv
       rw[hl] at hv
       rcases List.mem_append.1 hv with hv|hv
       ·exact h.rng v (by simp[hv])
       ·exact(hlv v hv).1
      ·try dsimp only
       rw[ao3 hnr.1 h0 htl]
       have:=h.t0 v h0 h1
       split<;>omega
      ·try dsimp only
       have h2:=h.bd v h0 h1
       rcases ha.chg v h0 h1 with g|⟨_,g2,m,g3,g4,g5⟩
       ·rw[g]; exact h2
       ·have h3:=aKg (L:=L) (fun l hl=>(hL.most l hl).1) hL.m0
        have h4:(L.length:Int)*M≤400*4503599627370496:=Int.mul_le_mul (by have:=hL.len; omega) hL.m1 hL.m0 (by omega)
        omega
      ·dsimp only at hu ⊢
       have hvr:=(hL.inr _ hlk).2
       have heq:gv x' u=gv x u:=by
        rcases ha.chg u h0 h1 with g|⟨g,_⟩
        ·exact g
        ·exact(hu g).elim
       by_cases hun:u=n
       ·subst hun
        have h1:=ha.link v m hlk
        omega
       ·have hur:u∉n::rest:=by
         intro hc
         rcases List.mem_cons.1 hc with e|hc
         ·exact hun e
         ·exact hu (by rw[hl]; exact List.mem_append_left _ hc)
        have h2:=h.rel u h0 h1 hur v m hlk
        have:=ha.le v hvr.1 hvr.2
        omega
end
def aVW (N:Nat) (v:Int):Bool:=decide (0≤v)&&decide (v<(N:Int))
def aWC (s:Int) (v:Int):Bool:=v==s
theorem aNv (N:Nat):alr (aVW N) N=List.replicate N 0:=by
 refine aTM (by simp[ą]) fun v h0 h1=>?_
 rw[ą] at h1
 rw[adM _ h0 h1]
 have:aVW N v=true:=by simp[aVW,h0,h1]
 rw[if_pos this]
 unfold gv
 rw[List.getElem?_replicate]
 split<;>rfl
def adN (L:List Lk) (N:Nat):List Int:=afg L N (alr (aVW N) N)
def œ (L:List Lk) (N:Nat):Bool:=decide (aAi L (adN L N)=adN L N)
def akl (L:List Lk) (N:Nat) (s:Int):List Int:=afg L N (alr (aWC s) N)
section
variable {L:List Lk} {N:Nat} {M:Int}
theorem aZp (hL:ady L N M) (hN:N≤200):N*M<ade:=by
 have:(N:Int)*M≤200*4503599627370496:=Int.mul_le_mul (by omega) hL.m1 hL.m0 (by omega)
 unfold ade
 omega
theorem awR {p:Int→Int} (hL:ady L N M) (hN:N≤200) (hp:Pot L p):aVY L (fun v=>aVW N v=true) N (gv (adN L N)) :=
 aCa hp hL.inr (fun v h=>by simpa[aVW] using h) (fun l hl=>(hL.most l hl).2) hL.m0 (aZp hL hN) N (by omega)
theorem agl {p:Int→Int} (hL:ady L N M) (hN:N≤200) (hp:Pot L p) {s:Int} (hs:0≤s∧s<N):aVY L (fun v=>aWC s v=true) N (gv (akl L N s)) :=
 aCa hp hL.inr (fun v h=>by simp[aWC] at h; subst h; exact hs) (fun l hl=>(hL.most l hl).2) hL.m0 (aZp hL hN) N (by omega)
theorem aNO:∀{L:List Lk} {x:List Int},(∀u v m,(u,v,m)∈L→gv x u<ade→gv x v≤gv x u+m)→aAi L x=x
 |[],x,_=>rfl
 | l :: t, x, h => by
   have h1:afO x l=x:=by
    unfold afO
    split
    ·rename_i hc
     have:=h l.1 l.2.1 l.2.2 (by simp) hc.1
     omega
    ·rfl
   show aAi t (afO x l)=x
   rw[h1]
   exact aNO fun u v m hm=>h u v m (by simp[hm])
theorem adB (hL:ady L N M) (hN:N≤200):œ L N=true↔∃p,Pot L p:=by
 unfold œ
 rw[decide_eq_true_eq]
 have hle:∀v:Int,0≤v→v<N→gv (adN L N) v≤0:=by
  intro v h0 h1
  have:=atA hL.inr N (ą (aVW N) N) v h0
  rw[adM _ h0 h1,if_pos (by simp[aVW,h0,h1])] at this
  exact this
 constructor
 ·intro h
  refine⟨gv (adN L N),fun u v m hl=>?_⟩
  have hr:=(hL.inr _ hl).1
  have:=awY hL.inr (x:=adN L N) (by unfold adN; rw[Ś,ą]) u v m hl (by have:=hle u hr.1 hr.2; unfold ade; omega)
  rwa [h] at this
 ·rintro⟨p,hp⟩
  have hd:=awR hL hN hp
  exact aNO fun u v m hl hf=>hd.pot hL.inr hl (by omega)
end
end Go.Proofs.ZzM
end
noncomputable section
namespace Go.Proofs.ZzM
open Go Go.Am
section
variable {ρ:Type} {L:List Lk} {N:Nat} {M:Int}
theorem av8 (hN:N≤1000) (x:Option ρ):ô ((ile (0:Int) (N:Int))&&(ì (Int.toNat (N:Int)))) x=x:=by
 rw[Int.toNat_natCast,Ù (by omega)]
 have:((ile (0:Int) (N:Int))&&true)=true:=by simp[ile]
 rw[this,Am.iff_true]
theorem aRb (hL:ady L N M) (h1:1≤N) (hN:N≤200) (k0:(Val (.pair .bool (.pair (.slice tI) (.pair (.slice .bool) (.pair (.slice tI) (.slice tI))))))→Option ρ) {rT rF:Option ρ}
 (hT:œ L N=true→∀w t q,k0 (true,adN L N,w,t,q)=rT) (hF:∀x w t q,k0 (false,x,w,t,q)=rF) :
 (Ñ (fun(v70:(Val (.pair tI (.pair (.slice .bool) (.slice tI))))) kk74=>Ō (N:Int) (List.replicate N (0:Int)) v70.1 v70.2.1 v70.2.2 (fun u71 u72 u73=>kk74 (u71,u72,u73)) (fun z9=>Ñ (fun(v64:(Val (.pair (.slice tI) (.pair (.slice .bool) (.pair (.slice tI) (.slice tI)))))) kk69=>Ħ [] (aBq L) (N:Int) L v64.1 v64.2.1 v64.2.2.1 v64.2.2.2 (fun u65 u66 u67 u68=>kk69 (u65,u66,u67,u68)) k0) ((List.replicate N (0:Int)),z9.1,(List.replicate N (0:Int)),z9.2))) ((0:Int),(List.replicate N false),([]:List Int)))=if œ L N then rT else rF:=by
 refine aWc (by simp) (by omega) _ fun w q hw hq hr hwq hqs=>?_
 try dsimp only
 have hS:∀v,aVW N v=true→0≤v∧v<N:=fun v h=>by simpa[aVW] using h
 by_cases ho:œ L N=true
 ·rw[if_pos ho]
  obtain⟨p,hp⟩:=(adB hL hN).1 ho
  have hs:=aId hL h1 hS hw hq hr hwq (fun v a b=>by rw[aNv]; exact hqs v a b)
  rw[aNv] at hs
  refine aNw hL (aZp hL hN) hp hS k0 (fun x w t q hx hd=>?_) hs
  have:x=adN L N:=by
   refine aTM (by rw[hx]; unfold adN; rw[Ś,ą]) fun v a b=>?_
   exact hd.uniq (awR hL hN hp) a (by omega)
  rw[this]; exact hT ho w t q
 ·rw[if_neg ho]
  refine aY7 hL (fun hp=>ho ((adB hL hN).2 hp)) k0 hF ?_
  have hg:∀v,gv (List.replicate N (0:Int)) v=0:=by
   intro v
   unfold gv
   rw[List.getElem?_replicate]
   split<;>rfl
  refine⟨by simp,hw,by simp,hq,hr,hwq,fun v a b=>?_,fun v a b=>?_,fun u a b hu v m hl=>?_⟩
  ·rw[hg]; omega
  ·rw[hg]; omega
  ·exact(hu ((hqs u a b).2 (by rw[hg]; unfold ade; omega))).elim
end
theorem shift_ok {ρ:Type} {x:List Int} (f:Int) (hx:x.length≤1000) (hf : -2305843009213693952≤f∧f≤2305843009213693952) (hb:∀a∈x,-2305843009213693952≤a∧a≤2305843009213693952) (k0:List Int→Option ρ) :
 Ñ (fun(v60:(Val (.pair tI (.slice tI)))) kk63=>adV f (Ü x) v60.1 v60.2 (fun u61 u62=>kk63 (u61,u62)) k0) ((0:Int),x)=k0 (x.map fun a=>a-f):=by
 refine ù x (fun i=>(x.take i).map (fun a=>a-f)++x.drop i) _ (by simp) (fun i a hi ha kn=>?_) (fun kn=>?_)
 ·try dsimp only
  unfold adV
  have hlen:((x.take i).map (fun a=>a-f)++x.drop i).length=x.length:=by simp; omega
  have hget:((x.take i).map (fun a=>a-f)++x.drop i)[i]?=some a:=by
   rw[List.getElem?_append_right (by simp; omega)]
   simp only[List.length_map,List.length_take,List.getElem?_drop]
   rw[←ha]; congr 1; omega
  have hi':i<((x.take i).map (fun a=>a-f)++x.drop i).length:=by omega
  have ha':=hb a (List.mem_of_getElem? ha)
  rw[Ô hi,ς hi',Ĥ hget,Û (by omega) (by omega),ς hi',Ĥ hget,Ì hi (by omega),Int.toNat_natCast,take_succ ha]
  congr 2
  rw[List.drop_eq_getElem_cons hi,List.map_append,List.append_assoc,List.set_append_right _ _ (by simp; omega)]
  have:i-(List.map (fun a=>a-f) (List.take i x)).length=0:=by simp; omega
  rw[this]
  have h1:x[i]=a:=by rw[List.getElem?_eq_getElem hi] at ha; simpa using ha
  simp[h1]
 ·try dsimp only
  unfold adV
  rw[Ý]
  simp
section
variable {L:List Lk} {N:Nat} {M:Int}
theorem aY9 (hL:ady L N M) (hN:N≤200) (ho:œ L N=true):∀a∈adN L N,-2305843009213693952≤a∧a≤0:=by
 obtain⟨p,hp⟩:=(adB hL hN).1 ho
 have hd:=awR hL hN hp
 intro a ha
 obtain⟨i,hi,rfl⟩:=List.mem_iff_getElem.1 ha
 have hlen:(adN L N).length=N:=by unfold adN; rw[Ś,ą]
 have h0:gv (adN L N) i=(adN L N)[i]:=by unfold gv; simp[hi]
 have hle:=atA hL.inr N (ą (aVW N) N) (i:Int) (by omega)
 rw[adM _ (by omega) (by omega),if_pos (by simp[aVW]; omega)] at hle
 have hle':gv (adN L N) i≤0:=hle
 obtain⟨vs,hw⟩:=hd.att i (by omega) (by omega) (by unfold ade; omega)
 have h1:=hw.low' hp
 have h3:=aKg (L:=L) (fun l hl=>(hL.most l hl).1) hL.m0
 have h4:(L.length:Int)*M≤400*4503599627370496:=Int.mul_le_mul (by have:=hL.len; omega) hL.m1 hL.m0 (by omega)
 omega
def solP (L:List Lk) (N:Nat):List Int:=(adN L N).map fun a=>a-gv (adN L N) 0
theorem arZ (hL:ady L N M) (h1:1≤N) (hN:N≤200):ae8 ((N:Int),L) []=some (if œ L N then(solP L N,true) else([],false)):=by
 unfold ae8 aoA
 try dsimp only
 rw[av8 (by omega),av8 (by omega),av8 (by omega),Int.toNat_natCast]
 refine Eq.trans (aTJ hL _) ?_
 refine Eq.trans (aRb hL h1 hN _ (rT:=some (solP L N,true)) (rF:=some ([],false)) (fun ho w t q=>?_) (fun x w t q=>?_)) ?_
 ·try dsimp only
  have hlen:(adN L N).length=N:=by unfold adN; rw[Ś,ą]
  have hb:=aY9 hL hN ho
  have h0:ilt (0:Int) (Ĩ (adN L N))=true:=decide_eq_true (show(0:Int)<((adN L N).length:Int) by omega)
  have hg:(adN L N)[0]?=some (gv (adN L N) 0):=aTL (v:=0) (show 0<_ by omega)
  have hm:=hb _ (List.mem_of_getElem? hg)
  rw[show(!true)=false from rfl,ã,ī h0,alv hg]
  exact shift_ok _ (by omega) ⟨hm.1,by omega⟩ (fun a ha=>⟨(hb a ha).1,by have:=(hb a ha).2; omega⟩) _
 ·rfl
 ·cases œ L N<;>rfl
structure adx (L:List Lk) (N:Nat):Prop where
 n1:1≤N
 n60:N≤60
 len:L.length≤300
 inr:InR L N
 noloop:∀l∈L,l.1≠l.2.1
 most:∀l∈L,-4503599627370496≤l.2.2∧l.2.2≤4503599627370496
theorem adx.links (h:adx L N):ady L N 4503599627370496 :=
 ⟨h.inr,h.noloop,h.most,by have:=h.len; omega,by have:=h.n60; omega,by omega,by omega⟩
theorem adx.sub {L':List Lk} (h:adx L N) (hs:∀l∈L',l∈L) (hl:L'.length≤L.length):adx L' N :=
 ⟨h.n1,h.n60,by have:=h.len; omega,fun l hm=>h.inr l (hs l hm),fun l hm=>h.noloop l (hs l hm),fun l hm=>h.most l (hs l hm)⟩
theorem aCp (n:Int) (L:List Lk) (v:Int):ajJ (n,L) v=some (decide (0≤v)&&decide (v<n)):=by
 unfold ajJ aLD ige
 by_cases h:0≤v
 ·have:decide (v≥0)=true:=by simpa using h
  rw[Õ this]; simp[h]
 ·have:decide (v≥0)=false:=by simpa using h
  rw[Ò this]; simp[h]
theorem afH (h:adx L N):agU ((N:Int),L)=some (0,-1):=by
 have h1:=h.n1
 have h2:=h.n60
 have h3:=h.len
 unfold agU aEa
 try dsimp only
 rw[Ò (by simp[ilt]; omega),Ò (by simp[igt]; omega),Ò (by rw[â]; simp[igt]; omega)]
 refine Eq.trans (π L (fun _=>false) (fun i=>some (1,i)) (some (0,-1)) (fun i l hi hl kn=>?_) (fun kn=>?_)) ?_
 ·try dsimp only
  unfold ajt
  have hm:=List.mem_of_getElem? hl
  have a:=h.inr l hm
  have b:=h.noloop l hm
  have c:=h.most l hm
  have e1:(decide (0≤l.1)&&decide (l.1<(N:Int)))=true:=by simp[a.1.1,a.1.2]
  have e2:(decide (0≤l.2.1)&&decide (l.2.1<(N:Int)))=true:=by simp[a.2.1,a.2.2]
  rw[Ô hi,É hl,aCp,À,e1,aCp,À,e2]
  simp only[Bool.not_true,ã,Bool.false_eq_true,if_false]
  rw[Ò (by simp[ieq,b]),Ò (by simp[ilt]; omega),Ò (by simp[igt]; omega),Ì hi (by omega)]
 ·try dsimp only
  unfold ajt
  rw[Ý]
 ·rw[List.findIdx?_eq_none_iff.2 (by simp)]
theorem ao2 {ρ:Type} {x:List Int} {v:Int} (h0:0≤v) (h:v.toNat<x.length) (f:Int→Option ρ):ü x v f=f (gv x v):=by
 obtain⟨i,rfl⟩:=Int.eq_ofNat_of_zero_le h0
 exact É (aTL h) f
end
end Go.Proofs.ZzM
end
noncomputable section
namespace Go.Proofs.ZzM
open Go Go.Am
section
variable {b:á}
theorem amG (b:á) (g:ç):(ß b g).Pairwise (·<·):=ar2 _
theorem aFn (h:ğ b) {g:ç} (hg:g∈b.2.1):∃t,ß b g=g.2.1::t:=by
 have h1:=amG b g
 have h2:=aeN (b:=b) g
 have h3:∀d∈ß b g,g.2.1≤d:=fun d hd=>(h.day hg hd).1
 cases hd:ß b g with
 |nil=>rw[hd] at h2; cases h2
 | cons a t =>
   rw[hd] at h1 h2 h3
   rw[List.pairwise_cons] at h1
   rcases List.mem_cons.1 h2 with e|e
   ·exact⟨t,by rw[e]⟩
   ·have:=h1.1 _ e
    have:=h3 a (by simp)
    omega
def off (b:á) (i:Nat):Nat:=((b.2.1.take i).flatMap fun g=>(ß b g).map fun d=>((g.1,d):Int×Int)).length
theorem asg {i:Nat} {g:ç} (hg:b.2.1[i]?=some g):Ï b=((b.2.1.take i).flatMap fun g=>(ß b g).map fun d=>((g.1,d):Int×Int))++(((ß b g).map fun d=>((g.1,d):Int×Int))++((b.2.1.drop (i+1)).flatMap fun g=>(ß b g).map fun d=>((g.1,d):Int×Int))):=by
 obtain⟨hi,rfl⟩:=List.getElem?_eq_some_iff.1 hg
 have h1:b.2.1=b.2.1.take i++(b.2.1[i]::b.2.1.drop (i+1)):=by
  rw[←List.drop_eq_getElem_cons hi,List.take_append_drop]
 unfold Ï
 conv=>lhs; rw[h1]
 rw[List.flatMap_append,List.flatMap_cons]
theorem aRl (h:ğ b) {i:Nat} {g:ç} (hg:b.2.1[i]?=some g) {k:Nat} {d:Int} (hk:(ß b g)[k]?=some d):adJ (Ï b) g.1 d=some (off b i+k):=by
 obtain⟨hi,hgi⟩:=List.getElem?_eq_some_iff.1 hg
 obtain⟨hkl,hkd⟩:=List.getElem?_eq_some_iff.1 hk
 unfold adJ
 rw[asg hg,List.findIdx?_append,List.findIdx?_append]
 have h1:List.findIdx? (fun n:Int×Int=>decide (g.1=n.1)&&decide (d=n.2)) ((b.2.1.take i).flatMap fun g=>(ß b g).map fun d=>((g.1,d):Int×Int))=none:=by
  rw[List.findIdx?_eq_none_iff]
  intro x hx
  obtain⟨g',hg',hx⟩:=List.mem_flatMap.1 hx
  obtain⟨d',_,rfl⟩:=List.mem_map.1 hx
  obtain⟨j,hj,rfl⟩:=List.mem_iff_getElem.1 hg'
  rw[List.length_take] at hj
  rw[List.getElem_take]
  have:=(List.pairwise_iff_getElem.1 h.ids) j i (by omega) hi (by omega)
  rw[hgi] at this
  simp only[Bool.and_eq_false_iff,decide_eq_false_iff_not]
  exact .inl (by omega)
 have h2:List.findIdx? (fun n:Int×Int=>decide (g.1=n.1)&&decide (d=n.2)) ((ß b g).map fun d=>((g.1,d):Int×Int))=some k:=by
  rw[List.findIdx?_eq_some_iff_getElem]
  refine⟨by simpa using hkl,by simp[hkd],fun j hj=>?_⟩
  have:=(List.pairwise_iff_getElem.1 (amG b g)) j k (by omega) hkl hj
  rw[hkd] at this
  simp only[List.getElem_map,Bool.and_eq_true,decide_eq_true_eq,not_and]
  intro _
  omega
 rw[h1,h2]
 simp only[Option.map_some,Option.some_or,Option.none_or]
 unfold off
 congr 1
 omega
theorem aBp {i:Nat} {g:ç} (hg:b.2.1[i]?=some g) {k:Nat} {d:Int} (hk:(ß b g)[k]?=some d):(Ï b)[off b i+k]?=some (g.1,d):=by
 obtain⟨hkl,hkd⟩:=List.getElem?_eq_some_iff.1 hk
 rw[asg hg,List.getElem?_append_right (by unfold off; omega),List.getElem?_append_left (by unfold off; simp; omega)]
 unfold off
 simp[hk]
theorem aUf (h:ğ b) {i:Nat} {g:ç} (hg:b.2.1[i]?=some g):atP (Ï b) [g.1] g.2.1=(off b i:Int)+1:=by
 obtain⟨t,ht⟩:=aFn h (List.mem_of_getElem? hg)
 have:=aRl h hg (k:=0) (d:=g.2.1) (by rw[ht]; rfl)
 unfold atP
 simp only[this]
 rfl
theorem aWE (h:ğ b) {i:Nat} {g:ç} (hg:b.2.1[i]?=some g):off b i+(ß b g).length≤(Ï b).length:=by
 rw[asg hg]
 unfold off
 simp only[List.length_append,List.length_map]
 omega
theorem aZm {i:Nat} {g:ç} (hg:b.2.1[i]?=some g):off b (i+1)=off b i+(ß b g).length:=by
 unfold off
 rw[take_succ hg,List.flatMap_append]
 simp
theorem aOi (h:ğ b) {c:Cmp} (hc:c∈b.2.2.2.2.1) {x:Int} (hx:(x∈c.2.2.1∧x∉c.2.2.2.1)∨(x∈c.2.2.2.1∧x∉c.2.2.1)):∃j,adJ (Ï b) x c.2.1=some j:=by
 have hm:x∈c.2.2.1++c.2.2.2.1:=by rw[List.mem_append]; exact hx.imp (·.1) (·.1)
 obtain⟨⟨g,hg,_⟩,_⟩:=h.pile hc hm
 obtain⟨hgm,hgx⟩:=ajH hg
 obtain⟨i,hi,hgi⟩:=List.mem_iff_getElem.1 hgm
 have hd:c.2.1∈ß b g:=aeD.2 (.inr (.inl ⟨c,hc,by
  rw[hgx]
  rcases hx with⟨h1,h2⟩|⟨h1,h2⟩
  ·have e1:c.2.2.1.contains x=true:=by simpa using h1
   have e2:c.2.2.2.1.contains x=false:=by simpa using h2
   rw[e1,e2]; simp
  ·have e1:c.2.2.2.1.contains x=true:=by simpa using h1
   have e2:c.2.2.1.contains x=false:=by simpa using h2
   rw[e1,e2]; simp,rfl⟩))
 obtain⟨k,hk,hkd⟩:=List.mem_iff_getElem.1 hd
 have:=aRl h (g:=g) (i:=i) (by rw[List.getElem?_eq_getElem hi,hgi]) (k:=k) (d:=c.2.1) (by rw[List.getElem?_eq_getElem hk,hkd])
 rw[hgx] at this
 exact⟨_,this⟩
inductive aVR (b:á) (p:List Int) (d:Int) (n:Int):Prop
 |none:p=[]→n=0→aVR b p d n
 |one (x:Int) (j:Nat):p=[x]→adJ (Ï b) x d=some j→n=(j:Int)+1→aVR b p d n
theorem aMK (h:ğ b) {c:Cmp} (hc:c∈b.2.2.2.2.1):aVR b (æ c.2.2.1 c.2.2.2.1) c.2.1 (cx b c):=by
 have hl:=(h.lefts hc).1
 cases hp:æ c.2.2.1 c.2.2.2.1 with
 |nil=>exact .none rfl (by unfold cx atP; rw[hp])
 | cons x t =>
   rw[hp] at hl
   have:t=[]:=by cases t with|nil=>rfl|cons=>simp at hl
   subst this
   obtain⟨j,hj⟩:=aOi h hc (x:=x) (.inl (aex.1 (by rw[hp]; simp)))
   exact .one x j rfl hj (by unfold cx atP; rw[hp]; simp only[hj])
theorem aFo (h:ğ b) {c:Cmp} (hc:c∈b.2.2.2.2.1):aVR b (æ c.2.2.2.1 c.2.2.1) c.2.1 (cy b c):=by
 have hl:=(h.lefts hc).2.1
 cases hp:æ c.2.2.2.1 c.2.2.1 with
 |nil=>exact .none rfl (by unfold cy atP; rw[hp])
 | cons x t =>
   rw[hp] at hl
   have:t=[]:=by cases t with|nil=>rfl|cons=>simp at hl
   subst this
   obtain⟨j,hj⟩:=aOi h hc (x:=x) (.inr (aex.1 (by rw[hp]; simp)))
   exact .one x j rfl hj (by unfold cy atP; rw[hp]; simp only[hj])
theorem aVR.rng {p:List Int} {d n:Int} (h:aVR b p d n):0≤n∧n<((Ï b).length+1:Nat):=by
 rcases h with⟨_,h⟩|⟨x,j,_,h1,h2⟩
 ·omega
 ·have:=(afV h1).1
  omega
theorem aZS (h:ğ b) {c:Cmp} (hc:c∈b.2.2.2.2.1):cx b c≠cy b c:=by
 have hl:=(h.lefts hc).2.2
 rcases aMK h hc with⟨h1,h2⟩|⟨x,j,h1,h2,h3⟩
 ·rcases aFo h hc with⟨g1,g2⟩|⟨y,k,g1,g2,g3⟩
  ·rw[h1,g1] at hl; simp at hl
  ·omega
 ·rcases aFo h hc with⟨g1,g2⟩|⟨y,k,g1,g2,g3⟩
  ·omega
  ·intro e
   have:j=k:=by omega
   subst this
   have e1:=(afV h2).2
   have e2:=(afV g2).2
   rw[e1] at e2
   simp only[Option.some.injEq,Prod.mk.injEq] at e2
   have m1:x∈æ c.2.2.1 c.2.2.2.1:=by rw[h1]; simp
   have m2:y∈æ c.2.2.2.1 c.2.2.1:=by rw[g1]; simp
   rw[e2.1] at m1
   exact(aex.1 m1).2 (aex.1 m2).1
theorem aER (h:ğ b):(Ú b).length=2*(Ï b).length+2*b.2.2.2.2.1.length:=by
 have h1:∀l:List ç,(∀g∈l,g∈b.2.1)→(l.flatMap (ó b)).length=2*(l.flatMap fun g=>(ß b g).map fun d=>((g.1,d):Int×Int)).length:=by
  intro l
  induction l with
  |nil=>intro _; rfl
  | cons g t ih =>
    intro hm
    have:=ih fun g hg=>hm g (by simp[hg])
    have hp:=List.length_pos_of_mem (aeN (b:=b) g)
    simp only[List.flatMap_cons,List.length_append,List.length_map,this]
    unfold ó
    rw[List.length_append,ŧ _ _ (fun _=>rfl)]
    simp only[List.length_cons,List.length_nil]
    omega
 have h2:∀l:List Cmp,(l.flatMap (ā b)).length=2*l.length:=by
  intro l
  induction l with
  |nil=>rfl
  | cons c t ih =>
    simp only[List.flatMap_cons,List.length_append,ih,ā,List.length_cons,List.length_nil]
    omega
 unfold Ú
 rw[List.length_append,h1 _ fun _ h=>h,h2]
 rfl
theorem Ĵ (h:ğ b) {i:Nat} {g:ç} (hg:b.2.1[i]?=some g) {l:Lk}:l∈ó b g ↔
 l=(0,(off b i:Int)+1,g.2.2.1+g.2.2.2.1.2)∨l=((off b i:Int)+1,0,-(g.2.2.1+g.2.2.2.1.1)) ∨
 ∃(k:Nat) (d e:Int),(ß b g)[k]?=some d∧(ß b g)[k+1]?=some e∧(l=((off b i:Int)+k+1,(off b i:Int)+k+2,0)∨l=((off b i:Int)+k+2,(off b i:Int)+k+1,adE b g d e)):=by
 unfold ó
 rw[aUf h hg]
 simp only[List.mem_append,List.mem_cons,List.not_mem_nil,or_false,List.mem_flatMap,List.mem_range]
 constructor
 ·rintro((h1|h1)|⟨k,hk,h1⟩)
  ·exact .inl h1
  ·exact .inr (.inl h1)
  ·refine .inr (.inr ⟨k,(ß b g)[k],(ß b g)[k+1],List.getElem?_eq_getElem (by omega),List.getElem?_eq_getElem (by omega),?_⟩)
   rw[List.getElem?_eq_getElem (show k<(ß b g).length by omega),List.getElem?_eq_getElem (show k+1<(ß b g).length by omega)] at h1
   simp only[Option.getD_some] at h1
   have e1:(off b i:Int)+1+k=(off b i:Int)+k+1:=by omega
   have e2:(off b i:Int)+k+1+1=(off b i:Int)+k+2:=by omega
   rw[e1,e2] at h1
   exact h1
 ·rintro(h1|h1|⟨k,d,e,hd,he,h1⟩)
  ·exact .inl (.inl h1)
  ·exact .inl (.inr h1)
  ·obtain⟨h2,rfl⟩:=List.getElem?_eq_some_iff.1 hd
   obtain⟨h3,rfl⟩:=List.getElem?_eq_some_iff.1 he
   refine .inr ⟨k,by omega,?_⟩
   rw[hd,he]
   simp only[Option.getD_some]
   have e1:(off b i:Int)+1+k=(off b i:Int)+k+1:=by omega
   have e2:(off b i:Int)+k+1+1=(off b i:Int)+k+2:=by omega
   rw[e1,e2]
   exact h1
theorem ahR {l:Lk}:l∈Ú b↔(∃(i:Nat) (g:ç),b.2.1[i]?=some g∧l∈ó b g)∨∃c∈b.2.2.2.2.1,l=(cy b c,cx b c,(ž b c).2)∨l=(cx b c,cy b c,-(ž b c).1):=by
 unfold Ú
 simp only[List.mem_append,List.mem_flatMap,ā,List.mem_cons,List.not_mem_nil,or_false]
 constructor
 ·rintro(⟨g,hg,h⟩|h)
  ·obtain⟨i,hi,rfl⟩:=List.mem_iff_getElem.1 hg
   exact .inl ⟨i,_,List.getElem?_eq_getElem hi,h⟩
  ·exact .inr h
 ·rintro(⟨i,g,hg,h⟩|h)
  ·exact .inl ⟨g,List.mem_of_getElem? hg,h⟩
  ·exact .inr h
theorem ğ.sys (h:ğ b):adx (Ú b) ((Ï b).length+1):=by
 have hN:=h.nodes
 have hL:=h.links
 have key:∀l∈Ú b,((0≤l.1∧l.1<((Ï b).length+1:Nat))∧(0≤l.2.1∧l.2.1<((Ï b).length+1:Nat)))∧l.1≠l.2.1∧(-4503599627370496≤l.2.2∧l.2.2≤4503599627370496):=by
  intro l hl
  rcases ahR.1 hl with⟨i,g,hg,hl⟩|⟨c,hc,hl⟩
  ·have hgm:=List.mem_of_getElem? hg
   have hr:=h.gaugeR hgm
   have ho:=aWE h hg
   have hp:=List.length_pos_of_mem (aeN (b:=b) g)
   have r1:=hr.2.2.2.2.2.1
   have r2:=hr.2.2.2.2.2.2.1
   rcases(Ĵ h hg).1 hl with rfl|rfl|⟨k,d,e,hd,he,h1⟩
   ·dsimp only; omega
   ·dsimp only; omega
   ·obtain⟨h2,_⟩:=List.getElem?_eq_some_iff.1 he
    have d1:=h.day hgm (List.mem_of_getElem? hd)
    have lb:=aeZ h hgm (t:=e) d1.2.1
    rcases h1 with rfl|rfl
    ·dsimp only; omega
    ·dsimp only; omega
  ·have a:=(aMK h hc).rng
   have b':=(aFo h hc).rng
   have ne:=aZS h hc
   have sb:=ar4 h hc
   rcases hl with rfl|rfl
   ·dsimp only; omega
   ·dsimp only; omega
 exact⟨by omega,by omega,by rw[aER h]; omega,fun l hl=>(key l hl).1,fun l hl=>(key l hl).2.1,fun l hl=>(key l hl).2.2⟩
end
end Go.Proofs.ZzM
end
noncomputable section
namespace Go.Proofs.ZzM
open Go Go.Am
theorem aYn {ρ:Type}:@al2 ρ=@ο ρ:=rfl
theorem aYm {ρ:Type}:@al1 ρ=@Ō ρ:=rfl
theorem aYl {ρ:Type}:@al0 ρ=@Ħ ρ:=rfl
theorem aPX {ρ:Type} {N:Nat} (hN:N≤1000) (x:Option ρ):ô ((ile (0:Int) (N:Int))&&(ì N)) x=x:=by
 have:=av8 hN x
 rwa [Int.toNat_natCast] at this
section
variable {L:List Lk} {N:Nat} {M:Int}
theorem aWb {s:Int} (hs:0≤s∧s<N):(List.replicate N ade).set s.toNat 0=alr (aWC s) N:=by
 refine aTM (by simp[ą]) fun v h0 h1=>?_
 have hv:v<N:=by simpa using h1
 rw[adM _ h0 hv,ao3 hs.1 h0 (by simp; omega)]
 unfold aWC
 by_cases h:v=s
 ·simp[h]
 ·simp only[h,if_false,beq_iff_eq]
  unfold gv
  rw[List.getElem?_replicate]
  have:v.toNat<N:=by omega
  simp[this]
theorem aYk (hL:ady L N M) (h1:1≤N) (hN:N≤200) (ho:œ L N=true) {s:Int} (hs:0≤s∧s<N):ap7 ((N:Int),L) [] s=some (akl L N s):=by
 obtain⟨p,hp⟩:=(adB hL hN).1 ho
 unfold ap7 axZ
 rw[aYn,aYm,aYl]
 dsimp only
 rw[av8 (by omega),Int.toNat_natCast]
 refine ù (List.replicate N (0:Int)) (fun i=>List.replicate i ade++List.replicate (N-i) 0) _ (by simp) (fun i a hi ha kn=>?_) (fun kn=>?_)
 ·dsimp only
  unfold ahw
  have hiN:i<N:=by simpa using hi
  have hl:i<(List.replicate i ade++List.replicate (N-i) (0:Int)).length:=by simp; omega
  rw[Ô hi,ς hl,Ĥ (List.getElem?_eq_getElem hl),Ì hiN (by omega),Int.toNat_natCast]
  congr 2
  rw[List.set_append_right _ _ (by simp)]
  have:N-i=(N-(i+1))+1:=by omega
  rw[this,List.length_replicate,Nat.sub_self,List.replicate_succ,List.set_cons_zero,List.replicate_succ']
  simp
 ·try dsimp only
  unfold ahw
  rw[Ý]
  dsimp only
  have e0:List.replicate (List.replicate N (0:Int)).length ade++List.replicate (N-(List.replicate N (0:Int)).length) 0=List.replicate N ade:=by simp
  rw[e0]
  have hlen:s.toNat<(List.replicate N ade).length:=by simp; omega
  rw[show Ĩ (List.replicate N ade)=((N:Nat):Int) by simp[Ĩ],adY hs.1 hs.2,aeR hlen,aPX (by omega),aPX (by omega),aWb hs]
  refine Eq.trans (aTJ hL _) ?_
  have hS:∀v,aWC s v=true→0≤v∧v<N:=fun v h=>by simp[aWC] at h; subst h; exact hs
  refine aWc (ą _ _) (by omega) _ fun w q hw hq hr hwq hqs=>?_
  have hs0:=aId hL h1 hS hw hq hr hwq hqs
  refine aNw hL (aZp hL hN) hp hS _ (fun x w t q hx hd=>?_) hs0
  have:x=akl L N s:=by
   refine aTM (by rw[hx]; unfold akl; rw[Ś,ą]) fun v a b=>?_
   exact hd.uniq (agl hL hN hp hs) a (by omega)
  dsimp only
  rw[this]
def adb (L:List Lk) (N:Nat) (s t:Int):Int×Int :=
 if !œ L N then(0,9) else if gv (akl L N s) t=ade then(0,5) else(gv (akl L N s) t,0)
theorem a0j (h:adx L N) {ns:List Int} (hn:∀n∈ns,0≤n∧n<N) (hl:ns.length≤1000):awq ((N:Int),L) ns=some (if œ L N then 0 else 9):=by
 have h2:=h.n60
 unfold awq aD2
 rw[afH h,À]
 dsimp only
 rw[Ò (by rfl)]
 refine Eq.trans (π ns (fun _=>false) (fun _=>some 1) (some (if œ L N then 0 else 9)) (fun i n hi hm kn=>?_) (fun kn=>?_)) ?_
 ·try dsimp only
  unfold ajr
  have a:=hn n (List.mem_of_getElem? hm)
  have e:(decide (0≤n)&&decide (n<(N:Int)))=true:=by simp[a.1,a.2]
  rw[Ô hi,É hm,aCp,À,e,Ì hi (by omega)]
  simp
 ·try dsimp only
  unfold ajr
  rw[Ý,arZ h.links h.n1 (by omega),À]
  cases œ L N<;>rfl
 ·rw[List.findIdx?_eq_none_iff.2 (by simp)]
theorem aBO (h:adx L N) {s t:Int} (hs:0≤s∧s<N) (ht:0≤t∧t<N):aiD ((N:Int),L) s t=some (adb L N s t):=by
 have h2:=h.n60
 unfold aiD aEg adb
 rw[a0j h (fun n hn=>by simp at hn; rcases hn with rfl|rfl<;>assumption) (by simp),À]
 by_cases ho:œ L N=true
 ·rw[if_pos ho,Ò (by rfl),aYk h.links h.n1 (by omega) ho hs,À,ao2 ht.1 (by unfold akl; rw[Ś,ą]; omega),ď,if_neg (show ¬(!œ L N)=true by simp[ho])]
  by_cases hf:gv (akl L N s) t=ade
  ·rw[if_pos (by simpa[ieq] using hf),if_pos hf]
  ·rw[if_neg (by simpa[ieq] using hf),if_neg hf]
 ·rw[if_neg ho,Õ (by rfl),if_pos (show(!œ L N)=true by simpa using ho)]
end
end Go.Proofs.ZzM
end
noncomputable section
namespace Go.Proofs.ZzM
open Go Go.Am
def è (b:á) (c:Cmp):á:=(b.1,b.2.1,b.2.2.1,b.2.2.2.1,b.2.2.2.2.1++[c],b.2.2.2.2.2)
def akm:á:=((0,0),[],[],[],[],[])
def apr (b:á) (c:Cmp):á×Int:=if à b≠0 then(akm,à b) else if à (è b c)≠0 then(akm,à (è b c)) else(è b c,0)
theorem aWR {b:á} (h:ğ b) {c:Cmp} (hA:c.2.2.1.length≤1000) (hB:c.2.2.2.1.length≤1000):Ļ (è b c):=by
 have hs:=h.size
 have:=h.nC
 refine⟨hs.gauges,hs.uses,hs.loans,by simp[è]; omega,hs.looks,fun d hd=>?_⟩
 rcases List.mem_append.1 (show d∈b.2.2.2.2.1++[c] from hd) with hd|hd
 ·exact hs.piles d hd
 ·simp at hd; subst hd; exact⟨hA,hB⟩
theorem aYx {b:á} (hs:Ļ b) (hr:∀g∈b.2.1,I64 g.2.2.2.2.1.1) {c:Cmp} (hA:c.2.2.1.length≤1000) (hB:c.2.2.2.1.length≤1000):ahF b c=some (apr b c):=by
 unfold ahF aMj apr
 have h1:=hs.gauges; have h2:=hs.uses; have h3:=hs.loans; have h4:=hs.compares; have h5:=hs.looks
 rw[Ù (by omega),Am.iff_true,Ù (by omega),Am.iff_true,η hs hr,À]
 by_cases hc:à b=0
 ·have h:=(ð b).1 hc
  rw[Ò (by simp[ine,hc]),Ù (by omega),Am.iff_true,Ù (by omega),Am.iff_true,Ù (by omega),Am.iff_true,Ù (by omega),Am.iff_true,Ù (by omega),Am.iff_true,if_neg (show ¬(à b≠0) from fun h=>h hc)]
  refine ù b.2.2.2.2.1 (fun _=>b.2.2.2.2.1) _ rfl (fun i d hi hd kn=>?_) (fun kn=>?_)
  ·dsimp only
   unfold ami
   obtain⟨p1,p2⟩:=hs.piles d (List.mem_of_getElem? hd)
   have e1:b.2.2.2.2.1.set i d=b.2.2.2.2.1:=by
    obtain⟨h,rfl⟩:=List.getElem?_eq_some_iff.1 hd
    exact List.set_getElem_self h
   rw[Ô hi,ς hi,Ĥ hd,Ù (by omega),Am.iff_true,Ù (by omega),Am.iff_true,ς hi,Ĥ hd,Int.toNat_natCast]
   rw[show(d.1,d.2.1,d.2.2.1,d.2.2.2)=d from rfl,e1,ς hi,alv hd,Ì hi (by omega)]
   rw[show(d.1,d.2.1,d.2.2.1,d.2.2.2.1,d.2.2.2.2)=d from rfl,e1]
  ·try dsimp only
   unfold ami
   rw[Ý]
   dsimp only
   rw[Ù (by simp only[List.length_singleton]; omega),Am.iff_true]
   rw[show ö (b.1,b.2.1,b.2.2.1,b.2.2.2.1,b.2.2.2.2.1++[c],b.2.2.2.2.2)=ö (è b c) from rfl,η (aWR h hA hB) hr,À]
   by_cases hc2:à (è b c)=0
   ·rw[Ò (by simp[ine,hc2]),if_neg (show ¬(à (è b c)≠0) from fun h=>h hc2)]
    rfl
   ·rw[Õ (by simp[ine,hc2]),if_pos hc2]
    rfl
 ·rw[Õ (by simp[ine,hc]),if_pos hc]
  rfl
def Ë (c:Cmp):Cmp:=(c.1,c.2.1,c.2.2.1,c.2.2.2.1,0,c.2.2.2.2.2)
def aSb (b:á) (c:Cmp):Int:=ayH (ķ b c).1+(aem b c).1-c.2.2.2.2.2.1
def atb (b:á) (c:Cmp):Int:=(ķ b c).2.1 / (ķ b c).2.2+(aem b c).2+c.2.2.2.2.2.1
def aBZ (b:á) (c:Cmp) (s:Int×Int):(Int×Int)×Int:=if atb b c<aSb b c then((0,0),5) else((s.1+aSb b c,s.2+atb b c),0)
structure aSW (b:á) (c:Cmp):Prop where
 nums:aAl c=true
 r1:aiL (atw (adl b) (æ c.2.2.1 c.2.2.2.1)) 1000 100
 r2:aiL (atw (adl b) (æ c.2.2.2.1 c.2.2.1)) 1000 100
theorem ğ.cmp {b:á} (h:ğ b) {c:Cmp} (hc:c∈b.2.2.2.2.1):aSW b c:=⟨h.nums hc,(h.rates hc).1,(h.rates hc).2⟩
theorem anx {b:á} (hf:0≤b.1.1∧b.1.1≤b.1.2∧b.1.2≤1000000) {c:Cmp} (h:aSW b c):aiL (ķ b c).1 2000000000 10000∧aiL (ķ b c).2 2000000000 10000∧(-3000000000≤ayH (ķ b c).1+(aem b c).1∧ayH (ķ b c).1+(aem b c).1≤3000000000) ∧
 (-3000000000≤(ķ b c).2.1 / (ķ b c).2.2+(aem b c).2∧(ķ b c).2.1 / (ķ b c).2.2+(aem b c).2≤3000000000)∧(0≤c.2.2.2.2.2.1∧c.2.2.2.2.2.1≤1073741824):=by
 have hn:=(Α c).1 h.nums
 have ha:=ĩ hn.2.2.2.2.2.1
 have hb:=ĩ hn.2.2.2.2.2.2
 obtain⟨g1,g2⟩:=aJ9 (aBT h.r1 h.r2) hn.2.2.2.2.1
 have fb:=amu (b:=b) (c:=c) (by omega) (by omega) (by omega) (by omega) (by omega) (by omega)
 have q1:aiL (ķ b c).1 2000000000 10000:=g1
 have q2:aiL (ķ b c).2 2000000000 10000:=g2
 have c1:=aqd q1
 have c2:=ams q2
 exact⟨q1,q2,by omega,by omega,hn.2.2.2.1⟩
theorem aZb {b:á} (hs:Ļ b) (hf:0≤b.1.1∧b.1.1≤b.1.2∧b.1.2≤1000000) {c:Cmp} (h:aSW b c) {s:Int×Int} (h1 : -2305843009213693952≤s.1∧s.1≤2305843009213693952) (h2 : -2305843009213693952≤s.2∧s.2≤2305843009213693952):alk b c s=some (aBZ b c s):=by
 have hn:=(Α c).1 h.nums
 have ha:=ĩ hn.2.2.2.2.2.1
 have hb:=ĩ hn.2.2.2.2.2.2
 obtain⟨q1,q2,b1,b2,b3⟩:=anx hf h
 unfold alk aEy aBZ aSb atb
 rw[aP0 hs (by omega) (by omega) h.r1 h.r2 hn.2.2.2.2.1,À,aTS (by omega) (by omega) (by omega) (by omega) (by omega) (by omega),À,aYT q1.rat,À,aUr q2.rat,À]
 dsimp only
 rw[Û (by omega) (by omega),Û (by omega) (by omega),Û (by omega) (by omega),Û (by omega) (by omega),ď]
 by_cases hlt:(ķ b c).2.1 / (ķ b c).2.2+(aem b c).2+c.2.2.2.2.2.1<ayH (ķ b c).1+(aem b c).1-c.2.2.2.2.2.1
 ·rw[if_pos (by simpa[igt] using hlt),if_pos hlt]
 ·rw[if_neg (by simpa[igt] using hlt),if_neg hlt,Û (by omega) (by omega),Û (by omega) (by omega)]
def õ (b:á):List Lk:=(Ú b).take ((Ú b).length-2)
def Į (b:á) (c:Cmp):(Int×Int)×Int :=
 if (apr b (Ë c)).2≠0 then((0,0),(apr b (Ë c)).2) else
 if (adb (õ (è b (Ë c))) ((Ï (è b (Ë c))).length+1) (cy (è b (Ë c)) (Ë c)) (cx (è b (Ë c)) (Ë c))).2≠0 then
  ((0,0),(adb (õ (è b (Ë c))) ((Ï (è b (Ë c))).length+1) (cy (è b (Ë c)) (Ë c)) (cx (è b (Ë c)) (Ë c))).2) else
 if (adb (õ (è b (Ë c))) ((Ï (è b (Ë c))).length+1) (cx (è b (Ë c)) (Ë c)) (cy (è b (Ë c)) (Ë c))).2≠0 then
  ((0,0),(adb (õ (è b (Ë c))) ((Ï (è b (Ë c))).length+1) (cx (è b (Ë c)) (Ë c)) (cy (è b (Ë c)) (Ë c))).2) else
 aBZ b (Ë c) (-(adb (õ (è b (Ë c))) ((Ï (è b (Ë c))).length+1) (cx (è b (Ë c)) (Ë c)) (cy (è b (Ë c)) (Ë c))).1,
  (adb (õ (è b (Ë c))) ((Ï (è b (Ë c))).length+1) (cy (è b (Ë c)) (Ë c)) (cx (è b (Ë c)) (Ë c))).1)
theorem aQS {L:List Lk} {N:Nat} (h:adx L N) {s t:Int} (hs:0≤s∧s<N) (ht:0≤t∧t<N) : -2305843009213693952≤(adb L N s t).1∧(adb L N s t).1≤2305843009213693952:=by
 unfold adb
 have h2:=h.n60
 split
 ·simp
 ·rename_i ho
  have ho':œ L N=true:=by simpa using ho
  obtain⟨p,hp⟩:=(adB h.links (by omega)).1 ho'
  have hd:=agl h.links (by omega) hp hs
  split
  ·simp
  ·rename_i hne
   dsimp only
   have hb:=hd.bd t ht.1 ht.2
   obtain⟨vs,hw⟩:=hd.att t ht.1 ht.2 hne
   have h3:=hw.low' hp
   have h4:=aKg (L:=L) (fun l hl=>(h.most l hl).1) (M:=4503599627370496) (by omega)
   have h5:=h.len
   unfold ade at hb
   constructor<;>omega
theorem aVP {b:á} (hs:Ļ b) (hr:∀g∈b.2.1,I64 g.2.2.2.2.1.1) {c:Cmp} (hA:c.2.2.1.length≤1000) (hB:c.2.2.2.1.length≤1000):amE b c=some (Į b c):=by
 unfold amE as6 Į
 rw[show ahF b (c.1,c.2.1,c.2.2.1,c.2.2.2.1,0,c.2.2.2.2.2)=ahF b (Ë c) from rfl,aYx hs hr (c:=Ë c) hA hB,À]
 by_cases hw:(apr b (Ë c)).2=0
 ·rw[Ò (by simp[ine,hw]),if_neg (show ¬((apr b (Ë c)).2≠0) from fun h=>h hw)]
  -- the book is valid, and so is the greater one
  have hb:à b=0:=by
   unfold apr at hw
   split at hw
   ·rename_i h; exact(h hw).elim
   ·rename_i h; simpa using h
  have hm:à (è b (Ë c))=0:=by
   unfold apr at hw
   rw[if_neg (by simp[hb])] at hw
   split at hw
   ·rename_i h; exact(h hw).elim
   ·rename_i h; simpa using h
  have he:apr b (Ë c)=(è b (Ë c),0):=by
   unfold apr
   rw[if_neg (by simp[hb]),if_neg (by simp[hm])]
  have g:=(ð b).1 hb
  have gm:=(ð _).1 hm
  have hmem:Ë c∈(è b (Ë c)).2.2.2.2.1:=by simp[è]
  have hN:=gm.nodes
  have hll:=aER gm
  have hcl:(è b (Ë c)).2.2.2.2.1.length=b.2.2.2.2.1.length+1:=by simp[è]
  have hlk:=gm.links
  have hsys:adx (õ (è b (Ë c))) ((Ï (è b (Ë c))).length+1):=gm.sys.sub (fun l hl=>List.mem_of_mem_take hl) (by unfold õ; rw[List.length_take]; omega)
  have hx:=(aMK gm hmem).rng
  have hy:=(aFo gm hmem).rng
  have lA:c.2.2.1.length≤1000:=hA
  rw[he]
  dsimp only
  rw[aTF gm,À]
  dsimp only
  rw[â,Û (by omega) (by omega)]
  have e1:((ile (0:Int) (((Ú (è b (Ë c))).length:Int)-2))&&(ile (((Ú (è b (Ë c))).length:Int)-2) (Ĩ (Ú (è b (Ë c))))))=true:=by
   simp[ile,Ĩ]; omega
  have e2:(((Ú (è b (Ë c))).length:Int)-2).toNat=(Ú (è b (Ë c))).length-2:=by omega
  rw[ī e1,akd (by omega) (by omega),À,aYq _ _ _ (by dsimp only; omega),À,akd (by omega) (by omega),À,aYq _ _ _ (by dsimp only; omega),À,e2]
  have e3:(((Ï (è b (Ë c))).length:Int)+1)=(((Ï (è b (Ë c))).length+1:Nat):Int):=by push_cast; rfl
  rw[e3]
  rw[show List.take ((Ú (è b (Ë c))).length-2) (Ú (è b (Ë c)))=õ (è b (Ë c)) from rfl]
  dsimp only
  rw[show atP (Ï (è b (Ë c))) (æ c.2.2.1 c.2.2.2.1) c.2.1=cx (è b (Ë c)) (Ë c) from rfl,show atP (Ï (è b (Ë c))) (æ c.2.2.2.1 c.2.2.1) c.2.1=cy (è b (Ë c)) (Ë c) from rfl]
  rw[aBO hsys hy hx,À,aBO hsys hx hy]
  have b1:=aQS hsys hy hx
  have b2:=aQS hsys hx hy
  generalize hB1:adb (õ (è b (Ë c))) ((Ï (è b (Ë c))).length+1) (cy (è b (Ë c)) (Ë c)) (cx (è b (Ë c)) (Ë c))=B1 at b1 ⊢
  generalize hB2:adb (õ (è b (Ë c))) ((Ï (è b (Ë c))).length+1) (cx (è b (Ë c)) (Ë c)) (cy (è b (Ë c)) (Ë c))=B2 at b2 ⊢
  by_cases h1:B1.2=0
  ·rw[Ò (by simp[ine,h1]),if_neg (show ¬(B1.2≠0) from fun h=>h h1),À]
   by_cases h2:B2.2=0
   ·rw[Ò (by simp[ine,h2]),if_neg (show ¬(B2.2≠0) from fun h=>h h2),Û (by omega) (by omega)]
    have hck:aSW b (Ë c):=⟨(gm.cmp hmem).nums,(gm.cmp hmem).r1,(gm.cmp hmem).r2⟩
    rw[show alk b (c.1,c.2.1,c.2.2.1,c.2.2.2.1,0,c.2.2.2.2.2) (0-B2.1,B1.1)=alk b (Ë c) (0-B2.1,B1.1) from rfl,aZb g.size g.film hck (by dsimp only; omega) (by dsimp only; omega),À,Int.zero_sub]
   ·rw[Õ (by simp[ine,h2]),if_pos h2]
  ·rw[Õ (by simp[ine,h1]),if_pos h1]
 ·rw[Õ (by simp[ine,hw]),if_pos hw]
end Go.Proofs.ZzM
end
noncomputable section
namespace Go.Proofs.ZzM
open Go Go.Am
structure In (b:á):Prop where
 size:Ļ b
 num:∀g∈b.2.1,I64 g.2.2.2.2.1.1
def aM9 (b:á):Sys×List (Int×Int)×Int:=if à b≠0 then((0,[]),[],à b) else((((Ï b).length:Int)+1,Ú b),ř b,0)
theorem aiJ {b:á} (h:In b):ĥ b=some (aM9 b):=by
 unfold ĥ ayf aM9
 rw[η h.size h.num,À]
 by_cases hc:à b=0
 ·rw[Ò (by simp[ine,hc]),aTF ((ð b).1 hc),À,if_neg (show ¬(à b≠0) from fun h=>h hc)]
 ·rw[Õ (by simp[ine,hc]),if_pos hc]
def cmp0:Cmp:=(0,0,[],[],0,0,0,0)
def akn (b:á) (i:Int):Cmp×Int:=if à b≠0 then(cmp0,à b) else if i<0∨(b.2.2.2.2.1.length:Int)≤i then(cmp0,1) else(b.2.2.2.2.1[i.toNat]?.getD cmp0,0)
theorem aY1 {b:á} (h:In b) (i:Int):aws b i=some (akn b i):=by
 unfold aws aEw akn
 rw[η h.size h.num,À]
 by_cases hc:à b=0
 ·rw[Ò (by simp[ine,hc]),if_neg (show ¬(à b≠0) from fun h=>h hc),â]
  by_cases h1:i<0
  ·rw[Õ (by simp[ilt,h1]),if_pos (.inl h1)]; rfl
  ·rw[Ò (by simp[ilt]; omega)]
   by_cases h2:(b.2.2.2.2.1.length:Int)≤i
   ·rw[Õ (by simp[ige,h2]),if_pos (.inr h2)]; rfl
   ·rw[Ò (by simp[ige]; omega),if_neg (by omega)]
    obtain⟨j,rfl⟩:=Int.eq_ofNat_of_zero_le (show 0≤i by omega)
    have hj:j<b.2.2.2.2.1.length:=by omega
    rw[É (List.getElem?_eq_getElem hj),Int.toNat_natCast,List.getElem?_eq_getElem hj]
    rfl
 ·rw[Õ (by simp[ine,hc]),if_pos hc]; rfl
theorem aQV {b:á} {i:Int} (h:(akn b i).2=0):ğ b∧(akn b i).1∈b.2.2.2.2.1∧b.2.2.2.2.1[i.toNat]?=some (akn b i).1∧0≤i:=by
 unfold akn at h ⊢
 split at h
 ·rename_i hc; exact(hc h).elim
 ·rename_i hc
  have hc0:à b=0:=by simpa using hc
  split at h
  ·simp at h
  ·rename_i hi
   have hj:i.toNat<b.2.2.2.2.1.length:=by omega
   rw[if_neg hc,if_neg hi,List.getElem?_eq_getElem hj]
   exact⟨(ð b).1 hc0,List.getElem_mem hj,rfl,by omega⟩
def a0o (b:á) (i:Int):(Int×Int)×Int:=if (akn b i).2≠0 then((0,0),(akn b i).2) else(ž b (akn b i).1,0)
theorem a1P {b:á} (h:In b) (i:Int):aBH b i=some (a0o b i):=by
 unfold aBH aMl a0o
 rw[aY1 h,À]
 by_cases hw:(akn b i).2=0
 ·obtain⟨g,hm,_,_⟩:=aQV hw
  rw[Ò (by simp[ine,hw]),g.says hm,À,if_neg (show ¬((akn b i).2≠0) from fun h=>h hw)]
 ·rw[Õ (by simp[ine,hw]),if_pos hw]
def exB:á:=((0,2),[(1,0,1000,(-5,5),(1,10),1),(2,0,1000,(-50,50),(1,4),0)],[(1,10)],[(1,(20,29),3)],[(7,10,[1],[2],-20,1,100,200)],[])
theorem ape:In exB:=⟨⟨by decide,by decide,by decide,by decide,by decide,by decide⟩,by
 intro g hg
 simp[exB] at hg
 rcases hg with rfl|rfl<;>exact⟨by decide,by decide⟩⟩
def exC:Cmp:=(8,10,[1],[2],0,0,0,0)
end Go.Proofs.ZzM
end
noncomputable section
namespace Go.Proofs.ZzM
open Go Go.Am
def ak7 (b:á) (x d:Int):Int:=match adJ (Ï b) x d with|some j=>(j:Int)+1|none=>0
def aUq (b:á) (n:Int×Int):Int×Int:=if à b≠0 then(0,à b) else if ak7 b n.1 n.2=0 then(0,5) else(ak7 b n.1 n.2,0)
theorem aFW {b:á} (h:In b) (n:Int×Int):Ř b n=some (aUq b n):=by
 have hl:=aw5 h.size
 unfold Ř aEN aUq
 rw[η h.size h.num,À]
 by_cases hc:à b=0
 ·rw[Ò (by simp[ine,hc]),if_neg (show ¬(à b≠0) from fun h=>h hc),aKe h.size,À,show ø (Ï b) n=ø (Ï b) (n.1,n.2) from rfl,aQN (by omega),À]
  unfold ak7
  cases hx:adJ (Ï b) n.1 n.2 with
  |none=>rfl
  | some j =>
    have:=(afV hx).1
    simp only
    rw[Ò (by simp[ilt]),Û (by omega) (by omega),if_neg (by omega)]
 ·rw[Õ (by simp[ine,hc]),if_pos hc]
end Go.Proofs.ZzM
end
noncomputable section
namespace Go.Proofs.ZzM
open Go Go.Am
def aqw (b:á) (n:Int×Int):á:=(b.1,b.2.1,b.2.2.1,b.2.2.2.1,b.2.2.2.2.1,b.2.2.2.2.2++[n])
theorem aW6 {b:á} (h:ğ b) (n:Int×Int):Ļ (aqw b n):=by
 have hs:=h.size
 have:=h.nK
 exact⟨hs.gauges,hs.uses,hs.loans,hs.compares,by simp[aqw]; omega,hs.piles⟩
def aVQ (b:á) (n:Int×Int):á×Int:=if à b≠0 then(akm,à b) else if à (aqw b n)≠0 then(akm,à (aqw b n)) else(aqw b n,0)
theorem a1V {b:á} (h:In b) (n:Int×Int):aeM b n=some (aVQ b n):=by
 have hs:=h.size
 have h1:=hs.gauges; have h2:=hs.uses; have h3:=hs.loans; have h4:=hs.compares; have h5:=hs.looks
 unfold aeM aMn aVQ
 rw[η hs h.num,À]
 by_cases hc:à b=0
 ·have hg:=(ð b).1 hc
  rw[Ò (by simp[ine,hc]),Ù (by omega),Am.iff_true,Ù (by omega),Am.iff_true,Ù (by omega),Am.iff_true,Ù (by omega),Am.iff_true,Ù (by omega),Am.iff_true,if_neg (show ¬(à b≠0) from fun h=>h hc)]
  refine ù b.2.2.2.2.1 (fun _=>b.2.2.2.2.1) _ rfl (fun i d hi hd kn=>?_) (fun kn=>?_)
  ·dsimp only
   unfold amj
   obtain⟨p1,p2⟩:=hs.piles d (List.mem_of_getElem? hd)
   have e1:b.2.2.2.2.1.set i d=b.2.2.2.2.1:=by
    obtain⟨h,rfl⟩:=List.getElem?_eq_some_iff.1 hd
    exact List.set_getElem_self h
   rw[Ô hi,ς hi,Ĥ hd,Ù (by omega),Am.iff_true,Ù (by omega),Am.iff_true,ς hi,Ĥ hd,Int.toNat_natCast]
   rw[show(d.1,d.2.1,d.2.2.1,d.2.2.2)=d from rfl,e1,ς hi,alv hd,Ì hi (by omega)]
   rw[show(d.1,d.2.1,d.2.2.1,d.2.2.2.1,d.2.2.2.2)=d from rfl,e1]
  ·try dsimp only
   unfold amj
   rw[Ý]
   dsimp only
   rw[Ù (by simp only[List.length_singleton]; omega),Am.iff_true]
   rw[show ö (b.1,b.2.1,b.2.2.1,b.2.2.2.1,b.2.2.2.2.1,b.2.2.2.2.2++[n])=ö (aqw b n) from rfl,η (aW6 hg n) h.num,À]
   by_cases hc2:à (aqw b n)=0
   ·rw[Ò (by simp[ine,hc2]),if_neg (show ¬(à (aqw b n)≠0) from fun h=>h hc2)]
    rfl
   ·rw[Õ (by simp[ine,hc2]),if_pos hc2]
    rfl
 ·rw[Õ (by simp[ine,hc]),if_pos hc]
  rfl
end Go.Proofs.ZzM
end
noncomputable section
namespace Go.Proofs.ZzM
open Go Go.Am
section
variable {b:á}
theorem aWF:off b b.2.1.length=(Ï b).length:=by unfold off Ï; rw[List.take_length]
theorem aTz:∀n,n≤b.2.1.length→∀j,j<off b n→∃(i:Nat) (g:ç) (k:Nat),b.2.1[i]?=some g∧k<(ß b g).length∧j=off b i+k:=by
 intro n
 induction n with
 |zero=>intro _ j hj; simp[off] at hj
 | succ n ih =>
   intro hn j hj
   have hg:b.2.1[n]?=some b.2.1[n]:=List.getElem?_eq_getElem (by omega)
   rw[aZm hg] at hj
   by_cases h:j<off b n
   ·exact ih (by omega) j h
   ·exact⟨n,_,j-off b n,hg,by omega,by omega⟩
theorem aIC {v:Int} (h0:1≤v) (h1:v<((Ï b).length+1:Nat)):∃(i:Nat) (g:ç) (k:Nat),b.2.1[i]?=some g∧k<(ß b g).length∧v=(off b i:Int)+k+1:=by
 obtain⟨i,g,k,h2,h3,h4⟩:=aTz (b:=b) b.2.1.length (Nat.le_refl _) (v-1).toNat (by rw[aWF]; omega)
 exact⟨i,g,k,h2,h3,by omega⟩
def GL (b:á) (L:List Lk):Prop:=∀(i:Nat) (g:ç),b.2.1[i]?=some g→∀l∈ó b g,l∈L
theorem aTN:GL b (Ú b):=fun i g hg l hl=>ahR.2 (.inl ⟨i,g,hg,hl⟩)
theorem aV7 {L:List Lk} (h:ğ b) (hL:GL b L) {v:Int} (h0:0≤v) (h1:v<((Ï b).length+1:Nat)):∃vs d,Wl L (fun u=>u=0) vs v d∧d≤4503599627370496:=by
 by_cases hv:v=0
 ·exact⟨[],0,.nil hv,by omega⟩
 obtain⟨i,g,k,hg,hk,rfl⟩:=aIC (by omega) h1
 have hr:=h.gaugeR (List.mem_of_getElem? hg)
 have r1:=hr.2.2.2.2.2.1
 have r2:=hr.2.2.2.2.2.2.1
 have key:∀k:Nat,k<(ß b g).length→∃vs,Wl L (fun u=>u=0) vs ((off b i:Int)+k+1) (g.2.2.1+g.2.2.2.1.2):=by
  intro k
  induction k with
  | zero =>
    intro _
    have hw:Wl L (fun u=>u=0) [0] ((off b i:Int)+1) (0+(g.2.2.1+g.2.2.2.1.2)):=Wl.step (.nil rfl) (hL i g hg _ ((Ĵ h hg).2 (.inl rfl)))
    rw[Int.zero_add] at hw
    exact⟨[0],by simpa using hw⟩
  | succ k ih =>
    intro hk
    obtain⟨vs,hw⟩:=ih (by omega)
    have hw':=Wl.step hw (hL i g hg _ ((Ĵ h hg).2 (.inr (.inr ⟨k,_,_,List.getElem?_eq_getElem (show k<_ by omega),List.getElem?_eq_getElem hk,.inl rfl⟩))))
    rw[Int.add_zero] at hw'
    have e:(off b i:Int)+((k+1:Nat):Int)+1=(off b i:Int)+k+2:=by push_cast; omega
    exact⟨_,by rw[e]; exact hw'⟩
 obtain⟨vs,hw⟩:=key k hk
 exact⟨vs,_,hw,by omega⟩
theorem aNr {L:List Lk} (h:ğ b) (hL:GL b L) {v:Int} (h0:0≤v) (h1:v<((Ï b).length+1:Nat)):∃vs d,Wl L (fun u=>u=v) vs 0 d∧d≤4503599627370496:=by
 by_cases hv:v=0
 ·exact⟨[],0,.nil hv.symm,by omega⟩
 obtain⟨i,g,k,hg,hk,rfl⟩:=aIC (by omega) h1
 have hgm:=List.mem_of_getElem? hg
 have hr:=h.gaugeR hgm
 have r1:=hr.2.2.2.2.2.1
 have r2:=hr.2.2.2.2.2.2.1
 have hd:=awv h hgm
 have key:∀m:Nat,m≤k→∃vs d,Wl L (fun u=>u=(off b i:Int)+k+1) vs ((off b i:Int)+(k-m:Nat)+1) d∧d≤m*(12*(20001*1048576)+40*1048576):=by
  intro m
  induction m with
  |zero=>intro _; exact⟨[],0,.nil (by simp),by simp⟩
  | succ m ih =>
    intro hm
    obtain⟨vs,d,hw,hd⟩:=ih (by omega)
    have e1:((k-m:Nat):Int)=((k-(m+1):Nat):Int)+1:=by omega
    have hl:(((off b i:Int)+(k-(m+1):Nat)+2,(off b i:Int)+(k-(m+1):Nat)+1,adE b g ((ß b g)[k-(m+1)]'(by omega)) ((ß b g)[k-(m+1)+1]'(by omega))):Lk)∈L :=
     hL i g hg _ ((Ĵ h hg).2 (.inr (.inr ⟨k-(m+1),_,_,List.getElem?_eq_getElem (by omega),List.getElem?_eq_getElem (by omega),.inr rfl⟩)))
    have hb:=aeZ h hgm (f:=(ß b g)[k-(m+1)]'(by omega)) (t:=(ß b g)[k-(m+1)+1]'(by omega)) (h.day hgm (List.getElem_mem _)).2.1
    have e2:(off b i:Int)+(k-m:Nat)+1=(off b i:Int)+(k-(m+1):Nat)+2:=by omega
    rw[e2] at hw
    exact⟨_,_,.step hw hl,by push_cast; omega⟩
 obtain⟨vs,d,hw,hdb⟩:=key k (Nat.le_refl _)
 have e:(off b i:Int)+(k-k:Nat)+1=(off b i:Int)+1:=by omega
 rw[e] at hw
 have hw':=Wl.step hw (hL i g hg _ ((Ĵ h hg).2 (.inr (.inl rfl))))
 exact⟨_,_,hw',by omega⟩
end
structure aFS (L:List Lk) (N:Nat):Prop where
 to:∀v:Int,0≤v→v<N→∃vs d,Wl L (fun u=>u=0) vs v d∧d≤4503599627370496
 from':∀v:Int,0≤v→v<N→∃vs d,Wl L (fun u=>u=v) vs 0 d∧d≤4503599627370496
theorem ğ.tied {b:á} (h:ğ b):aFS (Ú b) ((Ï b).length+1):=⟨fun v h0 h1=>aV7 h aTN h0 h1,fun v h0 h1=>aNr h aTN h0 h1⟩
theorem ğ.tiedL {b:á} {L:List Lk} (h:ğ b) (hL:GL b L):aFS L ((Ï b).length+1):=⟨fun v h0 h1=>aV7 h hL h0 h1,fun v h0 h1=>aNr h hL h0 h1⟩
section
variable {L:List Lk} {N:Nat}
theorem aWB {L:List Lk} {s:Int} {vs:List Int} {v d:Int}:Wl L (fun v=>aWC s v=true) vs v d↔Wl L (fun u=>u=s) vs v d :=
 ⟨fun h=>h.mono fun u hu=>by simpa[aWC] using hu,fun h=>h.mono fun u hu=>by simpa[aWC] using hu⟩
theorem aSM (h:adx L N) (ho:œ L N=true) {v:Int} (h0:0≤v) (h1:v<N):gv (akl L N v) v=0:=by
 have h2:=h.n60
 obtain⟨p,hp⟩:=(adB h.links (by omega)).1 ho
 have hd:=agl h.links (by omega) hp (s:=v) ⟨h0,h1⟩
 have h3:=hd.low v [] 0 (.nil (by simp[aWC]))
 obtain⟨vs,hw⟩:=hd.att v h0 h1 (by unfold ade; omega)
 obtain⟨s,hs,hx⟩:=(aWB.1 hw).pot hp
 subst hs
 omega
end
theorem aJx {b:á}:∀i,i≤b.2.2.2.2.1.length→((b.2.2.2.2.1.take i).flatMap (ā b)).length=2*i∧(((b.2.2.2.2.1.take i).mapIdx fun i _=>[((3:Int),(i:Int)),((3:Int),(i:Int))]).flatten).length=2*i:=by
 intro i
 induction i with
 |zero=>intro _; simp
 | succ i ih =>
   intro hi
   have ih:=ih (by omega)
   have hg:b.2.2.2.2.1[i]?=some b.2.2.2.2.1[i]:=List.getElem?_eq_getElem hi
   rw[adp _ hg,take_succ hg,List.flatMap_append,List.flatten_append,List.length_append,List.length_append]
   simp only[List.flatMap_cons,List.flatMap_nil,List.append_nil,List.flatten_cons,List.flatten_nil,ā,List.length_cons,List.length_nil]
   omega
end Go.Proofs.ZzM
end
noncomputable section
namespace Go.Proofs.ZzM
open Go Go.Am
section
variable {L:List Lk} {N:Nat}
theorem awL (h:adx L N):Ğ ((N:Int),L)=some (œ L N,0):=by
 have h2:=h.n60
 unfold Ğ aj7
 rw[afH h,À]
 dsimp only
 rw[Ò (by rfl),arZ h.links h.n1 (by omega),À]
 cases œ L N<;>rfl
end
end Go.Proofs.ZzM
end
noncomputable section
namespace Go.Proofs.ZzM
open Go Go.Am
def ank (b:á) (n:Int×Int):á×Int:=if ak7 b n.1 n.2≠0 then(b,0) else if à (aqw b n)≠0 then(akm,à (aqw b n)) else(aqw b n,0)
def afb:á→List (Int×Int)→á×Int
 |b,[]=>(b,0)
 |b,n::t=>if (ank b n).2≠0 then(akm,(ank b n).2) else afb (ank b n).1 t
def Ĺ (b:á) (ns:List (Int×Int)):á×Int :=
 if à b≠0 then(akm,à b) else if (afb b ns).2≠0 then(akm,(afb b ns).2) else
 if œ (Ú (afb b ns).1) ((Ï (afb b ns).1).length+1) then((afb b ns).1,0) else(akm,9)
theorem aWa {b:á} (h:ğ b) {n:Int×Int} (e:(ank b n).2=0):ğ (ank b n).1:=by
 unfold ank at e ⊢
 split
 ·exact h
 ·rename_i h1
  rw[if_neg h1] at e
  split
  ·rename_i h2
   rw[if_pos h2] at e
   exact absurd e h2
  ·rename_i h2
   exact(ð _).1 (by simpa using h2)
theorem aQZ {b:á} {n:Int×Int} (e:(ank b n).2=0):(ank b n).1.2.1=b.2.1:=by
 unfold ank at e ⊢
 split
 ·rfl
 ·rename_i h1
  rw[if_neg h1] at e
  split
  ·rename_i h2
   rw[if_pos h2] at e
   exact absurd e h2
  ·rfl
theorem aB3:∀{ns:List (Int×Int)} {b:á},ğ b→(afb b ns).2=0→ğ (afb b ns).1
 |[],b,h,_=>h
 | n :: t, b, h, e => by
   unfold afb at e ⊢
   split
   ·rename_i h1; rw[if_pos h1] at e; exact absurd e h1
   ·rename_i h1
    rw[if_neg h1] at e
    exact aB3 (aWa h (by simpa using h1)) e
theorem ar7:∀{ns:List (Int×Int)} {b:á},(afb b ns).2=0→(afb b ns).1.2.1=b.2.1
 |[],b,_=>rfl
 | n :: t, b, e => by
   unfold afb at e ⊢
   split
   ·rename_i h1; rw[if_pos h1] at e; exact absurd e h1
   ·rename_i h1
    rw[if_neg h1] at e
    rw[ar7 e,aQZ (by simpa using h1)]
theorem ğ.inn {b:á} (h:ğ b) (hn:∀g∈b.2.1,I64 g.2.2.2.2.1.1):In b:=⟨h.size,hn⟩
theorem ad3 {b:á} (h:ğ b):aM9 b=((((Ï b).length:Int)+1,Ú b),ř b,0):=by
 unfold aM9
 rw[if_neg (by simp[(ð b).2 h])]
theorem atk {b:á} (h:ğ b) (n:Int×Int):aUq b n=if ak7 b n.1 n.2=0 then(0,5) else(ak7 b n.1 n.2,0):=by
 unfold aUq
 rw[if_neg (by simp[(ð b).2 h])]
abbrev Flat:Type:=Int×Int×List ç×List (Int×Int)×List aBf×List Cmp×List (Int×Int)
def flat (b:á):Flat:=(b.1.1,b.1.2,b.2.1,b.2.2.1,b.2.2.2.1,b.2.2.2.2.1,b.2.2.2.2.2)
theorem ao4 (b:á):(((flat b).1,(flat b).2.1),(flat b).2.2)=b:=rfl
section
variable {ρ:Type}
def a04 (ns:List (Int×Int)) (E1:Int×Flat→Option ρ) (K1:Flat→Option ρ) (b:á):Option ρ :=
 Ñ (fun(v:Int×Flat) kk=>Č (Ü ns) ns v.1 v.2.1 v.2.2.1 v.2.2.2.1 v.2.2.2.2.1 v.2.2.2.2.2.1 v.2.2.2.2.2.2.1 v.2.2.2.2.2.2.2 (fun u1 u2 u3 u4 u5 u6 u7 u8=>kk (u1,u2,u3,u4,u5,u6,u7,u8)) (fun z=>E1 z) (fun z=>K1 z)) ((0:Int),b.1.1,b.1.2,b.2.1,b.2.2.1,b.2.2.2.1,b.2.2.2.2.1,b.2.2.2.2.2)
theorem aWl {ns:List (Int×Int)} (hl:ns.length≤1000) {E1:Int×Flat→Option ρ} {K1:Flat→Option ρ} (R:Int→Option ρ) (h1:∀z,z.1≠0→E1 z=R z.1) {b:á} (hg:ğ b) (hn:∀g∈b.2.1,I64 g.2.2.2.2.1.1) :
 a04 ns E1 K1 b=if (afb b ns).2≠0 then R (afb b ns).2 else K1 (flat (afb b ns).1):=by
 unfold a04
 refine aBy ns (fun(i:Nat) (s:Flat) (t:List (Int×Int))=>if (afb ((s.1,s.2.1),s.2.2) t).2≠0 then R (afb ((s.1,s.2.1),s.2.2) t).2 else K1 (flat (afb ((s.1,s.2.1),s.2.2) t).1))
  (fun i s=>ğ ((s.1,s.2.1),s.2.2)∧∀g∈s.2.2.1,I64 g.2.2.2.2.1.1) (fun s hs kn=>?_) (fun i n t s hd hi ha hs kn hk=>?_) (s:=flat b) ⟨hg,hn⟩
 ·dsimp only
  unfold Č
  rw[Ý]
  rfl
 ·dsimp only
  unfold Č
  obtain⟨hs1,hs2⟩:=hs
  have hin:In ((s.1,s.2.1),s.2.2):=hs1.inn hs2
  rw[Ô hi,ς hi,Ĥ ha]
  rw[show Ř ((s.1,s.2.1),s.2.2.1,s.2.2.2.1,s.2.2.2.2.1,s.2.2.2.2.2.1,s.2.2.2.2.2.2) n=Ř ((s.1,s.2.1),s.2.2) n from rfl,aFW hin,À]
  rw[show aeM ((s.1,s.2.1),s.2.2.1,s.2.2.2.1,s.2.2.2.2.1,s.2.2.2.2.2.1,s.2.2.2.2.2.2) n=aeM ((s.1,s.2.1),s.2.2) n from rfl,a1V hin,À]
  rw[atk hs1]
  generalize hB:(((s.1,s.2.1),s.2.2):á)=B at hs1 hin ⊢
  have hu:afb B (n::t)=if (ank B n).2≠0 then(akm,(ank B n).2) else afb (ank B n).1 t:=rfl
  rw[hu]
  by_cases h0:ak7 B n.1 n.2=0
  ·rw[if_pos h0,Ò (by rfl)]
   by_cases h2:à (aqw B n)=0
   ·have e:ank B n=(aqw B n,0):=by unfold ank; rw[if_neg (by simp[h0]),if_neg (by simp[h2])]
    have e2:aVQ B n=(aqw B n,0):=by unfold aVQ; rw[if_neg (by simp[(ð B).2 hs1]),if_neg (by simp[h2])]
    rw[e2,e,Ò (by rfl),Ì hi (by omega),if_neg (show ¬((0:Int)≠0) by simp)]
    subst hB
    exact hk (s.1,s.2.1,s.2.2.1,s.2.2.2.1,s.2.2.2.2.1,s.2.2.2.2.2.1,s.2.2.2.2.2.2++[n]) ⟨(ð _).1 h2,hs2⟩
   ·have e:ank B n=(akm,à (aqw B n)):=by unfold ank; rw[if_neg (by simp[h0]),if_pos h2]
    have e2:aVQ B n=(akm,à (aqw B n)):=by unfold aVQ; rw[if_neg (by simp[(ð B).2 hs1]),if_pos h2]
    rw[e2,e,Õ (by simp[ine,h2]),if_pos h2,if_pos h2]
    exact h1 _ h2
  ·have e:ank B n=(B,0):=by unfold ank; rw[if_pos h0]
   rw[if_neg h0,Õ (by rfl),Ì hi (by omega),e,if_neg (show ¬((0:Int)≠0) by simp)]
   subst hB
   exact hk s ⟨hs1,hs2⟩
theorem alu {b:á} (hI:In b) {ns:List (Int×Int)} (hl:ns.length≤1000) {E0:Int→Option ρ} {E1:Int×Flat→Option ρ} {E2:Flat→Sys×List (Int×Int)×Int→Option ρ} {E3:Flat→Sys×List (Int×Int)×Int→Bool×Int→Option ρ}
 {K:Flat→Sys×List (Int×Int)×Int→Bool×Int→Option ρ} (R:Int→Option ρ) (h0:∀e,e≠0→E0 e=R e) (h1:∀z,z.1≠0→E1 z=R z.1) (h3:∀z s r,E3 z s r=R 9) :
 Â (ö b) (fun r1=>ifb (ine r1 (0:Int)) (E0 r1) (a04 ns E1 (fun z8=>Â (ĥ ((z8.1,z8.2.1),z8.2.2)) fun r9=>ifb (ine r9.2.2 (0:Int)) (E2 z8 r9) (Â (Ğ r9.1) fun r10=>ifb (!r10.1) (E3 z8 r9 r10) (K z8 r9 r10))) b)) =
 if (Ĺ b ns).2≠0 then R (Ĺ b ns).2 else K (flat (Ĺ b ns).1) ((((Ï (Ĺ b ns).1).length:Int)+1,Ú (Ĺ b ns).1),ř (Ĺ b ns).1,0) (true,0):=by
 rw[η hI.size hI.num,À]
 unfold Ĺ
 by_cases hc:à b=0
 ·have hg:=(ð b).1 hc
  rw[Ò (by simp[ine,hc]),if_neg (show ¬(à b≠0) from fun h=>h hc),aWl hl R h1 hg hI.num]
  by_cases hr:(afb b ns).2=0
  ·rw[if_neg (show ¬((afb b ns).2≠0) from fun h=>h hr),if_neg (show ¬((afb b ns).2≠0) from fun h=>h hr)]
   have hB:=aB3 hg hr
   have hBn:∀g∈(afb b ns).1.2.1,I64 g.2.2.2.2.1.1:=by rw[ar7 hr]; exact hI.num
   generalize (afb b ns).1=B at hB hBn ⊢
   rw[ao4,aiJ (hB.inn hBn),À,ad3 hB,Ò (by rfl)]
   dsimp only
   rw[show(((Ï B).length:Int)+1)=(((Ï B).length+1:Nat):Int) by push_cast; rfl,awL hB.sys,À]
   cases ho:œ (Ú B) ((Ï B).length+1) with
   | true =>
     rw[if_neg (by simp)]
     simp only[Bool.not_true,ã]
     push_cast
     rfl
   | false =>
     rw[if_pos (by simp)]
     simp only[Bool.not_false,Ġ]
     rw[h3]
     rfl
  ·rw[if_pos hr,if_pos hr,if_pos hr]
 ·rw[Õ (by simp[ine,hc]),h0 _ hc,if_pos hc,if_pos hc]
end
end Go.Proofs.ZzM
end
noncomputable section
namespace Go.Proofs.ZzM
open Go Go.Am
def aAf (b:á) (id day:Int):Bool:=b.2.2.1.any fun u=>u.1==id&&u.2==day
def aSs (b:á) (g:ç) (d:Int):Int:=match afF b g.1 d with|some l=>l.2.2|none=>if aAf b g.1 d then g.2.2.2.2.2 else 0
theorem aW7 (l:aBf) (id:Int) {f t:Int} (hft:f≤t):(if l.1=id∧0<ē l f (t+1) then ē l f (t+1)*l.2.2 else 0)=(if l.1=id∧0<ē l f t then ē l f t*l.2.2 else 0)+(if l.1=id∧l.2.1.1≤t∧t≤l.2.1.2 then l.2.2 else 0):=by
 by_cases hid:l.1=id
 ·by_cases h1:l.2.1.1≤t∧t≤l.2.1.2
  ·have e:ē l f (t+1)=ē l f t+1:=by unfold ē; omega
   have p:0≤ē l f t:=by unfold ē; omega
   rw[e,if_pos ⟨hid,by omega⟩,if_pos (show l.1=id∧l.2.1.1≤t∧t≤l.2.1.2 from⟨hid,h1⟩),Int.add_mul,Int.one_mul]
   by_cases hp:0<ē l f t
   ·rw[if_pos ⟨hid,hp⟩]
   ·rw[if_neg (fun h=>hp h.2)]
    have:ē l f t=0:=by omega
    rw[this]
    omega
  ·rw[if_neg (show ¬(l.1=id∧l.2.1.1≤t∧t≤l.2.1.2) from fun h=>h1 h.2),Int.add_zero]
   by_cases hlo:l.2.1.1≤t
   ·have e:ē l f (t+1)=ē l f t:=by unfold ē; omega
    rw[e]
   ·have p1:¬0<ē l f (t+1):=by unfold ē; omega
    have p2:¬0<ē l f t:=by unfold ē; omega
    rw[if_neg (fun h=>p1 h.2),if_neg (fun h=>p2 h.2)]
 ·rw[if_neg (fun h=>hid h.1),if_neg (fun h=>hid h.1),if_neg (fun h=>hid h.1)]
  rfl
theorem aI2 (id:Int) {f t:Int} (hft:f≤t):∀{x:List aBf},x.Pairwise (fun a c=>¬(a.1=c.1∧a.2.1.1≤c.2.1.2∧c.2.1.1≤a.2.1.2)) →
 ĭ id f (t+1) x=ĭ id f t x+(match x.find? (fun l=>l.1==id&&inP t l.2.1.1 l.2.1.2) with|some l=>l.2.2|none=>0)
 |[],_=>rfl
 | l :: r, hp => by
   rw[List.pairwise_cons] at hp
   have ih:=aI2 id hft hp.2
   simp only[ĭ]
   rw[ih,aW7 l id hft,List.find?_cons]
   by_cases hm:l.1=id∧l.2.1.1≤t∧t≤l.2.1.2
   ·have e:(l.1==id&&inP t l.2.1.1 l.2.1.2)=true:=by simp[inP,hm.1,hm.2.1,hm.2.2]
    have hn:r.find? (fun l=>l.1==id&&inP t l.2.1.1 l.2.1.2)=none:=by
     rw[List.find?_eq_none]
     intro c hc hcm
     simp only[inP,Bool.and_eq_true,beq_iff_eq,decide_eq_true_eq] at hcm
     exact hp.1 c hc ⟨by rw[hm.1,hcm.1],by omega,by omega⟩
    rw[if_pos hm,e,hn]
    simp only
    omega
   ·have e:(l.1==id&&inP t l.2.1.1 l.2.1.2)=false:=by
     rw[Bool.eq_false_iff]
     intro h
     simp only[inP,Bool.and_eq_true,beq_iff_eq,decide_eq_true_eq] at h
     exact hm h
    rw[if_neg hm,e]
    simp only
    omega
section
variable {b:á}
theorem ğ.apart (h:ğ b):b.2.2.2.1.Pairwise (fun a c=>¬(a.1=c.1∧a.2.1.1≤c.2.1.2∧c.2.1.1≤a.2.1.2)):=by
 rw[List.pairwise_iff_getElem]
 intro i j hi hj hij ⟨h1,h2,h3⟩
 have hz:=h.loans j _ (List.getElem?_eq_getElem hj)
 unfold aHV at hz
 have hany:(b.2.2.2.1.take j).any (fun x=>x.1==b.2.2.2.1[j].1&&(decide (x.2.1.1≤b.2.2.2.1[j].2.1.2)&&decide (b.2.2.2.1[j].2.1.1≤x.2.1.2)))=true:=by
  rw[List.any_eq_true]
  exact⟨b.2.2.2.1[i],List.mem_iff_getElem.2 ⟨i,by rw[List.length_take]; omega,by rw[List.getElem_take]⟩,by simp[h1,h2,h3]⟩
 rw[hany] at hz
 (repeat' split at hz)<;>first|omega|simp_all
theorem ğ.notUsed (h:ğ b) {id d:Int} {l:aBf} (hl:afF b id d=some l):aAf b id d=false:=by
 have hm:=List.mem_of_find?_eq_some hl
 have hp:=List.find?_some hl
 simp only[inP,Bool.and_eq_true,beq_iff_eq,decide_eq_true_eq] at hp
 obtain⟨j,hj,rfl⟩:=List.mem_iff_getElem.1 hm
 have hz:=h.loans j _ (List.getElem?_eq_getElem hj)
 rw[Bool.eq_false_iff]
 intro hu
 obtain⟨u,hu,hue⟩:=List.any_eq_true.1 hu
 simp only[Bool.and_eq_true,beq_iff_eq] at hue
 have hany:b.2.2.1.any (fun u=>u.1==b.2.2.2.1[j].1&&inP u.2 b.2.2.2.1[j].2.1.1 b.2.2.2.1[j].2.1.2)=true:=by
  rw[List.any_eq_true]
  exact⟨u,hu,by simp only[inP,Bool.and_eq_true,beq_iff_eq,decide_eq_true_eq]; exact⟨by rw[hue.1,hp.1],by omega,by omega⟩⟩
 unfold aHV at hz
 rw[hany] at hz
 (repeat' split at hz)<;>first|omega|simp_all
theorem aNl {id f t:Int} (hft:f≤t):aNB (adI b id f (t+1))=aNB (adI b id f t)++if aAf b id t then[t] else[]:=by
 have hm:∀t x,x∈adI b id f t↔aAf b id x=true∧f≤x∧x<t:=by
  intro t x
  unfold adI aAf
  simp only[List.mem_map,List.mem_filter,List.any_eq_true,inP,Bool.and_eq_true,beq_iff_eq,decide_eq_true_eq]
  constructor
  ·rintro⟨u,⟨h1,h2,h3,h4⟩,rfl⟩
   exact⟨⟨u,h1,h2,rfl⟩,h3,by omega⟩
  ·rintro⟨⟨u,h1,h2,rfl⟩,h3,h4⟩
   exact⟨u,⟨h1,h2,h3,by omega⟩,rfl⟩
 refine aSP (ar2 _) ?_ fun x=>?_
 ·rw[List.pairwise_append]
  refine⟨ar2 _,by split<;>simp,fun a ha c hc=>?_⟩
  rw[apz,hm] at ha
  split at hc
  ·rw[List.mem_singleton] at hc; omega
  ·cases hc
 ·rw[apz,hm,List.mem_append,apz,hm]
  by_cases hu:aAf b id t=true
  ·rw[if_pos hu,List.mem_singleton]
   constructor
   ·rintro⟨h1,h2,h3⟩
    by_cases he:x=t
    ·exact .inr he
    ·exact .inl ⟨h1,h2,by omega⟩
   ·rintro(⟨h1,h2,h3⟩|rfl)
    ·exact⟨h1,h2,by omega⟩
    ·exact⟨hu,hft,by omega⟩
  ·rw[if_neg hu]
   constructor
   ·rintro⟨h1,h2,h3⟩
    refine .inl ⟨h1,h2,?_⟩
    by_cases he:x=t
    ·rw[he] at h1; exact absurd h1 hu
    ·omega
   ·rintro(⟨h1,h2,h3⟩|h)
    ·exact⟨h1,h2,by omega⟩
    ·cases h
theorem aEP (h:ğ b) (g:ç) {f t:Int} (hft:f≤t):adE b g f (t+1)=adE b g f t+aSs b g t:=by
 unfold adE aSs
 rw[aI2 g.1 hft h.apart,aNl hft]
 show ĭ g.1 f t b.2.2.2.1+(match afF b g.1 t with|some l=>l.2.2|none=>0)+_=_
 cases ha:afF b g.1 t with
 | some l =>
   rw[h.notUsed ha]
   simp only[Bool.false_eq_true,if_false,List.append_nil]
   omega
 | none =>
   simp only
   cases aAf b g.1 t with
   |true=>simp only[if_true,List.length_append,List.length_singleton,Int.natCast_add,Int.add_mul]; omega
   |false=>simp only[Bool.false_eq_true,if_false,List.append_nil]; omega
theorem aoW (g:ç) {f t:Int} (hft:t≤f):adE b g f t=0:=by
 unfold adE
 have h1:∀x:List aBf,ĭ g.1 f t x=0:=by
  intro x
  induction x with
  |nil=>rfl
  | cons l r ih =>
    simp only[ĭ]
    rw[ih,if_neg (by unfold ē; omega)]
    rfl
 have h2:adI b g.1 f t=[]:=by
  unfold adI
  rw[List.filter_eq_nil_iff.2 fun u hu hc=>by
   simp only[inP,Bool.and_eq_true,beq_iff_eq,decide_eq_true_eq] at hc
   omega]
  rfl
 rw[h1,h2]
 have h3:aNB ([]:List Int)=[]:=rfl
 rw[h3]
 simp
end
end Go.Proofs.ZzM
end
noncomputable section
namespace Go.Proofs.ZzM
open Go Go.Am
section
variable {b:á}
theorem aBx (h:ğ b) (g:ç) {f t u:Int} (h1:f≤t) (h2:t≤u):adE b g f u=adE b g f t+adE b g t u:=by
 obtain⟨n,rfl⟩:∃n:Nat,u=t+n:=⟨(u-t).toNat,by omega⟩
 clear h2
 induction n with
 |zero=>simp[aoW]
 | succ n ih =>
   have e:t+((n+1:Nat):Int)=(t+n)+1:=by omega
   rw[e,aEP h g (show f≤t+(n:Int) by omega),aEP h g (show t≤t+(n:Int) by omega),ih]
   omega
theorem as7 (h:ğ b) {g:ç} (hg:g∈b.2.1) {f t:Int} (hf:0≤f):0≤adE b g f t:=(aeZ h hg hf).1
def ŵ (b:á) (id d:Int):Int:=match adJ (Ï b) id d with|some j=>(j:Int)+1|none=>0
theorem aiS (h:ğ b) {i:Nat} {g:ç} (hg:b.2.1[i]?=some g) {k:Nat} {d:Int} (hk:(ß b g)[k]?=some d):ŵ b g.1 d=(off b i:Int)+k+1:=by
 unfold ŵ
 rw[aRl h hg hk]
 simp only
 omega
structure aiK (b:á) (p:Int→Int) (g:ç):Prop where
 hi:p (ŵ b g.1 g.2.1)≤p 0+(g.2.2.1+g.2.2.2.1.2)
 lo:p 0+(g.2.2.1+g.2.2.2.1.1)≤p (ŵ b g.1 g.2.1)
 down:∀d e,d∈ß b g→e∈ß b g→d≤e→p (ŵ b g.1 e)≤p (ŵ b g.1 d)
 loss:∀d e,d∈ß b g→e∈ß b g→d≤e→p (ŵ b g.1 d)≤p (ŵ b g.1 e)+adE b g d e
theorem ahA (h:ğ b) {i:Nat} {g:ç} (hg:b.2.1[i]?=some g) {p:Int→Int}:(∀l∈ó b g,p l.2.1≤p l.1+l.2.2)↔aiK b p g:=by
 have hgm:=List.mem_of_getElem? hg
 obtain⟨tl,htl⟩:=aFn h hgm
 have h0:ŵ b g.1 g.2.1=(off b i:Int)+1:=by
  have:=aiS h hg (k:=0) (d:=g.2.1) (by rw[htl]; rfl)
  rw[this]
  omega
 constructor
 ·intro hl
  have e1:=hl _ ((Ĵ h hg).2 (.inl rfl))
  have e2:=hl _ ((Ĵ h hg).2 (.inr (.inl rfl)))
  simp only at e1 e2
  have step:∀(k:Nat) (d e:Int),(ß b g)[k]?=some d→(ß b g)[k+1]?=some e→p (ŵ b g.1 e)≤p (ŵ b g.1 d)∧p (ŵ b g.1 d)≤p (ŵ b g.1 e)+adE b g d e:=by
   intro k d e hd he
   have a1:=hl _ ((Ĵ h hg).2 (.inr (.inr ⟨k,d,e,hd,he,.inl rfl⟩)))
   have a2:=hl _ ((Ĵ h hg).2 (.inr (.inr ⟨k,d,e,hd,he,.inr rfl⟩)))
   simp only at a1 a2
   rw[aiS h hg hd,aiS h hg he]
   have e3:(off b i:Int)+((k+1:Nat):Int)+1=(off b i:Int)+k+2:=by omega
   rw[e3]
   exact⟨by omega,a2⟩
  have pair:∀(n k:Nat) (d e:Int),(ß b g)[k]?=some d→(ß b g)[k+n]?=some e→p (ŵ b g.1 e)≤p (ŵ b g.1 d)∧p (ŵ b g.1 d)≤p (ŵ b g.1 e)+adE b g d e:=by
   intro n
   induction n with
   | zero =>
     intro k d e hd he
     rw[Nat.add_zero,hd] at he
     cases he
     rw[aoW g (Int.le_refl _)]
     omega
   | succ n ih =>
     intro k d e hd he
     have hlt:=(List.getElem?_eq_some_iff.1 he).1
     have hm:(ß b g)[k+n]?=some ((ß b g)[k+n]'(by omega)):=List.getElem?_eq_getElem (by omega)
     obtain⟨a1,a2⟩:=ih k d _ hd hm
     obtain⟨a3,a4⟩:=step (k+n) _ e hm he
     have o1:d≤(ß b g)[k+n]'(by omega):=by
      obtain⟨hkl,hkd⟩:=List.getElem?_eq_some_iff.1 hd
      rcases Nat.eq_zero_or_pos n with rfl|hn
      ·rw[←hkd]; exact Int.le_of_eq (by congr 1)
      ·have:=(List.pairwise_iff_getElem.1 (amG b g)) k (k+n) hkl (by omega) (by omega)
       rw[hkd] at this; omega
     have o2:(ß b g)[k+n]'(by omega)≤e:=by
      obtain⟨hel,hee⟩:=List.getElem?_eq_some_iff.1 he
      have:=(List.pairwise_iff_getElem.1 (amG b g)) (k+n) (k+(n+1)) (by omega) hel (by omega)
      rw[hee] at this; omega
     have:=aBx h g o1 o2
     omega
  have any:∀d e,d∈ß b g→e∈ß b g→d≤e→p (ŵ b g.1 e)≤p (ŵ b g.1 d)∧p (ŵ b g.1 d)≤p (ŵ b g.1 e)+adE b g d e:=by
   intro d e hd he hde
   obtain⟨k,hk,rfl⟩:=List.mem_iff_getElem.1 hd
   obtain⟨m,hm,rfl⟩:=List.mem_iff_getElem.1 he
   have hkm:k≤m:=by
    rcases Nat.lt_or_ge m k with hlt|hge
    ·have:=(List.pairwise_iff_getElem.1 (amG b g)) m k hm hk hlt; omega
    ·exact hge
   exact pair (m-k) k _ _ (List.getElem?_eq_getElem hk) (by rw[show k+(m-k)=m by omega]; exact List.getElem?_eq_getElem hm)
  exact⟨by rw[h0]; omega,by rw[h0]; omega,fun d e hd he hde=>(any d e hd he hde).1,fun d e hd he hde=>(any d e hd he hde).2⟩
 ·intro hf l hl
  rcases(Ĵ h hg).1 hl with rfl|rfl|⟨k,d,e,hd,he,rfl|rfl⟩
  ·have:=hf.hi; rw[h0] at this; simp only; omega
  ·have:=hf.lo; rw[h0] at this; simp only; omega
  ·have hde:d≤e:=by
    obtain⟨a1,a2⟩:=List.getElem?_eq_some_iff.1 hd
    obtain⟨a3,a4⟩:=List.getElem?_eq_some_iff.1 he
    have:=(List.pairwise_iff_getElem.1 (amG b g)) k (k+1) a1 a3 (by omega)
    rw[a2,a4] at this; omega
   have:=hf.down d e (List.mem_of_getElem? hd) (List.mem_of_getElem? he) hde
   rw[aiS h hg hd,aiS h hg he] at this
   have e3:(off b i:Int)+((k+1:Nat):Int)+1=(off b i:Int)+k+2:=by omega
   rw[e3] at this
   simp only
   omega
  ·have hde:d≤e:=by
    obtain⟨a1,a2⟩:=List.getElem?_eq_some_iff.1 hd
    obtain⟨a3,a4⟩:=List.getElem?_eq_some_iff.1 he
    have:=(List.pairwise_iff_getElem.1 (amG b g)) k (k+1) a1 a3 (by omega)
    rw[a2,a4] at this; omega
   have:=hf.loss d e (List.mem_of_getElem? hd) (List.mem_of_getElem? he) hde
   rw[aiS h hg hd,aiS h hg he] at this
   have e3:(off b i:Int)+((k+1:Nat):Int)+1=(off b i:Int)+k+2:=by omega
   rw[e3] at this
   simp only
   exact this
theorem aJV (h:ğ b) {p:Int→Int}:Pot (Ú b) p↔(∀g∈b.2.1,aiK b p g)∧∀c∈b.2.2.2.2.1,p (cx b c)≤p (cy b c)+(ž b c).2∧p (cy b c)+(ž b c).1≤p (cx b c):=by
 constructor
 ·intro hp
  refine⟨fun g hg=>?_,fun c hc=>?_⟩
  ·obtain⟨i,hi,rfl⟩:=List.mem_iff_getElem.1 hg
   exact(ahA h (List.getElem?_eq_getElem hi)).1 fun l hl=>hp l.1 l.2.1 l.2.2 (ahR.2 (.inl ⟨i,_,List.getElem?_eq_getElem hi,hl⟩))
  ·have a1:=hp _ _ _ (ahR.2 (.inr ⟨c,hc,.inl rfl⟩))
   have a2:=hp _ _ _ (ahR.2 (.inr ⟨c,hc,.inr rfl⟩))
   omega
 ·rintro⟨hg,hc⟩ u v m hl
  rcases ahR.1 hl with⟨i,g,hig,hl⟩|⟨c,hcm,hl⟩
  ·exact(ahA h hig).2 (hg g (List.mem_of_getElem? hig)) (u,v,m) hl
  ·obtain⟨a1,a2⟩:=hc c hcm
   rcases hl with hl|hl
   ·obtain⟨rfl,rfl,rfl⟩:u=cy b c∧v=cx b c∧m=(ž b c).2:=by simpa using hl
    exact a1
   ·obtain⟨rfl,rfl,rfl⟩:u=cx b c∧v=cy b c∧m = -(ž b c).1:=by simpa using hl
    omega
end
end Go.Proofs.ZzM
end
noncomputable section
namespace Go.Proofs.ZzM
open Go Go.Am
def a0D:List Int→Int
 |[]=>0
 |[a]=>a
 |a::b::t=>max a (a0D (b::t))
theorem aOo:∀{l:List Int},l≠[]→(∀a∈l,a≤a0D l)∧a0D l∈l
 |[],h=>absurd rfl h
 |[a],_=>⟨fun x hx=>by rw[List.mem_singleton] at hx; rw[hx]; exact Int.le_refl _,by simp[a0D]⟩
 | a :: b :: t, _ => by
   obtain⟨h1,h2⟩:=aOo (l:=b::t) (by simp)
   have e:a0D (a::b::t)=max a (a0D (b::t)):=rfl
   rw[e]
   constructor
   ·intro x hx
    rcases List.mem_cons.1 hx with rfl|hx
    ·omega
    ·have:=h1 x hx; omega
   ·rcases Int.le_total a (a0D (b::t)) with h|h
    ·rw[Int.max_eq_right h]; exact List.mem_cons_of_mem _ h2
    ·rw[Int.max_eq_left h]; exact List.mem_cons_self
section
variable {b:á}
def aIl (b:á) (f:Int→Int→Int) (z:Int) (v:Int):Int:=if v=0 then z else match (Ï b)[(v-1).toNat]? with|some n=>f n.1 n.2|none=>0
theorem ah1 (f:Int→Int→Int) (z:Int):aIl b f z 0=z:=by unfold aIl; rw[if_pos rfl]
theorem atx (h:ğ b) (f:Int→Int→Int) (z:Int) {g:ç} (hg:g∈b.2.1) {d:Int} (hd:d∈ß b g):aIl b f z (ŵ b g.1 d)=f g.1 d:=by
 obtain⟨i,hi,rfl⟩:=List.mem_iff_getElem.1 hg
 obtain⟨k,hk,rfl⟩:=List.mem_iff_getElem.1 hd
 have hgi:=List.getElem?_eq_getElem hi
 have hdk:=List.getElem?_eq_getElem hk
 rw[aiS h hgi hdk]
 unfold aIl
 have e:((off b i:Int)+k+1-1).toNat=off b i+k:=by omega
 rw[if_neg (by omega),e,aBp hgi hdk]
def aBd (b:á) (l:List Int) (d:Int):Int:=match l with|[]=>0|x::_=>ŵ b x d
theorem aUg (l:List Int) (d:Int):atP (Ï b) l d=aBd b l d:=by
 unfold atP aBd ŵ
 cases l<;>rfl
theorem ayD (c:Cmp):cx b c=aBd b (æ c.2.2.1 c.2.2.2.1) c.2.1:=aUg _ _
theorem ayC (c:Cmp):cy b c=aBd b (æ c.2.2.2.1 c.2.2.1) c.2.1:=aUg _ _
theorem ahz (h:ğ b) {c:Cmp} (hc:c∈b.2.2.2.2.1) {x:Int} (hx:x∈æ c.2.2.1 c.2.2.2.1∨x∈æ c.2.2.2.1 c.2.2.1):∃g∈b.2.1,g.1=x∧c.2.1∈ß b g:=by
 have hx':(x∈c.2.2.1∧x∉c.2.2.2.1)∨(x∈c.2.2.2.1∧x∉c.2.2.1):=by
  rcases hx with hx|hx
  ·exact .inl (aex.1 hx)
  ·exact .inr (aex.1 hx)
 have hm:x∈c.2.2.1++c.2.2.2.1:=by rw[List.mem_append]; exact hx'.imp (·.1) (·.1)
 obtain⟨⟨g,hg,_⟩,_⟩:=h.pile hc hm
 obtain⟨hgm,hid⟩:=ajH hg
 refine⟨g,hgm,hid,aeD.2 (.inr (.inl ⟨c,hc,?_,rfl⟩))⟩
 rw[hid]
 intro he
 rw[Bool.eq_iff_iff,List.contains_iff_mem,List.contains_iff_mem] at he
 rcases hx' with⟨a,e⟩|⟨a,e⟩
 ·exact e (he.1 a)
 ·exact e (he.2 a)
def fill (b:á) (p:Int→Int) (g:ç) (d:Int):Int:=a0D ((ß b g).map fun e=>if d≤e then p (ŵ b g.1 e) else p (ŵ b g.1 e)-adE b g e d)
theorem aFa {p:Int→Int} {g:ç} (d:Int):(∀e∈ß b g,(if d≤e then p (ŵ b g.1 e) else p (ŵ b g.1 e)-adE b g e d)≤fill b p g d)∧∃e∈ß b g,fill b p g d=if d≤e then p (ŵ b g.1 e) else p (ŵ b g.1 e)-adE b g e d:=by
 have hne:((ß b g).map fun e=>if d≤e then p (ŵ b g.1 e) else p (ŵ b g.1 e)-adE b g e d)≠[]:=by
  intro h
  have:=List.map_eq_nil_iff.1 h
  have h2:=aeN (b:=b) g
  rw[this] at h2
  cases h2
 obtain⟨h1,h2⟩:=aOo hne
 refine⟨fun e he=>h1 _ (List.mem_map.2 ⟨e,he,rfl⟩),?_⟩
 obtain⟨e,he,hx⟩:=List.mem_map.1 h2
 exact⟨e,he,hx.symm⟩
theorem aBB (h:ğ b) {p:Int→Int} {g:ç} (hg:g∈b.2.1) (hf:aiK b p g) {d:Int} (hd:d∈ß b g):fill b p g d=p (ŵ b g.1 d):=by
 obtain⟨h1,e,he,h2⟩:=aFa (b:=b) (p:=p) (g:=g) d
 have h3:=h1 d hd
 rw[if_pos (Int.le_refl _)] at h3
 have h4:fill b p g d≤p (ŵ b g.1 d):=by
  rw[h2]
  split
  ·rename_i hde
   exact hf.down d e hd he hde
  ·rename_i hde
   have:=hf.loss e d he hd (by omega)
   omega
 omega
theorem awd (h:ğ b) {p:Int→Int} {g:ç} (hg:g∈b.2.1) (hf:aiK b p g) {d e:Int} (h0:g.2.1≤d) (hde:d≤e):fill b p g e≤fill b p g d∧fill b p g d≤fill b p g e+adE b g d e:=by
 obtain⟨a1,x,hx,a2⟩:=aFa (b:=b) (p:=p) (g:=g) d
 obtain⟨b1,y,hy,b2⟩:=aFa (b:=b) (p:=p) (g:=g) e
 have hm:=(h.gaugeR hg).2.2.2.2.1
 have hl:=as7 h hg (f:=d) (t:=e) (by omega)
 have dx:=h.day hg hx
 have dy:=h.day hg hy
 constructor
 ·have q:=a1 y hy
  rw[b2]
  by_cases c1:e≤y
  ·rw[if_pos c1]
   rw[if_pos (by omega)] at q
   exact q
  ·rw[if_neg c1]
   by_cases c2:d≤y
   ·rw[if_pos c2] at q
    have:=as7 h hg (f:=y) (t:=e) dy.2.1
    omega
   ·rw[if_neg c2] at q
    have:=aBx h g (f:=y) (t:=d) (u:=e) (by omega) hde
    omega
 ·have q:=b1 x hx
  rw[a2]
  by_cases c1:d≤x
  ·rw[if_pos c1]
   by_cases c2:e≤x
   ·rw[if_pos c2] at q
    omega
   ·rw[if_neg c2] at q
    have:=aBx h g (f:=d) (t:=x) (u:=e) c1 (by omega)
    have:=as7 h hg (f:=d) (t:=x) (by omega)
    omega
  ·rw[if_neg c1]
   rw[if_neg (by omega)] at q
   have:=aBx h g (f:=x) (t:=d) (u:=e) (by omega) hde
   omega
end
end Go.Proofs.ZzM
end
noncomputable section
namespace Go.Proofs.ZzM
open Go Go.Am
section
variable {b:á} {c:Cmp}
theorem aSi:õ (è b c)=(è b c).2.1.flatMap (ó (è b c))++b.2.2.2.2.1.flatMap (ā (è b c)):=by
 unfold õ
 have e:Ú (è b c)=((è b c).2.1.flatMap (ó (è b c))++b.2.2.2.2.1.flatMap (ā (è b c)))++ā (è b c) c:=by
  unfold Ú
  rw[show(è b c).2.2.2.2.1=b.2.2.2.2.1++[c] from rfl,List.flatMap_append,List.append_assoc]
  simp
 rw[e,List.length_append,show(ā (è b c) c).length=2 from rfl,Nat.add_sub_cancel,List.take_left]
theorem aBA (h':ğ (è b c)) {p:Int→Int}:Pot (õ (è b c)) p↔(∀g∈b.2.1,aiK (è b c) p g)∧∀d∈b.2.2.2.2.1,p (cx (è b c) d)≤p (cy (è b c) d)+(ž b d).2∧p (cy (è b c) d)+(ž b d).1≤p (cx (è b c) d):=by
 rw[aSi]
 constructor
 ·intro hp
  refine⟨fun g hg=>?_,fun d hd=>?_⟩
  ·obtain⟨i,hi,rfl⟩:=List.mem_iff_getElem.1 hg
   exact(ahA h' (i:=i) (List.getElem?_eq_getElem hi)).1 fun l hl=>hp l.1 l.2.1 l.2.2 (List.mem_append.2 (.inl (List.mem_flatMap.2 ⟨_,List.getElem_mem hi,hl⟩)))
  ·have a1:=hp (cy (è b c) d) (cx (è b c) d) (ž (è b c) d).2 (List.mem_append.2 (.inr (List.mem_flatMap.2 ⟨d,hd,by simp[ā]⟩)))
   have a2:=hp (cx (è b c) d) (cy (è b c) d) (-(ž (è b c) d).1) (List.mem_append.2 (.inr (List.mem_flatMap.2 ⟨d,hd,by simp[ā]⟩)))
   have e:ž (è b c) d=ž b d:=rfl
   rw[e] at a1 a2
   omega
 ·rintro⟨hg,hc⟩ u v m hl
  rcases List.mem_append.1 hl with hl|hl
  ·obtain⟨g,hgm,hl⟩:=List.mem_flatMap.1 hl
   obtain⟨i,hi,rfl⟩:=List.mem_iff_getElem.1 hgm
   exact(ahA h' (i:=i) (List.getElem?_eq_getElem hi)).2 (hg _ hgm) (u,v,m) hl
  ·obtain⟨d,hd,hl⟩:=List.mem_flatMap.1 hl
   obtain⟨a1,a2⟩:=hc d hd
   have e:ž (è b c) d=ž b d:=rfl
   simp only[ā,List.mem_cons,List.not_mem_nil,or_false,e] at hl
   rcases hl with hl|hl
   ·obtain⟨rfl,rfl,rfl⟩:u=cy (è b c) d∧v=cx (è b c) d∧m=(ž b d).2:=by simpa using hl
    exact a1
   ·obtain⟨rfl,rfl,rfl⟩:u=cx (è b c) d∧v=cy (è b c) d∧m = -(ž b d).1:=by simpa using hl
    omega
theorem alo {g:ç} {d:Int} (hd:d∈ß b g):d∈ß (è b c) g:=by
 rcases aeD.1 hd with e|⟨x,hx,h1,h2⟩|hn
 ·exact aeD.2 (.inl e)
 ·exact aeD.2 (.inr (.inl ⟨x,List.mem_append.2 (.inl hx),h1,h2⟩))
 ·exact aeD.2 (.inr (.inr hn))
theorem aW1 (g:ç) (f t:Int):adE (è b c) g f t=adE b g f t:=rfl
theorem ayM {b':á} (h':ğ b') {l:List Int} {day:Int} (f:Int→Int→Int) (z:Int) (hl:∀x∈l,∃g∈b'.2.1,g.1=x∧day∈ß b' g):aIl b' f z (aBd b' l day)=match l with|[]=>z|x::_=>f x day:=by
 unfold aBd
 cases l with
 |nil=>exact ah1 f z
 | cons x t =>
   obtain⟨g,hg,rfl,hd⟩:=hl x (by simp)
   exact atx h' f z hg hd
theorem aWz (h:ğ b) (h':ğ (è b c)):(∃p,Pot (Ú b) p)↔∃p,Pot (õ (è b c)) p:=by
 constructor
 ·rintro⟨p,hp⟩
  obtain⟨hg,hc⟩:=(aJV h).1 hp
  let f:Int→Int→Int:=fun id d=>match Ŝ b id with|some g=>fill b p g d|none=>0
  have hfv:∀g∈b.2.1,∀d,f g.1 d=fill b p g d:=fun g hgm d=>by
   show(match Ŝ b g.1 with|some g=>fill b p g d|none=>0)=_
   rw[amq h.ids hgm]
  have hq:∀g∈b.2.1,∀d∈ß (è b c) g,aIl (è b c) f (p 0) (ŵ (è b c) g.1 d)=fill b p g d:=fun g hgm d hd=>by
   rw[atx h' f (p 0) hgm hd,hfv g hgm d]
  refine⟨aIl (è b c) f (p 0),(aBA h').2 ⟨fun g hgm=>?_,fun d hd=>?_⟩⟩
  ·have gf:=hg g hgm
   have hmade:g.2.1∈ß b g:=aeN g
   have e0:=hq g hgm g.2.1 (aeN g)
   rw[aBB h hgm gf hmade] at e0
   refine⟨?_,?_,fun x y hx hy hxy=>?_,fun x y hx hy hxy=>?_⟩
   ·rw[e0,ah1]; exact gf.hi
   ·rw[e0,ah1]; exact gf.lo
   ·rw[hq g hgm x hx,hq g hgm y hy]
    exact(awd h hgm gf (h'.day hgm hx).1 hxy).1
   ·rw[hq g hgm x hx,hq g hgm y hy,aW1]
    exact(awd h hgm gf (h'.day hgm hx).1 hxy).2
  ·have key:∀l:List Int,(∀x∈l,∃g∈b.2.1,g.1=x∧d.2.1∈ß b g)→aIl (è b c) f (p 0) (aBd (è b c) l d.2.1)=p (aBd b l d.2.1):=by
    intro l hl
    rw[ayM h' f (p 0) (fun x hx=>by obtain⟨g,q1,q2,q3⟩:=hl x hx; exact⟨g,q1,q2,alo q3⟩)]
    cases l with
    |nil=>rfl
    | cons x t =>
      obtain⟨g,q1,rfl,q3⟩:=hl x (by simp)
      show f g.1 d.2.1=p (ŵ b g.1 d.2.1)
      rw[hfv g q1,aBB h q1 (hg g q1) q3]
   rw[ayD,ayC,key _ (fun x hx=>ahz h hd (.inl hx)),key _ (fun x hx=>ahz h hd (.inr hx)),←ayD,←ayC]
   exact hc d hd
 ·rintro⟨p,hp⟩
  obtain⟨hg,hc⟩:=(aBA h').1 hp
  let f:Int→Int→Int:=fun id d=>p (ŵ (è b c) id d)
  have hq:∀g∈b.2.1,∀d∈ß b g,aIl b f (p 0) (ŵ b g.1 d)=p (ŵ (è b c) g.1 d):=fun g hgm d hd=>atx h f (p 0) hgm hd
  refine⟨aIl b f (p 0),(aJV h).2 ⟨fun g hgm=>?_,fun d hd=>?_⟩⟩
  ·have gf:=hg g hgm
   have e0:=hq g hgm g.2.1 (aeN g)
   refine⟨?_,?_,fun x y hx hy hxy=>?_,fun x y hx hy hxy=>?_⟩
   ·rw[e0,ah1]; exact gf.hi
   ·rw[e0,ah1]; exact gf.lo
   ·rw[hq g hgm x hx,hq g hgm y hy]
    exact gf.down x y (alo hx) (alo hy) hxy
   ·rw[hq g hgm x hx,hq g hgm y hy]
    exact gf.loss x y (alo hx) (alo hy) hxy
  ·have key:∀l:List Int,(∀x∈l,∃g∈b.2.1,g.1=x∧d.2.1∈ß b g)→aIl b f (p 0) (aBd b l d.2.1)=p (aBd (è b c) l d.2.1):=by
    intro l hl
    rw[ayM h f (p 0) hl]
    cases l<;>rfl
   rw[ayD,ayC,key _ (fun x hx=>ahz h hd (.inl hx)),key _ (fun x hx=>ahz h hd (.inr hx)),←ayD,←ayC]
   exact hc d hd
end
end Go.Proofs.ZzM
end
noncomputable section
namespace Go.Proofs.ZzM
open Go Go.Am
section
variable {L:List Lk} {N:Nat}
theorem Wl.app {u v:Int} {vs:List Int} {d:Int} (h1:Wl L (fun x=>x=u) vs v d) {ws:List Int} {w e:Int} (h2:Wl L (fun x=>x=v) ws w e):∃xs,Wl L (fun x=>x=u) xs w (d+e):=by
 induction h2 with
 |nil h=>subst h; exact⟨vs,by rw[Int.add_zero]; exact h1⟩
 | step hw hx ih =>
   obtain⟨xs,hi⟩:=ih
   have:=Wl.step hi hx
   rw[Int.add_assoc] at this
   exact⟨_,this⟩
def dst (L:List Lk) (N:Nat) (s t:Int):Int:=gv (akl L N s) t
theorem aXH (h:adx L N) (ht:aFS L N) (ho:œ L N=true) {s t:Int} (hs:0≤s∧s<N) (hv:0≤t∧t<N):dst L N s t≤9007199254740992:=by
 have h2:=h.n60
 obtain⟨p,hp⟩:=(adB h.links (by omega)).1 ho
 obtain⟨vs,d,hw,hd⟩:=ht.from' s hs.1 hs.2
 obtain⟨ws,e,hx,he⟩:=ht.to t hv.1 hv.2
 obtain⟨xs,hy⟩:=Wl.app hw hx
 have:=(agl h.links (by omega) hp hs).low t xs _ (aWB.2 hy)
 unfold dst
 omega
theorem aXG (h:adx L N) (ht:aFS L N) (ho:œ L N=true) {s t:Int} (hs:0≤s∧s<N) (hv:0≤t∧t<N):dst L N s t≠ade:=by
 have:=aXH h ht ho hs hv
 unfold ade
 omega
theorem aXF (h:adx L N) (ht:aFS L N) (ho:œ L N=true) {s:Int} (hs:0≤s∧s<N):Pot L (dst L N s):=by
 have h2:=h.n60
 obtain⟨p,hp⟩:=(adB h.links (by omega)).1 ho
 intro u v m hl
 have hr:=h.inr _ hl
 exact(agl h.links (by omega) hp hs).pot h.inr hl (aXG h ht ho hs hr.1)
theorem aTX (h:adx L N) (ho:œ L N=true) {s:Int} (hs:0≤s∧s<N):dst L N s s=0:=aSM h ho hs.1 hs.2
theorem aMJ (h:adx L N) (ht:aFS L N) (ho:œ L N=true) {s t:Int} (hs:0≤s∧s<N) (hv:0≤t∧t<N) {p:Int→Int} (hp:Pot L p):p t-p s≤dst L N s t:=by
 have h2:=h.n60
 obtain⟨vs,hw⟩:=(agl h.links (by omega) hp hs).att t hv.1 hv.2 (aXG h ht ho hs hv)
 obtain⟨u,hu,hx⟩:=(aWB.1 hw).pot hp
 subst hu
 exact hx
theorem a1A (h:adx L N) (ht:aFS L N) (ho:œ L N=true) {x y:Int} (hx:0≤x∧x<N) (hy:0≤y∧y<N) {t:Int} (h1 : -(dst L N x y)≤t) (h2:t≤dst L N y x):∃p,Pot L p∧p x-p y=t:=by
 refine⟨fun v=>min (dst L N y v) (dst L N x v+t),fun u v m hl=>?_,?_⟩
 ·have a1:=aXF h ht ho hy u v m hl
  have a2:=aXF h ht ho hx u v m hl
  show min _ _≤min _ _+m
  omega
 ·have e1:=aTX h ho hx
  have e2:=aTX h ho hy
  show min (dst L N y x) (dst L N x x+t)-min (dst L N y y) (dst L N x y+t)=t
  omega
theorem aQg (h:adx L N) (ht:aFS L N) (ho:œ L N=true) {x y:Int} (hx:0≤x∧x<N) (hy:0≤y∧y<N) : -(dst L N x y)≤dst L N y x:=by
 have h2:=h.n60
 obtain⟨p,hp⟩:=(adB h.links (by omega)).1 ho
 have a1:=aMJ h ht ho hx hy hp
 have a2:=aMJ h ht ho hy hx hp
 omega
theorem aTY (h:adx L N) (ht:aFS L N) (ho:œ L N=true) {s t:Int} (hs:0≤s∧s<N) (hv:0≤t∧t<N) : -9007199254740992≤dst L N s t∧dst L N s t≤9007199254740992:=by
 have a1:=aXH h ht ho hs hv
 have a2:=aXH h ht ho hv hs
 have a3:=aQg h ht ho hv hs
 omega
theorem aqk (h:adx L N) (ht:aFS L N) {s t:Int} (hs:0≤s∧s<N) (hv:0≤t∧t<N):adb L N s t=if œ L N then(dst L N s t,0) else(0,9):=by
 unfold adb
 by_cases ho:œ L N=true
 ·have hne:=aXG h ht ho hs hv
  unfold dst at hne ⊢
  rw[if_neg (by simp[ho]),if_neg hne,if_pos ho]
 ·rw[if_pos (by simpa using ho),if_neg ho]
end
section
variable {b:á} {c:Cmp}
theorem a1p (h':ğ (è b c)):GL (è b c) (õ (è b c)):=by
 intro i g hg l hl
 rw[aSi]
 exact List.mem_append.2 (.inl (List.mem_flatMap.2 ⟨g,List.mem_of_getElem? hg,hl⟩))
theorem aey (h':ğ (è b c)):aFS (õ (è b c)) ((Ï (è b c)).length+1):=h'.tiedL (a1p h')
theorem aee (h':ğ (è b c)):adx (õ (è b c)) ((Ï (è b c)).length+1) :=
 h'.sys.sub (fun l hl=>List.mem_of_mem_take hl) (by unfold õ; rw[List.length_take]; omega)
theorem air (h:ğ b) (h':ğ (è b c)):œ (õ (è b c)) ((Ï (è b c)).length+1)=œ (Ú b) ((Ï b).length+1):=by
 have n1:=h.sys.n60
 have n2:=(aee h').n60
 rw[Bool.eq_iff_iff,adB (aee h').links (by omega),adB h.sys.links (by omega)]
 exact(aWz h h').symm
theorem apE:c∈(è b c).2.2.2.2.1:=by simp[è]
theorem arR (h':ğ (è b c)):0≤cx (è b c) c∧cx (è b c) c<((Ï (è b c)).length+1:Nat):=(aMK h' apE).rng
theorem arQ (h':ğ (è b c)):0≤cy (è b c) c∧cy (è b c) c<((Ï (è b c)).length+1:Nat):=(aFo h' apE).rng
def dLo (b:á) (c:Cmp):Int:=-(dst (õ (è b c)) ((Ï (è b c)).length+1) (cx (è b c) c) (cy (è b c) c))
def dHi (b:á) (c:Cmp):Int:=dst (õ (è b c)) ((Ï (è b c)).length+1) (cy (è b c) c) (cx (è b c) c)
theorem aFU (h:ğ b) (h':ğ (è b (Ë c))):Į b c=if œ (Ú b) ((Ï b).length+1) then aBZ b (Ë c) (dLo b (Ë c),dHi b (Ë c)) else((0,0),9):=by
 have e:apr b (Ë c)=(è b (Ë c),0):=by
  unfold apr
  rw[if_neg (by simp[(ð b).2 h]),if_neg (by simp[(ð _).2 h'])]
 unfold Į
 rw[e,aqk (aee h') (aey h') (arQ h') (arR h'),aqk (aee h') (aey h') (arR h') (arQ h'),air h h']
 by_cases ho:œ (Ú b) ((Ï b).length+1)=true
 ·rw[if_pos ho,if_pos ho,if_pos ho]
  rfl
 ·rw[if_neg ho,if_neg ho,if_neg ho]
  rfl
theorem ahJ (hp:(Į b c).2=0):ğ b∧ğ (è b (Ë c)):=by
 have hw:(apr b (Ë c)).2=0:=by
  unfold Į at hp
  by_cases hw:(apr b (Ë c)).2=0
  ·exact hw
  ·rw[if_pos hw] at hp; exact hp
 unfold apr at hw
 by_cases hb:à b=0
 ·rw[if_neg (by simp[hb])] at hw
  by_cases hm:à (è b (Ë c))=0
  ·exact⟨(ð b).1 hb,(ð _).1 hm⟩
  ·rw[if_pos hm] at hw; exact absurd hw hm
 ·rw[if_pos hb] at hw; exact absurd hw hb
theorem aQ2 {s:Int×Int} (h:(aBZ b c s).2=0):aSb b c≤atb b c∧aBZ b c s=((s.1+aSb b c,s.2+atb b c),0):=by
 unfold aBZ at h ⊢
 split at h
 ·simp at h
 ·rename_i hl
  rw[if_neg hl]
  exact⟨by omega,rfl⟩
end
end Go.Proofs.ZzM
end