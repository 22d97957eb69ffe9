/- lemmas -/
import Derived.Test.YtdmegkgjpgcfgaaGreatAmE
set_option linter.all false
set_option linter.unusedSectionVars false
set_option linter.unusedVariables false
set_option linter.unusedSimpArgs false
noncomputable section
namespace Go.Am
section
variable {ρ:Type}
def uG {τ:Type} {f:τ→(τ→Option ρ)→Option ρ} {F:τ→Option ρ} (I:τ→Prop) (μ:τ→Nat)
 (h:∀x,I x→∀kn,(∀y,I y→μ y<μ x→kn y=F y)→f x kn=F x) {x:τ} (hx:I x):Ë f x=F x:=by
 refine ag7 (μ x+1) ?_
 have key:∀n x,I x→μ x<n→agr f n x=F x:=by
  intro n
  induction n with
  |zero=>intro x _ hn; omega
  |succ n ih =>
   intro x hx hn;exact h x hx _ fun y hy hlt=>ih y hy (by omega)
 exact fun n hn=>key n x hx (by omega)
def aer {α:Type} (l:List α) {f:Int→(Int→Option ρ)→Option ρ} (G:Nat→List α→Option ρ)
 (hn:∀kn,f l.length kn=G l.length [])
 (hc:∀(i:Nat) (a:α) (t:List α),l.drop i=a::t→i<l.length→l[i]?=some a→∀kn,kn ((i:Int)+1)=G (i+1) t→f i kn=G i (a::t)):Ë f 0=G 0 l:=by
 have:=uG (f:=f) (F:=fun n=>G n.toNat (l.drop n.toNat)) (fun n=>∃i:Nat,n=i∧i≤l.length) (fun n=>l.length-n.toNat) (fun x ⟨i,hi,hl⟩ kn hk=>by
  subst hi;simp only[cT] at hk ⊢;rcases dg i l.length with hlt|hge
  ·have hd:l.drop i=l[i]::l.drop (i+1):=dE hlt;rw[hd];refine hc i _ _ hd hlt (cF hlt) kn ?_;have:=hk ((i:Int)+1) ⟨i+1,by simp,hlt⟩ (by simp; omega);rw[this];congr 1
  ·have:i=l.length:=by omega
   subst this;rw[List.drop_length]
   exact hn kn) (x:=0) ⟨0,rfl,dQ _⟩
 simpa using this
def JJ {α σ:Type} (l:List α) {f:Int×σ→(Int×σ→Option ρ)→Option ρ} (G:Nat→σ→List α→Option ρ) (I:Nat→σ→Prop)
 (hn:∀s,I l.length s→∀kn,f (l.length,s) kn=G l.length s [])
 (hc:∀(i:Nat) (a:α) (t:List α) (s:σ),l.drop i=a::t→i<l.length→l[i]?=some a→I i s→∀kn,(∀s',I (i+1) s'→kn ((i:Int)+1,s')=G (i+1) s' t)→f (i,s) kn=G i s (a::t))
 {s:σ} (h0:I 0 s):Ë f (0,s)=G 0 s l:=by
 have:=uG (f:=f) (F:=fun n=>G n.1.toNat n.2 (l.drop n.1.toNat)) (fun n=>∃i:Nat,n.1=i∧i≤l.length∧I i n.2) (fun n=>l.length-n.1.toNat) (fun x ⟨i,hi,hl,hI⟩ kn hk=>by
  obtain⟨x1,x2⟩:=x;simp only at hi hI;subst hi;simp only[cT] at hk ⊢;rcases dg i l.length with hlt|hge
  ·have hd:l.drop i=l[i]::l.drop (i+1):=dE hlt;rw[hd];refine hc i _ _ x2 hd hlt (cF hlt) hI kn fun s' hs'=>?_;have:=hk ((i:Int)+1,s') ⟨i+1,by simp,hlt,hs'⟩ (by simp; omega);rw[this];congr 1
  ·have:i=l.length:=by omega
   subst this;rw[List.drop_length]
   exact hn x2 hI kn) (x:=(0,s)) ⟨0,rfl,dQ _,h0⟩
 simpa using this
@[simp] theorem lQ (x y:Option ρ):ifb true x y=x:=by simp only[ifb]
@[simp] theorem é (x y:Option ρ):ifb false x y=y:=by simp only[ifb]
def Ď (b:Bool) (x y:Option ρ):ifb b x y=if b then x else y:=by cases b<;>rfl
@[simp] theorem iff_true (x:Option ρ):ä true x=x:=by simp only[ä]
def ċ {b:Bool} (h:b=true) (x:Option ρ):ä b x=x:=by rw[h]; rfl
@[simp] theorem À {α:Type} (y:α) (f:α→Option ρ):Ä (some y) f=f y:=by simp only[Ä]
def Ô {n:Int} (h1 : -9223372036854775808≤n) (h2:n≤9223372036854775807) (f:Int→Option ρ):ck n f=f n:=by
 have e:IntKind.i64.wrap n=n:=by
  have e:IntKind.i64.wrap n=if n % 18446744073709551616≥9223372036854775808 then n % 18446744073709551616-18446744073709551616 else n % 18446744073709551616:=by
   simp[IntKind.wrap,IntKind.bits,IntKind.signed]
  rw[e]
  split<;>omega
 unfold ck wr64; rw[e]
def È {α:Type} {l:List α} {i:Nat} {a:α} (h:l[i]?=some a) (f:α→Option ρ):ě l (i:Int) f=f a:=by
 unfold ě; simp[h]
def i9 {α:Type} {l:List α} {i:Nat} {a:α} (h:l[i]?=some a) (f:α→Option ρ):ĸ l i f=f a:=by
 unfold ĸ; simp[h]
def Ò {α:Type} (l:List α):Û l=(l.length:Int):=Kw _
def Õ {n:Nat} (h:n≤4294967296):ê n=true:=by simp[ê,h]
def Dp {α β:Type} {f:α→Option β} {g:α→β}:∀{l:List α},(∀a∈l,f a=some (g a))→KD f l=some (l.map g)
 |[],_=>rfl
 |a::l,h=>by
  simp only[KD,h a (by simp),Dp (l:=l) fun x hx=>h x (by simp[hx]),eE]
end
end Go.Am
end
