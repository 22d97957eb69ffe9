/- lemmas -/
import Derived.Test.YtbfmlbheofblcaaGreatAmF
set_option linter.all false
noncomputable section
namespace Go.Am
section
variable {ρ:Type}
def rL {τ:Type} {f:τ->(τ->AN ρ)->AN ρ} {F:τ->AN ρ} (I:τ->Prop) (μ:τ->Nat)
 (h:∀x,I x->∀c,(∀y,I y->μ y<μ x->c y=F y)->f x c=F x) {x:τ} (b:I x):Ì f x=F x:=by
 refine af9 (μ x+1) ?_
 have a:∀n x,I x->μ x<n->iter f n x=F x:=by
  intro n
  induction n with
  |zero=>intro x _ d; omega
  |succ n e =>
   intro x b d;exact h x b _ fun y g i=>e y g (by omega)
 exact fun n d=>a n x b (by omega)
def ac5 {α:Type} (l:AS α) {f:Int->(Int->AN ρ)->AN ρ} (G:Nat->AS α->AN ρ)
 (e:∀c,f l.length c=G l.length [])
 (h:∀(i:Nat) (a:α) (t:AS α),l.drop i=a::t->i<l.length->l[i]?=some a->∀c,c ((i:Int)+1)=G (i+1) t->f i c=G i (a::t)):Ì f 0=G 0 l:=by
 have:=rL (f:=f) (F:=fun n=>G n.toNat (l.drop n.toNat)) (fun n=>∃i:Nat,n=i/\i<=l.length) (fun n=>l.length-n.toNat) (fun x ⟨i,hi,j⟩ c d=>by
  subst hi;simp only[du] at d ⊢;rcases dC i l.length with b|g
  ·have hd:l.drop i=l[i]::l.drop (i+1):=eY b;rw[hd];refine h i _ _ hd b (cI b) c ?_;have:=d ((i:Int)+1) ⟨i+1,by simp,b⟩ (by simp; omega);rw[this];congr 1
  ·have:i=l.length:=by omega
   subst this;rw[gO]
   exact e c) (x:=0) ⟨0,rfl,dG _⟩
 simpa using this
def Hm {α σ:Type} (l:AS α) {f:Int×σ->(Int×σ->AN ρ)->AN ρ} (G:Nat->σ->AS α->AN ρ) (I:Nat->σ->Prop)
 (k:∀s,I l.length s->∀c,f (l.length,s) c=G l.length s [])
 (o:∀(i:Nat) (a:α) (t:AS α) (s:σ),l.drop i=a::t->i<l.length->l[i]?=some a->I i s->∀c,(∀d,I (i+1) d->c ((i:Int)+1,d)=G (i+1) d t)->f (i,s) c=G i s (a::t))
 {s:σ} (h0:I 0 s):Ì f (0,s)=G 0 s l:=by
 have:=rL (f:=f) (F:=fun n=>G n.1.toNat n.2 (l.drop n.1.toNat)) (fun n=>∃i:Nat,n.1=i/\i<=l.length/\I i n.2) (fun n=>l.length-n.1.toNat) (fun x ⟨i,hi,q,g⟩ c j=>by
  obtain⟨p,h⟩:=x;simp only at hi g;subst hi;simp only[du] at j ⊢;rcases dC i l.length with b|m
  ·have hd:l.drop i=l[i]::l.drop (i+1):=eY b;rw[hd];refine o i _ _ h hd b (cI b) g c fun d e=>?_;have:=j ((i:Int)+1,d) ⟨i+1,by simp,b,e⟩ (by simp; omega);rw[this];congr 1
  ·have:i=l.length:=by omega
   subst this;rw[gO]
   exact k h g c) (x:=(0,s)) ⟨0,rfl,dG _,h0⟩
 simpa using this
@[simp] theorem ix (x y:AN ρ):ifb true x y=x:=by simp only[ifb]
@[simp] theorem ó (x y:AN ρ):ifb false x y=y:=by simp only[ifb]
def Œ (b:Bool) (x y:AN ρ):ifb b x y=if b then x else y:=by cases b<;>rfl
@[simp] theorem iff_true (x:AN ρ):æ true x=x:=by simp only[æ]
def ĵ {b:Bool} (h:b=true) (x:AN ρ):æ b x=x:=by rw[h]; rfl
@[simp] theorem Á {α:Type} (y:α) (f:α->AN ρ):Ä (some y) f=f y:=by simp only[Ä]
def Ú {n:Int} (a : -9223372036854775808<=n) (h2:n<=9223372036854775807) (f:Int->AN ρ):ck n f=f n:=by
 have e:IntKind.i64.wrap n=n:=by
  have e:IntKind.i64.wrap n=if n % 18446744073709551616>=9223372036854775808 then n % 18446744073709551616-18446744073709551616 else n % 18446744073709551616:=by
   simp[IntKind.wrap,IntKind.bits,IntKind.signed]
  rw[e]
  split<;>omega
 unfold ck wr64; rw[e]
def Ç {α:Type} {l:AS α} {i:Nat} {a:α} (h:l[i]?=some a) (f:α->AN ρ):ø l (i:Int) f=f a:=by
 unfold ø; simp[h]
def wZ {α:Type} {l:AS α} {i:Nat} {a:α} (h:l[i]?=some a) (f:α->AN ρ):Γ l i f=f a:=by
 unfold Γ; simp[h]
def ù {α:Type} (l:AS α):Ö l=(l.length:Int):=zQ _
def Ñ {n:Nat} (h:n<=4294967296):Û n=true:=by simp[Û,h]
def Bl {α β:Type} {f:α->AN β} {g:α->β}:∀{l:AS α},(∀a∈l,f a=some (g a))->Im f l=some (l.map g)
 |[],_=>rfl
 |a::l,h=>by
  simp only[Im,h a (by simp),Bl (l:=l) fun x b=>h x (by simp[b]),eM]
end
end Go.Am
end
