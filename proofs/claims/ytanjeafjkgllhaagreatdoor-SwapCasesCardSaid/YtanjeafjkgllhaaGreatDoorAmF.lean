/- lemmas -/
import Derived.Test.YtanjeafjkgllhaaGreatDoorAmC
set_option linter.all false
noncomputable section
namespace Go.Am
section
variable {ρ:Type}
def GF {τ:Type} {f:τ->(τ->rF ρ)->rF ρ} {F:τ->rF ρ} (I:τ->Prop) (μ:τ->Nat)
 (h:∀x,I x->∀c,(∀y,I y->μ y<μ x->c y=F y)->f x c=F x) {x:τ} (b:I x):Ê f x=F x:=by
 refine alf (μ x+1) ?_
 have a:∀n x,I x->μ x<n->iter f n x=F x:=by
  intro n
  induction n with
  |zero=>intro x _ d; omega
  |succ n e =>
   intro x b d;exact h x b _ fun y g i=>e y g (by omega)
 exact fun n d=>a n x b (by omega)
def ah2 {α:Type} (l:rT α) {f:Int->(Int->rF ρ)->rF ρ} (G:Nat->rT α->rF ρ)
 (e:∀c,f l.length c=G l.length [])
 (h:∀(i:Nat) (a:α) (t:rT α),l.drop i=a::t->i<l.length->l[i]?=some a->∀c,c ((i:Int)+1)=G (i+1) t->f i c=G i (a::t)):Ê f 0=G 0 l:=by
 have:=GF (f:=f) (F:=fun n=>G n.toNat (l.drop n.toNat)) (fun n=>∃i:Nat,n=i/\i<=l.length) (fun n=>l.length-n.toNat) (fun x ⟨i,hi,j⟩ c d=>by
  subst hi;simp only[dL] at d ⊢;rcases dV i l.length with b|g
  ·have hd:l.drop i=l[i]::l.drop (i+1):=eR b;rw[hd];refine h i _ _ hd b (dv b) c ?_;have:=d ((i:Int)+1) ⟨i+1,by simp,b⟩ (by simp; omega);rw[this];congr 1
  ·have:i=l.length:=by omega
   subst this;rw[gW]
   exact e c) (x:=0) ⟨0,rfl,dX _⟩
 simpa using this
def We {α σ:Type} (l:rT α) {f:Int×σ->(Int×σ->rF ρ)->rF ρ} (G:Nat->σ->rT α->rF ρ) (I:Nat->σ->Prop)
 (h:∀s,I l.length s->∀c,f (l.length,s) c=G l.length s [])
 (k:∀(i:Nat) (a:α) (t:rT α) (s:σ),l.drop i=a::t->i<l.length->l[i]?=some a->I i s->∀c,(∀s',I (i+1) s'->c ((i:Int)+1,s')=G (i+1) s' t)->f (i,s) c=G i s (a::t))
 {s:σ} (h0:I 0 s):Ê f (0,s)=G 0 s l:=by
 have:=GF (f:=f) (F:=fun n=>G n.1.toNat n.2 (l.drop n.1.toNat)) (fun n=>∃i:Nat,n.1=i/\i<=l.length/\I i n.2) (fun n=>l.length-n.1.toNat) (fun x ⟨i,hi,o,hI⟩ c g=>by
  obtain⟨m,e⟩:=x;simp only at hi hI;subst hi;simp only[dL] at g ⊢;rcases dV i l.length with b|j
  ·have hd:l.drop i=l[i]::l.drop (i+1):=eR b;rw[hd];refine k i _ _ e hd b (dv b) hI c fun s' d=>?_;have:=g ((i:Int)+1,s') ⟨i+1,by simp,b,d⟩ (by simp; omega);rw[this];congr 1
  ·have:i=l.length:=by omega
   subst this;rw[gW]
   exact h e hI c) (x:=(0,s)) ⟨0,rfl,dX _,h0⟩
 simpa using this
@[simp] theorem mP (x y:rF ρ):ifb true x y=x:=by simp only[ifb]
@[simp] theorem Ř (x y:rF ρ):ifb false x y=y:=by simp only[ifb]
def ĕ (b:Bool) (x y:rF ρ):ifb b x y=if b then x else y:=by cases b<;>rfl
@[simp] theorem iff_true (x:rF ρ):Ô true x=x:=by simp only[Ô]
def Β {b:Bool} (h:b=true) (x:rF ρ):Ô b x=x:=by rw[h]; rfl
@[simp] theorem Á {α:Type} (y:α) (f:α->rF ρ):Â (some y) f=f y:=by simp only[Â]
def ä {n:Int} (a : -9223372036854775808<=n) (h2:n<=9223372036854775807) (f:Int->rF ρ):ck n f=f n:=by
 have e:IntKind.i64.wrap n=n:=by
  have e:IntKind.i64.wrap n=if n % 18446744073709551616>=9223372036854775808 then n % 18446744073709551616-18446744073709551616 else n % 18446744073709551616:=by
   simp[IntKind.wrap,IntKind.bits,IntKind.signed]
  rw[e]
  split<;>omega
 unfold ck agq; rw[e]
def Ç {α:Type} {l:rT α} {i:Nat} {a:α} (h:l[i]?=some a) (f:α->rF ρ):Þ l (i:Int) f=f a:=by
 unfold Þ; simp[h]
def ac2 {α:Type} {l:rT α} {i:Nat} {a:α} (h:l[i]?=some a) (f:α->rF ρ):ě l i f=f a:=by
 unfold ě; simp[h]
def â {α:Type} (l:rT α):Ó l=(l.length:Int):=ln _
def Ë {n:Nat} (h:n<=4294967296):Î n=true:=by simp[Î,h]
def EP {α β:Type} {f:α->rF β} {g:α->β}:∀{l:rT α},(∀a∈l,f a=some (g a))->M6 f l=some (l.map g)
 |[],_=>rfl
 |a::l,h=>by
  simp only[M6,h a (by simp),EP (l:=l) fun x b=>h x (by simp[b]),eM]
end
end Go.Am
end
