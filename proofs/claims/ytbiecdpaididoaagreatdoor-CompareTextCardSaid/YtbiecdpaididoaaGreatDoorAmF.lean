/- lemmas -/
import Derived.Test.YtbiecdpaididoaaGreatDoorAmC
set_option linter.all false
noncomputable section
namespace Go.Am
section
variable {ρ:Type}
def Ef {τ:Type} {f:τ->(τ->Nm ρ)->Nm ρ} {F:τ->Nm ρ} (I:τ->Prop) (μ:τ->Nat)
 (h:∀x,I x->∀c,(∀y,I y->μ y<μ x->c y=F y)->f x c=F x) {x:τ} (b:I x):Ó f x=F x:=by
 refine Xr (μ x+1) ?_
 have a:∀n x,I x->μ x<n->WF f n x=F x:=by
  intro n
  induction n with
  |zero=>intro x _ d; omega
  |succ n e =>
   intro x b d;exact h x b _ fun y g i=>e y g (by omega)
 exact fun n d=>a n x b (by omega)
def Uy {α:Type} (l:NO α) {f:Int->(Int->Nm ρ)->Nm ρ} (G:Nat->NO α->Nm ρ)
 (e:∀c,f l.length c=G l.length [])
 (h:∀(i:Nat) (a:α) (t:NO α),l.drop i=a::t->i<l.length->l[i]?=some a->∀c,c ((i:Int)+1)=G (i+1) t->f i c=G i (a::t)):Ó f 0=G 0 l:=by
 have:=Ef (f:=f) (F:=fun n=>G n.toNat (l.drop n.toNat)) (fun n=>∃i:Nat,n=i/\i<=l.length) (fun n=>l.length-n.toNat) (fun x ⟨i,hi,j⟩ c d=>by
  subst hi;simp only[bU] at d ⊢;rcases ce i l.length with b|g
  ·have hd:l.drop i=l[i]::l.drop (i+1):=cG b;rw[hd];refine h i _ _ hd b (bG b) c ?_;have:=d ((i:Int)+1) ⟨i+1,by simp,b⟩ (by simp; omega);rw[this];congr 1
  ·have:i=l.length:=by omega
   subst this;rw[fB]
   exact e c) (x:=0) ⟨0,rfl,cg _⟩
 simpa using this
def Jm {α σ:Type} (l:NO α) {f:Int×σ->(Int×σ->Nm ρ)->Nm ρ} (G:Nat->σ->NO α->Nm ρ) (I:Nat->σ->Prop)
 (g:∀s,I l.length s->∀c,f (l.length,s) c=G l.length s [])
 (j:∀(i:Nat) (a:α) (t:NO α) (s:σ),l.drop i=a::t->i<l.length->l[i]?=some a->I i s->∀c,(∀s',I (i+1) s'->c ((i:Int)+1,s')=G (i+1) s' t)->f (i,s) c=G i s (a::t))
 {s:σ} (h0:I 0 s):Ó f (0,s)=G 0 s l:=by
 have:=Ef (f:=f) (F:=fun n=>G n.1.toNat n.2 (l.drop n.1.toNat)) (fun n=>∃i:Nat,n.1=i/\i<=l.length/\I i n.2) (fun n=>l.length-n.1.toNat) (fun x ⟨i,hi,k,hI⟩ c e=>by
  obtain⟨x1,x2⟩:=x;simp only at hi hI;subst hi;simp only[bU] at e ⊢;rcases ce i l.length with b|h
  ·have hd:l.drop i=l[i]::l.drop (i+1):=cG b;rw[hd];refine j i _ _ x2 hd b (bG b) hI c fun s' d=>?_;have:=e ((i:Int)+1,s') ⟨i+1,by simp,b,d⟩ (by simp; omega);rw[this];congr 1
  ·have:i=l.length:=by omega
   subst this;rw[fB]
   exact g x2 hI c) (x:=(0,s)) ⟨0,rfl,cg _,h0⟩
 simpa using this
@[simp] theorem gQ (x y:Nm ρ):ifb true x y=x:=by simp only[ifb]
@[simp] theorem ð (x y:Nm ρ):ifb false x y=y:=by simp only[ifb]
def û (b:Bool) (x y:Nm ρ):ifb b x y=if b then x else y:=by cases b<;>rfl
@[simp] theorem iff_true (x:Nm ρ):ä true x=x:=by simp only[ä]
def jq {b:Bool} (h:b=true) (x:Nm ρ):ä b x=x:=by rw[h]; rfl
@[simp] theorem À {α:Type} (y:α) (f:α->Nm ρ):Â (some y) f=f y:=by simp only[Â]
def Õ {n:Int} (a : -9223372036854775808<=n) (h2:n<=9223372036854775807) (f:Int->Nm ρ):ck n f=f n:=by
 have e:IntKind.i64.wrap n=n:=by
  have e:IntKind.i64.wrap n=if n % 18446744073709551616>=9223372036854775808 then n % 18446744073709551616-18446744073709551616 else n % 18446744073709551616:=by
   simp[IntKind.wrap,IntKind.bits,IntKind.signed]
  rw[e]
  split<;>omega
 unfold ck Tf; rw[e]
def Æ {α:Type} {l:NO α} {i:Nat} {a:α} (h:l[i]?=some a) (f:α->Nm ρ):è l (i:Int) f=f a:=by
 unfold è; simp[h]
def wm {α:Type} {l:NO α} {i:Nat} {a:α} (h:l[i]?=some a) (f:α->Nm ρ):κ l i f=f a:=by
 unfold κ; simp[h]
def á {α:Type} (l:NO α):ß l=(l.length:Int):=ku _
def É {n:Nat} (h:n<=4294967296):Ü n=true:=by simp[Ü,h]
def wt {α β:Type} {f:α->Nm β} {g:α->β}:∀{l:NO α},(∀a∈l,f a=some (g a))->CO f l=some (l.map g)
 |[],_=>rfl
 |a::l,h=>by
  simp only[CO,h a (by simp),wt (l:=l) fun x b=>h x (by simp[b]),cE]
end
end Go.Am
end
