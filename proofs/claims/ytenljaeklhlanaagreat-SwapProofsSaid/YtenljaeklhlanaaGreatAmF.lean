/- lemmas -/
import Derived.Test.YtenljaeklhlanaaGreatAmE
set_option linter.all false
noncomputable section
namespace Go.Am
section
variable {ρ:Type}
def sm {τ:Type} {f:τ->(τ->BY ρ)->BY ρ} {F:τ->BY ρ} (I:τ->Prop) (μ:τ->Nat)
 (h:∀x,I x->∀b,(∀y,I y->μ y<μ x->b y=F y)->f x b=F x) {x:τ} (a:I x):Ë f x=F x:=by
 refine alj (μ x+1) ?_
 have key:∀n x,I x->μ x<n->akI f n x=F x:=by
  intro n
  induction n with
  |zero=>intro x _ c; omega
  |succ n d =>
   intro x a c;exact h x a _ fun y e g=>d y e (by omega)
 exact fun n c=>key n x a (by omega)
def ais {α:Type} (l:CK α) {f:Int->(Int->BY ρ)->BY ρ} (G:Nat->CK α->BY ρ)
 (e:∀c,f l.length c=G l.length [])
 (h:∀(i:Nat) (a:α) (t:CK α),l.drop i=a::t->i<l.length->l[i]?=some a->∀c,c ((i:Int)+1)=G (i+1) t->f i c=G i (a::t)):Ë f 0=G 0 l:=by
 have:=sm (f:=f) (F:=fun n=>G n.toNat (l.drop n.toNat)) (fun n=>∃i:Nat,n=i/\i<=l.length) (fun n=>l.length-n.toNat) (fun x ⟨i,hi,j⟩ c d=>by
  subst hi;simp only[dj] at d ⊢;rcases dl i l.length with b|g
  ·have hd:l.drop i=l[i]::l.drop (i+1):=dT b;rw[hd];refine h i _ _ hd b (cV b) c ?_;have:=d ((i:Int)+1) ⟨i+1,by simp,b⟩ (by simp; omega);rw[this];congr 1
  ·have:i=l.length:=by omega
   subst this;rw[ip]
   exact e c) (x:=0) ⟨0,rfl,dU _⟩
 simpa using this
def WD {α σ:Type} (l:CK α) {f:Int×σ->(Int×σ->BY ρ)->BY ρ} (G:Nat->σ->CK α->BY ρ) (I:Nat->σ->Prop)
 (k:∀s,I l.length s->∀c,f (l.length,s) c=G l.length s [])
 (o:∀(i:Nat) (a:α) (t:CK α) (s:σ),l.drop i=a::t->i<l.length->l[i]?=some a->I i s->∀c,(∀d,I (i+1) d->c ((i:Int)+1,d)=G (i+1) d t)->f (i,s) c=G i s (a::t))
 {s:σ} (h0:I 0 s):Ë f (0,s)=G 0 s l:=by
 have:=sm (f:=f) (F:=fun n=>G n.1.toNat n.2 (l.drop n.1.toNat)) (fun n=>∃i:Nat,n.1=i/\i<=l.length/\I i n.2) (fun n=>l.length-n.1.toNat) (fun x ⟨i,hi,q,g⟩ c j=>by
  obtain⟨p,h⟩:=x;simp only at hi g;subst hi;simp only[dj] at j ⊢;rcases dl i l.length with b|m
  ·have hd:l.drop i=l[i]::l.drop (i+1):=dT b;rw[hd];refine o i _ _ h hd b (cV b) g c fun d e=>?_;have:=j ((i:Int)+1,d) ⟨i+1,by simp,b,e⟩ (by simp; omega);rw[this];congr 1
  ·have:i=l.length:=by omega
   subst this;rw[ip]
   exact k h g c) (x:=(0,s)) ⟨0,rfl,dU _,h0⟩
 simpa using this
@[simp] theorem kQ (x y:BY ρ):ifb true x y=x:=by simp only[ifb]
@[simp] theorem æ (x y:BY ρ):ifb false x y=y:=by simp only[ifb]
def é (b:Bool) (x y:BY ρ):ifb b x y=if b then x else y:=by cases b<;>rfl
@[simp] theorem iff_true (x:BY ρ):à true x=x:=by simp only[à]
def å {b:Bool} (h:b=true) (x:BY ρ):à b x=x:=by rw[h]; rfl
def alq {α:Type} (f:(α->BY ρ)->BY ρ) (k:α->BY ρ):aiM f k=f k:=rfl
@[simp] theorem À {α:Type} (y:α) (f:α->BY ρ):Å (some y) f=f y:=by simp only[Å]
def Ï {n:Int} (a : -9223372036854775808<=n) (h2:n<=9223372036854775807) (f:Int->BY ρ):ck n f=f n:=by
 have e:IntKind.i64.wrap n=n:=by
  have e:IntKind.i64.wrap n=if n % 18446744073709551616>=9223372036854775808 then n % 18446744073709551616-18446744073709551616 else n % 18446744073709551616:=by
   simp[IntKind.wrap,IntKind.bits,IntKind.signed]
  rw[e]
  split<;>omega
 unfold ck wr64; rw[e]
def Ã {α:Type} {l:CK α} {i:Nat} {a:α} (h:l[i]?=some a) (f:α->BY ρ):â l (i:Int) f=f a:=by
 unfold â; simp[h]
def ž {α:Type} {l:CK α} {i:Nat} {a:α} (h:l[i]?=some a) (f:α->BY ρ):Į l i f=f a:=by
 unfold Į; simp[h]
def Î {α:Type} (l:CK α):Õ l=(l.length:Int):=NX _
def Ñ {n:Nat} (h:n<=4294967296):ä n=true:=by simp[ä,h]
def Gw {α β:Type} {f:α->BY β} {g:α->β}:∀{l:CK α},(∀a∈l,f a=some (g a))->N3 f l=some (l.map g)
 |[],_=>rfl
 |a::l,h=>by
  simp only[N3,h a (by simp),Gw (l:=l) fun x b=>h x (by simp[b]),eV]
end
end Go.Am
end
