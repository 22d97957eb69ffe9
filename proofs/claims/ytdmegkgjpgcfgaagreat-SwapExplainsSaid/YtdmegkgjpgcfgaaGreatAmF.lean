/- lemmas -/
import Derived.Test.YtdmegkgjpgcfgaaGreatAmE
set_option linter.all false
noncomputable section
namespace Go.Am
section
variable {ρ:Type}
def wo {τ:Type} {f:τ->(τ->BE ρ)->BE ρ} {F:τ->BE ρ} (I:τ->Prop) (μ:τ->Nat)
 (h:∀x,I x->∀b,(∀y,I y->μ y<μ x->b y=F y)->f x b=F x) {x:τ} (a:I x):Ë f x=F x:=by
 refine alB (μ x+1) ?_
 have key:∀n x,I x->μ x<n->akV f n x=F x:=by
  intro n
  induction n with
  |zero=>intro x _ c; omega
  |succ n d =>
   intro x a c;exact h x a _ fun y e g=>d y e (by omega)
 exact fun n c=>key n x a (by omega)
def aiF {α:Type} (l:BY α) {f:Int->(Int->BE ρ)->BE ρ} (G:Nat->BY α->BE ρ)
 (e:∀c,f l.length c=G l.length [])
 (h:∀(i:Nat) (a:α) (t:BY α),l.drop i=a::t->i<l.length->l[i]?=some a->∀c,c ((i:Int)+1)=G (i+1) t->f i c=G i (a::t)):Ë f 0=G 0 l:=by
 have:=wo (f:=f) (F:=fun n=>G n.toNat (l.drop n.toNat)) (fun n=>∃i:Nat,n=i/\i<=l.length) (fun n=>l.length-n.toNat) (fun x ⟨i,hi,j⟩ c d=>by
  subst hi;simp only[dt] at d ⊢;rcases dv i l.length with b|g
  ·have hd:l.drop i=l[i]::l.drop (i+1):=dY b;rw[hd];refine h i _ _ hd b (df b) c ?_;have:=d ((i:Int)+1) ⟨i+1,by simp,b⟩ (by simp; omega);rw[this];congr 1
  ·have:i=l.length:=by omega
   subst this;rw[List.drop_length]
   exact e c) (x:=0) ⟨0,rfl,d9 _⟩
 simpa using this
def Yh {α σ:Type} (l:BY α) {f:Int×σ->(Int×σ->BE ρ)->BE ρ} (G:Nat->σ->BY α->BE ρ) (I:Nat->σ->Prop)
 (k:∀s,I l.length s->∀c,f (l.length,s) c=G l.length s [])
 (o:∀(i:Nat) (a:α) (t:BY α) (s:σ),l.drop i=a::t->i<l.length->l[i]?=some a->I i s->∀c,(∀d,I (i+1) d->c ((i:Int)+1,d)=G (i+1) d t)->f (i,s) c=G i s (a::t))
 {s:σ} (h0:I 0 s):Ë f (0,s)=G 0 s l:=by
 have:=wo (f:=f) (F:=fun n=>G n.1.toNat n.2 (l.drop n.1.toNat)) (fun n=>∃i:Nat,n.1=i/\i<=l.length/\I i n.2) (fun n=>l.length-n.1.toNat) (fun x ⟨i,hi,q,g⟩ c j=>by
  obtain⟨p,h⟩:=x;simp only at hi g;subst hi;simp only[dt] at j ⊢;rcases dv i l.length with b|m
  ·have hd:l.drop i=l[i]::l.drop (i+1):=dY b;rw[hd];refine o i _ _ h hd b (df b) g c fun d e=>?_;have:=j ((i:Int)+1,d) ⟨i+1,by simp,b,e⟩ (by simp; omega);rw[this];congr 1
  ·have:i=l.length:=by omega
   subst this;rw[List.drop_length]
   exact k h g c) (x:=(0,s)) ⟨0,rfl,d9 _,h0⟩
 simpa using this
@[simp] theorem ku (x y:BE ρ):ifb true x y=x:=by simp only[ifb]
@[simp] theorem æ (x y:BE ρ):ifb false x y=y:=by simp only[ifb]
def ô (b:Bool) (x y:BE ρ):ifb b x y=if b then x else y:=by cases b<;>rfl
@[simp] theorem iff_true (x:BE ρ):à true x=x:=by simp only[à]
def ä {b:Bool} (h:b=true) (x:BE ρ):à b x=x:=by rw[h]; rfl
@[simp] theorem À {α:Type} (y:α) (f:α->BE ρ):Æ (some y) f=f y:=by simp only[Æ]
def Ï {n:Int} (a : -9223372036854775808<=n) (h2:n<=9223372036854775807) (f:Int->BE ρ):ck n f=f n:=by
 have e:IntKind.i64.wrap n=n:=by
  have e:IntKind.i64.wrap n=if n % 18446744073709551616>=9223372036854775808 then n % 18446744073709551616-18446744073709551616 else n % 18446744073709551616:=by
   simp[IntKind.wrap,IntKind.bits,IntKind.signed]
  rw[e]
  split<;>omega
 unfold ck wr64; rw[e]
def Ä {α:Type} {l:BY α} {i:Nat} {a:α} (h:l[i]?=some a) (f:α->BE ρ):é l (i:Int) f=f a:=by
 unfold é; simp[h]
def Ž {α:Type} {l:BY α} {i:Nat} {a:α} (h:l[i]?=some a) (f:α->BE ρ):ī l i f=f a:=by
 unfold ī; simp[h]
def Î {α:Type} (l:BY α):Õ l=(l.length:Int):=OA _
def Ò {n:Nat} (h:n<=4294967296):ã n=true:=by simp[ã,h]
def GA {α β:Type} {f:α->BE β} {g:α->β}:∀{l:BY α},(∀a∈l,f a=some (g a))->OH f l=some (l.map g)
 |[],_=>rfl
 |a::l,h=>by
  simp only[OH,h a (by simp),GA (l:=l) fun x b=>h x (by simp[b]),fe]
end
end Go.Am
end
