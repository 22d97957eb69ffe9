/- lemmas -/
import Derived.Test.YtjlkjopcjcbooaaGreatDoorAmC
set_option linter.all false
noncomputable section
namespace Go.Am
section
variable {ρ:Type}
def qv {τ:Type} {f:τ->(τ->x9 ρ)->x9 ρ} {F:τ->x9 ρ} (I:τ->Prop) (μ:τ->Nat)
 (h:∀x,I x->∀kn,(∀y,I y->μ y<μ x->kn y=F y)->f x kn=F x) {x:τ} (b:I x):Î f x=F x:=by
 refine D6 (μ x+1) ?_
 have a:∀n x,I x->μ x<n->iter f n x=F x:=by
  intro n
  induction n with
  |zero=>intro x _ c; omega
  |succ n d =>
   intro x b c;exact h x b _ fun y e g=>d y e (by omega)
 exact fun n c=>a n x b (by omega)
def Xk {α:Type} (l:y5 α) {f:Int->(Int->x9 ρ)->x9 ρ} (G:Nat->y5 α->x9 ρ)
 (d:∀kn,f l.length kn=G l.length [])
 (g:∀(i:Nat) (a:α) (t:y5 α),l.drop i=a::t->i<l.length->l[i]?=some a->∀kn,kn ((i:Int)+1)=G (i+1) t->f i kn=G i (a::t)):Î f 0=G 0 l:=by
 have:=qv (f:=f) (F:=fun n=>G n.toNat (l.drop n.toNat)) (fun n=>∃i:Nat,n=i/\i<=l.length) (fun n=>l.length-n.toNat) (fun x ⟨i,hi,h⟩ kn c=>by
  subst hi;simp only[cp] at c ⊢;rcases cW i l.length with b|e
  ·have hd:l.drop i=l[i]::l.drop (i+1):=dN b;rw[hd];refine g i _ _ hd b (bY b) kn ?_;have:=c ((i:Int)+1) ⟨i+1,by simp,b⟩ (by simp; omega);rw[this];congr 1
  ·have:i=l.length:=by omega
   subst this;rw[fI]
   exact d kn) (x:=0) ⟨0,rfl,cG _⟩
 simpa using this
def Lh {α σ:Type} (l:y5 α) {f:Int×σ->(Int×σ->x9 ρ)->x9 ρ} (G:Nat->σ->y5 α->x9 ρ) (I:Nat->σ->Prop)
 (g:∀s,I l.length s->∀kn,f (l.length,s) kn=G l.length s [])
 (j:∀(i:Nat) (a:α) (t:y5 α) (s:σ),l.drop i=a::t->i<l.length->l[i]?=some a->I i s->∀kn,(∀s',I (i+1) s'->kn ((i:Int)+1,s')=G (i+1) s' t)->f (i,s) kn=G i s (a::t))
 {s:σ} (h0:I 0 s):Î f (0,s)=G 0 s l:=by
 have:=qv (f:=f) (F:=fun n=>G n.1.toNat n.2 (l.drop n.1.toNat)) (fun n=>∃i:Nat,n.1=i/\i<=l.length/\I i n.2) (fun n=>l.length-n.1.toNat) (fun x ⟨i,hi,m,hI⟩ kn e=>by
  obtain⟨k,d⟩:=x;simp only at hi hI;subst hi;simp only[cp] at e ⊢;rcases cW i l.length with b|h
  ·have hd:l.drop i=l[i]::l.drop (i+1):=dN b;rw[hd];refine j i _ _ d hd b (bY b) hI kn fun s' c=>?_;have:=e ((i:Int)+1,s') ⟨i+1,by simp,b,c⟩ (by simp; omega);rw[this];congr 1
  ·have:i=l.length:=by omega
   subst this;rw[fI]
   exact g d hI kn) (x:=(0,s)) ⟨0,rfl,cG _,h0⟩
 simpa using this
@[simp] theorem Ĭ (x y:x9 ρ):ifb true x y=x:=by simp only[ifb]
@[simp] theorem ë (x y:x9 ρ):ifb false x y=y:=by simp only[ifb]
def ģ (b:Bool) (x y:x9 ρ):ifb b x y=if b then x else y:=by cases b<;>rfl
@[simp] theorem iff_true (x:x9 ρ):ä true x=x:=by simp only[ä]
def Į {b:Bool} (h:b=true) (x:x9 ρ):ä b x=x:=by rw[h]; rfl
@[simp] theorem À {α:Type} (y:α) (f:α->x9 ρ):Ã (some y) f=f y:=by simp only[Ã]
def ð {n:Int} (a : -9223372036854775808<=n) (h2:n<=9223372036854775807) (f:Int->x9 ρ):ck n f=f n:=by
 have e:IntKind.i64.wrap n=n:=by
  have e:IntKind.i64.wrap n=if n % 18446744073709551616>=9223372036854775808 then n % 18446744073709551616-18446744073709551616 else n % 18446744073709551616:=by
   simp[IntKind.wrap,IntKind.bits,IntKind.signed]
  rw[e]
  split<;>omega
 unfold ck PC; rw[e]
def Ç {α:Type} {l:y5 α} {i:Nat} {a:α} (h:l[i]?=some a) (f:α->x9 ρ):ă l (i:Int) f=f a:=by
 unfold ă; simp[h]
def qU {α:Type} {l:y5 α} {i:Nat} {a:α} (h:l[i]?=some a) (f:α->x9 ρ):gO l i f=f a:=by
 unfold gO; simp[h]
def è {α:Type} (l:y5 α):Û l=(l.length:Int):=jb _
def Ò {n:Nat} (h:n<=4294967296):Ú n=true:=by simp[Ú,h]
def yS {α β:Type} {f:α->x9 β} {g:α->β}:∀{l:y5 α},(∀a∈l,f a=some (g a))->E7 f l=some (l.map g)
 |[],_=>rfl
 |a::l,h=>by
  simp only[E7,h a (by simp),yS (l:=l) fun x b=>h x (by simp[b]),dC]
end
end Go.Am
end
