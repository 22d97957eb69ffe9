/- lemmas -/
import Derived.Test.YtjlkjopcjcbooaaGreatDoorAmC
set_option linter.all false
noncomputable section
namespace Go.Am
section
variable {ρ:Type}
def BT {τ:Type} {f:τ->(τ->so ρ)->so ρ} {F:τ->so ρ} (I:τ->Prop) (μ:τ->Nat)
 (h:∀x,I x->∀kn,(∀y,I y->μ y<μ x->kn y=F y)->f x kn=F x) {x:τ} (b:I x):Ü f x=F x:=by
 refine Gn (μ x+1) ?_
 have a:∀n x,I x->μ x<n->iter f n x=F x:=by
  intro n
  induction n with
  |zero=>intro x _ c; omega
  |succ n d =>
   intro x b c;exact h x b _ fun y e g=>d y e (by omega)
 exact fun n c=>a n x b (by omega)
def Q4 {α:Type} (l:th α) {f:Int->(Int->so ρ)->so ρ} (G:Nat->th α->so ρ)
 (d:∀kn,f l.length kn=G l.length [])
 (g:∀(i:Nat) (a:α) (t:th α),l.drop i=a::t->i<l.length->l[i]?=some a->∀kn,kn ((i:Int)+1)=G (i+1) t->f i kn=G i (a::t)):Ü f 0=G 0 l:=by
 have:=BT (f:=f) (F:=fun n=>G n.toNat (l.drop n.toNat)) (fun n=>∃i:Nat,n=i/\i<=l.length) (fun n=>l.length-n.toNat) (fun x ⟨i,hi,h⟩ kn c=>by
  subst hi;simp only[bU] at c ⊢;rcases bZ i l.length with b|e
  ·have hd:l.drop i=l[i]::l.drop (i+1):=dg b;rw[hd];refine g i _ _ hd b (bo b) kn ?_;have:=c ((i:Int)+1) ⟨i+1,by simp,b⟩ (by simp; omega);rw[this];congr 1
  ·have:i=l.length:=by omega
   subst this;rw[fc]
   exact d kn) (x:=0) ⟨0,rfl,bO _⟩
 simpa using this
def M6 {α σ:Type} (l:th α) {f:Int×σ->(Int×σ->so ρ)->so ρ} (G:Nat->σ->th α->so ρ) (I:Nat->σ->Prop)
 (g:∀s,I l.length s->∀kn,f (l.length,s) kn=G l.length s [])
 (j:∀(i:Nat) (a:α) (t:th α) (s:σ),l.drop i=a::t->i<l.length->l[i]?=some a->I i s->∀kn,(∀s',I (i+1) s'->kn ((i:Int)+1,s')=G (i+1) s' t)->f (i,s) kn=G i s (a::t))
 {s:σ} (h0:I 0 s):Ü f (0,s)=G 0 s l:=by
 have:=BT (f:=f) (F:=fun n=>G n.1.toNat n.2 (l.drop n.1.toNat)) (fun n=>∃i:Nat,n.1=i/\i<=l.length/\I i n.2) (fun n=>l.length-n.1.toNat) (fun x ⟨i,hi,m,hI⟩ kn e=>by
  obtain⟨k,d⟩:=x;simp only at hi hI;subst hi;simp only[bU] at e ⊢;rcases bZ i l.length with b|h
  ·have hd:l.drop i=l[i]::l.drop (i+1):=dg b;rw[hd];refine j i _ _ d hd b (bo b) hI kn fun s' c=>?_;have:=e ((i:Int)+1,s') ⟨i+1,by simp,b,c⟩ (by simp; omega);rw[this];congr 1
  ·have:i=l.length:=by omega
   subst this;rw[fc]
   exact g d hI kn) (x:=(0,s)) ⟨0,rfl,bO _,h0⟩
 simpa using this
@[simp] theorem fE (x y:so ρ):ifb true x y=x:=by simp only[ifb]
@[simp] theorem Ľ (x y:so ρ):ifb false x y=y:=by simp only[ifb]
def œ (b:Bool) (x y:so ρ):ifb b x y=if b then x else y:=by cases b<;>rfl
@[simp] theorem iff_true (x:so ρ):ð true x=x:=by simp only[ð]
def ŋ {b:Bool} (h:b=true) (x:so ρ):ð b x=x:=by rw[h]; rfl
@[simp] theorem À {α:Type} (y:α) (f:α->so ρ):Â (some y) f=f y:=by simp only[Â]
def ö {n:Int} (a : -9223372036854775808<=n) (h2:n<=9223372036854775807) (f:Int->so ρ):ck n f=f n:=by
 have e:IntKind.i64.wrap n=n:=by
  have e:IntKind.i64.wrap n=if n % 18446744073709551616>=9223372036854775808 then n % 18446744073709551616-18446744073709551616 else n % 18446744073709551616:=by
   simp[IntKind.wrap,IntKind.bits,IntKind.signed]
  rw[e]
  split<;>omega
 unfold ck PO; rw[e]
def Å {α:Type} {l:th α} {i:Nat} {a:α} (h:l[i]?=some a) (f:α->so ρ):ø l (i:Int) f=f a:=by
 unfold ø; simp[h]
def MI {α:Type} {l:th α} {i:Nat} {a:α} (h:l[i]?=some a) (f:α->so ρ):Kd l i f=f a:=by
 unfold Kd; simp[h]
def ó {α:Type} (l:th α):â l=(l.length:Int):=ź _
def Ð {n:Nat} (h:n<=4294967296):Ñ n=true:=by simp[Ñ,h]
def uP {α β:Type} {f:α->so β} {g:α->β}:∀{l:th α},(∀a∈l,f a=some (g a))->Ax f l=some (l.map g)
 |[],_=>rfl
 |a::l,h=>by
  simp only[Ax,h a (by simp),uP (l:=l) fun x b=>h x (by simp[b]),cH]
end
end Go.Am
end
