/- lemmas -/
import Derived.Test.YtbiecdpaididoaaGreatDoorAmC
set_option linter.all false
noncomputable section
namespace Go.Am
section
variable {ρ:Type}
def yZ {τ:Type} {f:τ->(τ->AN ρ)->AN ρ} {F:τ->AN ρ} (I:τ->Prop) (μ:τ->Nat)
 (h:∀x,I x->∀c,(∀y,I y->μ y<μ x->c y=F y)->f x c=F x) {x:τ} (b:I x):Ù f x=F x:=by
 refine Pu (μ x+1) ?_
 have a:∀n x,I x->μ x<n->OE f n x=F x:=by
  intro n
  induction n with
  |zero=>intro x _ d; omega
  |succ n e =>
   intro x b d;exact h x b _ fun y g i=>e y g (by omega)
 exact fun n d=>a n x b (by omega)
def MG {α:Type} (l:AS α) {f:Int->(Int->AN ρ)->AN ρ} (G:Nat->AS α->AN ρ)
 (e:∀c,f l.length c=G l.length [])
 (h:∀(i:Nat) (a:α) (t:AS α),l.drop i=a::t->i<l.length->l[i]?=some a->∀c,c ((i:Int)+1)=G (i+1) t->f i c=G i (a::t)):Ù f 0=G 0 l:=by
 have:=yZ (f:=f) (F:=fun n=>G n.toNat (l.drop n.toNat)) (fun n=>∃i:Nat,n=i/\i<=l.length) (fun n=>l.length-n.toNat) (fun x ⟨i,hi,j⟩ c d=>by
  subst hi;simp only[bN] at d ⊢;rcases cd i l.length with b|g
  ·have hd:l.drop i=l[i]::l.drop (i+1):=cI b;rw[hd];refine h i _ _ hd b (br b) c ?_;have:=d ((i:Int)+1) ⟨i+1,by simp,b⟩ (by simp; omega);rw[this];congr 1
  ·have:i=l.length:=by omega
   subst this;rw[eT]
   exact e c) (x:=0) ⟨0,rfl,b6 _⟩
 simpa using this
def I3 {α σ:Type} (l:AS α) {f:Int×σ->(Int×σ->AN ρ)->AN ρ} (G:Nat->σ->AS α->AN ρ) (I:Nat->σ->Prop)
 (g:∀s,I l.length s->∀c,f (l.length,s) c=G l.length s [])
 (j:∀(i:Nat) (a:α) (t:AS α) (s:σ),l.drop i=a::t->i<l.length->l[i]?=some a->I i s->∀c,(∀s',I (i+1) s'->c ((i:Int)+1,s')=G (i+1) s' t)->f (i,s) c=G i s (a::t))
 {s:σ} (h0:I 0 s):Ù f (0,s)=G 0 s l:=by
 have:=yZ (f:=f) (F:=fun n=>G n.1.toNat n.2 (l.drop n.1.toNat)) (fun n=>∃i:Nat,n.1=i/\i<=l.length/\I i n.2) (fun n=>l.length-n.1.toNat) (fun x ⟨i,hi,k,hI⟩ c e=>by
  obtain⟨x1,x2⟩:=x;simp only at hi hI;subst hi;simp only[bN] at e ⊢;rcases cd i l.length with b|h
  ·have hd:l.drop i=l[i]::l.drop (i+1):=cI b;rw[hd];refine j i _ _ x2 hd b (br b) hI c fun s' d=>?_;have:=e ((i:Int)+1,s') ⟨i+1,by simp,b,d⟩ (by simp; omega);rw[this];congr 1
  ·have:i=l.length:=by omega
   subst this;rw[eT]
   exact g x2 hI c) (x:=(0,s)) ⟨0,rfl,b6 _,h0⟩
 simpa using this
@[simp] theorem mS (x y:AN ρ):ifb true x y=x:=by simp only[ifb]
@[simp] theorem õ (x y:AN ρ):ifb false x y=y:=by simp only[ifb]
def Ė (b:Bool) (x y:AN ρ):ifb b x y=if b then x else y:=by cases b<;>rfl
@[simp] theorem iff_true (x:AN ρ):ì true x=x:=by simp only[ì]
def lV {b:Bool} (h:b=true) (x:AN ρ):ì b x=x:=by rw[h]; rfl
def PD {α:Type} (f:(α->AN ρ)->AN ρ) (k:α->AN ρ):Ht f k=f k:=rfl
@[simp] theorem À {α:Type} (y:α) (f:α->AN ρ):Â (some y) f=f y:=by simp only[Â]
def ë {n:Int} (a : -9223372036854775808<=n) (h2:n<=9223372036854775807) (f:Int->AN ρ):ck n f=f n:=by
 have e:IntKind.i64.wrap n=n:=by
  have e:IntKind.i64.wrap n=if n % 18446744073709551616>=9223372036854775808 then n % 18446744073709551616-18446744073709551616 else n % 18446744073709551616:=by
   simp[IntKind.wrap,IntKind.bits,IntKind.signed]
  rw[e]
  split<;>omega
 unfold ck Li; rw[e]
def Í {α:Type} {l:AS α} {i:Nat} {a:α} (h:l[i]?=some a) (f:α->AN ρ):Ę l (i:Int) f=f a:=by
 unfold Ę; simp[h]
def pk {α:Type} {l:AS α} {i:Nat} {a:α} (h:l[i]?=some a) (f:α->AN ρ):Ω l i f=f a:=by
 unfold Ω; simp[h]
def Þ {α:Type} (l:AS α):Û l=(l.length:Int):=kH _
def Ó {n:Nat} (h:n<=4294967296):ã n=true:=by simp[ã,h]
def sG {α β:Type} {f:α->AN β} {g:α->β}:∀{l:AS α},(∀a∈l,f a=some (g a))->yj f l=some (l.map g)
 |[],_=>rfl
 |a::l,h=>by
  simp only[yj,h a (by simp),sG (l:=l) fun x b=>h x (by simp[b]),cm]
end
end Go.Am
end
