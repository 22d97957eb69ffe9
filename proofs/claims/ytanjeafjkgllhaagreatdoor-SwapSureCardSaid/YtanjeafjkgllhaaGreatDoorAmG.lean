/- lemmas -/
import Derived.Test.YtanjeafjkgllhaaGreatDoorAmC
set_option linter.all false
noncomputable section
namespace Go.Am
section
variable {ρ:Type}
def DM {τ:Type} {f:τ->(τ->w8 ρ)->w8 ρ} {F:τ->w8 ρ} (I:τ->Prop) (μ:τ->Nat)
 (h:∀x,I x->∀b,(∀y,I y->μ y<μ x->b y=F y)->f x b=F x) {x:τ} (a:I x):É f x=F x:=by
 refine ad3 (μ x+1) ?_
 have key:∀n x,I x->μ x<n->iter f n x=F x:=by
  intro n
  induction n with
  |zero=>intro x _ c; omega
  |succ n d =>
   intro x a c;exact h x a _ fun y e g=>d y e (by omega)
 exact fun n c=>key n x a (by omega)
def aa8 {α:Type} (l:w9 α) {f:Int->(Int->w8 ρ)->w8 ρ} (G:Nat->w9 α->w8 ρ)
 (e:∀c,f l.length c=G l.length [])
 (h:∀(i:Nat) (a:α) (t:w9 α),l.drop i=a::t->i<l.length->l[i]?=some a->∀c,c ((i:Int)+1)=G (i+1) t->f i c=G i (a::t)):É f 0=G 0 l:=by
 have:=DM (f:=f) (F:=fun n=>G n.toNat (l.drop n.toNat)) (fun n=>∃i:Nat,n=i/\i<=l.length) (fun n=>l.length-n.toNat) (fun x ⟨i,hi,j⟩ c d=>by
  subst hi;simp only[dc] at d ⊢;rcases dA i l.length with b|g
  ·have hd:l.drop i=l[i]::l.drop (i+1):=du b;rw[hd];refine h i _ _ hd b (cI b) c ?_;have:=d ((i:Int)+1) ⟨i+1,by simp,b⟩ (by simp; omega);rw[this];congr 1
  ·have:i=l.length:=by omega
   subst this;rw[gF]
   exact e c) (x:=0) ⟨0,rfl,dI _⟩
 simpa using this
def PB {α σ:Type} (l:w9 α) {f:Int×σ->(Int×σ->w8 ρ)->w8 ρ} (G:Nat->σ->w9 α->w8 ρ) (I:Nat->σ->Prop)
 (h:∀s,I l.length s->∀c,f (l.length,s) c=G l.length s [])
 (k:∀(i:Nat) (a:α) (t:w9 α) (s:σ),l.drop i=a::t->i<l.length->l[i]?=some a->I i s->∀c,(∀s',I (i+1) s'->c ((i:Int)+1,s')=G (i+1) s' t)->f (i,s) c=G i s (a::t))
 {s:σ} (h0:I 0 s):É f (0,s)=G 0 s l:=by
 have:=DM (f:=f) (F:=fun n=>G n.1.toNat n.2 (l.drop n.1.toNat)) (fun n=>∃i:Nat,n.1=i/\i<=l.length/\I i n.2) (fun n=>l.length-n.1.toNat) (fun x ⟨i,hi,o,hI⟩ c g=>by
  obtain⟨m,e⟩:=x;simp only at hi hI;subst hi;simp only[dc] at g ⊢;rcases dA i l.length with b|j
  ·have hd:l.drop i=l[i]::l.drop (i+1):=du b;rw[hd];refine k i _ _ e hd b (cI b) hI c fun s' d=>?_;have:=g ((i:Int)+1,s') ⟨i+1,by simp,b,d⟩ (by simp; omega);rw[this];congr 1
  ·have:i=l.length:=by omega
   subst this;rw[gF]
   exact h e hI c) (x:=(0,s)) ⟨0,rfl,dI _,h0⟩
 simpa using this
@[simp] theorem mq (x y:w8 ρ):ifb true x y=x:=by simp only[ifb]
@[simp] theorem ê (x y:w8 ρ):ifb false x y=y:=by simp only[ifb]
def Ġ (b:Bool) (x y:w8 ρ):ifb b x y=if b then x else y:=by cases b<;>rfl
@[simp] theorem iff_true (x:w8 ρ):Ú true x=x:=by simp only[Ú]
def Į {b:Bool} (h:b=true) (x:w8 ρ):Ú b x=x:=by rw[h]; rfl
@[simp] theorem Á {α:Type} (y:α) (f:α->w8 ρ):Ã (some y) f=f y:=by simp only[Ã]
def Ù {n:Int} (a : -9223372036854775808<=n) (h2:n<=9223372036854775807) (f:Int->w8 ρ):ck n f=f n:=by
 have e:IntKind.i64.wrap n=n:=by
  have e:IntKind.i64.wrap n=if n % 18446744073709551616>=9223372036854775808 then n % 18446744073709551616-18446744073709551616 else n % 18446744073709551616:=by
   simp[IntKind.wrap,IntKind.bits,IntKind.signed]
  rw[e]
  split<;>omega
 unfold ck Zn; rw[e]
def È {α:Type} {l:w9 α} {i:Nat} {a:α} (h:l[i]?=some a) (f:α->w8 ρ):ø l (i:Int) f=f a:=by
 unfold ø; simp[h]
def xW {α:Type} {l:w9 α} {i:Nat} {a:α} (h:l[i]?=some a) (f:α->w8 ρ):ĵ l i f=f a:=by
 unfold ĵ; simp[h]
def â {α:Type} (l:w9 α):Ô l=(l.length:Int):=lT _
def Ð {n:Nat} (h:n<=4294967296):Ý n=true:=by simp[Ý,h]
def Cp {α β:Type} {f:α->w8 β} {g:α->β}:∀{l:w9 α},(∀a∈l,f a=some (g a))->IP f l=some (l.map g)
 |[],_=>rfl
 |a::l,h=>by
  simp only[IP,h a (by simp),Cp (l:=l) fun x b=>h x (by simp[b]),dY]
end
end Go.Am
end
