/- lemmas -/
import Derived.Test.YtenljaeklhlanaaGreatAmE
set_option linter.all false
noncomputable section
namespace Go.Am
section
variable {ρ:Type}
def vR {τ:Type} {f:τ->(τ->BY ρ)->BY ρ} {F:τ->BY ρ} (I:τ->Prop) (μ:τ->Nat)
 (h:∀x,I x->∀b,(∀y,I y->μ y<μ x->b y=F y)->f x b=F x) {x:τ} (a:I x):Ê f x=F x:=by
 refine akf (μ x+1) ?_
 have key:∀n x,I x->μ x<n->ajF f n x=F x:=by
  intro n
  induction n with
  |zero=>intro x _ c; omega
  |succ n d =>
   intro x a c;exact h x a _ fun y e g=>d y e (by omega)
 exact fun n c=>key n x a (by omega)
def ahn {α:Type} (l:CK α) {f:Int->(Int->BY ρ)->BY ρ} (G:Nat->CK α->BY ρ)
 (e:∀c,f l.length c=G l.length [])
 (h:∀(i:Nat) (a:α) (t:CK α),l.drop i=a::t->i<l.length->l[i]?=some a->∀c,c ((i:Int)+1)=G (i+1) t->f i c=G i (a::t)):Ê f 0=G 0 l:=by
 have:=vR (f:=f) (F:=fun n=>G n.toNat (l.drop n.toNat)) (fun n=>∃i:Nat,n=i/\i<=l.length) (fun n=>l.length-n.toNat) (fun x ⟨i,hi,j⟩ c d=>by
  subst hi;simp only[dl] at d ⊢;rcases dq i l.length with b|g
  ·have hd:l.drop i=l[i]::l.drop (i+1):=dV b;rw[hd];refine h i _ _ hd b (cX b) c ?_;have:=d ((i:Int)+1) ⟨i+1,by simp,b⟩ (by simp; omega);rw[this];congr 1
  ·have:i=l.length:=by omega
   subst this;rw[List.drop_length]
   exact e c) (x:=0) ⟨0,rfl,ee _⟩
 simpa using this
def Vv {α σ:Type} (l:CK α) {f:Int×σ->(Int×σ->BY ρ)->BY ρ} (G:Nat->σ->CK α->BY ρ) (I:Nat->σ->Prop)
 (k:∀s,I l.length s->∀c,f (l.length,s) c=G l.length s [])
 (o:∀(i:Nat) (a:α) (t:CK α) (s:σ),l.drop i=a::t->i<l.length->l[i]?=some a->I i s->∀c,(∀d,I (i+1) d->c ((i:Int)+1,d)=G (i+1) d t)->f (i,s) c=G i s (a::t))
 {s:σ} (h0:I 0 s):Ê f (0,s)=G 0 s l:=by
 have:=vR (f:=f) (F:=fun n=>G n.1.toNat n.2 (l.drop n.1.toNat)) (fun n=>∃i:Nat,n.1=i/\i<=l.length/\I i n.2) (fun n=>l.length-n.1.toNat) (fun x ⟨i,hi,q,g⟩ c j=>by
  obtain⟨p,h⟩:=x;simp only at hi g;subst hi;simp only[dl] at j ⊢;rcases dq i l.length with b|m
  ·have hd:l.drop i=l[i]::l.drop (i+1):=dV b;rw[hd];refine o i _ _ h hd b (cX b) g c fun d e=>?_;have:=j ((i:Int)+1,d) ⟨i+1,by simp,b,e⟩ (by simp; omega);rw[this];congr 1
  ·have:i=l.length:=by omega
   subst this;rw[List.drop_length]
   exact k h g c) (x:=(0,s)) ⟨0,rfl,ee _,h0⟩
 simpa using this
@[simp] theorem jd (x y:BY ρ):ifb true x y=x:=by simp only[ifb]
@[simp] theorem ä (x y:BY ρ):ifb false x y=y:=by simp only[ifb]
def õ (b:Bool) (x y:BY ρ):ifb b x y=if b then x else y:=by cases b<;>rfl
@[simp] theorem iff_true (x:BY ρ):Û true x=x:=by simp only[Û]
def à {b:Bool} (h:b=true) (x:BY ρ):Û b x=x:=by rw[h]; rfl
def akm {α:Type} (f:(α->BY ρ)->BY ρ) (k:α->BY ρ):akn f k=f k:=rfl
@[simp] theorem À {α:Type} (y:α) (f:α->BY ρ):Ä (some y) f=f y:=by simp only[Ä]
def Ï {n:Int} (a : -9223372036854775808<=n) (h2:n<=9223372036854775807) (f:Int->BY ρ):ck n f=f n:=by
 have e:IntKind.i64.wrap n=n:=by
  have e:IntKind.i64.wrap n=if n % 18446744073709551616>=9223372036854775808 then n % 18446744073709551616-18446744073709551616 else n % 18446744073709551616:=by
   simp[IntKind.wrap,IntKind.bits,IntKind.signed]
  rw[e]
  split<;>omega
 unfold ck wr64; rw[e]
def Æ {α:Type} {l:CK α} {i:Nat} {a:α} (h:l[i]?=some a) (f:α->BY ρ):ï l (i:Int) f=f a:=by
 unfold ï; simp[h]
def Δ {α:Type} {l:CK α} {i:Nat} {a:α} (h:l[i]?=some a) (f:α->BY ρ):Ħ l i f=f a:=by
 unfold Ħ; simp[h]
def Î {α:Type} (l:CK α):Õ l=(l.length:Int):=Ng _
def Ð {n:Nat} (h:n<=4294967296):ß n=true:=by simp[ß,h]
def FO {α β:Type} {f:α->BY β} {g:α->β}:∀{l:CK α},(∀a∈l,f a=some (g a))->No f l=some (l.map g)
 |[],_=>rfl
 |a::l,h=>by
  simp only[No,h a (by simp),FO (l:=l) fun x b=>h x (by simp[b]),eX]
end
end Go.Am
end
