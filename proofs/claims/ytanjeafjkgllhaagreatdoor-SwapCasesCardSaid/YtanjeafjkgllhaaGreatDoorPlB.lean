/- lemmas -/
import Derived.Test.YtanjeafjkgllhaaGreatDoorPlA
import Derived.Test.YtanjeafjkgllhaaGreatDoorMdTA
import Derived.Test.YtanjeafjkgllhaaGreatDoorMdPA
set_option linter.all false
noncomputable section
namespace Go.Proofs.ZzM
open Go Go.Am
section
variable {ρ:Type}
def Ap {α σ:Type} (l:rT α) (g:Nat->σ) (r:rF ρ) {f:σ×Int->(σ×Int->rF ρ)->rF ρ} {s0:σ} (P:Nat->Prop) (h0:g 0=s0) (q:P 0)
 (h:∀(i:Nat) (a:α),i<l.length->l[i]?=some a->P i->∀c,f (g i,i) c=r\/(P (i+1)/\f (g i,i) c=c (g (i+1),(i:Int)+1)))
 (n:P l.length->∀c,f (g l.length,l.length) c=r):Ê f (s0,0)=r:=by
 subst h0;refine GF (F:=fun _=>r) (fun x=>∃i:Nat,i<=l.length/\x=(g i,(i:Int))/\P i) (fun x=>l.length-x.2.toNat) (fun x k c o=>?_) ⟨0,dX _,rfl,q⟩;obtain⟨i,hi,rfl,j⟩:=k;rcases dV i l.length with d|p
 ·rcases h i _ d (dv d) j c with e|⟨e,h2⟩
  ·exact e
  ·rw[h2,o _ ⟨i+1,d,by simp,e⟩ (by simp; omega)]
 ·have:i=l.length:=by omega
  subst this;exact n j c
def adw {l:rT Int} {f:Int->(Int->rF ρ)->rF ρ} {K k1:rF ρ} (h:∀(i:Nat) (a b:Int),l[i]?=some a->l[i+1]?=some b->∀c,f ((i:Int)+1) c=if b<=a then K else c ((i:Int)+1+1))
 (s:∀n:Nat,l.length<=n->∀c,f n c=k1):Ê f 1=if l.Pairwise (·<·) then k1 else K:=by
 have hb:=Ml (fun x:Int=>x) l;refine ķ (fun x=>∃i:Nat,x=(i:Int)+1/\∀j a,j<=i->l[j]?=some a->ku (fun x=>x) l j a=false) (fun x=>l.length-x.toNat) ?_ ⟨0,rfl,fun j a g _=>?_⟩
 ·rintro x ⟨i,rfl,hi⟩;rcases dV (i+1) l.length with o|p
  ·have ha:l[i]?=some l[i]:=dv (by omega);have k:l[i+1]?=some l[i+1]:=dv o
   by_cases d:l[i+1]<=l[i]
   ·refine .inl fun c=>?_;rw[h i _ _ ha k,if_pos d,if_neg];intro r;have:=hb.2 r (i+1) _ k;simp[ku,ha,d] at this
   ·refine .inr ⟨(i:Int)+1+1,⟨i+1,by simp,fun j a g e=>?_⟩,by omega,fun c=>by rw[h i _ _ ha k,if_neg d]⟩;rcases dV i j with q|q
    ·have:j=i+1:=by omega
     subst this;rw[k] at e; cases e;simp[ku,ha]; omega
    ·exact hi j a q e
  ·refine .inl fun c=>?_;have:=s (i+1) p c;simp only[Int.natCast_add,Int.cast_ofNat_Int] at this;rw[this,if_pos];refine hb.1 fun j a g=>hi j a ?_ g;have:=(dC.1 g).1;omega
 ·have:j=0:=by omega
  subst this; simp[ku]
end
def mixE (b:æ) (l:rT Mx) (i:Nat) (x:Mx):Int :=
 if !(inP x.1 0 19999&&inP x.2.length 2 5) then 1 else
 if ¬x.2.Pairwise (·<·) then 1 else
 if x.2.any (fun g=>(ą b g).isNone) then 5 else
 if x.2.any (fun g=>ĭ b g x.1 != 0) then 4 else
 if ku (fun y=>y.1) l i x then 6 else
 if x.2.any (fun g=>(Ń b g x.1).isSome||(Ń b g (x.1+1)).isSome) then 9 else 0
def Uy:Nat->Nat
 |0=>1
 |n+1=>Uy n*(n+1)
def xA:rT Mx->Nat
 |[]=>1
 |x::r=>Uy x.2.length*xA r
def HM:∀{l:rT Mx} {i:Nat} {x:Mx},l[i]?=some x->xA (l.take (i+1))=xA (l.take i)*Uy x.2.length
 |[],_,_,h=>by simp at h
 |y::l,0,x,h=>by simp at h; subst h; simp[xA]
 |y::l,i+1,x,h=>by
  simp only[gR] at h;simp only[List.take_succ_cons,xA,HM h,Nat.mul_assoc]
def abF:∀{n:Nat},n<=5->Uy n<=120
 |0,_|1,_|2,_|3,_|4,_|5,_=>by decide
 |n+6,h=>by omega
def Ve:∀{l:rT Mx} {n:Nat},l.length<=n->(∀x∈l,x.2.length<=5)->xA l<=120 ^ n
 |[],n,_,_=>Nat.one_le_pow _ _ (by decide)
 |x::l,0,h,_=>by simp at h
 |x::l,n+1,h,c=>by
  have e:=Ve (l:=l) (n:=n) (by simpa using h) fun y d=>c y (gw _ d);have h2:=abF (c x (by simp));rw[xA,Nat.pow_succ,Nat.mul_comm];exact fT e h2
def MY (b:æ) (l:rT Mx):rF Int:=Ć (fun i x=>Sz (mixE b l i x)) 0 l
def ę (m:uW):Int :=
 if š m.1≠0 then š m.1 else if 4<m.2.length then 2 else match MY m.1 m.2 with
 |some e=>e
 |none=>if 150<xA m.2 then 2 else 0
def M7 (l:rT ë):rT (Int×Int):=l.foldl (fun m g=>Vx (k:=tI) (v:=tI) g.1 g.2.1 m) []
def TC (x y n:Int):∀m:rT (Int×Int),wZ (k:=tI) (v:=tI) x (Vx (k:=tI) (v:=tI) y n m)=if x=y then some n else wZ (k:=tI) (v:=tI) x m
 |[]=>by
  unfold Vx wZ jl wZ
  by_cases h:x=y<;>simp[h]
 |e::m=>by
  unfold Vx
  by_cases h:y=e.1
  ·have:jl tI y e.1=true:=by simp[jl,h]
   rw[this];simp only;unfold wZ
   by_cases c:x=y
   ·subst c; simp[jl]
   ·have:jl tI x y=false:=by simp[jl,c]
    have h2:jl tI x e.1=false:=by simp[jl,<-h,c]
    rw[this,if_neg c];simp only[h2]
  ·have:jl tI y e.1=false:=by simp[jl,h]
   rw[this];simp only;unfold wZ
   by_cases c:x=e.1
   ·subst c;rw[if_neg (fun e=>h e.symm)];simp[jl]
   ·have h2:jl tI x e.1=false:=by simp[jl,c]
    rw[h2];exact TC x y n m
def aeR (x:Int) (l:rT ë):wZ (k:=tI) (v:=tI) x (M7 l)=(l.reverse.find? fun g=>g.1==x).map fun g=>g.2.1:=by
 have c:∀r:rT ë,wZ (k:=tI) (v:=tI) x (M7 r.reverse)=(r.find? fun g=>g.1==x).map fun g=>g.2.1:=by
  intro r
  induction r with
  |nil=>rfl
  |cons g r d =>
   rw[List.reverse_cons,M7,fj];simp only[ee,gQ];rw[TC,gb]
   by_cases h:x=g.1
   ·subst h; simp
   ·have:(g.1==x)=false:=by simp; exact fun e=>h e.symm
    rw[if_neg h,this];exact d
 have:=c l.reverse
 rwa [List.reverse_reverse] at this
def ahu {b:æ} (h:b.2.1.Pairwise fun a b=>a.1<b.1) (x:Int):wZ (k:=tI) (v:=tI) x (M7 b.2.1)=(ą b x).map fun g=>g.2.1:=by
 rw[aeR,J8 h]; rfl
def Zq {ρ:Type} {b:æ} (h:b.2.1.Pairwise fun a b=>a.1<b.1) (x:Int) (f:Int->rF ρ) (g:rF ρ):Zr (k:=tI) (v:=tI) x (M7 b.2.1) f g=match ą b x with|some y=>f y.2.1|none=>g:=by
 unfold Zr;rw[ahu h]
 cases ą b x<;>rfl
section
variable {ρ:Type} {b:æ}
def mix_L0 {l:rT Int} (k:l.length<=1000) (d:Int->rF ρ) (k1:Unit->rF ρ):Ê (fun(v:Int) h=>mX l v (fun u=>h u) d k1) 1=if l.Pairwise (·<·) then k1 () else d 1:=by
 refine adw (fun i a c ha f g=>?_) (fun n j g=>?_)
 ·have hi:=(List.getElem?_eq_some_iff.1 f).1;unfold mX
  have e:((i:Int)+1)=((i+1:Nat):Int):=by omega
  rw[e,Ñ hi,Ç f,ä (by omega) (by omega),<-e,Int.add_sub_cancel,Ç ha,ĕ,ä (by omega) (by omega)];simp
 ·unfold mX;rw[Ï (by simp[ilt,â]; omega)]
def mix_L1 (h:b.2.1.length<=1000) (c:rT (Int×Int)->rF ρ):Ê (fun(v:Int×rT (Int×Int)) f=>mW b.2.1 (Ó b.2.1) v.1 v.2 (fun u v=>f (u,v)) c) ((0:Int),[])=c (M7 b.2.1):=by
 refine ŋ b.2.1 (fun i=>M7 (b.2.1.take i)) _ rfl (fun i g hi d e=>?_) (fun e=>?_)
 ·try dsimp only
  unfold mW;rw[Ñ hi,Ç d,Í hi (by omega)];congr 2;rw[take_succ d,M7,M7,List.foldl_append];rfl
 ·try dsimp only
  unfold mW;rw[ß,List.take_length]
def mix_L2 (hi:b.2.1.Pairwise fun a b=>a.1<b.1) {l:rT Int} (f:l.length<=1000) (X Y Z:rF ρ):Ê (fun(v:Int) e=>mV l (Ó l) (M7 b.2.1) v (fun u=>e u) (fun z=>ifb (ige z (0:Int)) X Y) (fun _=>Z)) 0=if l.any (fun g=>(ą b g).isNone) then X else Z:=by
 refine ġ l _ (fun z=>ifb (ige z (0:Int)) X Y) X Z (fun j=>Ù (by simp[ige]) _ _) (fun i a c ha d=>?_) (fun d=>?_)
 ·unfold mV;rw[Ñ c,Ç ha,Zq hi,Í c (by omega)]
  cases ą b a<;>rfl
 ·unfold mV;rw[ß]
def mix_L3 (hi:b.2.1.Pairwise fun a b=>a.1<b.1) {l:rT Int} (o:l.length<=1000) (k:∀x∈l,∃g,ą b x=some g) (d:Int) (X Y Z:rF ρ):Ê (fun(v:Int) f=>kB l (Ó l) d (M7 b.2.1) v (fun u=>f u) (fun z=>ifb (ige z (0:Int)) X Y) (fun _=>Z)) 0=if l.any (fun g=>ĭ b g d != 0) then X else Z:=by
 refine ġ l _ (fun z=>ifb (ige z (0:Int)) X Y) X Z (fun j=>Ù (by simp[ige]) _ _) (fun i a c ha e=>?_) (fun e=>?_)
 ·unfold kB;rw[Ñ c,Ç ha,Zq hi,Í c (by omega)];obtain⟨g,n⟩:=k a (List.mem_of_getElem? ha);unfold ĭ;rw[n];dsimp only;rw[ĕ]
  by_cases h:d<g.2.1<;>simp[ilt,h]
 ·unfold kB;rw[ß]
def mix_L4 (h:jt b) {l:rT Int} (r:l.length<=1000) (p:∀x∈l,∃g,ą b x=some g) {d:Int} (hd:0<=d/\d<20000) (X Y Z:rF ρ):Ê (fun(v:Int) o=>Ĩ l (Ó l) b.1.1 b.1.2 b.2.1 b.2.2.1 b.2.2.2.1 b.2.2.2.2.1 b.2.2.2.2.2 d v (fun u=>o u) (fun z=>ifb (ige z (0:Int)) X Y) (fun _=>Z)) 0=if l.any (fun g=>(Ń b g d).isSome||(Ń b g (d+1)).isSome) then X else Z:=by
 refine ġ l _ (fun z=>ifb (ige z (0:Int)) X Y) X Z (fun j=>Ù (by simp[ige]) _ _) (fun i a c ha n=>?_) (fun n=>?_)
 ·unfold Ĩ;obtain⟨g,f⟩:=p a (List.mem_of_getElem? ha)
  have k:∀e,0<=e->e<=20000->AQ ((b.1.1,b.1.2),b.2.1,b.2.2.1,b.2.2.2.1,b.2.2.2.2.1,b.2.2.2.2.2) a e=some ((Ń b a e).isSome,0):=fun e h0 q=>by
   rw[show(((b.1.1,b.1.2),b.2.1,b.2.2.1,b.2.2.2.1,b.2.2.2.2.1,b.2.2.2.2.2):æ)=b from rfl,aod ⟨h.size,fun g f=>by have:=(h.gaugeR f).2.1; unfold I64; omega⟩]
   have:QH b a [e]=0:=by
    unfold QH;rw[if_neg (by simp[(Ļ b).2 h]),if_neg (by simp[IW,inP,h0,q]),tp h.ids,f]; rfl
   unfold aoe;rw[if_neg (by simp[this])]
  rw[Ñ c,Ç ha,k d hd.1 (by omega),Á,ä (by omega) (by omega),k (d+1) (by omega) (by omega),Á,Í c (by omega)];dsimp only
  cases(Ń b a d).isSome<;>cases(Ń b a (d+1)).isSome<;>rfl
 ·unfold Ĩ;rw[ß]
end
def alm {b:æ} (h:jt b) {l:rT Mx} {i:Nat} {x:Mx} (o:l[i]?=some x) (q:i<=1000):G3 b l i=some (mixE b l i x):=by
 unfold G3 Nv mixE;rw[Ç o]
 by_cases d:inP x.1 0 19999=true/\inP (x.2.length:Int) 2 5=true
 ·obtain⟨d,h2⟩:=d;rw[if_neg (by simp[d,h2])];simp only[inP,dt,decide_eq_true_eq] at d h2
  have k:x.2.length<=1000:=by omega
  rw[Ï (by simp[ilt]; omega),Ï (by simp[ige]; omega),Ï (by simp[ilt,â]; omega),Ï (by simp[igt,â]; omega),mix_L0 k]
  by_cases f:x.2.Pairwise (·<·)
  ·rw[if_pos f,if_neg (by simpa using f)]
   try dsimp only
   rw[mix_L1 (by have:=h.nG; omega),mix_L2 h.ids k]
   by_cases c:(x.2.any fun g=>(ą b g).isNone)=true
   ·rw[if_pos c,if_pos c]
   ·have p:∀y∈x.2,∃g,ą b y=some g:=fun y j=>by
     simp only[eP,not_exists,not_and,Option.isNone_iff_eq_none] at c;exact Option.ne_none_iff_exists'.1 (c y j)
    rw[if_neg c,if_neg c,mix_L3 h.ids k p]
    by_cases n:(x.2.any fun g=>ĭ b g x.1 != 0)=true
    ·rw[if_pos n,if_pos n]
    ·rw[if_neg n,if_neg n,mix_L4 h k p (by omega)]
     cases i with
     |zero =>
      rw[Ï (by simp[igt]),if_neg (show ¬ku (fun y:Mx=>y.1) l 0 x=true by simp[ku])]
      split<;>rfl
     |succ i =>
      obtain⟨hi,_⟩:=dC.1 o;have j:l[i]?=some l[i]:=dv (by omega)
      have e:((i+1:Nat):Int)-1=i:=by omega
      rw[Ù (by simp[igt]),ä (by omega) (by omega),e,Ç j,ĕ];unfold ku;simp only[Nat.add_sub_cancel,j,Option.any_some,Nat.succ_pos,decide_true,Bool.true_and,ile,decide_eq_true_eq]
      split
      ·rfl
      ·split<;>rfl
  ·rw[if_neg f,if_pos f]
 ·rw[if_pos (by simp only[eQ]; cases h2:inP x.1 0 19999<;>cases f:inP (x.2.length:Int) 2 5<;>simp_all)]
  simp only[inP,dt,decide_eq_true_eq,not_and,Int.not_le] at d;simp only[ĕ,ilt,ige,igt,â,decide_eq_true_eq]
  split
  ·rfl
  split
  ·rfl
  split
  ·rfl
  rw[if_pos (by have:=d (by omega); omega)]
def LY {b:æ} {l:rT Mx} {i:Nat} {x:Mx} (h:mixE b l i x=0):x.2.length<=5:=by
 unfold mixE at h
 split at h
 ·cases h
 ·rename_i c;simp[inP] at c;omega
def alv {n v:Nat} (j:n<=5) (g:v<=1000000000) {ρ:Type} (c:Int->rF ρ):Ê (fun(u:Int×Int) f=>m8 (HC n) u.1 u.2 (fun a b=>f (a,b)) c) ((v:Int),(0:Int))=c ((v*Uy n:Nat):Int):=by
 refine Ap (List.range n) (fun i=>((v*Uy i:Nat):Int)) _ (fun _=>True) (by simp[Uy]) trivial (fun i a hi ha _ d=>.inr ⟨trivial,?_⟩) (fun _ d=>?_)
 ·rw[List.length_range] at hi
  try dsimp only
  unfold m8;have h:=abF (n:=i) (by omega);have hb:v*Uy i<=1000000000*120:=Nat.mul_le_mul g h;have h2:v*Uy i*(i+1)<=1000000000*120*6:=Nat.mul_le_mul hb (by omega)
  have e:((v*Uy i:Nat):Int)*((i:Int)+1)=((v*Uy i*(i+1):Nat):Int):=by simp
  rw[J6 hi,ä (by omega) (by omega),e,ä (by omega) (by omega),ä (by omega) (by omega),Uy,Nat.mul_assoc]
 ·rw[List.length_range]
  try dsimp only
  unfold m8;rw[ß]
def EM {b:æ} {l:rT Mx} {i:Nat} {x:Mx} (h:l[i]?=some x) (o:∀j y,j<i->l[j]?=some y->mixE b l j y=0) (q:mixE b l i x≠0):MY b l=some (mixE b l i x):=by
 have e:∀(m:rT Mx) (k:Nat),l.drop k=m->k<=i->Ć (fun i x=>Sz (mixE b l i x)) k m=some (mixE b l i x):=by
  intro m
  induction m with
  |nil =>
   intro k d g;have:=List.drop_eq_nil_iff.1 d;have:=(dC.1 h).1;omega
  |cons y m n =>
   intro k d g
   have f:l[k]?=some y:=by
    have:(l.drop k)[0]?=some y:=by rw[d]; rfl
    simpa using this
   rw[Ć];rcases dV k i with c|p
   ·rw[o k y c f];simp only[Sz,if_true];refine n (k+1) ?_ c;rw[<-List.tail_drop,d]; rfl
   ·have:k=i:=by omega
    subst this;rw[h] at f; cases f;simp[Sz,q]
 exact e l 0 rfl (dX _)
def Dl {b:æ} {l:rT Mx} (d:∀j y,l[j]?=some y->mixE b l j y=0):MY b l=none:=by
 rw[MY,Ľ];intro j y c;rw[dW,d j y c]; rfl
def Qp {m:uW} (k:In m.1):Ģ m=some (ę m):=by
 unfold Ģ YG ę;rw[Mq k.size k.num,Á]
 by_cases g:š m.1=0
 ·have r:=(Ļ _).1 g;rw[Ï (by simp[ine,g]),if_neg (by simp[g])]
  by_cases p:4<m.2.length
  ·rw[Ù (by simp[igt,â]; omega),if_pos p]
  ·rw[Ï (by simp[igt,â]; omega),if_neg p];refine Ap m.2 (fun i=>((xA (m.2.take i):Nat):Int)) _ (fun i=>∀j y,j<i->m.2[j]?=some y->mixE m.1 m.2 j y=0) (by simp[xA]) (fun j y h _=>by omega) (fun i x hi d e q=>?_) (fun e q=>?_)
   ·try dsimp only
    unfold rz;rw[Ñ hi,Ç d,show(((m.1.1.1,m.1.1.2),m.1.2.1,m.1.2.2.1,m.1.2.2.2.1,m.1.2.2.2.2.1,m.1.2.2.2.2.2):æ)=m.1 from rfl,alm r d (by omega),Á]
    by_cases f:mixE m.1 m.2 i x=0
    ·rw[Ï (by simp[ine,f])]
     have t:∀y∈m.2.take i,y.2.length<=5:=fun y c=>by
      obtain⟨j,o,rfl⟩:=dQ.1 c;rw[dK] at o;rw[fk];exact LY (e j _ (by omega) (dv (by omega)))
     have hb:=Ve (l:=m.2.take i) (n:=4) (by rw[dK]; omega) t
     have s:(120:Nat) ^ 4=207360000:=by decide
     refine .inr ⟨fun j y o c=>?_,?_⟩
     ·rcases dV j i with h|h
      ·exact e j y h c
      ·have:j=i:=by omega
       subst this;rw[d] at c; cases c;exact f
     ·rw[alv (LY f) (by omega),Í hi (by omega),HM d]
    ·refine .inl ?_;rw[Ù (by simp[ine,f]),EM d e f]
   ·try dsimp only
    unfold rz;rw[ß,Dl fun j y c=>e j y (List.getElem?_eq_some_iff.1 c).1 c,List.take_length];dsimp only;rw[ĕ];simp only[igt,decide_eq_true_eq]
    by_cases h:150<xA m.2
    ·rw[if_pos (by omega),if_pos h]
    ·rw[if_neg (by omega),if_neg h]
 ·rw[Ù (by simp[ine,g]),if_pos g]
def adY {m:uW} (c:In m.1) (d:m.2.length<=1000):Ģ m=some (ę m):=Qp c
def Xy {α:Type} [DecidableEq α] {l m:rT α} (e:l.length=m.length) (h:Ć (fun i a=>if m[i]?=some a then none else some false) 0 l=none):l=m:=by
 have:=Ľ.1 h;refine List.ext_getElem e fun i f h2=>?_;have c:=this i l[i] (dv f);rw[dW] at c
 split at c
 ·rename_i d;rw[dv h2] at d;exact(Option.some.inj d).symm
 ·cases c
def Xx {α:Type} [DecidableEq α] {l m:rT α} {b:Bool} (h:Ć (fun i a=>if m[i]?=some a then none else some false) 0 l=some b):b=false/\l≠m:=by
 constructor
 ·have:∀(k:Nat) (x:rT α) (b:Bool),Ć (fun i a=>if m[i]?=some a then none else some false) k x=some b->b=false:=by
   intro k x
   induction x generalizing k with
   |nil=>intro b h; cases h
   |cons a t f =>
    intro b h;unfold Ć at h
    split at h
    ·rename_i c d
     split at d
     ·cases d
     ·cases d; cases h; rfl
    ·exact f _ _ h
  exact this _ _ _ h
 ·intro e;subst e;rw[Ľ.2 fun j a ha=>by rw[dW,if_pos ha]] at h;cases h
def ace {l m:rT Int} (j:l.length<=1000000):ĸ l m=some (decide (l=m)):=by
 unfold ĸ FR;rw[â,â]
 by_cases c:l.length=m.length
 ·rw[Ï (by simp[ine,c])];refine fg (jk l (fun i a=>if m[i]?=some a then none else some false) some (some true) (fun i a hi ha f=>?_) (fun f=>?_)) ?_
  ·try dsimp only
   unfold j7;have d:m[i]?=some m[i]:=List.getElem?_eq_getElem (by omega);rw[Ñ hi,Ç ha,Ç d,Í hi (by omega),d,ĕ]
   by_cases h:a=m[i]
   ·simp[ine,h]
   ·have h':¬m[i]=a:=fun e=>h e.symm;simp[ine,h,h']
  ·try dsimp only
   unfold j7;rw[ß]
  ·cases h:Ć (fun i a=>if m[i]?=some a then none else some false) 0 l with
   |none=>simp[Xy c h]
   |some b =>
    obtain⟨g,h2⟩:=Xx h;simp[g,h2]
 ·rw[Ù (by simp[ine]; omega)];have:l≠m:=fun e=>c (by rw[e]);simp[this]
structure MixOk (b:æ) (x:Mx):Prop where
 day:0<=x.1/\x.1<20000
 len:2<=x.2.length/\x.2.length<=5
 asc:x.2.Pairwise (·<·)
 known:∀l∈x.2,∃g,ą b l=some g/\g.2.1<=x.1
 home:∀l∈x.2,Ń b l x.1=none/\Ń b l (x.1+1)=none
def aht {b:æ} {l:rT Mx} {i:Nat} {x:Mx} (h:mixE b l i x=0):MixOk b x/\ku (fun y=>y.1) l i x=false:=by
 unfold mixE at h
 split at h
 ·cases h
 rename_i n
 split at h
 ·cases h
 rename_i h2
 split at h
 ·cases h
 rename_i j
 split at h
 ·cases h
 rename_i f
 split at h
 ·cases h
 rename_i k
 split at h
 ·cases h
 rename_i e;simp only[inP,Bool.not_eq_true',Bool.and_eq_false_iff,not_or,Bool.not_eq_false,decide_eq_false_iff_not,Int.not_le,Bool.and_eq_true,decide_eq_true_eq] at n;simp only[List.any_eq_true,not_exists,not_and,Option.isNone_iff_eq_none] at j;simp only[List.any_eq_true,not_exists,not_and,bne_iff_ne,ne_eq,Decidable.not_not] at f;simp only[List.any_eq_true,not_exists,not_and,Bool.or_eq_true,not_or,Option.isSome_iff_ne_none,ne_eq,Decidable.not_not] at e;refine⟨⟨by omega,by omega,Decidable.not_not.1 h2,fun y c=>?_,e⟩,by simpa using k⟩;obtain⟨g,d⟩:=Option.ne_none_iff_exists'.1 (j y c);refine⟨g,d,?_⟩;have:=f y c;unfold ĭ at this;rw[d] at this;dsimp only at this
 split at this
 ·cases this
 ·omega
structure MOk (m:uW):Prop where
 good:jt m.1
 n4:m.2.length<=4
 mixE:∀i x,m.2[i]?=some x->mixE m.1 m.2 i x=0
 prod:xA m.2<=150
def jq (m:uW):ę m=0↔MOk m:=by
 unfold ę;constructor
 ·intro h
  split at h
  ·rename_i g; exact absurd h g
  rename_i g
  split at h
  ·cases h
  rename_i h2
  cases c:MY m.1 m.2 with
  |some e =>
   rw[c] at h;dsimp only at h;rw[MY] at c
   have d:∀(l:rT Mx) (k:Nat) (e:Int),Ć (fun i x=>Sz (mixE m.1 m.2 i x)) k l=some e->e≠0:=by
    intro l
    induction l with
    |nil=>intro k e h; cases h
    |cons y l j =>
     intro k e h;rw[Ć] at h
     by_cases f:mixE m.1 m.2 k y=0
     ·rw[f] at h;exact j (k+1) e h
     ·simp only[Sz,if_neg f,Option.some.injEq] at h;rw[<-h]; exact f
   exact absurd h (d _ _ _ c)
  |none =>
   rw[c] at h;dsimp only at h
   split at h
   ·cases h
   rename_i o;refine⟨(Ļ _).1 (Decidable.not_not.1 g),by omega,fun i x n=>?_,by omega⟩;have:=(Ľ.1 c) i x n;rw[Nat.zero_add] at this;unfold Sz at this
   split at this
   ·assumption
   ·cases this
 ·intro h;rw[if_neg (by simp[(Ļ _).2 h.good]),if_neg (by have:=h.n4; omega),Dl h.mixE];dsimp only;rw[if_neg (by have:=h.prod; omega)]
section
variable {m:uW}
def MOk.mix (h:MOk m) {x:Mx} (c:x∈m.2):MixOk m.1 x:=by
 obtain⟨i,hi,rfl⟩:=dQ.1 c;exact(aht (h.mixE i _ (dv hi))).1
def MOk.len5 (h:MOk m):∀x∈m.2,x.2.length<=5:=fun x c=>(h.mix c).len.2
end
def ahs (x:Mx):BL×rT BL:=([109,105,120],iM (x.1::x.2))
abbrev GI (x:Mx):BL:=ħ (ahs x)++[10]
def El (l:rT Mx):BL:=l.flatMap GI
def i8 (m:uW):BL:=Ţ m.1++El m.2
def Xm {b:æ} (h:aat b):(Ţ b).length<=57615:=by
 unfold Ţ;refine Nat.le_trans ?_ (Nat.mul_le_mul_right 501 h.count);have c:=h.len;generalize ś b=L at c
 induction L with
 |nil=>simp
 |cons p L d =>
  have f:=c p (by simp);have h2:=d fun x e=>c x (by simp[e]);rw[dR,dw,dw,dz];simp only[dz,dI] at *;omega
def I64X (x:Mx):Prop:=I64 x.1/\∀n∈x.2,I64 n
def acu (ns:rT Int):spL 32 (iM ns)=ns.flatMap fun n=>32::Lib.itoa n:=by simp[spL,List.flatMap_map]
def Zp {x:Mx} (h:I64X x) (d:x.2.length<=10):(GI x).length<=300:=by
 have:=L3 (ns:=x.1::x.2) (fun n c=>by
  rcases dE.1 c with rfl|c
  ·exact h.1
  ·exact h.2 n c)
 simp only[ħ,ahs,Bi,dw,dz,dI] at this ⊢;omega
section
variable {ρ:Type}
def aeQ {ns:rT Int} {s:BL} (d:∀n∈ns,I64 n) (k:ns.length<=10) (j:s.length<=1000000) (K:ByteArray->rF ρ) :
 Ê (fun(v:ByteArray×Int) f=>mY ns (Ó ns) v.1 v.2 (fun a b=>f (a,b)) K) (ofL s,(0:Int))=K (ofL (s++spL 32 (iM ns))):=by
 rw[acu];refine qm ns (fun n=>32::Lib.itoa n) (by omega) (fun n c=>?_) (by omega) (fun i n t hi ha h e=>?_) (fun t e=>?_)
 ·have:=iD (d n c);simp only[dz]; omega
 ·have c:=d n (List.mem_of_getElem? ha);have g:=iD c;unfold mY;rw[Ñ hi,Ç ha,acj c,Á,show ByteArray.mk #[32]=ofL [32] from rfl,Ë (by simp only[Ì,List.length_append,List.length_cons,List.length_nil]; omega),Am.iff_true,è,Ë (by simp only[Ì,List.length_append,List.length_cons,List.length_nil]; omega),Am.iff_true,Í hi (by omega),è];rfl
 ·unfold mY;rw[ß]
def ahr {l:rT Mx} {s:BL} (d:∀x∈l,I64X x/\x.2.length<=10) (k:l.length<=10) (j:s.length<=100000) (K:ByteArray->rF ρ) :
 Ê (fun(v:ByteArray×Int) g=>mZ l (Ó l) v.1 v.2 (fun a b=>g (a,b)) K) (ofL s,(0:Int))=K (ofL (s++El l)):=by
 rw[uA l (fun t x=>ofL (toL t++GI x)) (fun i t=>(toL t).length<=s.length+1000*i) (K:=K) (by simp) (fun i x t hi ha n=>?_) (fun t f _=>?_)]
 ·congr 1;unfold El;clear j d k
  induction l generalizing s with
  |nil=>simp
  |cons a l h=>rw[ee,h]; simp
 ·obtain⟨⟨c,h2⟩,e⟩:=d x (List.mem_of_getElem? ha);have r:=Zp ⟨c,h2⟩ e;have q:=iD c;refine⟨by rw[show toL (ofL (toL t++GI x))=toL t++GI x from rfl,List.length_append]; omega,fun f=>?_⟩;have p:t.size=(toL t).length:=qS t;unfold mZ;rw[Ñ hi,Ç ha,acj c,Á,show ByteArray.mk #[109,105,120,32]=ofL [109,105,120,32] from rfl,Ë (by simp only[Ì,List.length_append,List.length_cons,List.length_nil]; omega),Am.iff_true,è,Ë (by simp only[Ì,List.length_append,List.length_cons,List.length_nil]; omega),Am.iff_true];rw[show t++ofL ([109,105,120,32]++Lib.itoa x.1)=ofL (toL t++([109,105,120,32]++Lib.itoa x.1)) by have:=è (toL t) ([109,105,120,32]++Lib.itoa x.1); rwa [nZ] at this];refine(aeQ h2 e (by simp only[List.length_append,List.length_cons,List.length_nil]; omega) _).trans ?_;have o:=L3 h2;rw[show ByteArray.mk #[10]=ofL [10] from rfl,Ë (by simp only[Ì,List.length_append,List.length_cons,List.length_nil]; omega),Am.iff_true,Í hi (by omega),è];congr 2;simp[GI,ħ,ahs,Bi,spL,iM]
 ·unfold mZ;rw[ß]
end
def MOk.short {m:uW} (h:MOk m):∀x∈m.2,x.2.length<=10:=fun x c=>by
 obtain⟨i,hi,rfl⟩:=dQ.1 c;have:=LY (h.mixE i _ (dv hi)); omega
def MOk.nums {m:uW} (h:MOk m):∀x∈m.2,I64X x:=fun x d=>by
 have c:=h.mix d;refine⟨by have:=c.day; unfold I64; omega,fun n e=>?_⟩;obtain⟨g,f,_⟩:=c.known n e;exact(h.good.idn f).i64
def UW {m:uW} (c:In m.1):nQ m=some (if ę m≠0 then(ofL [],ę m) else(ofL (i8 m),0)):=by
 unfold nQ YE;rw[Qp c,Á]
 by_cases h0:ę m=0
 ·have h:=(jq m).1 h0;have e:=(h.good.prints.mono fun n f=>f.i64);have g:=Xm e;have i:=h.n4;rw[Ï (by simp[ine,h0]),if_neg (by simp[h0]),W6 c.fine,(Ļ m.1).2 h.good,if_neg (by simp),Á,Ï (by simp[ine])];dsimp only;exact ahr (fun x d=>⟨h.nums x d,h.short x d⟩) (by omega) (by omega) _
 ·rw[Ù (by simpa[ine] using h0),if_pos h0]
def SL (w:BL):rF Int:=match Lib.atoiAll w with|.ok v=>some v|_=>none
def goM:Nat->Mx->rT BL->rF Mx
 |_,s,[]=>some s
 |0,s,_::ws=>goM 1 s ws
 |1,s,w::ws=>match SL w with
  |none=>none
  |some v=>goM 2 (v,s.2) ws
 |n+2,s,w::ws=>match SL w with
  |none=>none
  |some v=>goM (n+3) (s.1,s.2++[v]) ws
def aeC (l:BL):rF Mx:=goM 0 (0,[]) (wQ 32 (Lib.trimSuffix l [10]))
abbrev StX:Type:=Int×Int×rT ë×rT (Int×Int)×rT HE×rT Cmp×rT (Int×Int)×rT Mx×Int×rT Mx
abbrev EndX:Type:=Int×Int×rT ë×rT (Int×Int)×rT HE×rT Cmp×rT (Int×Int)×rT Mx×Int
abbrev WdX:Type:=Int×Int×rT ë×rT (Int×Int)×rT HE×rT Cmp×rT (Int×Int)×rT Mx×Int×Int×rT Int
def stX (l:rT Mx):StX:=(0,0,[],[],[],[],[],[],0,l)
def endX:EndX:=(0,0,[],[],[],[],[],[],7)
def wdX (x:Mx):WdX:=(0,0,[],[],[],[],[],[],0,x.1,x.2)
section
variable {ρ:Type}
def akn {ws:rT BL} (O:ws.length<=100000) (M:∀w∈ws,w.length<=100000) {G k1:WdX->rF ρ} {A:rF ρ} (D:∀d l,G (0,0,[],[],[],[],[],[],7,d,l)=A) :
 Ê (fun(v:Int×WdX) E=>kD (Ó (ws.map ofL)) (ws.map ofL) v.1 v.2.1 v.2.2.1 v.2.2.2.1 v.2.2.2.2.1 v.2.2.2.2.2.1 v.2.2.2.2.2.2.1 v.2.2.2.2.2.2.2.1 v.2.2.2.2.2.2.2.2.1 v.2.2.2.2.2.2.2.2.2.1 v.2.2.2.2.2.2.2.2.2.2.1 v.2.2.2.2.2.2.2.2.2.2.2 (fun B z y u q p o n k j g e=>E (B,z,y,u,q,p,o,n,k,j,g,e)) G k1) ((0:Int),wdX (0,[]))=match goM 0 (0,[]) ws with
  |some x=>k1 (wdX x)
  |none=>A:=by
 have F:=We (σ:=WdX) (ws.map ofL) (f:=fun(v:Int×WdX) E=>kD (Ó (ws.map ofL)) (ws.map ofL) v.1 v.2.1 v.2.2.1 v.2.2.2.1 v.2.2.2.2.1 v.2.2.2.2.2.1 v.2.2.2.2.2.2.1 v.2.2.2.2.2.2.2.1 v.2.2.2.2.2.2.2.2.1 v.2.2.2.2.2.2.2.2.2.1 v.2.2.2.2.2.2.2.2.2.2.1 v.2.2.2.2.2.2.2.2.2.2.2 (fun B z y u q p o n k j g e=>E (B,z,y,u,q,p,o,n,k,j,g,e)) G k1)
  (fun i s r=>match goM i (s.2.2.2.2.2.2.2.2.2.1,s.2.2.2.2.2.2.2.2.2.2) (r.map toL) with
   |some x=>k1 (wdX x)
   |none=>A) (fun i s=>(∃x,s=wdX x/\x.2.length<=i)) (fun s ⟨x,c,_⟩ K=>?_) (fun i a t s hd hi ha ⟨x,c,C⟩ K N=>?_) (s:=wdX (0,[])) ⟨(0,[]),rfl,by simp⟩
 ·rw[F,List.map_map];have:(toL ∘ ofL)=id:=funext fun l=>rfl;rw[this,List.map_id];rfl
 ·subst c;unfold kD;dsimp only;rw[ß]
  cases h:(ws.map ofL).length<;>rfl
 ·subst c;obtain⟨w,H,rfl⟩:=VA ha;have L:=M w (dJ H)
  have I:i<ws.length:=by simpa using hi
  unfold kD;dsimp only[wdX];rw[Ñ hi,show((ile (0:Int) (i:Int))&&(ilt (i:Int) (ê (ws.map ofL))))=true by simp only[ile,ilt,ê,Bool.and_eq_true,decide_eq_true_eq]; exact⟨by omega,by simpa using hi⟩,Am.iff_true,ė ha];unfold ab7;rw[show decide ((ofL w).size<=281474976710656)=true by rw[Ì]; exact decide_eq_true (by omega)];simp only[Á,List.map_cons];have c:=fun x C=>N (wdX x) ⟨x,rfl,C⟩;dsimp only[wdX] at c;have J:∀f:Int->rF ρ,ck ((i:Int)+1) f=f ((i:Int)+1):=fun f=>Í I (by omega) f;rcases i with _|_|i
  ·rw[Ù (by simp[ieq]),J];exact c x (by omega)
  ·rw[Ï (by simp[ieq])]
   show _=match (match SL w with|none=>none|some v=>goM 2 (v,x.2) (t.map toL)) with|some x=>k1 (wdX x)|none=>A
   unfold SL;show(ifb (match Lib.atoiAll w with|.ok v=>(v,false)|.range=>(Lib.atoiSat w,true)|_=>(0,true)).2 _ _)=_
   cases Lib.atoiAll w with
   |ok v =>
    dsimp only;rw[Ï rfl,Ù (by simp[ieq]),J];exact c (v,x.2) (by simp only at C ⊢; omega)
   |range=>dsimp only; rw[Ù rfl]; exact D _ _
   |_=>dsimp only; rw[Ù rfl]; exact D _ _
  ·rw[Ï (by simp[ieq]; omega)]
   show _=match (match SL w with|none=>none|some v=>goM (i+3) (x.1,x.2++[v]) (t.map toL)) with|some x=>k1 (wdX x)|none=>A
   unfold SL;show(ifb (match Lib.atoiAll w with|.ok v=>(v,false)|.range=>(Lib.atoiSat w,true)|_=>(0,true)).2 _ _)=_
   cases Lib.atoiAll w with
   |ok v =>
    dsimp only;rw[Ï rfl,Ï (by simp[ieq]; omega),Ë (by simp only[List.length_cons,List.length_nil]; omega),Am.iff_true,J];exact c (x.1,x.2++[v]) (by simp only[List.length_append,List.length_cons,List.length_nil] at C ⊢; omega)
   |range=>dsimp only; rw[Ù rfl]; exact D _ _
   |_=>dsimp only; rw[Ù rfl]; exact D _ _
def akH {l:BL} (h:l.length<=60000) {acc:rT Mx} (ha:acc.length<=1000000) (e:StX->rF ρ) (c:EndX->rF ρ) :
 č (stX acc) (ofL l) e c=match aeC l with|some x=>e (stX (acc++[x]))|none=>c endX:=by
 unfold č yk;have g:=U4 l [10];rw[show ByteArray.mk #[10]=ofL [10] from rfl,ajS l [10] (by omega),Á,show ByteArray.mk #[32]=ofL [32] from rfl,show Bp (ofL (Lib.trimSuffix l [10])) (ofL [32])=some ((wQ 32 (Lib.trimSuffix l [10])).map ofL) from aeg _ 32 (by omega),Á];refine(akn (A:=c endX) ?_ ?_ (fun d l=>rfl)).trans ?_
 ·have:=vS 32 (Lib.trimSuffix l [10]) [];show(Ke 32 [] (Lib.trimSuffix l [10])).length<=_;omega
 ·intro w f;have:=o8 32 (Lib.trimSuffix l [10]) [] w f;simp only[dI] at this; omega
 ·unfold aeC
  cases goM 0 (0,[]) (wQ 32 (Lib.trimSuffix l [10])) with
  |none=>rfl
  |some x =>
   dsimp only;rw[Ë (by dsimp only[stX]; simp only[List.length_cons,List.length_nil]; omega),Am.iff_true];rfl
def xz:rT BL->rF (rT Mx)
 |[]=>some []
 |l::ls=>match aeC l with
  |none=>none
  |some x=>match xz ls with
   |none=>none
   |some r=>some (x::r)
def J4 (f:StX->rF ρ) (d:EndX->rF ρ):∀(c:rT BL) (acc:rT Mx),acc.length+c.length<=100000->(∀l∈c,l.length<=60000) ->
 aaz č (c.map ofL) (stX acc) f d=match xz c with|some r=>f (stX (acc++r))|none=>d endX
 |[],acc,h,g=>by simp[aaz,xz]
 |l::c,acc,h,g=>by
  simp only[List.length_cons] at h;have e:aaz č ((l::c).map ofL) (stX acc) f d=č (stX acc) (ofL l) (fun v=>aaz č (c.map ofL) v f d) d:=rfl;rw[e,akH (g l (by simp)) (by omega)];unfold xz
  cases aeC l with
  |none=>rfl
  |some x =>
   dsimp only;rw[J4 f d c (acc++[x]) (by simp only[List.length_append,List.length_cons,List.length_nil]; omega) fun y i=>g y (by simp[i])]
   cases xz c with
   |none=>rfl
   |some r=>dsimp only; rw[List.append_assoc]; rfl
end
abbrev Js:uW:=(Υ,[])
def Kl (t:BL) (b:æ) (c:BL):uW×Int:=match xz (ε c) with
 |none=>(Js,7)
 |some l=>if ę (b,l)=0/\i8 (b,l)=t then((b,l),0) else(Js,7)
def aig {t:BL}:(ε t).length<=t.length/\∀l∈ε t,l.length<=t.length:=by
 obtain⟨d,h2⟩:=Aq (ofL t).size (ofL t);rw[Ì] at d;refine⟨by unfold ε kO; rw[List.length_map,Ì]; exact d,fun l c=>?_⟩;unfold ε kO at c;obtain⟨y,e,rfl⟩:=List.mem_map.1 c;have:=h2 y e;rw[<-qS,<-Ì t]; exact this
def U5 {b:æ} (hb:In b) {t c:BL} (o:c.length<=60000) {γ:Type} (k:uW×Int->rF γ) {g:EndX->rF γ} (j:g endX=k (Js,7)) :
 (Ô (Î (ByteArray.size (ofL c))&&true) (aaz č (kO (ofL c)) ((0:Int),(0:Int),[],[],[],[],[],[],(0:Int),[]) (fun d=>Â (nQ (b,d.2.2.2.2.2.2.2.2.2)) fun e=>ifb (ine e.2 (0:Int)) (k (((((0:Int),(0:Int)),[],[],[],[],[]),[]),(7:Int))) (ifb (!(e.1.toList==(ofL t).toList)) (k (((((0:Int),(0:Int)),[],[],[],[],[]),[]),(7:Int))) (k ((b,d.2.2.2.2.2.2.2.2.2),(0:Int))))) g))=k (Kl t b c):=by
 obtain⟨p,h2⟩:=aig (t:=c)
 have i:kO (ofL c)=(ε c).map ofL:=by
  unfold ε; rw[List.map_map]; exact(List.map_id _).symm.trans (List.map_congr_left fun s _=>(nZ s).symm)
 rw[Ë (by rw[Ì]; omega),show(true&&true)=true from rfl,Am.iff_true,i];refine(J4 _ g (ε c) [] (by simp only[List.length_nil]; omega) (fun l i=>by have:=h2 l i; omega)).trans ?_;unfold Kl
 cases n:xz (ε c) with
 |none=>exact j
 |some l =>
  dsimp only[stX];rw[List.nil_append,UW hb,Á]
  by_cases h0:ę (b,l)=0
  ·rw[if_neg (by simp[h0])];dsimp only;rw[Ï (by simp[ine]),ż]
   by_cases f:i8 (b,l)=t
   ·rw[Ï (by simp[f]),if_pos ⟨h0,f⟩]
   ·rw[Ù (by simp[f]),if_neg fun h=>f h.2]; rfl
  ·rw[if_pos h0];dsimp only;rw[Ù (by simpa[ine] using h0),if_neg fun h=>h0 h.1]; rfl
abbrev Vy:BL:=[109,105,120,32]
def Ji (t:BL):uW×Int :=
 if t.take 4=Vy then(match sE [] with|none=>(Js,7)|some b=>Kl t b t) else
 if 0<=Lib.index t (10::Vy) then(match sE (t.take ((Lib.index t (10::Vy)).toNat+1)) with|none=>(Js,7)|some b=>Kl t b (t.drop ((Lib.index t (10::Vy)).toNat+1)))
 else match sE t with|none=>(Js,7)|some b=>Kl t b []
def jt.in_ {b:æ} (h:jt b):In b:=⟨h.size,fun g c=>(h.prints.gauges g c _ (by simp[adB])).i64⟩
def W7 (l p:BL) (c:l.length<=1000000):il (ofL l) (ofL p)=some (decide (l.take p.length=p)):=by
 unfold il pS Ī Α;rw[ln,ln,Ì,Ì]
 by_cases h:p.length<=l.length
 ·rw[Ù (by simpa[ige] using h),dL,Β (by simp[ile]; omega),ξ,ż]; simp
 ·rw[Ï (by simp[ige]; omega)]
  have:l.take p.length≠p:=fun e=>by have:=congrArg List.length e; simp at this; omega
  simp[this]
def age {t:BL} (g:t.length<=60000):G5 (ofL t)=some (Ji t):=by
 unfold G5 NN Ji;rw[show ByteArray.mk #[109,105,120,32]=ofL Vy from rfl,W7 t Vy (by omega),Á,show ByteArray.mk #[]=ofL [] from rfl]
 by_cases f:t.take 4=Vy
 ·rw[Ù (by simpa using f),if_pos f,ach (t:=[]) (by simp),Á]
  cases d:sE [] with
  |none=>rw[Ù (by simp[ine])]; rfl
  |some b =>
   dsimp only;rw[Ï (by simp[ine])];exact U5 (po d).1.in_ g some rfl
 ·rw[Ï (by simpa using f),if_neg f,show ByteArray.mk #[10,109,105,120,32]=ofL (10::Vy) from rfl,show zG (ofL t) (ofL (10::Vy))=some (Lib.index t (10::Vy)) by
   show HJ _ _=_;unfold HJ
   rw[if_pos (by rw[Ì]; omega)],Á]
  by_cases hi:0<=Lib.index t (10::Vy)
  ·obtain⟨i,e⟩:=fP hi;have c:=Lib.index_room t (10::Vy) hi;rw[e] at c ⊢;simp only[dz,dI] at c;rw[Ù (by simp[ige]),ä (by omega) (by omega),Β (by simp only[ile,Ì,dt,decide_eq_true_eq]; omega),ä (by omega) (by omega),Β (by simp only[ile,Ì,dt,decide_eq_true_eq]; omega),if_pos (by omega),dL,show((i:Int)+1).toNat=i+1 by omega,ξ,gP,ach (t:=t.take (i+1)) (by rw[dK]; omega),Á]
   cases d:sE (t.take (i+1)) with
   |none=>rw[Ù (by simp[ine])]; rfl
   |some b =>
    dsimp only;rw[Ï (by simp[ine]),show ByteArray.extract (ofL t) (i+1) (ByteArray.size (ofL t))=ofL (t.drop (i+1)) by rw[Ì,ξ,List.take_length]];exact U5 (po d).1.in_ (by rw[List.length_drop]; omega) some rfl
  ·rw[Ï (by simp[ige]; omega),if_neg hi,ach g,Á]
   cases d:sE t with
   |none=>rw[Ù (by simp[ine])]; rfl
   |some b =>
    dsimp only;rw[Ï (by simp[ine])];exact U5 (po d).1.in_ (by simp) some rfl
def SN {b:æ}:∀p∈ś b,∃c r,p.1=c::r/\c≠109:=by
 intro p d;unfold ś at d;simp only[List.mem_cons,List.mem_append,List.mem_map] at d
 rcases d with rfl|⟨g,_,rfl⟩|⟨g,_,rfl⟩|⟨g,_,rfl⟩|⟨g,_,rfl⟩|⟨g,_,rfl⟩<;>exact⟨_,_,rfl,by decide⟩
def ank:∀(d:rT BL) (R:BL) (j:Nat),(∀l∈d,(∀x∈l,x≠10)/\∃c r,l=c::r/\c≠109)->j+1<(d.flatMap fun l=>l++[10]).length->Lib.occAt ((d.flatMap fun l=>l++[10])++R) (10::Vy) j=false
 |[],R,j,_,f=>by simp at f
 |l::d,R,j,h,f=>by
  rw[List.flatMap_cons,List.length_append,List.length_append] at f;simp only[List.length_cons,List.length_nil] at f;rw[List.flatMap_cons,List.append_assoc,List.append_assoc];unfold Lib.occAt;rcases Nat.lt_trichotomy j l.length with e|i|q
  ·rw[fO (by omega),eR e,eT];have:=(h l (by simp)).1 l[j] (List.getElem_mem e);simp only[List.isPrefixOf,gk];exact .inl (by simpa using this.symm)
  ·subst i;rw[gN]
   cases d with
   |nil=>simp at f
   |cons o n =>
    obtain⟨c,r,s,g⟩:=(h o (by simp)).2;rw[dR,s];simp only[eT,eA,List.isPrefixOf,gk];exact .inr (.inl (by simpa using g.symm))
  ·obtain⟨k,rfl⟩:∃k,j=l.length+(1+k):=⟨j-l.length-1,by omega⟩;rw[<-List.drop_drop,List.drop_left,<-List.drop_drop];have:=ank d R k (fun x p=>h x (by simp[p])) (by omega);unfold Lib.occAt at this;exact this
def Iz (b:æ):∀l∈(ś b).map ħ,(∀x∈l,x≠10)/\∃c r,l=c::r/\c≠109:=fun l e=>by
 obtain⟨p,d,rfl⟩:=List.mem_map.1 e;obtain⟨c,r,f,h2⟩:=SN p d;exact⟨PJ d,c,r++spL 32 p.2,by unfold ħ Bi; rw[f]; rfl,h2⟩
def aes (b:æ):∃r,Ţ b=102::r:=by
 unfold Ţ ś;rw[List.flatMap_cons];exact⟨_,rfl⟩
def agB (b:æ):∃r,Ţ b=r++[10]:=by
 rw[qQ]
 have:(ś b).map ħ≠[]:=by unfold ś; simp
 generalize (ś b).map ħ=L at this
 induction L with
 |nil=>exact absurd rfl this
 |cons l d e =>
  cases d with
  |nil=>exact⟨l,by simp⟩
  |cons g c =>
   obtain⟨r,f⟩:=e (by simp);exact⟨l++[10]++r,by rw[dR,f,<-dH]⟩
def afu (b:æ):Lib.index (Ţ b) (10::Vy) = -1:=by
 refine Lib.index_none fun j d=>?_
 by_cases h:j+1<(Ţ b).length
 ·have:=ank _ [] j (Iz b) (by rw[<-qQ]; exact h)
  rwa [<-qQ,dO] at this
 ·unfold Lib.occAt
  cases c:(10::Vy).isPrefixOf ((Ţ b).drop j) with
  |false=>rfl
  |true =>
   have:=(List.isPrefixOf_iff_prefix.1 c).length_le;rw[gB] at this;simp only[dz,dI] at this;omega
def aer (x:Mx) (l:rT Mx):∃r,El (x::l)=Vy++r:=⟨_,rfl⟩
def aiu (b:æ) (x:Mx) (l:rT Mx):Lib.index (Ţ b++El (x::l)) (10::Vy)=(((Ţ b).length-1:Nat):Int):=by
 obtain⟨r,c⟩:=agB b;obtain⟨q,d⟩:=aer x l
 have e:(Ţ b).length-1=r.length:=by rw[c]; simp
 refine Lib.index_first (by rw[dw]; omega) ?_ fun j f=>?_
 ·unfold Lib.occAt;rw[e,c,d,List.append_assoc,List.drop_left];rfl
 ·have:=ank _ (El (x::l)) j (Iz b) (by rw[<-qQ]; omega)
  rwa [<-qQ] at this
def UR {n:Int} (h:I64 n):SL (Lib.itoa n)=some n:=by unfold SL; rw[aal h]
def adA:∀(ns:rT Int) (i:Nat) (x:Mx),(∀n∈ns,I64 n)->goM (i+2) x (iM ns)=some (x.1,x.2++ns)
 |[],i,x,_=>by simp[goM]
 |n::ns,i,x,h=>by
  show(match SL (Lib.itoa n) with|none=>none|some v=>goM (i+3) (x.1,x.2++[v]) (iM ns))=_;rw[UR (h n (by simp))];dsimp only;rw[adA ns (i+1) _ fun y c=>h y (by simp[c]),List.append_assoc];rfl
def MZ {c:UInt8} (d:c=10\/c=32) (ns:rT Int):(∀x∈([109,105,120]:BL),x≠c)/\∀v∈iM ns,∀x∈v,x≠c :=
 ⟨by rcases d with rfl|rfl<;>decide,jR c (by rcases d with rfl|rfl<;>decide) _⟩
def Jt (x:Mx):∀y∈ħ (ahs x),y≠10:=by
 intro y c;obtain⟨e,h2⟩:=MZ (.inl rfl) (x.1::x.2);rcases dA.1 c with c|c
 ·exact e y c
 ·obtain⟨v,d,c⟩:=dY.1 c;rcases dE.1 c with rfl|c
  ·decide
  ·exact h2 v d y c
def aeB {x:Mx} (h:I64X x):aeC (GI x)=some x:=by
 unfold aeC GI;rw[agv];obtain⟨c,h2⟩:=MZ (.inr rfl) (x.1::x.2);rw[show ħ (ahs x)=[109,105,120]++spL 32 (iM (x.1::x.2)) from rfl,Qj 32 _ _ c h2];show(match SL (Lib.itoa x.1) with|none=>none|some v=>goM 2 (v,[]) (iM x.2))=_;rw[UR h.1];exact adA x.2 0 (x.1,[]) h.2
def Zo (l:rT Mx):ε (El l)=l.map GI:=by
 have e:El l=(l.map fun x=>ħ (ahs x)).flatMap fun l=>l++[10]:=by unfold El; rw[List.flatMap_map]
 unfold ε kO;rw[e,PI _ _ (fun l c=>by obtain⟨p,d,rfl⟩:=List.mem_map.1 c; exact Jt p) (by rw[Ì]; exact Nat.le_refl _),List.map_map,List.map_map];rfl
def MI:∀(l:rT Mx),(∀x∈l,I64X x)->xz (l.map GI)=some l
 |[],_=>rfl
 |x::l,h=>by
  rw[List.map_cons];unfold xz;rw[aeB (h x (by simp)),MI l fun y c=>h y (by simp[c])]
def HO {m:uW} (h:MOk m):Ji (i8 m)=(m,0):=by
 obtain⟨r,d⟩:=aes m.1;have g:=LS h.good;have h0:=(jq m).2 h;unfold Ji;rw[if_neg (by unfold i8; rw[d]; simp)]
 cases c:m.2 with
 |nil =>
  have e:i8 m=Ţ m.1:=by unfold i8; rw[c]; simp[El]
  rw[e,afu,if_neg (by decide),g];dsimp only
  have em:m=(m.1,[]):=by rw[<-c]
  unfold Kl;rw[show ε []=[] from rfl];dsimp only[xz];rw[if_pos ⟨by rw[<-em]; exact h0,by rw[<-em,e]⟩,<-em]
 |cons x l =>
  have e:i8 m=Ţ m.1++El (x::l):=by unfold i8; rw[c]
  have f:0<(Ţ m.1).length:=by rw[d]; simp
  rw[e,aiu,if_pos (by omega),Int.toNat_natCast,show(Ţ m.1).length-1+1=(Ţ m.1).length by omega,List.take_left,List.drop_left,g];dsimp only
  have em:m=(m.1,x::l):=by rw[<-c]
  unfold Kl;rw[Zo,MI _ (by rw[<-c]; exact h.nums)];dsimp only;rw[if_pos ⟨by rw[<-em]; exact h0,by rw[<-em,e]⟩,<-em]
def less (b:æ) (ids:rT Int):æ:=(b.1,b.2.1,b.2.2.1,b.2.2.2.1,b.2.2.2.2.1.filter (fun c=>!ids.contains c.1),b.2.2.2.2.2)
section
variable {b:æ} {ids:rT Int}
def aik (h:ζ b):ζ (less b ids) :=
 ⟨h.gauges,h.uses,h.loans,dG (eW _ _) h.compares,h.looks,fun c d=>h.piles c (fD.1 d).1⟩
def jt.distinct (h:jt b):b.2.2.2.2.1.Pairwise fun a c=>a.1≠c.1:=by
 rw[List.pairwise_iff_getElem];intro i j hi f g k;have e:=h.compares j _ (List.getElem?_eq_getElem f);unfold jp at e
 have d:(b.2.2.2.2.1.take j).any (fun x=>x.1==b.2.2.2.2.1[j].1)=true:=by
  rw[eP];exact⟨b.2.2.2.2.1[i],dQ.2 ⟨i,by rw[dK]; omega,by rw[fk]⟩,by simp[k]⟩
 rw[d] at e
 (repeat' split at e)<;>first|omega|simp_all
def aiG {α β:Type} (f g:α->rT β):∀l:rT α,(∀a∈l,(f a).length<=(g a).length)->(l.flatMap f).length<=(l.flatMap g).length
 |[],_=>du _
 |a::l,h=>by
  rw[dR,dR,dw,dw];have:=h a (by simp);have:=aiG f g l fun c d=>h c (by simp[d]);omega
def lt_len:∀{x y:rT Int},x.Pairwise (·<·)->(∀a∈x,a∈y)->x.length<=y.length:=by
 intro x y c h;exact(List.Nodup.length_le_of_subset (c.imp fun h=>by omega) h)
def jt.less (h:jt b) (ids:rT Int):jt (less b ids):=by
 have l:∀c∈(ZzM.less b ids).2.2.2.2.1,c∈b.2.2.2.2.1:=fun c o=>(fD.1 o).1;have p:(ZzM.less b ids).2.2.2.2.1.length<=b.2.2.2.2.1.length:=eW _ _
 have n:∀g,(ĉ (ZzM.less b ids) g).length<=(ĉ b g).length:=fun g=>lt_len (Qi _ g) fun d hd=>by
  rcases nV.1 hd with e|⟨c,o,y,h2⟩|B
  ·exact nV.2 (.inl e)
  ·exact nV.2 (.inr (.inl ⟨c,l c o,y,h2⟩))
  ·exact nV.2 (.inr (.inr B))
 have f:(Ă (ZzM.less b ids)).length<=(Ă b).length:=aiG _ _ _ fun g _=>by rw[eF,eF]; exact n g
 have F:=h.nodes;have G:=h.nC;refine⟨h.film,h.nG,h.nU,h.nL,Nat.le_trans p h.nC,h.nK,h.gauge,h.ids,h.uses,h.loans,fun i c o=>?_,h.looks,Nat.le_trans f F,by omega⟩;have v:=l c (List.mem_of_getElem? o);obtain⟨j,D,t⟩:=List.mem_iff_getElem.1 v;have s:=h.compares j c (by rw[List.getElem?_eq_getElem D,t]);unfold jp at s ⊢
 split at s
 ·omega
 rename_i y
 split at s
 ·omega
 rw[if_neg y,if_neg ?_]
 ·exact s
 ·intro r;obtain⟨x,A,E⟩:=eP.1 r;obtain⟨k,C,q⟩:=dQ.1 A;rw[dK] at C;rw[fk] at q;obtain⟨hi,u⟩:=dC.1 o;have z:=fL.1 ((h.distinct.sublist gD:(ZzM.less b ids).2.2.2.2.1.Pairwise fun a c=>a.1≠c.1)) k i (by omega) hi (by omega);rw[q,u] at z;exact z (eq_of_beq E)
end
abbrev zC:Cmp:=((0:Int),(0:Int),[],[],(0:Int),(0:Int),(0:Int),(0:Int))
section
variable {a:rT Cmp} {b:rT Int}
def IC (b:rT Int) (a:rT Cmp):rT Cmp:=a.filter fun c=>!b.contains c.1
def abN (ha:a.length<=1000000) (hb:b.length<=1000000) (K:rT Cmp->rF (æ×Int)):∀z:Nat,z<a.length->IC b (a.take z)=a.take z->(∀c,a[z]?=some c->b.contains c.1=true) ->
 Ê (fun(g:Int×Int×rT Cmp) k=>ź b g.1 g.2.1 g.2.2 (fun u t r=>k (u,t,r)) (fun d=>Ô ((ile (0:Int) d.1)&&(ile d.1 (ê d.2))) (Ô ((ile (0:Int) d.1)&&(ile d.1 (ê (List.take (Int.toNat d.1) d.2++List.replicate (List.length d.2-(Int.toNat d.1)) zC++List.drop ((Int.toNat d.1)+(List.length d.2-(Int.toNat d.1))) d.2)))) (K (List.take (Int.toNat d.1) (List.drop 0 (List.take (Int.toNat d.1) d.2++List.replicate (List.length d.2-(Int.toNat d.1)) zC++List.drop ((Int.toNat d.1)+(List.length d.2-(Int.toNat d.1))) d.2))))))) ((z:Int),((z:Int)+1),a)=K (IC b a):=by
 intro z F G B
 refine ķ (fun x:Int×Int×rT Cmp=>∃i j:Nat,x.1=i/\x.2.1=j/\i<j/\j<=a.length/\x.2.2.length=a.length/\x.2.2.take i=IC b (a.take j)/\x.2.2.drop j=a.drop j) (fun x=>a.length-x.2.1.toNat) ?_
  ⟨z,z+1,rfl,by simp,by omega,by omega,rfl,?_,rfl⟩
 ·rintro⟨N,M,s⟩ ⟨i,j,E,h2,I,H,v,q,hd⟩;simp only at E h2 v q hd;subst E h2;rcases dV j a.length with A|A
  ·refine .inr ?_
   have o:s[j]?=some a[j]:=by
    have D:(s.drop j)[0]?=(a.drop j)[0]?:=by rw[hd]
    rw[fh,fh] at D;simpa[dv A] using D
   have e:j<s.length:=by omega
   have p:ê s=((s.length:Nat):Int):=rfl
   have n:IC b (a.take (j+1))=IC b (a.take j)++if b.contains a[j].1 then[] else[a[j]]:=by
    rw[take_succ (dv A),IC,IC,f9];congr 1
    cases h:b.contains a[j].1 with
    |true=>simp only[fu,h,eo,dN,if_false,fE,if_true]
    |false=>simp only[fu,h,Bool.not_false,dN,if_false,fE,if_true]
   cases h:b.contains a[j].1 with
   |true =>
    refine⟨(i,(j:Int)+1,s),⟨i,j+1,rfl,by simp,by omega,by omega,v,?_,?_⟩,by simp; omega,fun C=>?_⟩
    ·rw[n,h]; simpa using q
    ·have:=congrArg (List.drop 1) hd;simpa[fR,Nat.add_comm] using this
    ·try dsimp only
     unfold ź;rw[Ñ e,p,kr e,ė o,η hb,Á,h];simp only[Bool.not_true,Ř];rw[Í e (by omega)]
   |false =>
    have f:i<s.length:=by omega
    refine⟨((i:Int)+1,(j:Int)+1,s.set i a[j]),⟨i+1,j+1,by simp,by simp,by omega,by omega,by simpa using v,?_,?_⟩,by simp; omega,fun C=>?_⟩
    ·show List.take (i+1) (s.set i a[j])=_;rw[n,h,List.take_add_one,gS,List.take_set_of_le (du i),q];simp[f]
    ·show List.drop (j+1) (s.set i a[j])=_;rw[List.drop_set_of_lt (by omega)];have:=congrArg (List.drop 1) hd;simpa[fR,Nat.add_comm] using this
    ·try dsimp only
     unfold ź;rw[Ñ e,p,kr e,ė o,η hb,Á,h];simp only[Bool.not_false,mP];rw[kr f,ė (List.getElem?_eq_getElem f),Í f (by omega),Í e (by omega),Int.toNat_natCast]
  ·refine .inl fun C=>?_
   have y:j=s.length:=by omega
   try dsimp only
   unfold ź;rw[y,ß];dsimp only
   have L:((ile (0:Int) (i:Int))&&(ile (i:Int) (ê s)))=true:=by simp[ile,ê]; omega
   rw[Β L]
   have J:((ile (0:Int) (i:Int))&&(ile (i:Int) (ê (List.take (Int.toNat (i:Int)) s++List.replicate (List.length s-(Int.toNat (i:Int))) zC++List.drop ((Int.toNat (i:Int))+(List.length s-(Int.toNat (i:Int)))) s))))=true:=by
    simp[ile,ê]; omega
   rw[Β J,dL,gP,dH,fq (by simp; omega),List.take_take,Nat.min_self,q];rw[eh (by omega)]
 ·show List.take z a=IC b (a.take (z+1));have l:a[z]?=some a[z]:=dv F;rw[take_succ l,IC,f9];have B:=B _ l
  have:List.filter (fun c:Cmp=>!b.contains c.1) [a[z]]=[]:=by simp only[fu,B,eo,dN,if_false,fE]
  rw[this,dO];exact G.symm
end
def WZ (b:æ) (ids:rT Int):æ×Int:=if š b≠0 then(book0,š b) else(less b ids,0)
def chkK (b:æ) (y:rT Cmp):rF (æ×Int):=Â (ē (b.1,b.2.1,b.2.2.1,b.2.2.2.1,y,b.2.2.2.2.2)) fun c=>ifb (ine c (0:Int)) (some ((((0:Int),(0:Int)),[],[],[],[],[]),c)) (some ((b.1,b.2.1,b.2.2.1,b.2.2.2.1,y,b.2.2.2.2.2),(0:Int)))
def aftK (b:æ) (ids:rT Int) (d:Int):rF (æ×Int):=ifb (ieq d (-1:Int)) (chkK b b.2.2.2.2.1) (ck (d+(1:Int)) fun j=>Ê (fun(e:Int×Int×rT Cmp) f=>ź ids e.1 e.2.1 e.2.2 (fun i h g=>f (i,h,g)) (fun c=>Ô ((ile (0:Int) c.1)&&(ile c.1 (ê c.2))) (Ô ((ile (0:Int) c.1)&&(ile c.1 (ê (List.take (Int.toNat c.1) c.2++List.replicate (List.length c.2-(Int.toNat c.1)) zC++List.drop ((Int.toNat c.1)+(List.length c.2-(Int.toNat c.1))) c.2)))) (chkK b (List.take (Int.toNat c.1) (List.drop 0 (List.take (Int.toNat c.1) c.2++List.replicate (List.length c.2-(Int.toNat c.1)) zC++List.drop ((Int.toNat c.1)+(List.length c.2-(Int.toNat c.1))) c.2))))))) (d,j,b.2.2.2.2.1))
set_option maxHeartbeats 1000000 in
def agd {b:æ} (h:In b) {ids:rT Int} (r:ids.length<=1000):vO b ids=some (WZ b ids):=by
 have f:=h.size;have t:=f.gauges; have h2:=f.uses; have H:=f.loans; have G:=f.compares; have F:=f.looks;unfold vO DW WZ;rw[Mq f h.num,Á]
 by_cases g:š b=0
 ·have C:=(Ļ b).1 g;rw[Ï (by simp[ine,g]),Ë (by omega),Am.iff_true,Ë (by omega),Am.iff_true,Ë (by omega),Am.iff_true,Ë (by omega),Am.iff_true,Ë (by omega),Am.iff_true,if_neg (show ¬(š b≠0) from fun h=>h g)]
  have k:∀y:rT Cmp,y=IC ids b.2.2.2.2.1->chkK b y=some (less b ids,0):=by
   intro y A;subst A;unfold chkK;rw[show ē (b.1,b.2.1,b.2.2.1,b.2.2.2.1,IC ids b.2.2.2.2.1,b.2.2.2.2.2)=ē (less b ids) from rfl,Mq (aik f) h.num,Á,(Ļ _).2 (C.less ids)];rfl
  refine ŋ b.2.2.2.2.1 (fun _=>b.2.2.2.2.1) _ rfl (fun i d hi hd v=>?_) (fun v=>?_)
  ·dsimp only;unfold mO;obtain⟨E,D⟩:=f.piles d (List.mem_of_getElem? hd)
   have u:b.2.2.2.2.1.set i d=b.2.2.2.2.1:=by
    obtain⟨h,rfl⟩:=dC.1 hd;exact List.set_getElem_self h
   rw[Ñ hi,kr hi,ė hd,Ë (by omega),Am.iff_true,Ë (by omega),Am.iff_true,kr hi,ė hd,dL];rw[show(d.1,d.2.1,d.2.2.1,d.2.2.2)=d from rfl,u,kr hi,ac2 hd,Í hi (by omega)];rw[show(d.1,d.2.1,d.2.2.1,d.2.2.2.1,d.2.2.2.2)=d from rfl,u]
  ·try dsimp only
   unfold mO;rw[ß];dsimp only;refine Eq.trans (lW b.2.2.2.2.1 (fun c=>ids.contains c.1) (aftK b ids) (chkK b b.2.2.2.2.1) (fun i c hi e l=>?_) (fun l=>?_)) ?_
   ·try dsimp only
    unfold mN;rw[Ñ hi,kr hi,ė e,η (by omega),Á,Í hi (by omega),ĕ];rfl
   ·try dsimp only
    unfold mN;rw[ß];rfl
   ·cases s:b.2.2.2.2.1.findIdx? (fun c=>ids.contains c.1) with
    |none =>
     refine k _ ?_;rw[IC,f6.2];intro x o;have:=fm.1 s x o;rw[this]; rfl
    |some z =>
     obtain⟨n,q,p⟩:=ej.1 s
     have t:ieq (z:Int) (-1)=false:=by simp[ieq]
     try dsimp only
     unfold aftK;rw[Ï t,Í n (by omega),abN (by omega) (by omega) (chkK b) z n ?_ ?_]
     ·exact k _ rfl
     ·rw[IC,f6];intro x o;obtain⟨j,B,rfl⟩:=dQ.1 o;rw[dK] at B;rw[fk];have:=p j (by omega);simpa using this
     ·intro c e;rw[dv n] at e;rw[<-Option.some.inj e]; exact q
 ·rw[Ù (by simp[ine,g]),if_pos g];rfl
def aap {l m:rT (Int×Int)} (j:l.length<=1000000):jW l m=some (decide (l=m)):=by
 unfold jW Cd;rw[â,â]
 by_cases d:l.length=m.length
 ·rw[Ï (by simp[ine,d])];refine fg (jk l (fun i a=>if m[i]?=some a then none else some false) some (some true) (fun i a hi ha g=>?_) (fun g=>?_)) ?_
  ·try dsimp only
   unfold jh;have f:m[i]?=some m[i]:=List.getElem?_eq_getElem (by omega);rw[Ñ hi,Ç ha,Ç f,Í hi (by omega),f,ĕ]
   have e:(!(iK a.1 m[i].1&&(iK a.2 m[i].2&&true)))=decide (¬(m[i]=a)):=by
    rw[eS];simp only[iK,Bool.and_true,eQ,gk,decide_eq_false_iff_not,decide_eq_true_eq];constructor
    ·intro h e; rw[e] at h; simp at h
    ·intro h
     by_cases c:a.1=m[i].1
     ·by_cases h2:a.2=m[i].2
      ·exact absurd (Prod.ext c h2).symm h
      ·exact .inr h2
     ·exact .inl c
   rw[e]
   by_cases h:m[i]=a
   ·simp[h]
   ·simp[h]
  ·try dsimp only
   unfold jh;rw[ß]
  ·cases h:Ć (fun i a=>if m[i]?=some a then none else some false) 0 l with
   |none=>simp[Xy d h]
   |some b =>
    obtain⟨c,h2⟩:=Xx h;simp[c,h2]
 ·rw[Ù (by simp[ine]; omega)];have:l≠m:=fun e=>d (by rw[e]);simp[this]
section
variable {m:uW} {w:Way} {ρ:Type}
def acb (m:uW) (x:Mx):uW:=(m.1,m.2++[x])
abbrev mix0:uW:=(book0,[])
def wT (m:uW) (x:Mx):uW×Int:=if ę m≠0 then(mix0,ę m) else if ę (acb m x)≠0 then(mix0,ę (acb m x)) else(acb m x,0)
def al9 (f:In m.1) (n:m.2.length<=1000) {x:Mx} (l:x.2.length<=1000):L9 m x=some (wT m x):=by
 unfold L9 ac7 wT;rw[adY f n,Á]
 by_cases e:ę m=0
 ·have h:=(jq m).1 e;have o:=h.n4
  have j:AD m.1=some m.1:=by
   unfold AD TH;rw[agd f (by simp),Á,WZ,if_neg (by simp[(Ļ _).2 h.good])];unfold less;rw[List.filter_eq_self.2 (by simp)]
  rw[Ï (by simp[ine,e]),if_neg (by simp[e]),j,Á,Β (Ë (by omega)),Β (Ë (by simp; omega))]
  have g:∀y∈m.2++[x],y.2.length<=1000:=fun y c=>by
   rcases dA.1 c with c|c
   ·have:=h.len5 y c; omega
   ·rw[dB.1 c]; exact l
  refine ŋ (m.2++[x]) (fun i=>(m.2++[x]).take i) _ rfl (fun i y hi c k=>?_) (fun k=>?_)
  ·try dsimp only
   unfold vl;have:=g y (List.mem_of_getElem? c);rw[List.length_append,List.length_singleton] at hi;rw[â,List.length_append,List.length_singleton,Ù (by simp[ilt]; omega),show ê (m.2++[x])=((m.2.length+1:Nat):Int) by simp[ê],kr hi,ė c,Β (Ë (by omega)),Β (Ë (by simp; omega)),ä (by omega) (by omega),take_succ c]
  ·try dsimp only
   unfold vl;rw[ß,List.take_length];dsimp only;rw[show((m.1,m.2++[x]):uW)=acb m x from rfl,show Ģ (acb m x)=_ from adY (m:=acb m x) f (by simp[acb]; omega),Á]
   by_cases d:ę (acb m x)=0
   ·rw[Ï (by simp[ine,d]),if_neg (by simp[d])]
   ·rw[Ù (by simp[ine,d]),if_pos d]; rfl
 ·rw[Ù (by simp[ine,e]),if_pos e]; rfl
end
def zA {ρ α:Type} (l:rT α) (K:rF ρ) {f:Int->(Int->rF ρ)->rF ρ} (h:∀(i:Nat) (a:α),i<l.length->l[i]?=some a->∀c,f i c=c ((i:Int)+1)) (d:∀c,f l.length c=K):Ê f 0=K:=by
 refine fg (lW l (fun _=>false) (fun _=>K) K (fun i a hi ha c=>by rw[h i a hi ha c]; rfl) d) ?_;rw[fm.2 (by simp)]
def SM {l:rT (Int×Int)} (c:l.length<=1000000):jW l l=some true:=by rw[aap c]; simp
def wd {l:rT Int} (c:l.length<=1000000):ĸ l l=some true:=by rw[ace c]; simp
def LK {c:Cmp} (e:c.2.2.1.length<=1000) (d:c.2.2.2.1.length<=1000):kd c c=some true:=by
 unfold kd wE;rw[wd (by omega),Á,wd (by omega),Á];simp[ieq,iK]
def ajT {b:æ} (d:ζ b):G9 b b=some true:=by
 have j:=d.gauges; have h2:=d.uses; have h:=d.loans; have g:=d.compares; have f:=d.looks;unfold G9 YS;rw[Ï (by simp[iK]),Ï (show ine (Ó b.2.1) (Ó b.2.1)=false by simp[ine]),Ï (show ine (Ó b.2.2.1) (Ó b.2.2.1)=false by simp[ine]),Ï (show ine (Ó b.2.2.2.1) (Ó b.2.2.2.1)=false by simp[ine]),Ï (show ine (Ó b.2.2.2.2.1) (Ó b.2.2.2.2.1)=false by simp[ine])];refine zA b.2.1 _ (fun i a hi ha c=>?_) (fun c=>?_)
 ·try dsimp only
  unfold rO;rw[Ñ hi,Ç ha,Ç ha,Í hi (by omega)];simp[iK]
 ·try dsimp only
  unfold rO;rw[ß];dsimp only;refine zA b.2.2.1 _ (fun i a hi ha c=>?_) (fun c=>?_)
  ·try dsimp only
   unfold rN;rw[Ñ hi,Ç ha,Ç ha,Í hi (by omega)];simp[iK]
  ·try dsimp only
   unfold rN;rw[ß];dsimp only;refine zA b.2.2.2.1 _ (fun i a hi ha c=>?_) (fun c=>?_)
   ·try dsimp only
    unfold rM;rw[Ñ hi,Ç ha,Ç ha,Í hi (by omega)];simp[iK]
   ·try dsimp only
    unfold rM;rw[ß];dsimp only;refine zA b.2.2.2.2.1 _ (fun i a hi ha c=>?_) (fun c=>?_)
    ·try dsimp only
     unfold rL;have e:=d.piles a (List.mem_of_getElem? ha);rw[Ñ hi,Ç ha,Ç ha,LK e.1 e.2,Á,Í hi (by omega)];rfl
    ·try dsimp only
     unfold rL;rw[ß];dsimp only;rw[SM (by omega),Á]
def bigP (c:Cmp):Bool:=decide (9<c.2.2.1.length)||decide (9<c.2.2.2.1.length)
def MA (m:uW):Bool:=decide (m.1.2.1.length<=6)&&(decide (m.1.2.2.1.length<=20)&&(decide (m.1.2.2.2.1.length<=6)&&(decide (m.1.2.2.2.2.1.length<=8)&&(decide (m.1.2.2.2.2.2.length<=6)&&decide (m.2.length<=6)))))
def Xt (m:uW):Bool:=!((m.1.2.2.2.2.1.take 60).any bigP)&&(!((m.2.take 8).any fun x=>decide (9<x.2.length))&&MA m)
def agF (m:uW):AB m=some (Xt m):=by
 unfold AB TF
 have d:(ifb (ile (Ó m.1.2.1) (6:Int)) (ifb (ile (Ó m.1.2.2.1) (20:Int)) (ifb (ile (Ó m.1.2.2.2.1) (6:Int)) (ifb (ile (Ó m.1.2.2.2.2.1) (8:Int)) (ifb (ile (Ó m.1.2.2.2.2.2) (6:Int)) (some (ile (Ó m.2) (6:Int))) (some false)) (some false)) (some false)) (some false)) (some false))=some (MA m):=by
  have e:∀(n m:Nat),ile (n:Int) (m:Int)=decide (n<=m):=fun n m=>by simp[ile]
  unfold MA;rw[â,â,â,â,â,â,show(6:Int)=((6:Nat):Int) from rfl,show(20:Int)=((20:Nat):Int) from rfl,show(8:Int)=((8:Nat):Int) from rfl,e,e,e,e,e,e];generalize decide (m.1.2.1.length<=6)=y;generalize decide (m.1.2.2.1.length<=20)=t;generalize decide (m.1.2.2.2.1.length<=6)=s;generalize decide (m.1.2.2.2.2.1.length<=8)=r;generalize decide (m.1.2.2.2.2.2.length<=6)=q
  cases y<;>cases t<;>cases s<;>cases r<;>cases q<;>rfl
 rw[d];refine fg (ġ (m.1.2.2.2.2.1.take 60) bigP (fun _=>some false) (some false) (some (!((m.2.take 8).any fun x=>decide (9<x.2.length))&&MA m)) (fun _=>rfl) (fun i c hi p A=>?_) (fun A=>?_)) ?_
 ·try dsimp only
  unfold oC;rw[List.length_take] at hi
  have g:m.1.2.2.2.2.1[i]?=some c:=by rw[eI] at p; split at p<;>simp_all
  rw[Ñ (show i<m.1.2.2.2.2.1.length by omega),Ù (by simp[ilt]; omega),Ç g,Ç g,ä (by omega) (by omega),ĕ,â,â];unfold bigP
  by_cases j:9<c.2.2.1.length
  ·rw[if_pos (by simp[igt]; omega),if_pos (by simp[j])]
  ·rw[if_neg (by simp[igt]; omega),ĕ]
   by_cases h2:9<c.2.2.2.1.length
   ·rw[if_pos (by simp[igt]; omega),if_pos (by simp[h2])]
   ·rw[if_neg (by simp[igt]; omega),if_neg (by simp[j,h2])]
 ·refine fg ?_ (fg (ġ (m.2.take 8) (fun x=>decide (9<x.2.length)) (fun _=>some false) (some false) (some (MA m)) (f:=fun v B=>lq m.2 v (fun u=>B u) (fun z=>some z) (fun _=>some (MA m))) (fun _=>rfl) (fun i x hi o k=>?_) (fun k=>?_)) ?_)
  ·try dsimp only
   unfold oC;rw[List.length_take,ĕ]
   split
   ·rename_i h
    have h':60<m.1.2.2.2.2.1.length:=by rw[â] at h; simp[ilt] at h; omega
    rw[Ï (by simp[ilt]; omega)]
   ·rfl
  ·try dsimp only
   unfold lq;rw[List.length_take] at hi
   have l:m.2[i]?=some x:=by rw[eI] at o; split at o<;>simp_all
   rw[Ñ (show i<m.2.length by omega),Ù (by simp[ilt]; omega),Ç l,ä (by omega) (by omega),ĕ,â]
   by_cases j:9<x.2.length
   ·rw[if_pos (by simp[igt]; omega),if_pos (by simp[j])]
   ·rw[if_neg (by simp[igt]; omega),if_neg (by simp[j])]
  ·try dsimp only
   unfold lq;rw[List.length_take,ĕ]
   split
   ·rename_i h
    have h':8<m.2.length:=by rw[â] at h; simp[ilt] at h; omega
    rw[Ï (by simp[ilt]; omega)]
   ·rfl
  ·cases List.any (List.take 8 m.2) (fun x=>decide (9<x.2.length))<;>rfl
 ·unfold Xt
  cases List.any (List.take 60 m.1.2.2.2.2.1) bigP<;>rfl
structure Small7 (m:uW):Prop where
 inn:In m.1
 n6:m.2.length<=6
 l9:∀x∈m.2,x.2.length<=9
 c8:m.1.2.2.2.2.1.length<=8
def agG {m:uW} (h:Xt m=true) (f:∀g∈m.1.2.1,I64 g.2.2.2.2.1.1):Small7 m:=by
 simp only[Xt,MA,dt,eQ,decide_eq_true_eq] at h;obtain⟨h0,d,h2,o,n,k,l,j⟩:=h;refine⟨⟨⟨by omega,by omega,by omega,by omega,by omega,fun c i=>?_⟩,f⟩,j,fun x e=>?_,k⟩
 ·rw[eh (by omega)] at h0;have:=fB.1 h0 c i;simp[bigP] at this;omega
 ·rw[eh (by omega)] at d;have:=fB.1 d x e;simp at this;omega
section
variable {ρ:Type}
def anp (b:æ) (x:Mx):Int :=
 if !(inP x.1 0 19999&&inP x.2.length 2 5) then 1 else
 if ¬x.2.Pairwise (·<·) then 1 else
 if x.2.any (fun g=>(ą b g).isNone) then 5 else
 if x.2.any (fun g=>ĭ b g x.1 != 0) then 4 else 0
def mixE_F (b:æ) (l:rT Mx) (i:Nat) (x:Mx):mixE b l i x=if anp b x≠0 then anp b x else if ku (fun y=>y.1) l i x then 6 else if x.2.any (fun g=>(Ń b g x.1).isSome||(Ń b g (x.1+1)).isSome) then 9 else 0:=by
 unfold mixE anp
 split
 ·rfl
 ·split
  ·rfl
  ·split
   ·rfl
   ·split<;>rfl
def anq {b:æ} (s:ζ b) {x:Mx} (t:x.2.length<=1000000):Ma b x=some (anp b x):=by
 have v:=s.gauges;unfold Ma ac8 anp;rw[uV,Á,uV,Á,â]
 cases y:inP x.1 0 19999 with
 |false=>rfl
 |true =>
  cases h2:inP (x.2.length:Int) 2 5 with
  |false=>rfl
  |true =>
   rw[Ï (by rfl),Ï (by rfl),if_neg (by simp)];refine(adw (l:=x.2) (K:=some 1) (k1:=if x.2.any (fun g=>(ą b g).isNone) then some 5 else if x.2.any (fun g=>ĭ b g x.1 != 0) then some 4 else some 0) (fun i a c ha r d=>?_) (fun n u d=>?_)).trans ?_
   ·have hi:=(dC.1 r).1
    try dsimp only
    unfold vp;rw[â,Ù (decide_eq_true (by omega)),show((i:Int)+1)=((i+1:Nat):Int) by omega,Ç r,show ∀f:Int->rF Int,ck (((i+1:Nat):Int)-1) f=f (i:Int) from fun f=>by rw[ä (by omega) (by omega)]; congr 1; omega,Ç ha,ä (by omega) (by omega),ĕ];simp[ile]
   ·try dsimp only
    unfold vp;rw[â,Ï (decide_eq_false (by omega))]
    refine(ġ x.2 (fun g=>(ą b g).isNone) (fun _=>some 5) (some 5) _ (fun _=>rfl) (fun i a hi ha d=>?_) (fun d=>?_))<;>(try dsimp only)<;>unfold DD
    ·rw[Ñ hi,Ç ha,show jY ((b.1.1,b.1.2),b.2.1,b.2.2.1,b.2.2.2.1,b.2.2.2.2.1,b.2.2.2.2.2) a=jY b a from rfl,HA (by omega),Á,Í hi (by omega),ĕ];rcases uH (b:=b) (id:=a) with⟨j,g,q,_,p⟩|⟨q,p⟩
     ·rw[q,p]; simp[ilt]; omega
     ·rw[q,p]; simp[ilt]
    ·rw[ß]
     refine(ġ x.2 (fun g=>ĭ b g x.1 != 0) (fun _=>some 4) (some 4) _ (fun _=>rfl) (fun i a hi ha d=>?_) (fun d=>?_))<;>(try dsimp only)<;>unfold DC
     ·rw[Ñ hi,Ç ha,show iE ((b.1.1,b.1.2),b.2.1,b.2.2.1,b.2.2.2.1,b.2.2.2.2.1,b.2.2.2.2.2) a x.1=iE b a x.1 from rfl,zW (by omega),Á,Í hi (by omega),ĕ]
      try simp[ine]
     ·rw[ß]
   ·by_cases h:x.2.Pairwise (·<·)
    ·rw[if_pos h,if_neg (show ¬¬x.2.Pairwise (·<·) from fun e=>e h)]
     by_cases o:x.2.any (fun g=>(ą b g).isNone)=true
     ·rw[if_pos o,if_pos o]
     ·rw[if_neg o,if_neg o]
      by_cases k:x.2.any (fun g=>ĭ b g x.1 != 0)=true
      ·rw[if_pos k,if_pos k]
      ·rw[if_neg k,if_neg k]
    ·rw[if_neg h,if_pos h]
def r7_L1 {b:æ} (k:b.2.2.2.1.length<=1000000) {x:Mx} (u:x.2.length<=5) (hd:0<=x.1/\x.1<=19999) {p:Nat} (s:p<=1000000000) (j:Int->rF ρ) (k1:Int->rF ρ) :
 Ê (fun(v:Int×Int) r=>ψ b.1.1 b.1.2 b.2.1 b.2.2.1 b.2.2.2.1 b.2.2.2.2.1 b.2.2.2.2.2 x.1 x.2 v.1 v.2 (fun a b=>r (a,b)) j k1) ((p:Int),(0:Int)) =
  if x.2.any (fun g=>(Ń b g x.1).isSome||(Ń b g (x.1+1)).isSome) then j 9 else k1 ((p*Uy x.2.length:Nat):Int):=by
 refine Ap x.2 (fun i=>((p*Uy i:Nat):Int)) _ (fun i=>(x.2.take i).any (fun g=>(Ń b g x.1).isSome||(Ń b g (x.1+1)).isSome)=false) (by simp[Uy]) (by simp) (fun i g hi c f q=>?_) (fun f q=>?_)
 ·have t:=abF (n:=i) (by omega);have hb:p*Uy i<=1000000000*120:=fT s t;have h2:p*Uy i*(i+1)<=1000000000*120*6:=fT hb (by omega)
  have e:((p*Uy i:Nat):Int)*((i:Int)+1)=((p*Uy i*(i+1):Nat):Int):=by simp
  try dsimp only
  unfold ψ
  rw[Ñ hi,Ç c,show ∀d,iY ((b.1.1,b.1.2),b.2.1,b.2.2.1,b.2.2.2.1,b.2.2.2.2.1,b.2.2.2.2.2) g d=iY b g d from fun _=>rfl,Mo k,Á,Ç c,ä (by omega) (by omega),
   show ∀d,iY ((b.1.1,b.1.2),b.2.1,b.2.2.1,b.2.2.2.1,b.2.2.2.2.1,b.2.2.2.2.2) g d=iY b g d from fun _=>rfl,Mo k,Á]
  cases h:Ń b g x.1 with
  |some l =>
   refine .inl ?_;rw[if_pos (eP.2 ⟨g,dJ c,by rw[h]; rfl⟩)];rfl
  |none =>
   cases o:Ń b g (x.1+1) with
   |some l =>
    refine .inl ?_;rw[if_pos (eP.2 ⟨g,dJ c,by rw[h,o]; rfl⟩)];rfl
   |none =>
    refine .inr ⟨by rw[take_succ c,List.any_append,f]; simp[h,o],?_⟩;dsimp only;rw[Ï (by rfl),Ï (by rfl),ä (by omega) (by omega),e,ä (by omega) (by omega),ä (by omega) (by omega),Uy,Nat.mul_assoc]
 ·try dsimp only
  unfold ψ;rw[List.take_length] at f;rw[ß,f]; rfl
def I8 {m:uW} (I:ζ m.1) (W:m.2.length<=1000) (O:∀x∈m.2,x.2.length<=1000000):Ο m=some (ę m):=by
 unfold Ο TL ę;rw[aj6 I,Á]
 by_cases C:š m.1=0
 ·have P:=(Ļ _).1 C;have T:=P.nL;rw[Ï (by simp[ine,C]),if_neg (by simp[C])]
  by_cases M:4<m.2.length
  ·rw[Ù (by simp[igt,â]; omega),if_pos M]
  ·rw[Ï (by simp[igt,â]; omega),if_neg M];refine Ap m.2 (fun i=>((xA (m.2.take i):Nat):Int)) _ (fun i=>∀j y,j<i->m.2[j]?=some y->mixE m.1 m.2 j y=0) (by simp[xA]) (fun j y h _=>by omega) (fun i x hi p s F=>?_) (fun s F=>?_)
   ·have V:∀y∈m.2.take i,y.2.length<=5:=fun y k=>by
     obtain⟨j,J,rfl⟩:=dQ.1 k;rw[dK] at J;rw[fk];exact LY (s j _ (by omega) (dv (by omega)))
    have hb:=Ve (l:=m.2.take i) (n:=4) (by rw[dK]; omega) V
    have S:(120:Nat) ^ 4=207360000:=by decide
    try dsimp only
    unfold oF;rw[Ñ hi,Ç p,show(((m.1.1.1,m.1.1.2),m.1.2.1,m.1.2.2.1,m.1.2.2.2.1,m.1.2.2.2.2.1,m.1.2.2.2.2.2):æ)=m.1 from rfl,anq I (O x (List.mem_of_getElem? p)),Á];have d:=mixE_F m.1 m.2 i x
    by_cases o:anp m.1 x=0
    case neg =>
     rw[if_pos o] at d;refine .inl ?_;rw[Ù (by simp[ine,o]),EM p s (by rw[d]; exact o),d]
    rw[if_neg (by simp[o])] at d;rw[Ï (by simp[ine,o])]
    have A:x.2.length<=5/\0<=x.1/\x.1<=19999:=by
     unfold anp at o
     split at o
     ·simp at o
     ·rename_i H;simp only[eQ,Bool.not_eq_false,dt,inP,decide_eq_true_eq] at H
      have G:x.2.length<=5:=by omega
      exact⟨G,H.1.1,H.1.2⟩
    have r:∀Z R:rF Int,(∀e,MY m.1 m.2=some e->R=some e)->(∀(c:ku (fun y=>y.1) m.2 i x=false),Z=Ê (fun(v:Int×Int) N=>ψ m.1.1.1 m.1.1.2 m.1.2.1 m.1.2.2.1 m.1.2.2.2.1 m.1.2.2.2.2.1 m.1.2.2.2.2.2 x.1 x.2 v.1 v.2 (fun a b=>N (a,b)) (fun z=>some z) (fun D=>ck ((i:Int)+1) fun E=>F (D,E))) (((xA (m.2.take i):Nat):Int),(0:Int)))->(ku (fun y=>y.1) m.2 i x=true->Z=some 6) ->
     Z=R\/((∀j y,j<i+1->m.2[j]?=some y->mixE m.1 m.2 j y=0)/\Z=F (((xA (m.2.take (i+1)):Nat):Int),(i:Int)+1)):=by
     intro Z R K U G
     cases c:ku (fun y=>y.1) m.2 i x with
     |true =>
      rw[c,if_pos rfl] at d;refine .inl ?_;rw[G c,K _ (EM p s (by rw[d]; simp)),d]
     |false =>
      rw[c,if_neg (by simp)] at d;rw[U c,r7_L1 (by omega) A.1 A.2 (by omega)]
      cases L:x.2.any (fun g=>(Ń m.1 g x.1).isSome||(Ń m.1 g (x.1+1)).isSome) with
      |true =>
       rw[L,if_pos rfl] at d;refine .inl ?_;rw[if_pos rfl,K _ (EM p s (by rw[d]; simp)),d]
      |false =>
       rw[L,if_neg (by simp)] at d;refine .inr ⟨fun j y J k=>?_,?_⟩
       ·rcases dV j i with h|h
        ·exact s j y h k
        ·have:j=i:=by omega
         subst this;rw[p] at k; cases k;exact d
       ·rw[if_neg (by simp),Í hi (by omega),HM p]
    refine r _ _ (fun e Q=>by rw[Q]) (fun c=>?_) (fun c=>?_)
    ·by_cases h0:0<i
     ·obtain⟨q,B⟩:=tc hi h0
      have t:¬x.1<=q.1:=by
       intro e;unfold ku at c;rw[B] at c;simp[h0,e] at c
      have u:∀f:Int->rF Int,ck ((i:Int)-1) f=f ((i-1:Nat):Int):=fun f=>by rw[ä (by omega) (by omega)]; congr 1; omega
      rw[Ù (decide_eq_true (by omega)),u,Ç B,Ï (decide_eq_false t)]
     ·rw[Ï (decide_eq_false (by omega))]
    ·have h0:0<i:=by
      unfold ku at c;simp only[Bool.and_eq_true,decide_eq_true_eq] at c;exact c.1
     obtain⟨q,B⟩:=tc hi h0
     have t:x.1<=q.1:=by
      unfold ku at c;rw[B] at c;simpa[h0] using c
     have u:∀f:Int->rF Int,ck ((i:Int)-1) f=f ((i-1:Nat):Int):=fun f=>by rw[ä (by omega) (by omega)]; congr 1; omega
     rw[Ù (decide_eq_true (by omega)),u,Ç B,Ù (decide_eq_true t)]
   ·try dsimp only
    unfold oF;rw[ß,Dl fun j y k=>s j y (List.getElem?_eq_some_iff.1 k).1 k,List.take_length];dsimp only;rw[ĕ];simp only[igt,decide_eq_true_eq]
    by_cases h:150<xA m.2
    ·rw[if_pos (by omega),if_pos h]
    ·rw[if_neg (by omega),if_neg h]
 ·rw[Ù (by simp[ine,C]),if_pos C]
end
end Go.Proofs.ZzM
end

noncomputable section
namespace Go.Proofs.ZzM
open Go Go.Am
section
variable {ρ:Type}
def aaU {l:rT Mx} {i:Nat} {x:Mx} (d:l[i]?=some x) {s:BL} (e:∀n∈x.2,I64 n) (q:x.2.length<=10) (p:s.length<=1000000) (K:ByteArray->rF ρ) :
 Ê (fun(v:ByteArray×Int) h=>lM (i:Int) l v.1 v.2 (fun a b=>h (a,b)) K) (ofL s,(0:Int))=K (ofL (s++spL 32 (iM x.2))):=by
 rw[acu];refine qm x.2 (fun n=>32::Lib.itoa n) (by omega) (fun n c=>?_) (by omega) (fun j n t f ha o g=>?_) (fun t g=>?_)
 ·have:=iD (e n c);simp only[dz]; omega
 ·have c:=e n (List.mem_of_getElem? ha);have k:=iD c;unfold lM;rw[Ç d,Ñ f,show ByteArray.mk #[32]=ofL [32] from rfl,Ë (by simp only[Ì,List.length_append,List.length_cons,List.length_nil]; omega),Am.iff_true,Ç d,Ç ha,Eg c,Á,è,Ë (by simp only[Ì,List.length_append,List.length_cons,List.length_nil]; omega),Am.iff_true,Í f (by omega),è,List.append_assoc];rfl
 ·unfold lM;rw[Ç d,ß]
def aex {l:rT Mx} {s:BL} (d:∀x∈l,I64X x/\x.2.length<=10) (k:l.length<=10) (j:s.length<=100000) (K:ByteArray->rF ρ) :
 Ê (fun(v:ByteArray×Int) g=>lN l v.1 v.2 (fun a b=>g (a,b)) K) (ofL s,(0:Int))=K (ofL (s++El l)):=by
 rw[uA l (fun t x=>ofL (toL t++GI x)) (fun i t=>(toL t).length<=s.length+1000*i) (K:=K) (by simp) (fun i x t hi ha o=>?_) (fun t f _=>?_)]
 ·congr 1;unfold El;clear j d k
  induction l generalizing s with
  |nil=>simp
  |cons a l h=>rw[ee,h]; simp
 ·obtain⟨⟨c,h2⟩,e⟩:=d x (List.mem_of_getElem? ha);have u:=Zp ⟨c,h2⟩ e;have r:=iD c;refine⟨by rw[show toL (ofL (toL t++GI x))=toL t++GI x from rfl,List.length_append]; omega,fun f=>?_⟩;have q:t.size=(toL t).length:=qS t;unfold lN
  have n:t++ofL [109,105,120,32]=ofL (toL t++[109,105,120,32]):=by have:=è (toL t) [109,105,120,32]; rwa [nZ] at this
  rw[Ñ hi,show ByteArray.mk #[109,105,120,32]=ofL [109,105,120,32] from rfl,Ë (by simp only[Ì,dw,dz,dI]; omega),Am.iff_true,Ç ha,Eg c,Á,n,Ë (by simp only[Ì,dw,dz,dI]; omega),Am.iff_true,è];refine(aaU ha h2 e (by simp only[dw,dz,dI]; omega) _).trans ?_;have p:=L3 h2;rw[show ByteArray.mk #[10]=ofL [10] from rfl,Ë (by simp only[Ì,dw,dz,dI]; omega),Am.iff_true,Í hi (by omega),è];congr 2;simp[GI,ħ,ahs,Bi,spL,iM]
 ·unfold lN;rw[ß]
end
def U0 {m:uW} (h:MOk m):ĵ m=some (ofL (i8 m)):=by
 have e:=Xm (h.good.prints.mono fun n d=>d.i64);have f:=h.n4;unfold ĵ TJ;rw[QN h.good,Á];exact aex (fun x c=>⟨h.nums x c,h.short x c⟩) (by omega) (by omega) _
def agz {m c:uW} (h:MOk m) (h':MOk c) (e:i8 m=i8 c):m=c:=by
 have d:=HO h;rw[e,HO h'] at d;exact(Prod.mk.inj d).1.symm
open Classical in
def Es (t:BL):rF uW:=if h:∃m,MOk m/\i8 m=t then some h.choose else none
def XD {m:uW} (h:MOk m):Es (i8 m)=some m:=by
 have c:∃d,MOk d/\i8 d=i8 m:=⟨m,h,rfl⟩;unfold Es;rw[dif_pos c,agz c.choose_spec.1 h c.choose_spec.2]
def Da {t:BL} {m:uW} (h:Es t=some m):MOk m/\i8 m=t:=by
 unfold Es at h
 split at h
 ·rename_i c; cases h; exact c.choose_spec
 ·cases h
def amQ {t:BL} {b:æ} {c:BL}:Kl t b c=(Js,7)\/∃y,Kl t b c=(y,0)/\MOk y/\i8 y=t:=by
 unfold Kl
 cases xz (ε c) with
 |none=>exact .inl rfl
 |some l =>
  dsimp only
  by_cases h:ę (b,l)=0/\i8 (b,l)=t
  ·rw[if_pos h]; exact .inr ⟨_,rfl,(jq _).1 h.1,h.2⟩
  ·rw[if_neg h]; exact .inl rfl
def akN {t:BL}:Ji t=match Es t with|some m=>(m,0)|none=>(Js,7):=by
 have c:∀(u e:BL),((match sE u with|none=>(Js,7)|some b=>Kl t b e)=(Js,7)\/∃y,(match sE u with|none=>(Js,7)|some b=>Kl t b e)=(y,0)/\MOk y/\i8 y=t):=fun u e=>by
  cases d:sE u with
  |none=>exact .inl rfl
  |some b=>exact amQ
 have f:Ji t=(Js,7)\/∃y,Ji t=(y,0)/\MOk y/\i8 y=t:=by
  unfold Ji
  by_cases i:t.take 4=Vy
  ·rw[if_pos i]; exact c _ _
  ·rw[if_neg i]
   by_cases hi:0<=Lib.index t (10::Vy)
   ·rw[if_pos hi]; exact c _ _
   ·rw[if_neg hi]; exact c _ _
 cases d:Es t with
 |some m =>
  obtain⟨g,rfl⟩:=Da d;exact HO g
 |none =>
  rcases f with h|⟨y,h,g,rfl⟩
  ·exact h
  ·rw[XD g] at d; cases d
end Go.Proofs.ZzM
end

noncomputable section
namespace Go.Proofs.ZzM
open Go Go.Am
def anh (w:BL):Int:=(w.take 18).foldl vR 0
def ahj {n:Int} (h0:0<=n) (h:n.natAbs<10 ^ 17):anh (Lib.itoa n)=n:=by
 have c:=Wn (k:=16) h;unfold anh;rw[List.take_of_length_le c];unfold Lib.itoa;rw[if_neg (by omega),abM _ 0]; omega
section
variable {ρ:Type}
def ahk {ws:rT BL} {j:Nat} {w:BL} (q:ws[j]?=some w) (r:w.length<=1000000) (K:Int->rF ρ) :
 Ê (fun(v:Int×Int) p=>lL (ws.map ofL) (j:Int) v.1 v.2 (fun a b=>p (a,b)) K) ((0:Int),(0:Int))=K (anh w):=by
 have d:(ws.map ofL)[j]?=some (ofL w):=by rw[eY,q]; rfl
 have e:∀i,0<=(w.take i).foldl vR 0/\(i<=18->(w.take i).foldl vR 0<1000000000000000000):=fun i=>by
  have:=Hl (w.take i) 0 0 (by omega) (by decide);refine⟨this.1,fun hi=>gK this.2 ?_⟩
  have c:(w.take i).length<=18:=by simp; omega
  have:(10:Int) ^ (0+(w.take i).length)<=10 ^ 18:=Xn (by omega);exact this
 refine ķ (fun x=>∃i:Nat,x=((w.take i).foldl vR 0,(i:Int))/\i<=w.length/\i<=18) (fun x=>w.length-x.2.toNat) ?_ ⟨0,by simp,Nat.zero_le _,by omega⟩;rintro x ⟨i,rfl,hi,f⟩;unfold lL;dsimp only;obtain⟨o,h⟩:=e i;have h:=h f
 by_cases c:i<w.length
 ·by_cases s:i<18
  ·have g:w[i]?=some w[i]:=dv c
   have l:(w.take (i+1)).foldl vR 0=vR ((w.take i).foldl vR 0) w[i]:=by rw[take_succ g,fj]; rfl
   refine .inr ⟨((w.take (i+1)).foldl vR 0,((i+1:Nat):Int)),⟨i+1,rfl,c,s⟩,by simp; omega,fun k=>?_⟩;rw[Ç d,Ì,J6 c,Ù (by simp[ilt]; omega),Ç d,uX g,l]
   have n:(w.take i).foldl vR 0<100000000000000000:=by
    have:=(Hl (w.take i) 0 0 (by omega) (by decide)).2
    have c:(w.take i).length<=17:=by simp; omega
    exact gK this (Xn (by omega):(10:Int) ^ (0+(w.take i).length)<=10 ^ 17)
   clear e l h;generalize (w.take i).foldl vR 0=X at o n
   by_cases y:48<=w[i].toNat
   ·rw[Ù (by simp[ige]; omega),Ç d,uX g]
    by_cases u:w[i].toNat<=57
    ·have t:IntKind.wrap .i64 (IntKind.wrap .u8 ((w[i].toNat:Int)-48))=(w[i].toNat:Int)-48:=by
      simp only[IntKind.wrap,IntKind.bits,IntKind.signed];simp;omega
     rw[Ù (by simp[ile]; omega),ä (by omega) (by omega),Ç d,uX g,t,ä (by omega) (by omega),ä (by omega) (by omega),show vR X w[i]=_ from if_pos ⟨y,u⟩];simp
    ·rw[Ï (by simp[ile]; omega),ä (by omega) (by omega),show vR X w[i]=_ from if_neg (by omega)];simp
   ·rw[Ï (by simp[ige]; omega),ä (by omega) (by omega),show vR X w[i]=_ from if_neg (by omega)];simp
  ·refine .inl fun k=>?_
   obtain rfl:i=18:=by omega
   rw[Ç d,Ì,J6 c,Ï (by simp[ilt])];rfl
 ·refine .inl fun k=>?_
  obtain rfl:i=w.length:=by omega
  rw[Ç d,Ì,ß];unfold anh;rw[List.take_length,List.take_of_length_le f]
def Vu (ws:rT BL):rT Int:=if ws=[] then[-1] else ws.map anh
def akT {w0:BL} {ws:rT BL} (g:ws.length<=100000) (f:∀w∈ws,w.length<=100000):sl ((w0::ws).map ofL)=some (Vu ws):=by
 unfold sl JG;refine ķ (fun x=>∃i:Nat,x=((i:Int)+1,(ws.take i).map anh)/\i<=ws.length) (fun x=>ws.length+1-x.1.toNat) ?_ ⟨0,by simp,Nat.zero_le _⟩;rintro x ⟨i,rfl,hi⟩;unfold qg;dsimp only
 by_cases h:i<ws.length
 ·have d:ws[i]?=some ws[i]:=dv h
  have c:(w0::ws)[i+1]?=some ws[i]:=by rw[gR,d]
  refine .inr ⟨(((i+1:Nat):Int)+1,(ws.take (i+1)).map anh),⟨i+1,rfl,h⟩,by simp; omega,fun e=>?_⟩;rw[Ù (by rw[â]; simp[ilt]; omega),show(i:Int)+1=((i+1:Nat):Int) by omega];refine(ahk c (by have:=f _ (dJ d); omega) _).trans ?_;rw[Ë (by simp; omega),Am.iff_true,ä (by omega) (by omega),take_succ d,gF];rfl
 ·obtain rfl:i=ws.length:=by omega
  refine .inl fun e=>?_;rw[Ï (by rw[â]; simp[ilt]),List.take_length];unfold Vu
  cases ws with
  |nil=>rw[Ù (by simp[ieq,â]),if_pos rfl]
  |cons a l=>rw[Ï (by simp[ieq,â]; omega),if_neg (by simp)]
end
def qE (s:BL×rT Mx) (l:BL):BL×rT Mx:=match wQ 32 l with
 |[]=>s
 |w::ws=>if w=[109,105,120] then(s.1,s.2++[((Vu ws).headD 0,(Vu ws).drop 1)]) else(s.1++l++[10],s.2)
def ix (t:BL):rT BL:=(wQ 10 t).dropLast.take 130
def UG (l:BL) (e:l.length<=60000):∃w ws,wQ 32 l=w::ws/\ws.length<=60000/\∀v∈ws,v.length<=60000:=by
 obtain⟨w,ws,h⟩:=AU 32 l [];have c:=vS 32 l [];rw[h] at c;simp only[dz] at c;refine⟨w,ws,h,by omega,fun v d=>?_⟩;have:=o8 32 l [] v (by rw[h]; simp[d]);simp only[dI] at this;omega
structure In7 (s:BL×rT Mx) (i:Nat):Prop where
 book:s.1.length<=60001*i
 many:s.2.length<=i
 labels:∀x∈s.2,x.2.length<=100000
def akv {s:BL×rT Mx} {l:BL} {i:Nat} (h:In7 s i) (e:l.length<=60000):In7 (qE s l) (i+1):=by
 obtain⟨w,ws,f,g,h2⟩:=UG l e;obtain⟨a,b,c⟩:=h;unfold qE;rw[f];dsimp only
 split
 ·refine⟨by dsimp only; omega,by simp only[List.length_append,List.length_cons,List.length_nil]; omega,fun x d=>?_⟩;rcases List.mem_append.1 d with d|d
  ·exact c x d
  ·rw[List.mem_singleton.1 d];dsimp only;rw[List.length_drop];unfold Vu
   split<;>simp<;>omega
 ·exact⟨by simp only[List.length_append,List.length_cons,List.length_nil]; omega,by dsimp only; omega,c⟩
def ZF:∀(L:rT BL) (s:BL×rT Mx),(L.foldl qE s).1.length<=s.1.length+(L.map fun l=>l.length+1).sum
 |[],s=>by simp
 |l::L,s=>by
  rw[ee];have c:=ZF L (qE s l)
  have h2:(qE s l).1.length<=s.1.length+l.length+1:=by
   unfold qE
   cases wQ 32 l with
   |nil=>dsimp only; omega
   |cons w ws=>dsimp only; split<;>simp<;>omega
  simp only[eM,List.sum_cons];omega
def abR (c:UInt8):∀(l acc:BL),((Ke c acc l).dropLast.map fun l=>l.length+1).sum<=acc.length+l.length
 |[],acc=>by simp[Ke]
 |x::l,acc=>by
  unfold Ke
  split
  ·obtain⟨w,ws,h⟩:=AU c l [];have:=abR c l [];rw[h] at this ⊢;rw[List.dropLast_cons_cons,eM,List.sum_cons];simp only[dI,dz] at this ⊢;omega
  ·have:=abR c l (acc++[x]);simp only[dw,dz,dI] at this ⊢;omega
def acr (f:BL->Nat):∀(n:Nat) (L:rT BL),((L.take n).map f).sum<=(L.map f).sum
 |0,L=>by simp
 |n+1,[]=>by simp
 |n+1,l::L=>by have:=acr f n L; simp only[List.take_succ_cons,eM,List.sum_cons]; omega
def abx (t:BL):((ix t).foldl qE ([],[])).1.length<=t.length:=by
 have c:=ZF (ix t) ([],[]);have h2:=acr (fun l=>l.length+1) 130 (wQ 10 t).dropLast;have d:((wQ 10 t).dropLast.map fun l=>l.length+1).sum<=0+t.length:=abR 10 t [];simp only[List.length_nil] at c;unfold ix at c ⊢;omega
section
variable {ρ:Type}
def agO {d:rT BL} {s:BL×rT Mx} {i:Nat} {l:BL} (hi:d[i]?=some l) (C:i+1<d.length) (p:i<130) (D:d.length<=1000000) (B:l.length<=60000) (A:In7 s i) (j:ByteArray×Int×rT Mx->rF ρ) (t:ByteArray×rT Mx->rF ρ) :
 jg (d.map ofL) (ofL s.1) (i:Int) s.2 (fun a b c=>j (a,b,c)) t=j (ofL (qE s l).1,(i:Int)+1,(qE s l).2):=by
 obtain⟨w,ws,n,E,h2⟩:=UG l B;obtain⟨a,b,c⟩:=A
 have k:(d.map ofL)[i]?=some (ofL l):=by rw[eY,hi]; rfl
 have o:=Mn l 32 (by omega);rw[show((UInt8.toNat 32:Nat):Int)=32 from rfl] at o;unfold jg;rw[â,List.length_map,ä (by omega) (by omega),Ù (by simp[ilt]; omega),Ù (by simp[ilt]; omega),Ç k,o,Á,n];rw[show Þ ((w::ws).map ofL) (0:Int)=fun f=>f (ofL w) from funext fun f=>rfl];dsimp only;rw[show ByteArray.mk #[109,105,120]=ofL [109,105,120] from rfl,ż];unfold qE;rw[n];dsimp only
 by_cases e:w=[109,105,120]
 ·rw[Ï (by simp[e]),akT (by omega) (fun v z=>by have:=h2 v z; omega),Á,if_pos e]
  have g:∃x r,Vu ws=x::r:=by
   unfold Vu
   split
   ·exact⟨_,_,rfl⟩
   ·rename_i h; cases ws with
    |nil=>exact absurd rfl h
    |cons y q=>exact⟨_,_,rfl⟩
  obtain⟨x,r,u⟩:=g;rw[u,GQ,show(ile (1:Int) (ê (x::r)))=true by simp[ile,ê]; omega,Am.iff_true,Ë (by simp only[dz,dI]; omega),Am.iff_true,ä (by omega) (by omega)];rfl
 ·rw[Ù (by simp[e]),Ç k,Ë (by rw[Ì,Ì]; omega),Am.iff_true,è,show ByteArray.mk #[10]=ofL [10] from rfl,Ë (by rw[Ì,Ì,dw]; simp only[dz,dI]; omega),Am.iff_true,ä (by omega) (by omega),è,if_neg e]
end
def alq {t:BL} (g:t.length<=60000):∀i,i<=(ix t).length->In7 (((ix t).take i).foldl qE ([],[])) i:=by
 have c:∀l∈ix t,l.length<=60000:=fun l f=>by
  have:=o8 10 t [] l (List.dropLast_subset _ (List.mem_of_mem_take f));simp at this; omega
 intro i
 induction i with
 |zero=>intro _; exact⟨by simp,by simp,fun x e=>by simp at e⟩
 |succ i d =>
  intro hi;rw[take_succ (dv (show i<(ix t).length by omega)),fj];exact akv (d (by omega)) (c _ (List.getElem_mem _))
def afn {t:BL} {i:Nat} (h:i<(ix t).length):(wQ 10 t)[i]?=some (ix t)[i]:=by
 have c:(ix t).length=min 130 ((wQ 10 t).length-1):=by simp[ix]
 rw[<-List.getElem?_eq_getElem h];unfold ix;rw[List.getElem?_take,if_pos (by omega),List.getElem?_dropLast,if_pos (by omega)]
def oj (t:BL):BL×rT Mx:=(ix t).foldl qE ([],[])
def aj8 {t:BL} (u:t.length<=60000):uK (ofL t)=some (match sE (oj t).1 with
 |none=>(Js,false)
 |some b=>if ę (b,(oj t).2)=0/\i8 (b,(oj t).2)=t then((b,(oj t).2),true) else(Js,false)):=by
 have e:=alq u;have c:=e _ (du _)
 have D:(ix t).length=min 130 ((wQ 10 t).length-1):=by simp[ix]
 rw[List.take_length] at c;have hb:=abx t;unfold uK TK;have r:=Mn t 10 (by omega);rw[show((UInt8.toNat 10:Nat):Int)=10 from rfl] at r;rw[r,Á];have p:(wQ 10 t).length<=t.length+1:=vS 10 t []
 have o:1<=(wQ 10 t).length:=by
  obtain⟨w0,C,f⟩:=AU 10 t [];rw[wQ,f]; simp
 refine ķ (fun x=>∃i:Nat,x=(ofL (((ix t).take i).foldl qE ([],[])).1,(i:Int),(((ix t).take i).foldl qE ([],[])).2)/\i<=(ix t).length) (fun x=>200-x.2.1.toNat) ?_ ⟨0,rfl,dX _⟩;rintro x ⟨i,rfl,hi⟩
 by_cases h:i<(ix t).length
 ·have q:=afn h;refine .inr ⟨(ofL (((ix t).take (i+1)).foldl qE ([],[])).1,((i+1:Nat):Int),(((ix t).take (i+1)).foldl qE ([],[])).2),⟨i+1,rfl,h⟩,by simp only[dL]; omega,fun n=>?_⟩;rw[take_succ (dv h),fj]
  exact agO q (by omega) (by omega) (by omega) (by
   have:=o8 10 t [] _ (dJ q); simp only[dI] at this; omega) (e i (by omega)) n _
 ·refine .inl fun n=>?_
  obtain rfl:i=(ix t).length:=by omega
  rw[List.take_length];change jg ((wQ 10 t).map ofL) (ofL (oj t).1) ((ix t).length:Int) (oj t).2 _ _=_;change In7 (oj t) _ at c;change (oj t).1.length<=_ at hb;obtain⟨E,h2,B⟩:=c;unfold jg
  have g:∀X:rF (uW×Bool),X=(Â (pz (ofL (oj t).1)) fun d=>ifb (!d.2) (some (Js,false)) (Â (Ο (d.1,(oj t).2)) fun l=>ifb (ine l (0:Int)) (some (Js,false)) (Â (ĵ (d.1,(oj t).2)) fun k=>ifb (!(k.toList==(ofL t).toList)) (some (Js,false)) (some ((d.1,(oj t).2),true)))))->X=some (match sE (oj t).1 with
   |none=>(Js,false)
   |some b=>if ę (b,(oj t).2)=0/\i8 (b,(oj t).2)=t then((b,(oj t).2),true) else(Js,false)):=by
   intro X A;rw[A,amj (by omega),Á]
   cases v:sE (oj t).1 with
   |none=>rfl
   |some b =>
    dsimp only;obtain⟨z,_⟩:=po v;rw[Ï (by rfl),I8 (m:=(b,(oj t).2)) z.size (by dsimp only; omega) (fun x s=>by have:=B x s; omega),Á]
    by_cases h0:ę (b,(oj t).2)=0
    ·rw[Ï (by simp[ine,h0]),U0 ((jq _).1 h0),Á,ż]
     by_cases j:i8 (b,(oj t).2)=t
     ·rw[Ï (by simp[j]),if_pos ⟨h0,j⟩]
     ·rw[Ù (by simp[j]),if_neg fun h=>j h.2]
    ·rw[Ù (by simpa[ine] using h0),if_neg fun h=>h0 h.1]
  rw[â,eF,ä (by omega) (by omega)]
  by_cases y:(ix t).length<(wQ 10 t).length-1
  ·rw[Ù (by simp[ilt]; omega),Ï (by simp[ilt]; omega)];exact g _ rfl
  ·rw[Ï (by simp[ilt]; omega)];exact g _ rfl
def ZA {b:æ}:∀(L:rT (BL×rT BL)) (s:BL×rT Mx),(∀p∈L,p∈ś b)->(L.map ħ).foldl qE s=(s.1++L.flatMap fun p=>ħ p++[10],s.2)
 |[],s,_=>by simp
 |p::L,s,h=>by
  obtain⟨c,r,f,h2⟩:=SN p (h p (by simp))
  have e:qE s (ħ p)=(s.1++ħ p++[10],s.2):=by
   unfold qE;rw[WF (h p (by simp))];dsimp only;rw[if_neg (by rw[f]; intro e; cases e; exact h2 rfl)]
  rw[eM,ee,e,ZA L _ fun q d=>h q (by simp[d])];simp
def adC:∀(l:rT Mx) (s:BL×rT Mx),(∀x∈l,∀n∈x.1::x.2,0<=n/\n.natAbs<10 ^ 17)->(l.map fun x=>ħ (ahs x)).foldl qE s=(s.1,s.2++l)
 |[],s,_=>by simp
 |x::l,s,h=>by
  obtain⟨f,h2⟩:=MZ (.inr rfl) (x.1::x.2)
  have g:Vu (iM (x.1::x.2))=x.1::x.2:=by
   unfold Vu;rw[if_neg (by simp),iM,List.map_map];exact(List.map_congr_left fun n c=>ahj (h x (by simp) n c).1 (h x (by simp) n c).2).trans (List.map_id _)
  have e:qE s (ħ (ahs x))=(s.1,s.2++[x]):=by
   unfold qE;rw[show ħ (ahs x)=[109,105,120]++spL 32 (iM (x.1::x.2)) from rfl,Qj 32 _ _ f h2];dsimp only;rw[if_pos rfl,g];rfl
  rw[eM,ee,e,adC l _ fun y d=>h y (by simp[d])];simp
def Xs {a:Int} (h:0<=a/\a<1099511627777):0<=a/\a.natAbs<10 ^ 17:=⟨h.1,dD (m:=1099511627777) (by omega) (by decide)⟩
def MOk.pos {m:uW} (h:MOk m):∀x∈m.2,∀n∈x.1::x.2,0<=n/\n.natAbs<10 ^ 17:=fun x i n c=>by
 have d:=h.mix i;rcases dE.1 c with rfl|c
 ·have:=d.day;exact Xs ⟨this.1,Int.lt_trans this.2 (by decide)⟩
 ·obtain⟨g,j,_⟩:=d.known n c;obtain⟨f,e⟩:=sk j;have:=(h.good.gaugeR f).2.2.2.1;rw[e] at this;exact Xs ⟨Int.le_trans (by decide) this.1,Int.lt_of_le_of_lt this.2 (by decide)⟩
def aix {m:uW} (h:MOk m):oj (i8 m)=(Ţ m.1,m.2):=by
 have e:i8 m=((ś m.1).map ħ++m.2.map fun x=>ħ (ahs x)).flatMap fun l=>l++[10]:=by
  unfold i8 El;rw[qQ,List.flatMap_append];congr 1;rw[List.flatMap_map]
 have g:=(h.good.prints.mono fun n f=>f.i64).count;have i:=h.n4;unfold oj ix
 rw[e,Qk _ (fun l c=>by
  rcases dA.1 c with c|c
  ·exact(Iz m.1 l c).1
  ·obtain⟨x,_,rfl⟩:=eN.1 c; exact Jt x),List.dropLast_concat,eh (by simp; omega),fj,ZA _ _ fun p d=>d,adC _ _ h.pos]
 simp[Ţ]
def aj9 {t:BL} (e:t.length<=60000):uK (ofL t)=some (match Es t with|some m=>(m,true)|none=>(Js,false)):=by
 rw[aj8 e]
 cases d:Es t with
 |some m =>
  obtain⟨c,rfl⟩:=Da d;rw[aix c];dsimp only;rw[LS c.good];dsimp only;rw[if_pos ⟨(jq m).2 c,rfl⟩]
 |none =>
  cases hb:sE (oj t).1 with
  |none=>rfl
  |some b =>
   dsimp only
   by_cases h:ę (b,(oj t).2)=0/\i8 (b,(oj t).2)=t
   ·have:=XD ((jq _).1 h.1);rw[h.2,d] at this; cases this
   ·rw[if_neg h]
def UX {m:uW} (d:ζ m.1) (e:m.2.length<=1000) (h2:∀x∈m.2,x.2.length<=1000):đ m m=some true:=by
 unfold đ YI;rw[ajT d,Á,Ï (by rfl),Ï (show ine (Ó m.2) (Ó m.2)=false by simp[ine])];refine zA m.2 _ (fun i a hi ha c=>?_) (fun c=>?_)
 ·try dsimp only
  unfold rB;rw[Ñ hi,Ç ha,Ç ha,wd (by have:=h2 a (List.mem_of_getElem? ha); omega),Á,Ï (by rfl),Ç ha,Ç ha,Ï (show ine a.1 a.1=false by simp[ine]),Í hi (by omega)]
 ·try dsimp only
  unfold rB;rw[ß]
def ajU {m:uW} (h:MOk m):đ m m=some true:=UX h.good.size (by have:=h.n4; omega) (fun x c=>by have:=h.len5 x c; omega)
def acf:đ Js Js=some true:=UX ⟨by simp[Υ],by simp[Υ],by simp[Υ],by simp[Υ],by simp[Υ],by simp[Υ]⟩ (by simp) (by simp)
def ai5 (f:Đ=some true) {m:uW} (C:∀g∈m.1.2.1,I64 g.2.2.2.2.1.1) (x:Mx) (s:ByteArray):sS m x s=some true:=by
 unfold sS sH;rw[agF,Á,f]
 by_cases v:Xt m=true
 case neg=>rw[fC.2 v]; rfl
 have c:=agG v C;have E:=c.n6;rw[v,Ï (by rfl),â]
 by_cases A:9<x.2.length
 ·rw[Ù (by simp[igt]; omega)]; rfl
 rw[Ï (by simp[igt]; omega),ln]
 by_cases u:2000<s.size
 ·rw[Ù (by simp[igt]; omega)]; rfl
 rw[Ï (by simp[igt]; omega)];obtain⟨t,rfl⟩:∃t,s=ofL t:=⟨toL s,(nZ s).symm⟩;rw[Ì] at u;have ha:([]:rT Mx)++m.2=m.2:=rfl
 have rest:∀X:rF Bool,X=(ifb (ine (ę m) (0:Int)) (Â (some true) fun r=>ifb r (ifb (ieq (wT m x).2 (ę m)) (ifb (ieq (if ę m≠0 then(ofL [],ę m) else(ofL (i8 m),0)).2 (ę m)) (ifb ((if ę m≠0 then(ofL [],ę m) else(ofL (i8 m),0)).1.toList==(ByteArray.mk #[]).toList) (Â (đ (wT m x).1 Js) fun q=>some q) (some false)) (some false)) (some false)) (some false))
  (Ô (Î (0+(List.length m.2))) (Ô (Î ((List.length (([])++m.2))+(List.length ([x])))) (Â (Ο (m.1,((([])++m.2)++([x])))) fun d=>ifb (ine d (0:Int))
   (Â (some true) fun p=>ifb p (ifb (ieq (if ę m≠0 then(ofL [],ę m) else(ofL (i8 m),0)).2 (0:Int)) (Â (ĵ m) fun o=>ifb ((if ę m≠0 then(ofL [],ę m) else(ofL (i8 m),0)).1.toList==o.toList) (ifb (ieq (wT m x).2 d) (Â (đ (wT m x).1 Js) fun n=>some n) (some false)) (some false)) (some false)) (some false))
   (Â (some true) fun l=>ifb l (ifb (ieq (if ę m≠0 then(ofL [],ę m) else(ofL (i8 m),0)).2 (0:Int)) (Â (ĵ m) fun k=>ifb ((if ę m≠0 then(ofL [],ę m) else(ofL (i8 m),0)).1.toList==k.toList) (ifb (ieq (wT m x).2 d) (Â (đ (wT m x).1 (m.1,((([])++m.2)++([x])))) fun j=>some j) (some false)) (some false)) (some false)) (some false))))))->X=some true:=by
  intro X D;rw[D]
  by_cases h0:ę m=0
  ·have h:=(jq m).1 h0
   have z:wT m x=if ę (acb m x)≠0 then(mix0,ę (acb m x)) else(acb m x,0):=by unfold wT; rw[if_neg (by simp[h0])]
   rw[z,h0,Ï (by rfl),Ë (by omega),Am.iff_true,ha,Ë (by simp only[dz,dI]; omega),Am.iff_true,show((m.1,m.2++[x]):uW)=acb m x from rfl,I8 (m:=acb m x) c.inn.size (by simp[acb]; omega) (fun y e=>by
    rcases dA.1 e with e|e
    ·have:=c.l9 y e; omega
    ·rw[dB.1 e]; omega),Á,U0 h]
   simp only[Á];rw[if_neg (show ¬(0:Int)≠0 by simp)]
   by_cases i:ę (acb m x)=0
   ·rw[Ï (by simp[ine,i]),mP,Ù (by rfl),ż,Ù (by simp),if_neg (by simp[i]),Ù (by simp[ieq,i]),ajU ((jq _).1 i)]; rfl
   ·rw[Ù (by simpa[ine] using i),mP,Ù (by rfl),ż,Ù (by simp),if_pos i,Ù (by simp[ieq]),show đ mix0 Js=some true from acf]; rfl
  ·have z:wT m x=(mix0,ę m):=by unfold wT; rw[if_pos h0]
   rw[z,Ù (by simpa[ine] using h0),Á,mP,if_pos h0,Ù (by simp[ieq]),Ù (by simp[ieq]),show ByteArray.mk #[]=ofL [] from rfl,ż,Ù (by simp),show đ mix0 Js=some true from acf]; rfl
 rw[I8 c.inn.size (by omega) (fun y e=>by have:=c.l9 y e; omega),Á,al9 c.inn (by omega) (by omega),Á,UW c.inn,Á,age (by omega),Á,aj9 (by omega),Á,Qp c.inn,Á,Ï (by simp[ine]),akN]
 cases B:Es t with
 |some y =>
  dsimp only;rw[ajU (Da B).1,Á,Ï (by rfl),mP,Ï (by rfl),Ï (by rfl)];exact rest _ rfl
 |none =>
  dsimp only;rw[acf,Á,Ï (by rfl),Ř,Ù (by rfl),Ï (by rfl)];exact rest _ rfl
end Go.Proofs.ZzM
end
