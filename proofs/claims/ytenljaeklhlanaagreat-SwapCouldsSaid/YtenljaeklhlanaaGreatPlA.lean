/- lemmas -/
import Derived.Test.YtenljaeklhlanaaGreatMdPA
import Derived.Test.YtenljaeklhlanaaGreatMdTA
set_option linter.all false
noncomputable section
namespace Go.Proofs.ZzM
open Go Go.Am
abbrev Lk:Type:=Int×Int×Int
inductive Wl (L:List Lk) (S:Int->Prop):List Int->Int->Int->Prop
 |nil {v:Int}:S v->Wl L S [] v 0
 |step {vs:List Int} {u v m d:Int}:Wl L S vs u d->(u,v,m)∈L->Wl L S (u::vs) v (d+m)
def Pot (L:CK Lk) (p:Int->Int):Prop:=∀u v m,(u,v,m)∈L->p v<=p u+m
def InR (L:CK Lk) (N:Nat):Prop:=∀l∈L,(0<=l.1/\l.1<N)/\(0<=l.2.1/\l.2.1<N)
section
variable {L:CK Lk} {S:Int->Prop} {N:Nat} {p:Int->Int}
def Wl.cut (g:Pot L p) {vs:CK Int} {v d:Int} (h:Wl L S vs v d):∀x∈vs,∃a e,Wl L S a x e/\(x::a) <:+ vs/\e+(p v-p x)<=d:=by
 induction h with
 |nil h=>intro x c; cases c
 | @step vs u v m d f i ih =>
  intro x c;have n:=g u v m i;rcases dh.1 c with rfl|c
  ·exact⟨vs,d,f,List.suffix_refl _,by omega⟩
  ·obtain⟨a,e,l,j,o⟩:=ih x c;exact⟨a,e,l,j.trans (List.suffix_cons _ _),by omega⟩
def Wl.simple (n:Pot L p) {vs:CK Int} {v d:Int} (h:Wl L S vs v d):∃c j,Wl L S c v j/\j<=d/\(v::c).Nodup:=by
 induction h with
 |nil h=>exact⟨[],0,.nil h,dQ _,by simp⟩
 | @step vs u v m d C o ih =>
  obtain⟨a,y,r,D,i⟩:=ih;have e:=Wl.step r o
  by_cases g:v∈u::a
  ·obtain⟨f,s,k1,l,z⟩:=e.cut n v g;exact⟨f,s,k1,by omega,i.sublist l.sublist⟩
  ·exact⟨u::a,y+m,e,by omega,fD.2 ⟨g,i⟩⟩
def Wl.range (g:InR L N) (f:∀v,S v->0<=v/\v<N) {vs:CK Int} {v d:Int} (h:Wl L S vs v d):(0<=v/\v<N)/\∀u∈vs,0<=u/\u<N:=by
 induction h with
 |nil h=>exact⟨f _ h,fun u c=>by cases c⟩
 | @step vs u v m d i e ih =>
  refine⟨(g _ e).2,fun w a=>?_⟩;rcases dh.1 a with rfl|h
  ·exact ih.1
  ·exact ih.2 w h
def acf:∀(N:Nat) (l:CK Int),l.Nodup->(∀x∈l,0<=x/\x<N)->l.length<=N
 |0,l,_,h=>by
  cases l with
  |nil=>simp
  |cons a l=>have:=h a (by simp); omega
 |N+1,l,c,h=>by
  have e:(l.erase (N:Int)).length<=N:=acf N _ (c.erase _) fun x d=>by
   have h2:=(c.mem_erase_iff).1 d;have:=h x h2.2;have:=h2.1;omega
  have:=List.length_erase (a:=(N:Int)) (l:=l)
  split at this<;>omega
def Wl.short (f:InR L N) (e:∀v,S v->0<=v/\v<N) {vs:CK Int} {v d:Int} (h:Wl L S vs v d) (c:(v::vs).Nodup):vs.length+1<=N:=by
 have:=h.range f e
 exact acf N (v::vs) c fun x a=>by
  rcases dh.1 a with rfl|a
  ·exact this.1
  ·exact this.2 x a
def Ca (f:Lk->Bool):CK Lk->Int
 |[]=>0
 |l::t=>(if f l then min l.2.2 0 else 0)+Ca f t
def agW (f:Lk->Bool):∀L:CK Lk,Ca (fun _=>true) L<=Ca f L
 |[]=>dQ _
 |l::t=>by
  have:=agW f t;simp only[Ca,if_true]
  split<;>omega
def nu (f:Lk->Bool):∀L:CK Lk,Ca f L<=0
 |[]=>dQ _
 |l::t=>by
  have:=nu f t;simp only[Ca]
  split<;>omega
def acB {f:Lk->Bool} {l:Lk} (c:f l=true):∀{L:CK Lk},l∈L->Ca f L<=l.2.2
 |a::t,h=>by
  simp only[Ca];rcases dh.1 h with rfl|h
  ·have:=nu f t;rw[if_pos c]; omega
  ·have:=acB c h
   split<;>omega
def agV {f g:Lk->Bool} (h:∀l,f l=true->g l=false):∀L:CK Lk,Ca (fun l=>f l||g l) L=Ca f L+Ca g L
 |[]=>rfl
 |l::t=>by
  have e:=agV h t;simp only[Ca,e]
  by_cases c:f l=true
  ·simp[c,h l c]; omega
  ·have a:f l=false:=by simpa using c
   by_cases d:g l=true
   ·simp[a,d]; omega
   ·simp[a,d]
def Wl.low {vs:CK Int} {v d:Int} (h:Wl L S vs v d):vs.Nodup->Ca (fun l=>vs.contains l.1) L<=d:=by
 induction h with
 |nil h=>intro _; exact nu _ _
 | @step vs u v m d n e ih =>
  intro a;rw[fD] at a;have o:=ih a.2;have h2:Ca (fun l=>l.1==u) L<=m:=acB (f:=fun l=>l.1==u) (l:=(u,v,m)) (by simp) e
  have j:=agV (f:=fun l:Lk=>l.1==u) (g:=fun l=>vs.contains l.1) (fun l c=>by
   simp only[beq_iff_eq] at c;rw[c]
   simpa using a.1) L
  have i:(fun l:Lk=>(u::vs).contains l.1)=fun l=>(l.1==u)||vs.contains l.1:=by funext l; rw[List.contains_cons]
  rw[i,j];omega
def lZ (L:CK Lk):Int:=Ca (fun _=>true) L
def Wl.low' (c:Pot L p) {vs:CK Int} {v d:Int} (h:Wl L S vs v d):lZ L<=d:=by
 obtain⟨a,g,f,h2,e⟩:=h.simple c;have:=f.low (List.nodup_cons.1 e).2;have:=agW (fun l=>a.contains l.1) L;unfold lZ;omega
def Wl.high {M:Int} (c:∀l∈L,l.2.2<=M) {vs:CK Int} {v d:Int} (h:Wl L S vs v d):d<=vs.length*M:=by
 induction h with
 |nil h=>simp
 | @step vs u v m d e a ih =>
  have:=c _ a;simp only[dk,fY,f0,gd];simp only at this;omega
def Wl.lowM {M:Int} (c:∀l∈L,-M<=l.2.2) {vs:CK Int} {v d:Int} (h:Wl L S vs v d) : -(vs.length*M)<=d:=by
 induction h with
 |nil h=>simp
 | @step vs u v m d e a ih =>
  have:=c _ a;simp only[dk,fY,f0,gd];simp only at this;omega
def Wl.mono {a:Int->Prop} (f:∀v,S v->a v) {vs:CK Int} {v d:Int} (h:Wl L S vs v d):Wl L a vs v d:=by
 induction h with
 |nil h=>exact .nil (f _ h)
 |step g e c=>exact .step c e
def Wl.pot (a:Pot L p) {vs:CK Int} {v d:Int} (h:Wl L S vs v d):∃s,S s/\p v-p s<=d:=by
 induction h with
 | @nil v h=>exact⟨v,h,by omega⟩
 | @step vs u v m d f c ih =>
  obtain⟨s,e,h2⟩:=ih;have:=a u v m c;exact⟨s,e,by omega⟩
end
abbrev Ŗ:Int:=1152921504606846976
structure afI (L:CK Lk) (S:Int->Prop) (N:Nat) (x:Int->Int):Prop where
 att:∀v:Int,0<=v->v<N->x v≠Ŗ->∃vs,Wl L S vs v (x v)
 low:∀v vs d,Wl L S vs v d->x v<=d
 bd:∀v:Int,0<=v->v<N->x v<=Ŗ
def afI.uniq {L:CK Lk} {S:Int->Prop} {N:Nat} {x y:Int->Int} (a:afI L S N x) (c:afI L S N y) {v:Int} (h0:0<=v) (d:v<N):x v=y v:=by
 have key:∀{x y:Int->Int},afI L S N x->afI L S N y->x v<=y v:=by
  intro x y a c
  by_cases h:y v=Ŗ
  ·rw[h]; exact a.bd v h0 d
  ·obtain⟨vs,e⟩:=c.att v h0 d h;exact a.low v vs _ e
 exact Int.le_antisymm (key a c) (key c a)
def gv (x:CK Int) (v:Int):Int:=x[v.toNat]?.getD 0
def TN {x:CK Int} {v:Int} (h:v.toNat<x.length):x[v.toNat]?=some (gv x v):=by
 unfold gv; rw[List.getElem?_eq_getElem h]; rfl
def pF {x:CK Int} {u v:Int} (d:0<=u) (c:0<=v) (h:u.toNat<x.length) (y:Int):gv (x.set u.toNat y) v=if v=u then y else gv x v:=by
 unfold gv;rw[List.getElem?_set]
 by_cases a:v=u
 ·subst a; simp[h]
 ·have:¬u.toNat=v.toNat:=by omega
  simp[a,this]
def TO {x y:CK Int} (a:x.length=y.length) (h:∀v:Int,0<=v->v<x.length->gv x v=gv y v):x=y:=by
 refine List.ext_getElem a fun i c h2=>?_;have:=h i (by omega) (by omega);unfold gv at this;simpa[c,h2] using this
def Ũ (x:CK Int) (l:Lk):CK Int:=if gv x l.1<Ŗ/\gv x l.1+l.2.2<gv x l.2.1 then x.set l.2.1.toNat (gv x l.1+l.2.2) else x
def Ĭ (L:CK Lk) (x:CK Int):CK Int:=L.foldl Ũ x
def Ą (L:CK Lk):Nat->CK Int->CK Int
 |0,x=>x
 |n+1,x=>Ą L n (Ĭ L x)
def mj (x:CK Int) (l:Lk):(Ũ x l).length=x.length:=by unfold Ũ; split<;>simp
def oq (L:CK Lk):∀x:CK Int,(Ĭ L x).length=x.length:=by
 induction L with
 |nil=>intro x; rfl
 |cons l t a=>intro x; show(Ĭ t (Ũ x l)).length=_; rw[a,mj]
def Ė (L:CK Lk):∀(n:Nat) (x:CK Int),(Ą L n x).length=x.length
 |0,x=>rfl
 |n+1,x=>by rw[Ą,Ė L n,oq]
def ņ (L:CK Lk):∀(n:Nat) (x:CK Int),Ą L (n+1) x=Ĭ L (Ą L n x)
 |0,x=>rfl
 |n+1,x=>by rw[Ą,ņ L n]; rfl
section
variable {L0:CK Lk} {S:Int->Prop} {N:Nat}
def W8 {x:CK Int} {l:Lk} (c:(0<=l.1/\l.1<N)/\(0<=l.2.1/\l.2.1<N)) (d:x.length=N) (v:Int) (a:0<=v):gv (Ũ x l) v<=gv x v:=by
 unfold Ũ
 split
 ·rename_i h;rw[pF c.2.1 a (by omega)]
  split
  ·rename_i h2; subst h2; omega
  ·exact dQ _
 ·exact dQ _
def sJ:∀{L:CK Lk},InR L N->∀{x:CK Int},x.length=N->∀v,0<=v->gv (Ĭ L x) v<=gv x v
 |[],_,x,_,v,_=>dQ _
 |l::t,d,x,a,v,c=>by
  have f:=W8 (d l (by simp)) a v c;have h2:=sJ (L:=t) (fun l e=>d l (by simp[e])) (x:=Ũ x l) (by rw[mj,a]) v c;show gv (Ĭ t (Ũ x l)) v<=_;omega
def IU:∀{L:CK Lk},InR L N->∀{x:CK Int},x.length=N->∀u v m,(u,v,m)∈L->gv x u<Ŗ->gv (Ĭ L x) v<=gv x u+m
 |l::t,e,x,f,u,v,m,d,i=>by
  have g:InR t N:=fun l a=>e l (by simp[a])
  have c:(Ũ x l).length=N:=by rw[mj,f]
  show gv (Ĭ t (Ũ x l)) v<=_;rcases dh.1 d with rfl|d
  ·have a:=e (u,v,m) (by simp);have h2:=sJ g c v a.2.1
   have j:gv (Ũ x (u,v,m)) v<=gv x u+m:=by
    unfold Ũ
    split
    ·rw[pF a.2.1 a.2.1 (by simp only at a; simp only; omega),if_pos rfl]; exact dQ _
    ·rename_i h; simp only[not_and,Int.not_lt] at h; exact h i
   omega
  ·have a:=e (u,v,m) (by simp[d]);have n:=W8 (e l (by simp)) f u a.1.1;have:=IU g c u v m d (by omega);omega
def Att (L0:CK Lk) (S:Int->Prop) (N:Nat) (x:CK Int):Prop:=∀v:Int,0<=v->v<N->gv x v<Ŗ->∃vs,Wl L0 S vs v (gv x v)
def aee {x:CK Int} {l:Lk} (a:(0<=l.1/\l.1<N)/\(0<=l.2.1/\l.2.1<N)) (e:l∈L0) (i:x.length=N) (h:Att L0 S N x):Att L0 S N (Ũ x l):=by
 unfold Ũ
 split
 ·rename_i f;intro v h0 g c;rw[pF a.2.1 h0 (by omega)] at c ⊢
  split
  ·rename_i h2;obtain⟨vs,d⟩:=h l.1 a.1.1 a.1.2 f.1;exact⟨_,h2▸Wl.step d e⟩
  ·rename_i h2;rw[if_neg h2] at c;exact h v h0 g c
 ·exact h
def MV:∀{L:CK Lk},InR L N->(∀l∈L,l∈L0)->∀{x:CK Int},x.length=N->Att L0 S N x->Att L0 S N (Ĭ L x)
 |[],_,_,_,_,h=>h
 |l::t,d,hsub,x,c,h=>MV (L:=t) (fun l a=>d l (by simp[a])) (fun l a=>hsub l (by simp[a])) (x:=Ũ x l) (by rw[mj,c]) (aee (d l (by simp)) (hsub l (by simp)) c h)
def IR (c:InR L0 N):∀(n:Nat) {x:CK Int},x.length=N->Att L0 S N x->Att L0 S N (Ą L0 n x)
 |0,_,_,h=>h
 |n+1,x,a,h=>IR c n (by rw[oq,a]) (MV c (fun _ h=>h) a h)
def yZ (d:InR L0 N):∀(n:Nat) {x:CK Int},x.length=N->∀v,0<=v->gv (Ą L0 n x) v<=gv x v
 |0,_,_,_,_=>dQ _
 |n+1,x,a,v,c=>Int.le_trans (yZ d n (by rw[oq,a]) v c) (sJ d a v c)
def Ņ (S:Int->Bool) (N:Nat):CK Int:=(List.range N).map fun(i:Nat)=>if S i then 0 else Ŗ
def ū (S:Int->Bool) {N:Nat} {v:Int} (h0:0<=v) (a:v<N):gv (Ņ S N) v=if S v then 0 else Ŗ:=by
 unfold gv Ņ
 have:v.toNat<N:=by omega
 rw[eW,gn this];simp only[d9,fZ];rw[Int.toNat_of_nonneg h0]
def ë (S:Int->Bool) (N:Nat):(Ņ S N).length=N:=by simp[Ņ]
end
def IQ {L:CK Lk} {S:Int->Bool} {N:Nat} {M:Int} (j:InR L N) (i:∀v,S v=true->0<=v/\v<N) (r:∀l∈L,l.2.2<=M):∀(n:Nat),n*M<Ŗ->0<=M->∀vs v d,Wl L (fun v=>S v=true) vs v d->vs.length<=n->gv (Ą L n (Ņ S N)) v<=d
 |0,_,_,vs,v,d,e,g=>by
  cases e with
  |nil h =>
   have:=i v h;rw[Ą,ū S this.1 this.2,if_pos h]; exact dQ _
  |step=>simp at g
 |n+1,s,c,vs,v,d,e,g=>by
  have f:n*M<Ŗ:=by rw[fY,f0,gd] at s; omega
  have a:(Ą L n (Ņ S N)).length=N:=by rw[Ė,ë]
  rw[ņ]
  cases e with
  |nil h =>
   have C:=sJ j a v (i v h).1;have h2:=IQ j i r n f c [] v 0 (.nil h) (by simp);omega
  | @step vs u _ m d e o =>
   have h2:=IQ j i r n f c vs u d e (by simpa using g);have z:=e.high r;have y:(vs.length:Int)*M<=n*M:=fN (by simp at g; omega) c;have:=IU j a u v m o (by omega);omega
def D9 {L:CK Lk} {S:Int->Bool} {N:Nat} {M:Int} {p:Int->Int} (C:Pot L p) (c:InR L N) (o:∀v,S v=true->0<=v/\v<N) (G:∀l∈L,l.2.2<=M) (r:0<=M) (F:N*M<Ŗ) (n:Nat) (u:N<=n+1):afI L (fun v=>S v=true) N (gv (Ą L n (Ņ S N))):=by
 have g:Att L (fun v=>S v=true) N (Ņ S N):=fun v h0 a y=>by
  rw[ū S h0 a] at y ⊢
  split
  ·rename_i h; exact⟨[],.nil h⟩
  ·rename_i h; rw[if_neg h] at y; omega
 have f:∀v:Int,0<=v->v<N->gv (Ą L n (Ņ S N)) v<=Ŗ:=fun v h0 a=>by
  have:=yZ c n (ë S N) v h0;rw[ū S h0 a] at this
  have O:(0:Int)<=Ŗ:=by decide
  split at this<;>omega
 have e:∀(n:Nat),N<=n+1->∀v vs d,Wl L (fun v=>S v=true) vs v d->gv (Ą L n (Ņ S N)) v<=d:=by
  intro n u v vs d z;obtain⟨i,J,a,h2,I⟩:=z.simple C;have Q:=a.short c o I
  have s:0<N:=by omega
  obtain⟨k,rfl⟩:∃k,N=k+1:=⟨N-1,by omega⟩
  have E:(k:Int)*M<Ŗ:=by rw[fY,f0,gd] at F; omega
  have P:=IQ c o G k E r i v J a (by omega);obtain⟨j,rfl⟩:∃j,n=k+j:=⟨n-k,by omega⟩
  have H:∀(j:Nat),gv (Ą L (k+j) (Ņ S (k+1))) v<=gv (Ą L k (Ņ S (k+1))) v:=by
   intro j
   induction j with
   |zero=>exact dQ _
   |succ j K =>
    rw[<-Nat.add_assoc,ņ];have:=sJ c (x:=Ą L (k+j) (Ņ S (k+1))) (by rw[Ė,ë]) v (a.range c o).1.1;omega
  have:=H j;omega
 exact⟨fun v h0 a D=>IR c n (ë S N) g v h0 a (by have:=f v h0 a; omega),e n u,f⟩
def afI.pot {L:CK Lk} {S:Int->Prop} {N:Nat} {x:Int->Int} (h:afI L S N x) (c:InR L N) {u v m:Int} (a:(u,v,m)∈L) (e:x u≠Ŗ):x v<=x u+m:=by
 obtain⟨vs,d⟩:=h.att u (c _ a).1.1 (c _ a).1.2 e;exact h.low v _ _ (.step d a)
section
variable {α:Type} (key:α->Int)
def Srt (l:CK α):Prop:=l.Pairwise fun x y=>key x<=key y
def Stb (l s:CK α):Prop:=∀k:Int,s.filter (fun x=>key x==k)=l.filter (fun x=>key x==k)
variable {key}
def Stb.refl (l:CK α):Stb key l l:=fun _=>rfl
def Stb.symm {l s:CK α} (h:Stb key l s):Stb key s l:=fun k=>(h k).symm
def Stb.trans {l s t:CK α} (h:Stb key l s) (h2:Stb key s t):Stb key l t:=fun k=>(h2 k).trans (h k)
def Stb.append {l s c a:CK α} (h:Stb key l s) (h2:Stb key c a):Stb key (l++c) (s++a):=fun k=>by
 rw[eS,eS,h k,h2 k]
def Stb.mem {l s:CK α} (h:Stb key l s) {x:α}:x∈s↔x∈l:=by
 have:=h (key x);constructor
 ·intro a;have:x∈s.filter fun y=>key y==key x:=dX.2 ⟨a,by simp⟩;rw[h] at this;exact(dX.1 this).1
 ·intro a;have:x∈l.filter fun y=>key y==key x:=dX.2 ⟨a,by simp⟩;rw[<-h] at this;exact(dX.1 this).1
def Stb.swap {u v:CK α} (h:∀x∈u,∀y∈v,key x≠key y):Stb key (u++v) (v++u):=fun k=>by
 rw[eS,eS]
 by_cases c:∃x∈u,key x=k
 ·obtain⟨x,d,rfl⟩:=c
  have:v.filter (fun y=>key y==key x)=[]:=ii.2 fun y a=>by
   have:=h x d y a;simp; omega
  rw[this]; simp
 ·have:u.filter (fun y=>key y==k)=[]:=ii.2 fun y a=>by
   simp;exact fun e=>c ⟨y,a,e⟩
  rw[this]; simp
def Stb.uniq:∀{s t:CK α},Srt key s->Srt key t->Stb key s t->s=t
 |[],[],_,_,_=>rfl
 |[],y::t,_,_,h=>absurd ((h.mem (x:=y)).1 (by simp)) (by simp)
 |x::s,[],_,_,h=>absurd ((h.mem (x:=x)).2 (by simp)) (by simp)
 |x::s,y::t,l,j,h=>by
  have g:=dJ.1 l;have h2:=dJ.1 j
  have a:key x=key y:=by
   have o:key x<=key y:=by
    rcases dh.1 ((h.mem (x:=y)).1 (by simp)) with e|c
    ·rw[e]; exact dQ _
    ·exact g.1 y c
   have n:key y<=key x:=by
    rcases dh.1 ((h.mem (x:=x)).2 (by simp)) with e|c
    ·rw[e]; exact dQ _
    ·exact h2.1 x c
   omega
  have i:x=y:=by
   have:=h (key x);have d:(key y==key x)=true:=beq_iff_eq.2 a.symm;have f:(key x==key x)=true:=beq_iff_eq.2 rfl;simp only[eO,d,f,if_true] at this;exact(List.cons.inj this).1.symm
  subst i;congr 1;refine Stb.uniq g.2 h2.2 fun k=>?_;have:=h k
  by_cases a:key x=k
  ·rw[fS (by simp[a]),fS (by simp[a])] at this;exact(List.cons.inj this).2
  ·rw[fC (by simp[a]),fC (by simp[a])] at this;exact this
variable (key)
def VE (x:α):CK α->CK α
 |[]=>[x]
 |y::l=>if key x<=key y then x::y::l else y::VE x l
def ĸ (l:CK α):CK α:=l.foldr (VE key) []
variable {key}
def VD (x:α):∀l:CK α,Stb key (x::l) (VE key x l)
 |[]=>Stb.refl _
 |y::l=>by
  unfold VE
  split
  ·exact Stb.refl _
  ·rename_i h;refine Stb.trans (s:=y::x::l) ?_ fun k=>?_
   ·have:=Stb.swap (key:=key) (u:=[x]) (v:=[y]) (fun a ha b hb=>by simp at ha hb; subst ha hb; omega);exact(this.append (Stb.refl l))
   ·have:=VD x l k;simp only[eO];rw[this];simp only[eO]
def akr {x z:α} {l:CK α}:z∈VE key x l↔z=x\/z∈l:=by
 rw[(VD x l).mem,dh]
def adf (x:α):∀{l:CK α},Srt key l->Srt key (VE key x l)
 |[],_=>List.pairwise_singleton _ _
 |y::l,h=>by
  have d:=List.pairwise_cons.1 h;unfold VE
  split
  ·rename_i c;refine List.Pairwise.cons (fun z a=>?_) h;rcases dh.1 a with rfl|a
   ·exact c
   ·exact Int.le_trans c (d.1 z a)
  ·rename_i c;refine List.Pairwise.cons (fun z a=>?_) (adf x d.2);rcases akr.1 a with rfl|a
   ·omega
   ·exact d.1 z a
def lg:∀l:CK α,Srt key (ĸ key l)
 |[]=>List.Pairwise.nil
 |x::l=>adf x (lg l)
def ŕ:∀l:CK α,Stb key l (ĸ key l)
 |[]=>Stb.refl _
 |x::l=>by
  have:Stb key (x::l) (x::ĸ key l):=(Stb.refl [x]).append (ŕ l);exact this.trans (VD x _)
def xB {l s:CK α} (h:Srt key s) (h2:Stb key l s):ĸ key l=s:=Stb.uniq (lg l) h ((ŕ l).symm.trans h2)
def Stb.perm {l s:CK α} [DecidableEq α] (h:Stb key l s):s.Perm l:=by
 rw[List.perm_iff_count];intro x
 have e:∀l:CK α,l.count x=(l.filter fun y=>key y==key x).count x:=fun l=>by
  rw[List.count_filter];simp
 rw[e s,e l,h]
def Stb.length {l s:CK α} (h:Stb key l s):s.length=l.length:=by
 classical
 exact h.perm.length_eq
def Srt.append {l s:CK α} (h:Srt key l) (h2:Srt key s) (a:∀x∈l,∀y∈s,key x<=key y):Srt key (l++s):=gb.2 ⟨h,h2,a⟩
def Srt.parts {l s:CK α} (h:Srt key (l++s)):Srt key l/\Srt key s/\∀x∈l,∀y∈s,key x<=key y:=gb.1 h
end
abbrev Way:=CK (CK Int)
abbrev ł:=a8
def Ě (m:ł) (x:Way):Int:=(Ĺ m x).getD 0
def WOk (m:ł) (l:CK Way):Prop:=∀x∈l,Ĺ m x=some (Ě m x)
section
variable {ρ:Type} {m:ł}
def aim (a b:Int):iP a b=some (if a<b then -1 else if b<a then 1 else 0):=by
 unfold iP vO mP AC
 have e:∀x:Int,ine x x=false:=fun x=>by simp[ine]
 rw[e,e,À,À,ä,ä]
 by_cases h:a<b
 ·rw[Ñ (decide_eq_true h),if_pos h]
 ·rw[Í (decide_eq_false h),if_neg h]
  by_cases h2:b<a
  ·rw[Ñ (decide_eq_true h2),if_pos h2]
  ·rw[Í (decide_eq_false h2),if_neg h2]
def Wy {x y:Way} (c:Ĺ m x=some (Ě m x)) (a:Ĺ m y=some (Ě m y)):ks x y m=some (if Ě m x<Ě m y then -1 else if Ě m y<Ě m x then 1 else 0):=by
 unfold ks SU;rw[c,À,a,À,aim,À]
def ac9 {x y:Way} (c:Ĺ m x=some (Ě m x)) (a:Ĺ m y=some (Ě m y)) (X Y:BY ρ):(Ä (ks x y m) fun r=>ifb (ilt r (0:Int)) X Y)=if Ě m x<Ě m y then X else Y:=by
 rw[Wy c a,À]
 by_cases h:Ě m x<Ě m y
 ·rw[if_pos h,if_pos h]; rfl
 ·rw[if_neg h,if_neg h]
  by_cases h2:Ě m y<Ě m x
  ·rw[if_pos h2]; rfl
  ·rw[if_neg h2]; rfl
def amL {α:Type} (A:CK α) (x:α) (B:CK α):(A++x::B)[A.length]?=some x:=by simp
def amk {α:Type} (A:CK α) (x y:α) (B:CK α):(A++x::B).set A.length y=A++y::B:=by simp
def jz {α:Type} {l A B:CK α} {x:α} {i:Int} (h:l=A++x::B) (hi:i=A.length) (K:α->BY ρ):(Û ((ile (0:Int) i)&&(ilt i (ç l))) (Ħ l (Int.toNat i) K))=K x:=by
 subst h hi;rw[à (by simp[ile,ilt,ç]; omega),dl,Δ (amL A x B)]
def J7 {α:Type} {l A B:CK α} {x:α} {i:Int} (h:l=A++x::B) (hi:i=A.length) (y:α):List.set l (Int.toNat i) y=A++y::B:=by
 subst h hi;rw[dl,amk]
def ins_L1 {c0:Int} {A C:CK Way} {x y:Way} (g:Ĺ m x=some (Ě m x)) (f:Ĺ m y=some (Ě m y)) (j:c0<=A.length) (i:A.length<=1000000) (d:Int->CK Way->BY ρ) (k0:CK Way->BY ρ) :
 í c0 m.1.1.1 m.1.1.2 m.1.2.1 m.1.2.2.1 m.1.2.2.2.1 m.1.2.2.2.2.1 m.1.2.2.2.2.2 m.2 ((A.length:Int)+1) (A++y::x::C) d k0 =
  if Ě m x<Ě m y then d A.length (A++x::y::C) else k0 (A++y::x::C):=by
 have h:((A.length:Int)+1-1)=A.length:=by omega
 have a:A++y::x::C=(A++[y])++x::C:=by simp
 have c:((A.length:Int)+1)=(A++[y]).length:=by simp
 unfold í;rw[Ñ (decide_eq_true (by omega)),jz a c,h,Ï (by omega) (by omega),jz (A:=A) (x:=y) (B:=x::C) rfl rfl];refine(ac9 g f _ _).trans ?_
 split
 ·rw[Ï (by omega) (by omega),Ï (by omega) (by omega),jz (A:=A) (x:=y) (B:=x::C) rfl rfl,jz a c,jz a c,J7 a c]
  have e:A++[y]++y::C=A++y::y::C:=by simp
  rw[e,jz (A:=A) (x:=y) (B:=y::C) rfl rfl,J7 (A:=A) (x:=y) (B:=y::C) rfl rfl,Ï (by omega) (by omega)]
 ·rfl
def akq {c0:Int} {P S Q:CK Way} {x:Way} (G:c0=P.length) (C:Srt (Ě m) S) (z:WOk m (x::S)) (J:P.length+S.length<=1000000) (K:CK Way->BY ρ) :
 Ê (fun(v:Int×CK Way) F=>í c0 m.1.1.1 m.1.1.2 m.1.2.1 m.1.2.2.1 m.1.2.2.2.1 m.1.2.2.2.2.1 m.1.2.2.2.2.2 m.2 v.1 v.2 (fun a b=>F (a,b)) K) (((P.length+S.length:Nat):Int),P++(S++x::Q))=K (P++(ĸ (Ě m) (S++[x])++Q)):=by
 subst G;have n:=z x (by simp)
 -- when it stops
 have stop:∀A B:CK Way,S=A++B->(∀t∈B,Ě m x<Ě m t)->(∀t∈A,Ě m t<=Ě m x)->ĸ (Ě m) (S++[x])=A++x::B:=fun A B c i j=>by
  subst c;obtain⟨r,h2,o⟩:=C.parts;refine xB ?_ ?_
  ·refine r.append (List.Pairwise.cons (fun t d=>by have:=i t d; omega) h2) fun a ha b hb=>?_;rcases dh.1 hb with rfl|hb
   ·exact j a ha
   ·exact o a ha b hb
  ·have:=Stb.swap (key:=Ě m) (u:=B) (v:=[x]) (fun a ha b hb=>by simp at hb; subst hb; have:=i a ha; omega);have D:=(Stb.refl (key:=Ě m) A).append this;rw[<-di] at D;exact D
 refine ñ (fun v:Int×CK Way=>∃A B:CK Way,S=A++B/\(∀t∈B,Ě m x<Ě m t)/\v=(((P.length+A.length:Nat):Int),P++(A++x::(B++Q)))) (fun v=>v.1.toNat) ?_ ⟨S,[],by simp,by simp,by simp⟩;rintro v ⟨A,B,c,i,rfl⟩
 cases j:A.reverse with
 |nil =>
  have f:A=[]:=by simpa using j
  subst f;refine .inl fun g=>?_;dsimp only;unfold í;rw[Í (decide_eq_false (by simp)),stop [] B c i (by simp)];simp
 |cons y E =>
  have f:A=E.reverse++[y]:=by
   have:=congrArg List.reverse j;simpa using this
  generalize E.reverse=A1 at f;subst f;have l:Ĺ m y=some (Ě m y):=z y (by rw[c]; simp)
  have e:∀g:Int×CK Way->BY ρ,í (P.length:Int) m.1.1.1 m.1.1.2 m.1.2.1 m.1.2.2.1 m.1.2.2.2.1 m.1.2.2.2.2.1 m.1.2.2.2.2.2 m.2 ((P.length+(A1++[y]).length:Nat):Int) (P++(A1++[y]++x::(B++Q))) (fun a b=>g (a,b)) K =
   if Ě m x<Ě m y then g (((P.length+A1.length:Nat):Int),P++(A1++x::(y::B++Q))) else K (P++(A1++[y]++x::(B++Q))):=fun g=>by
   have I:((P.length+(A1++[y]).length:Nat):Int)=((P++A1).length:Int)+1:=by simp; omega
   have H:P++(A1++[y]++x::(B++Q))=(P++A1)++y::x::(B++Q):=by simp
   have s:A1.length<=S.length:=by rw[c]; simp
   rw[I,H,ins_L1 n l (by simp; omega) (by simp; omega)];simp
  by_cases h:Ě m x<Ě m y
  ·refine .inr ⟨(((P.length+A1.length:Nat):Int),P++(A1++x::(y::B++Q))),⟨A1,y::B,by rw[c]; simp,fun t d=>?_,rfl⟩,by simp; omega,fun g=>(e g).trans (if_pos h)⟩;rcases dh.1 d with rfl|d
   ·exact h
   ·exact i t d
  ·refine .inl fun g=>(e g).trans ?_;rw[if_neg h,stop (A1++[y]) B c i fun t d=>?_]
   ·simp
   ·obtain⟨r,_,_⟩:=Srt.parts (c▸C);obtain⟨_,_,o⟩:=Srt.parts r;rcases dg.1 d with d|d
    ·have:=o t d y (by simp); omega
    ·simp at d; subst d; omega
def WOk.sub {l s:CK Way} (h:WOk m l) (c:∀x∈s,x∈l):WOk m s:=fun x a=>h x (c x a)
def Kw {P M Q:CK Way} (r:WOk m M) (u:P.length+M.length<=1000000):ì (P++(M++Q)) P.length ((P.length+M.length:Nat):Int) m=some (P++(ĸ (Ě m) M++Q),m):=by
 unfold ì ű;rw[Ï (by omega) (by omega)];refine ñ (fun v:Int×CK Way=>(M.length=0/\v=((P.length:Int)+1,P++(M++Q)))\/∃k:Nat,1<=k/\k<=M.length/\v=(((P.length+k:Nat):Int),P++(ĸ (Ě m) (M.take k)++(M.drop k++Q)))) (fun v=>(P.length+M.length+1)-v.1.toNat) ?_ ?_
 ·rintro v (⟨h0,rfl⟩|⟨k,s,l,rfl⟩)
  ·refine .inl fun g=>?_;have:M=[]:=List.length_eq_zero_iff.1 h0;subst this;dsimp only;unfold Đ;rw[Í (decide_eq_false (by simp; omega))];rfl
  ·rcases gu l with h|rfl
   ·have o:M[k]?=some M[k]:=cX h;have hd:M.drop k=M[k]::M.drop (k+1):=dV h;have n:M.take (k+1)=M.take k++[M[k]]:=take_succ o;have c:M[k]∈M:=fq h;generalize M[k]=x at o hd n c
    have j:(ĸ (Ě m) (M.take k)).length=k:=by rw[(ŕ _).length]; simp; omega
    refine .inr ⟨(((P.length+(k+1):Nat):Int),P++(ĸ (Ě m) (M.take (k+1))++(M.drop (k+1)++Q))),.inr ⟨k+1,by omega,h,rfl⟩,by dsimp only; omega,fun g=>?_⟩;dsimp only;unfold Đ;rw[Ñ (decide_eq_true (by omega)),hd]
    have:=akq (m:=m) (c0:=(P.length:Int)) (P:=P) (S:=ĸ (Ě m) (M.take k)) (Q:=M.drop (k+1)++Q) (x:=x) rfl (lg _) (fun y i=>by
     rcases dh.1 i with rfl|i
     ·exact r _ c
     ·exact r _ (ff ((ŕ _).mem.1 i))) (by omega) (fun d=>ck (((P.length+k:Nat):Int)+(1:Int)) fun f=>g (f,d))
    rw[j] at this;refine this.trans ?_;rw[Ï (by omega) (by omega)];congr 1;refine Prod.ext (by dsimp only; omega) ?_;dsimp only
    have e:ĸ (Ě m) (ĸ (Ě m) (M.take k)++[x])=ĸ (Ě m) (M.take (k+1)):=by
     rw[n];exact xB (lg _) (((ŕ (M.take k)).append (Stb.refl [x])).symm.trans (ŕ _))
    rw[e]
   ·refine .inl fun g=>?_;dsimp only;unfold Đ;rw[Í (decide_eq_false (by omega))];simp
 ·cases M with
  |nil=>exact .inl ⟨rfl,rfl⟩
  |cons a M =>
   refine .inr ⟨1,cZ _,by simp,?_⟩;refine Prod.ext (by simp) ?_;simp[ĸ,VE]
end
section
variable {ρ:Type} {m:ł}
def rot_L2:@iK ρ=@ď ρ:=rfl
def rot_L3:@iJ ρ=@ď ρ:=rfl
def wE {A U B V C:CK Way} (J:V.length=U.length) {a b n:Int} (ha:a=A.length) (hb:b=((A.length+U.length+B.length:Nat):Int)) (g:n=U.length) (O:A.length+U.length+B.length+V.length<=1000000) (K:CK Way->BY ρ) :
 Ê (fun(v:Int×CK Way) F=>ď a b n v.1 v.2 (fun x y=>F (x,y)) K) ((0:Int),A++(U++(B++(V++C))))=K (A++(V++(B++(U++C)))):=by
 subst ha hb g;refine ê (List.replicate U.length ()) (fun i=>A++(V.take i++(U.drop i++(B++(U.take i++(V.drop i++C)))))) _ (by simp) (fun i x hi I E=>?_) (fun E=>?_)
 ·try dsimp only
  rw[fm] at hi;have r:U.drop i=U[i]::U.drop (i+1):=dV hi;have o:V.drop i=V[i]::V.drop (i+1):=dV (by omega);have d:U.take (i+1)=U.take i++[U[i]]:=take_succ (cX hi);have c:V.take (i+1)=V.take i++[V[i]]:=take_succ (cX (by omega));generalize U[i]=u at r d;generalize V[i]=v at o c
  have H:(U.take i).length=i:=by simp; omega
  have G:(V.take i).length=i:=by simp; omega
  have D:(U.drop (i+1)).length=U.length-(i+1):=by simp
  rw[r,o,d,c];generalize U.drop (i+1)=U2 at *;generalize V.drop (i+1)=V2 at *;generalize U.take i=U1 at *;generalize V.take i=V1 at *;unfold ď
  -- the places
  have e:A++(V1++(u::U2++(B++(U1++(v::V2++C)))))=(A++V1)++u::(U2++(B++(U1++(v::V2++C)))):=by simp
  have s:A++(V1++(u::U2++(B++(U1++(v::V2++C)))))=(A++(V1++(u::U2++(B++U1))))++v::(V2++C):=by simp
  have f:(A.length:Int)+i=(A++V1).length:=by simp; omega
  have z:((A.length+U.length+B.length:Nat):Int)+i=(A++(V1++(u::U2++(B++U1)))).length:=by simp; omega
  have h:(A++V1)++v::(U2++(B++(U1++(v::V2++C))))=(A++(V1++(v::U2++(B++U1))))++v::(V2++C):=by simp
  have j:((A.length+U.length+B.length:Nat):Int)+i=(A++(V1++(v::U2++(B++U1)))).length:=by simp; omega
  rw[Ñ (decide_eq_true (by omega)),Ï (by omega) (by omega),Ï (by omega) (by omega),Ï (by omega) (by omega),jz s z,Ï (by omega) (by omega),jz e f,jz e f,J7 e f,jz h j,J7 h j,Ï (by omega) (by omega)];simp
 ·try dsimp only
  unfold ď;rw[List.length_replicate,Í (decide_eq_false (by omega))];rw[List.take_of_length_le (l:=V) (by omega),List.drop_of_length_le (l:=U) (by omega),List.take_of_length_le (l:=U) (by omega),List.drop_of_length_le (l:=V) (by omega)];simp
def agh {A U V C:CK Way} (E:1<=U.length) (D:1<=V.length) (G:A.length+U.length+V.length<=1000000) :
 Ļ (A++(U++(V++C))) A.length ((A.length+U.length:Nat):Int) ((A.length+U.length+V.length:Nat):Int) m=some (A++(V++(U++C)),m):=by
 unfold Ļ jJ;rw[Ï (by omega) (by omega),Ï (by omega) (by omega)];refine ñ (fun v:Int×Int×CK Way=>∃L X Y R:CK Way,1<=X.length/\1<=Y.length/\L.length+X.length=U.length/\Y.length+R.length=V.length/\L++(Y++(X++R))=V++U/\v=((X.length:Int),(Y.length:Int),A++(L++(X++(Y++(R++C)))))) (fun v=>v.1.toNat+v.2.1.toNat) ?_ ⟨[],U,V,[],E,D,by simp,by simp,by simp,?_⟩
 rotate_left
 ·rw[Prod.mk.injEq,Prod.mk.injEq];refine⟨?_,?_,by simp⟩
  ·show((A.length+U.length:Nat):Int)-(A.length:Int)=(U.length:Int);omega
  ·show((A.length+U.length+V.length:Nat):Int)-((A.length+U.length:Nat):Int)=(V.length:Int);omega
 rintro v ⟨L,X,Y,R,I,H,f,h2,y,rfl⟩
 by_cases d:X.length=Y.length
 ·refine .inl fun j=>?_;dsimp only;unfold ķ;rw[Í (by simp[ine,d])];dsimp only;rw[rot_L3,Ï (by omega) (by omega)];have:=wE (A:=A++L) (U:=X) (B:=[]) (V:=Y) (C:=R++C) d.symm (a:=((A.length+U.length:Nat):Int)-X.length) (b:=((A.length+U.length:Nat):Int)) (n:=X.length) (by simp; omega) (by simp; omega) rfl (by simp; omega) (fun l=>some (l,m))
  have i:(A++L)++(X++([]++(Y++(R++C))))=A++(L++(X++(Y++(R++C)))):=by simp
  rw[i] at this;refine this.trans ?_
  have F:A++L++(Y++([]++(X++(R++C))))=A++((L++(Y++(X++R)))++C):=by simp
  rw[F,y];simp
 ·by_cases h:Y.length<X.length
  ·-- the first part of X and Y change places
   have g:(X.take Y.length).length=Y.length:=by simp; omega
   have c:(X.drop Y.length).length=X.length-Y.length:=by simp
   have ex:X=X.take Y.length++X.drop Y.length:=(eD _ _).symm;generalize X.take Y.length=X1 at g ex;generalize X.drop Y.length=X2 at c ex;subst ex;refine .inr ⟨((X2.length:Int),(X1.length:Int),A++((L++Y)++(X2++(X1++(R++C))))),⟨L++Y,X2,X1,R,by simp at c h; omega,by omega,by simp at f ⊢; omega,by omega,?_,rfl⟩,by simp at c ⊢; omega,fun j=>?_⟩
   ·rw[<-y]; simp
   ·dsimp only;unfold ķ;have e:ine ((X1++X2).length:Int) (Y.length:Int)=true:=bne_iff_ne.2 (by omega);rw[Ñ e,Ñ (decide_eq_true (by omega)),Ï (by simp at f ⊢; omega) (by simp at f ⊢; omega)];have:=wE (A:=A++L) (U:=X1) (B:=X2) (V:=Y) (C:=R++C) g.symm (a:=((A.length+U.length:Nat):Int)-(X1++X2).length) (b:=((A.length+U.length:Nat):Int)) (n:=Y.length) (by simp at f ⊢; omega) (by simp at f ⊢; omega) (by omega) (by simp at f ⊢; omega) (fun r=>ck (((X1++X2).length:Int)-(Y.length:Int)) fun u=>j (u,((Y.length:Int),r)))
    have i:(A++L)++(X1++(X2++(Y++(R++C))))=A++(L++(X1++X2++(Y++(R++C)))):=by simp
    rw[i] at this;refine this.trans ?_;rw[Ï (by simp; omega) (by simp; omega)];congr 1;rw[Prod.mk.injEq,Prod.mk.injEq];exact⟨by simp; omega,by omega,by simp⟩
  ·have g:(Y.drop (Y.length-X.length)).length=X.length:=by simp; omega
   have c:(Y.take (Y.length-X.length)).length=Y.length-X.length:=by simp
   have z:Y=Y.take (Y.length-X.length)++Y.drop (Y.length-X.length):=(eD _ _).symm;generalize Y.take (Y.length-X.length)=Y1 at c z;generalize Y.drop (Y.length-X.length)=Y2 at g z;subst z;refine .inr ⟨((Y2.length:Int),(Y1.length:Int),A++(L++(Y2++(Y1++((X++R)++C))))),⟨L,Y2,Y1,X++R,by omega,by simp at c d h; omega,by omega,by simp at h2 ⊢; omega,?_,rfl⟩,by simp at c ⊢; omega,fun j=>?_⟩
   ·rw[<-y]; simp
   ·dsimp only;unfold ķ;have e:ine (X.length:Int) ((Y1++Y2).length:Int)=true:=bne_iff_ne.2 (by omega);rw[Ñ e,Í (decide_eq_false (by omega)),rot_L2,Ï (by omega) (by omega),Ï (by simp at h2 ⊢; omega) (by simp at h2 ⊢; omega),Ï (by simp at h2 ⊢; omega) (by simp at h2 ⊢; omega)];have:=wE (A:=A++L) (U:=X) (B:=Y1) (V:=Y2) (C:=R++C) g (a:=((A.length+U.length:Nat):Int)-X.length) (b:=((A.length+U.length:Nat):Int)+((Y1++Y2).length:Int)-X.length) (n:=X.length) (by simp; omega) (by simp; omega) rfl (by simp at h2 ⊢; omega) (fun o=>ck (((Y1++Y2).length:Int)-(X.length:Int)) fun s=>j ((X.length:Int),(s,o)))
    have i:(A++L)++(X++(Y1++(Y2++(R++C))))=A++(L++(X++(Y1++Y2++(R++C)))):=by simp
    rw[i] at this;refine this.trans ?_;rw[Ï (by simp; omega) (by simp; omega)];congr 1;rw[Prod.mk.injEq,Prod.mk.injEq];exact⟨by omega,by simp; omega,by simp⟩
end
def amK {n:Nat} (h:n<=10000000):IntKind.wrap .i64 (iX .u64 (IntKind.wrap .u64 (n:Int)) (1:Int))=((n / 2:Nat):Int):=by
 have c:IntKind.wrap .u64 (n:Int)=n:=by
  simp[IntKind.wrap,IntKind.bits,IntKind.signed];omega
 rw[c]
 have a:iX .u64 (n:Int) 1=((n / 2:Nat):Int):=by
  unfold iX
  have:(2:Int) ^ (min (Int.toNat 1) IntKind.u64.bits)=2:=by decide
  rw[this,Int.fdiv_eq_ediv_of_nonneg _ (by omega)];omega
 rw[a];simp[IntKind.wrap,IntKind.bits,IntKind.signed];omega
section
variable {ρ:Type} {m:ł}
abbrev ajp:=CK Way->Int->Int->Int->ł->BY (CK Way×ł)
def adI (p:Nat->Prop) [DecidablePred p] {lo:Nat}:∀(n:Nat),(∀c c',lo<=c->c<=c'->c'<lo+n->p c'->p c)->∃s,lo<=s/\s<=lo+n/\(∀c,lo<=c->c<s->p c)/\∀c,s<=c->c<lo+n->¬p c
 |0,_=>⟨lo,cZ _,cZ _,fun c d h2=>by omega,fun c d h2=>by omega⟩
 |n+1,h=>by
  obtain⟨s,d,h2,j,i⟩:=adI p (lo:=lo) n fun c c' o l a3=>h c c' o l (by omega)
  by_cases g:p (lo+n)
  ·exact⟨lo+n+1,by omega,by omega,fun c a f=>h c (lo+n) a (by omega) (by omega) g,fun c a f=>by omega⟩
  ·refine⟨s,d,by omega,j,fun c a f=>?_⟩
   by_cases e:c=lo+n
   ·rw[e]; exact g
   ·exact i c a (by omega)
def abz {f:Int×Int->(Int×Int->BY ρ)->BY ρ} {K:Int->BY ρ} {lo hi:Nat} (C:lo<=hi) (p:Nat->Prop) [DecidablePred p] (g:∀c c',lo<=c->c<=c'->c'<hi->p c'->p c)
 (step:∀i j:Nat,lo<=i->i<j->j<=hi->∀a,f ((i:Int),(j:Int)) a=if p ((i+j) / 2) then a ((((i+j) / 2+1:Nat):Int),(j:Int)) else a ((i:Int),(((i+j) / 2:Nat):Int)))
 (stop:∀i:Nat,lo<=i->i<=hi->∀a,f ((i:Int),(i:Int)) a=K i) :
 ∃s,lo<=s/\s<=hi/\(∀c,lo<=c->c<s->p c)/\(∀c,s<=c->c<hi->¬p c)/\Ê f ((lo:Int),(hi:Int))=K (s:Nat):=by
 obtain⟨s,y,h2,u,r⟩:=adI p (lo:=lo) (hi-lo) fun c c' E D a3=>g c c' E D (by omega);refine⟨s,y,by omega,u,fun c d o=>r c d (by omega),?_⟩;refine ñ (fun v:Int×Int=>∃i j:Nat,lo<=i/\i<=s/\s<=j/\j<=hi/\v=((i:Int),(j:Int))) (fun v=>v.2.toNat-v.1.toNat) ?_ ⟨lo,hi,cZ _,y,by omega,cZ _,rfl⟩;rintro v ⟨i,j,d,o,z,l,rfl⟩;rcases dq i j with h|h
 ·by_cases n:p ((i+j) / 2)
  ·refine .inr ⟨_,⟨(i+j) / 2+1,j,by omega,?_,z,l,rfl⟩,by dsimp only; omega,fun a=>by rw[step i j d h l,if_pos n]⟩;rcases Nat.lt_or_ge ((i+j) / 2) s with e|e
   ·omega
   ·exact absurd n (r _ e (by omega))
  ·refine .inr ⟨_,⟨i,(i+j) / 2,d,o,?_,by omega,rfl⟩,by dsimp only; omega,fun a=>by rw[step i j d h l,if_neg n]⟩;rcases Nat.lt_or_ge ((i+j) / 2) s with e|e
   ·exact absurd (u _ (by omega) e) n
   ·exact e
 ·obtain rfl:i=j:=by omega
  obtain rfl:i=s:=by omega
  exact .inl fun a=>stop i d l a
def aep (g:ajp) {P B C:CK Way} {x:Way} {c0:Int} (u:c0=((P.length+B.length+1:Nat):Int)) (z:P.length+B.length<=1000000) (K:CK Way->BY ρ) :
 Ê (fun(v:Int×CK Way) s=>ô g c0 v.1 v.2 (fun a b=>s (a,b)) K) ((P.length:Int),P++(x::(B++C)))=K (P++(B++x::C)):=by
 subst u;refine ñ (fun v:Int×CK Way=>∃c d:CK Way,B=c++d/\v=(((P.length+c.length:Nat):Int),P++(c++x::(d++C)))) (fun v=>(P.length+B.length+1)-v.1.toNat) ?_ ⟨[],B,rfl,rfl⟩;rintro v ⟨c,d,e,rfl⟩
 cases d with
 |nil =>
  refine .inl fun r=>?_;rw[List.append_nil] at e;subst e;dsimp only;unfold ô;rw[Ï (by omega) (by omega),Í (decide_eq_false (by omega))];rfl
 |cons y d =>
  have l:B.length=c.length+d.length+1:=by rw[e]; simp; omega
  refine .inr ⟨(((P.length+(c++[y]).length:Nat):Int),P++((c++[y])++x::(d++C))),⟨c++[y],d,by rw[e]; simp,rfl⟩,by simp; omega,fun r=>?_⟩;dsimp only;unfold ô
  have f:P++(c++x::(y::d++C))=(P++c)++x::(y::(d++C)):=by simp
  have h:((P.length+c.length:Nat):Int)=(P++c).length:=by simp
  have n:P++(c++x::(y::d++C))=(P++c++[x])++y::(d++C):=by simp
  have o:((P.length+c.length:Nat):Int)+1=(P++c++[x]).length:=by simp; omega
  have i:(P++c)++y::(y::(d++C))=(P++c++[y])++y::(d++C):=by simp
  have j:((P.length+c.length:Nat):Int)+1=(P++c++[y]).length:=by simp; omega
  rw[Ï (by omega) (by omega),Ñ (decide_eq_true (by omega)),Ï (by omega) (by omega),Ï (by omega) (by omega),jz n o,jz f h,jz f h,J7 f h,jz i j,J7 i j,Ï (by omega) (by omega)];congr 1
  ·simp; omega
  ·simp
def agY (h:ajp) {P B C:CK Way} {x:Way} {c0:Int} (D:c0=(P.length:Int)) (F:P.length+B.length<=1000000) (K:CK Way->BY ρ) :
 Ê (fun(v:Int×CK Way) z=>ó h c0 v.1 v.2 (fun a b=>z (a,b)) K) (((P.length+B.length:Nat):Int),P++(B++x::C))=K (P++(x::(B++C))):=by
 subst D;refine ñ (fun v:Int×CK Way=>∃d c:CK Way,B=d++c/\v=(((P.length+d.length:Nat):Int),P++(d++x::(c++C)))) (fun v=>v.1.toNat) ?_ ⟨B,[],by simp,by simp⟩;rintro v ⟨d,c,l,rfl⟩
 cases e:d.reverse with
 |nil =>
  have:d=[]:=by simpa using e
  subst this;refine .inl fun u=>?_;dsimp only;unfold ó;rw[Í (decide_eq_false (by simp)),l];simp
 |cons y r =>
  have f:d=r.reverse++[y]:=by
   have:=congrArg List.reverse e;simpa using this
  generalize r.reverse=A1 at f;subst f
  have o:B.length=A1.length+1+c.length:=by rw[l]; simp; omega
  refine .inr ⟨(((P.length+A1.length:Nat):Int),P++(A1++x::(y::c++C))),⟨A1,y::c,by rw[l]; simp,rfl⟩,by simp; omega,fun u=>?_⟩;dsimp only;unfold ó
  have E:((P.length+(A1++[y]).length:Nat):Int)-1=((P.length+A1.length:Nat):Int):=by simp; omega
  have s:P++(A1++[y]++x::(c++C))=(P++A1)++y::(x::(c++C)):=by simp
  have j:((P.length+A1.length:Nat):Int)=(P++A1).length:=by simp
  have g:P++(A1++[y]++x::(c++C))=(P++A1++[y])++x::(c++C):=by simp
  have i:((P.length+(A1++[y]).length:Nat):Int)=(P++A1++[y]).length:=by simp
  have n:(P++A1++[y])++y::(c++C)=(P++A1)++y::(y::(c++C)):=by simp
  rw[Ñ (decide_eq_true (by simp; omega)),E,Ï (by omega) (by omega),Ï (by omega) (by omega),jz s j,jz g i,jz g i,J7 g i,jz n j,J7 n j,Ï (by omega) (by omega)];congr 1;simp
end
section
variable {ρ:Type} {m:ł}
def symS (a:ajp) (mid e b:Int) (k:CK Way×ł->BY ρ) (l:CK Way) (c:ł):BY ρ :=
 ifb (ilt mid e) (ifb (ilt e b) (Ä (a l mid e b c) fun r=>k (r.1,r.2)) (k (l,c))) (k (l,c))
def symR (c:ajp) (a z mid e b:Int) (k:CK Way×ł->BY ρ) (l:CK Way) (d:ł):BY ρ :=
 ifb (ilt a z) (ifb (ilt z mid) (Ä (c l a z mid d) fun r=>symS c mid e b k r.1 r.2) (symS c mid e b k l d)) (symS c mid e b k l d)
def amf (d:ajp) (l:CK Way) (a c b mid n:Int) (f:ł) (k:CK Way×ł->BY ρ) (z:Int):BY ρ :=
 ck (n-z) fun e=>ifb (ilt z c) (ifb (ilt c e) (Ä (Ļ l z c e f) fun r=>symR d a z mid e b k r.1 r.2) (symR d a z mid e b k l f)) (symR d a z mid e b k l f)
def aeP (n:Int):Int:=IntKind.wrap .i64 (iX .u64 (IntKind.wrap .u64 n) (1:Int))
def sym_eq (e:ajp) (l:CK Way) (a c b:Int) (d:ł) (k:CK Way×ł->BY ρ):Ĩ e l a c b d k =
 ck (c-a) fun n1=>ifb (ieq n1 (1:Int)) (Ê (fun(v:Int×Int) h=>ÿ e a l d.1.1.1 d.1.1.2 d.1.2.1 d.1.2.2.1 d.1.2.2.2.1 d.1.2.2.2.2.1 d.1.2.2.2.2.2 d.2 v.1 v.2 (fun x y=>h (x,y)) (fun z=>Ê (fun(v:Int×CK Way) h=>ô e z v.1 v.2 (fun x y=>h (x,y)) (fun n=>k (n,d))) (a,l))) (c,b))
  (ck (b-c) fun u=>ifb (ieq u (1:Int)) (Ê (fun(v:Int×Int) h=>þ e c l d.1.1.1 d.1.1.2 d.1.2.1 d.1.2.2.1 d.1.2.2.2.1 d.1.2.2.2.2.1 d.1.2.2.2.2.2 d.2 v.1 v.2 (fun x y=>h (x,y)) (fun j=>Ê (fun(v:Int×CK Way) h=>ó e j v.1 v.2 (fun x y=>h (x,y)) (fun i=>k (i,d))) (c,l))) (a,c))
   (ck (a+b) fun g=>ck (aeP g+c) fun f=>ifb (igt c (aeP g))
    (ck (f-b) fun s=>ck (f-(1:Int)) fun r=>Ê (fun(v:Int×Int) h=>å e r l d.1.1.1 d.1.1.2 d.1.2.1 d.1.2.2.1 d.1.2.2.2.1 d.1.2.2.2.2.1 d.1.2.2.2.2.2 d.2 v.1 v.2 (fun x y=>h (x,y)) (amf e l a c b (aeP g) f d k)) (s,aeP g))
    (ck (f-(1:Int)) fun o=>Ê (fun(v:Int×Int) h=>å e o l d.1.1.1 d.1.1.2 d.1.2.1 d.1.2.2.1 d.1.2.2.2.1 d.1.2.2.2.2.1 d.1.2.2.2.2.2 d.2 v.1 v.2 (fun x y=>h (x,y)) (amf e l a c b (aeP g) f d k)) (a,c)))):=rfl
def RecOk (a:ajp) (m:ł) (N:Nat):Prop:=∀P U V Q:CK Way,1<=U.length->1<=V.length->U.length+V.length<=N->Srt (Ě m) U->Srt (Ě m) V->WOk m (U++V)->P.length+U.length+V.length<=1000000 ->
 a (P++(U++(V++Q))) P.length ((P.length+U.length:Nat):Int) ((P.length+U.length+V.length:Nat):Int) m=some (P++(ĸ (Ě m) (U++V)++Q),m)
def ue {l:CK Way} (h:Srt (Ě m) l):ĸ (Ě m) l=l:=xB h (Stb.refl l)
def rP (l:CK Way):(ĸ (Ě m) l).length=l.length:=(ŕ l).length
def ajM {h:ajp} {N:Nat} (i:RecOk h m N) {P u1 u2 v1 v2 Q:CK Way} (T:u1.length+v1.length<=N) (R:u2.length+v2.length<=N) (X:Srt (Ě m) (u1++u2)) (W:Srt (Ě m) (v1++v2))
 (O:∀x∈u2,∀y∈v1,Ě m y<Ě m x) (F2:∀x∈u1,∀y∈v2,Ě m x<=Ě m y) (K:WOk m ((u1++u2)++(v1++v2))) (hl:P.length+u1.length+u2.length+v1.length+v2.length<=1000000)
 {a c b mid n z:Int} (ea:a=P.length) (ec:c=((P.length+u1.length+u2.length:Nat):Int)) (eb:b=((P.length+u1.length+u2.length+v1.length+v2.length:Nat):Int)) (v:mid=((P.length+u1.length+v1.length:Nat):Int)) (Y:z=((P.length+u1.length:Nat):Int)) (Z:n-z=((P.length+u1.length+u2.length+v1.length:Nat):Int)) :
 amf h (P++((u1++u2)++((v1++v2)++Q))) a c b mid n m some z=some (P++(ĸ (Ě m) ((u1++u2)++(v1++v2))++Q),m):=by
 obtain⟨s,r,G⟩:=X.parts;obtain⟨o,l,F⟩:=W.parts;subst ea ec eb v Y
 have fin:ĸ (Ě m) ((u1++u2)++(v1++v2))=ĸ (Ě m) (u1++v1)++ĸ (Ě m) (u2++v2):=by
  refine xB ?_ ?_
  ·refine(lg _).append (lg _) fun x d y f=>?_;have d:=(ŕ _).mem.1 d;have f:=(ŕ _).mem.1 f
   rcases dg.1 d with d|d<;>rcases dg.1 f with f|f
   ·exact G x d y f
   ·exact F2 x d y f
   ·have:=O y f x d; omega
   ·exact F x d y f
  ·have q:Stb (Ě m) (u2++v1) (v1++u2):=Stb.swap fun x d y f=>by have:=O x d y f; omega
   have J:=((Stb.refl (key:=Ě m) u1).append (q.append (Stb.refl v2)))
   have D:u1++(u2++v1++v2)=u1++u2++(v1++v2):=by simp
   have I:u1++(v1++u2++v2)=(u1++v1)++(u2++v2):=by simp
   rw[D,I] at J;exact J.trans ((ŕ _).append (ŕ _))
 have E:(ĸ (Ě m) (u1++v1)).length=u1.length+v1.length:=by rw[rP]; simp
 have u:symS h ((P.length+u1.length+v1.length:Nat):Int) ((P.length+u1.length+u2.length+v1.length:Nat):Int) ((P.length+u1.length+u2.length+v1.length+v2.length:Nat):Int) some (P++(ĸ (Ě m) (u1++v1)++(u2++(v2++Q)))) m=some (P++(ĸ (Ě m) ((u1++u2)++(v1++v2))++Q),m):=by
  rw[fin];unfold symS
  by_cases g:u2=[]
  ·subst g;rw[Í (decide_eq_false (by simp))];simp only[d8,di];rw[ue l]
  by_cases h2:v2=[]
  ·subst h2;have q:ilt ((P.length+u1.length+u2.length+v1.length:Nat):Int) ((P.length+u1.length+u2.length+v1.length+([]:CK Way).length:Nat):Int)=false:=decide_eq_false (by simp);rw[q,ä];simp only[d8,du,di];rw[ue r]
   cases ilt ((P.length+u1.length+v1.length:Nat):Int) ((P.length+u1.length+u2.length+v1.length:Nat):Int)<;>rfl
  have k1:1<=u2.length:=eV.2 g;have j:1<=v2.length:=eV.2 h2
  have:=i (P++ĸ (Ě m) (u1++v1)) u2 v2 Q k1 j R r l (K.sub fun x d=>by
   rcases dg.1 d with d|d<;>simp[d]) (by rw[dc,E]; omega)
  rw[Ñ (decide_eq_true (by omega)),Ñ (decide_eq_true (by omega))]
  have D:P++(ĸ (Ě m) (u1++v1)++(u2++(v2++Q)))=(P++ĸ (Ě m) (u1++v1))++(u2++(v2++Q)):=by simp
  rw[D,show((P.length+u1.length+v1.length:Nat):Int)=((P++ĸ (Ě m) (u1++v1)).length:Int) by rw[dc,E]; omega,
   show((P.length+u1.length+u2.length+v1.length:Nat):Int)=(((P++ĸ (Ě m) (u1++v1)).length+u2.length:Nat):Int) by rw[dc,E]; omega,
   show((P.length+u1.length+u2.length+v1.length+v2.length:Nat):Int)=(((P++ĸ (Ě m) (u1++v1)).length+u2.length+v2.length:Nat):Int) by rw[dc,E]; omega,this,À]
  simp
 have H:symR h (P.length:Int) ((P.length+u1.length:Nat):Int) ((P.length+u1.length+v1.length:Nat):Int) ((P.length+u1.length+u2.length+v1.length:Nat):Int) ((P.length+u1.length+u2.length+v1.length+v2.length:Nat):Int) some (P++(u1++(v1++(u2++(v2++Q))))) m=some (P++(ĸ (Ě m) ((u1++u2)++(v1++v2))++Q),m):=by
  unfold symR
  by_cases g:u1=[]
  ·have q:ilt (P.length:Int) ((P.length+u1.length:Nat):Int)=false:=decide_eq_false (by rw[g]; simp)
   have e:P++(ĸ (Ě m) (u1++v1)++(u2++(v2++Q)))=P++(u1++(v1++(u2++(v2++Q)))):=by
    subst g;simp only[d8];rw[ue o]
   rw[e] at u;rw[q,ä,u]
  by_cases h2:v1=[]
  ·have e:P++(ĸ (Ě m) (u1++v1)++(u2++(v2++Q)))=P++(u1++(v1++(u2++(v2++Q)))):=by
    subst h2;simp only[du,d8];rw[ue s]
   rw[e] at u;have q:ilt ((P.length+u1.length:Nat):Int) ((P.length+u1.length+v1.length:Nat):Int)=false:=decide_eq_false (by rw[h2]; simp);rw[q,ä,u]
   cases ilt (P.length:Int) ((P.length+u1.length:Nat):Int)<;>rfl
  have k1:1<=u1.length:=eV.2 g;have j:1<=v1.length:=eV.2 h2;rw[Ñ (decide_eq_true (by omega)),Ñ (decide_eq_true (by omega))]
  rw[i P u1 v1 (u2++(v2++Q)) k1 j T s o (K.sub fun x d=>by
   rcases dg.1 d with d|d<;>simp[d]) (by omega),À]
  exact u
 unfold amf;rw[Z,Ï (by omega) (by omega)]
 by_cases g:u2=[]
 ·have q:ilt ((P.length+u1.length:Nat):Int) ((P.length+u1.length+u2.length:Nat):Int)=false:=decide_eq_false (by rw[g]; simp)
  have e:P++((u1++u2)++((v1++v2)++Q))=P++(u1++(v1++(u2++(v2++Q)))):=by rw[g]; simp
  rw[q,ä,e,H]
 by_cases h2:v1=[]
 ·have e:P++((u1++u2)++((v1++v2)++Q))=P++(u1++(v1++(u2++(v2++Q)))):=by rw[h2]; simp
  have q:ilt ((P.length+u1.length+u2.length:Nat):Int) ((P.length+u1.length+u2.length+v1.length:Nat):Int)=false:=decide_eq_false (by rw[h2]; simp);rw[q,ä,e,H]
  cases ilt ((P.length+u1.length:Nat):Int) ((P.length+u1.length+u2.length:Nat):Int)<;>rfl
 have k1:1<=u2.length:=eV.2 g;have j:1<=v1.length:=eV.2 h2;rw[Ñ (decide_eq_true (by omega)),Ñ (decide_eq_true (by omega))];have:=agh (m:=m) (A:=P++u1) (U:=u2) (V:=v1) (C:=v2++Q) k1 j (by simp; omega);rw[dc] at this
 have D:P++((u1++u2)++((v1++v2)++Q))=(P++u1)++(u2++(v1++(v2++Q))):=by simp
 rw[D,this,À]
 have I:(P++u1)++(v1++(u2++(v2++Q)))=P++(u1++(v1++(u2++(v2++Q)))):=by simp
 rw[I];exact H
end
section
variable {ρ:Type} {m:ł}
def giW (l:CK Way) (i:Nat):Way:=(l[i]?).getD []
def I3 {l:CK Way} {i:Nat} (h:i<l.length) (K:Way->BY ρ):(Û ((ile (0:Int) (i:Int))&&(ilt (i:Int) (ç l))) (Ħ l (Int.toNat (i:Int)) K))=K (giW l i):=by
 rw[à (by simp[ile,ilt,ç]; omega),dl,Δ (cX h)];simp[giW,cX h]
def L8 {i j:Nat} (h:i+j<=10000000):IntKind.wrap .i64 (iX .u64 (IntKind.wrap .u64 ((i:Int)+(j:Int))) (1:Int))=(((i+j) / 2:Nat):Int):=by
 rw[<-amK h]; push_cast; rfl
def KOk (m:ł) (x:Way):Prop:=Ĺ m x=some (Ě m x)
def XR {x y:Way} (c:KOk m x) (a:KOk m y) (X Y:BY ρ):(Ä (ks x y m) fun r=>ifb (!(ilt r (0:Int))) X Y)=if Ě m x>=Ě m y then X else Y:=by
 rw[Wy c a,À]
 by_cases h:Ě m x<Ě m y
 ·rw[if_pos h,if_neg (show ¬Ě m x>=Ě m y by omega)]; rfl
 ·rw[if_neg h,if_pos (show Ě m x>=Ě m y by omega)]
  by_cases h2:Ě m y<Ě m x
  ·rw[if_pos h2]; rfl
  ·rw[if_neg h2]; rfl
def amn (c:ajp) {l:CK Way} {a i j:Nat} (g:i<j) (n:j<=l.length) (ha:a<l.length) (h:j<=2000000) (f:KOk m (giW l a)) (e:KOk m (giW l ((i+j) / 2))) (d:Int->Int->BY ρ) (k0:Int->BY ρ) :
 ÿ c (a:Int) l m.1.1.1 m.1.1.2 m.1.2.1 m.1.2.2.1 m.1.2.2.2.1 m.1.2.2.2.2.1 m.1.2.2.2.2.2 m.2 (i:Int) (j:Int) d k0=if Ě m (giW l ((i+j) / 2))<Ě m (giW l a) then d (((i+j) / 2+1:Nat):Int) j else d i (((i+j) / 2:Nat):Int):=by
 unfold ÿ;rw[Ñ (decide_eq_true (by omega)),Ï (by omega) (by omega),L8 (by omega),I3 (by omega),I3 ha];refine(ac9 e f _ _).trans ?_;rw[Ï (by omega) (by omega)];rfl
def amm (a:ajp) {l:CK Way} {c i j:Nat} (g:i<j) (o:j<=l.length) (h:c<l.length) (n:j<=2000000) (f:KOk m (giW l c)) (e:KOk m (giW l ((i+j) / 2))) (d:Int->Int->BY ρ) (k0:Int->BY ρ) :
 þ a (c:Int) l m.1.1.1 m.1.1.2 m.1.2.1 m.1.2.2.1 m.1.2.2.2.1 m.1.2.2.2.2.1 m.1.2.2.2.2.2 m.2 (i:Int) (j:Int) d k0=if Ě m (giW l c)>=Ě m (giW l ((i+j) / 2)) then d (((i+j) / 2+1:Nat):Int) j else d i (((i+j) / 2:Nat):Int):=by
 unfold þ;rw[Ñ (decide_eq_true (by omega)),Ï (by omega) (by omega),L8 (by omega),I3 h,I3 (by omega)];refine(XR f e _ _).trans ?_;rw[Ï (by omega) (by omega)];rfl
def aml (a:ajp) {l:CK Way} {p i j:Nat} (h:i<j) (r:j<=l.length) (n:(i+j) / 2<=p) (d:p-(i+j) / 2<l.length) (o:j<=2000000) (g:p<=4000000) (f:KOk m (giW l (p-(i+j) / 2))) (e:KOk m (giW l ((i+j) / 2))) (c:Int->Int->BY ρ) (k0:Int->BY ρ) :
 å a (p:Int) l m.1.1.1 m.1.1.2 m.1.2.1 m.1.2.2.1 m.1.2.2.2.1 m.1.2.2.2.2.1 m.1.2.2.2.2.2 m.2 (i:Int) (j:Int) c k0=if Ě m (giW l (p-(i+j) / 2))>=Ě m (giW l ((i+j) / 2)) then c (((i+j) / 2+1:Nat):Int) j else c i (((i+j) / 2:Nat):Int):=by
 unfold å;rw[Ñ (decide_eq_true (by omega)),Ï (by omega) (by omega),L8 (by omega),show(p:Int)-(((i+j) / 2:Nat):Int)=((p-(i+j) / 2:Nat):Int) by omega,Ï (by omega) (by omega),I3 d,I3 (by omega)];refine(XR f e _ _).trans ?_;rw[Ï (by omega) (by omega)];rfl
def sO {α:Type} {l:CK α} {n:Nat} {y:α} (h:y∈l.take n):∃j,j<n/\j<l.length/\l[j]?=some y:=by
 obtain⟨j,a,e⟩:=dp.1 h;simp only[dm] at a;refine⟨j,by omega,by omega,?_⟩;rw[fj] at e;rw[cX (by omega),e]
def sP {α:Type} {l:CK α} {n:Nat} {y:α} (h:y∈l.drop n):∃j,n<=j/\j<l.length/\l[j]?=some y:=by
 obtain⟨j,a,e⟩:=dp.1 h;simp only[ij] at a;refine⟨n+j,by omega,by omega,?_⟩;rw[List.getElem_drop] at e;rw[cX (by omega),e]
def af7 {l:CK Way} (h:Srt (Ě m) l) {i j:Nat} {x y:Way} (hi:l[i]?=some x) (d:l[j]?=some y) (c:i<=j):Ě m x<=Ě m y:=by
 obtain⟨e,rfl⟩:=de.1 hi;obtain⟨h2,rfl⟩:=de.1 d;rcases gu c with a|rfl
 ·exact dM.1 h i j e h2 a
 ·exact dQ _
def J4:∀(f N:Nat),N<=2 ^ f->RecOk (ħ (f+1)) m N
 |0,N,hN=>fun P U V Q hU hV hn=>by simp at hN; omega
 |f+1,N,hN=>fun P U V Q hU hV hn sU sV hW hl=>by
  have T:=J4 f (2 ^ f) (cZ _)
  have hpow:2 ^ (f+1)=2*2 ^ f:=by rw[Nat.pow_succ]; omega
  show Ĩ (ħ (f+1)) _ _ _ _ m some=_;generalize ħ (f+1)=rec at T;obtain⟨l,F⟩:∃l,l=P++(U++(V++Q)):=⟨_,rfl⟩
  have hll:P.length+U.length+V.length<=l.length:=by rw[F]; simp; omega
  rw[sym_eq]
  -- what lies where
  have X:∀i x,U[i]?=some x->giW l (P.length+i)=x:=fun i x D=>by
   have hi:=(List.getElem?_eq_some_iff.1 D).1;unfold giW;rw[F,List.getElem?_append_right (by omega),List.getElem?_append_left (by omega),show P.length+i-P.length=i by omega,D];rfl
  have W:∀i x,V[i]?=some x->giW l (P.length+U.length+i)=x:=fun i x D=>by
   have hi:=(List.getElem?_eq_some_iff.1 D).1;unfold giW;rw[F,List.getElem?_append_right (by omega),List.getElem?_append_right (by omega),List.getElem?_append_left (by omega),show P.length+U.length+i-P.length-U.length=i by omega,D];rfl
  have kU:∀c c',P.length<=c->c<=c'->c'<P.length+U.length->Ě m (giW l c)<=Ě m (giW l c'):=fun c c' h1 h2 h3=>by
   have o:U[c-P.length]?=some U[c-P.length]:=cX (by omega);have g:U[c'-P.length]?=some U[c'-P.length]:=cX (by omega);have G:=X _ _ o;have R:=X _ _ g;rw[show P.length+(c-P.length)=c by omega] at G;rw[show P.length+(c'-P.length)=c' by omega] at R;rw[G,R];exact af7 sU o g (by omega)
  have kV:∀c c',P.length+U.length<=c->c<=c'->c'<P.length+U.length+V.length->Ě m (giW l c)<=Ě m (giW l c'):=fun c c' h1 h2 h3=>by
   have o:V[c-(P.length+U.length)]?=some V[c-(P.length+U.length)]:=cX (by omega);have g:V[c'-(P.length+U.length)]?=some V[c'-(P.length+U.length)]:=cX (by omega);have G:=W _ _ o;have R:=W _ _ g;rw[show P.length+U.length+(c-(P.length+U.length))=c by omega] at G;rw[show P.length+U.length+(c'-(P.length+U.length))=c' by omega] at R;rw[G,R];exact af7 sV o g (by omega)
  have kW:∀c,P.length<=c->c<P.length+U.length+V.length->KOk m (giW l c):=fun c h1 h2=>by
   rcases dq c (P.length+U.length) with h3|h3
   ·have o:U[c-P.length]?=some U[c-P.length]:=cX (by omega);have G:=X _ _ o;rw[show P.length+(c-P.length)=c by omega] at G;rw[G];exact hW _ (dT _ (fq _))
   ·have o:V[c-(P.length+U.length)]?=some V[c-(P.length+U.length)]:=cX (by omega);have G:=W _ _ o;rw[show P.length+U.length+(c-(P.length+U.length))=c by omega] at G;rw[G];exact hW _ (dO _ (fq _))
  have e0:((P.length+U.length:Nat):Int)-(P.length:Int)=U.length:=by omega
  have G:((P.length+U.length+V.length:Nat):Int)-((P.length+U.length:Nat):Int)=V.length:=by omega
  rw[e0,G,Ï (by omega) (by omega),Ï (by omega) (by omega),<-F];have half:aeP ((P.length:Int)+((P.length+U.length+V.length:Nat):Int))=(((P.length+(P.length+U.length+V.length)) / 2:Nat):Int):=L8 (by omega)
  by_cases O:U.length=1
  ·rw[Ñ (beq_iff_eq.2 (by rw[O]; rfl))]
   obtain⟨x,D⟩:∃x,U=[x]:=by
    cases U with
    |nil=>simp at O
    |cons x t=>cases t with
     |nil=>exact⟨x,rfl⟩
     |cons y t=>simp at O
   have gx:giW l P.length=x:=by
    have:=X 0 x (by rw[D]; rfl);exact this
   obtain⟨s,s1,s2,s3,s4,s5⟩:=abz (f:=fun(v:Int×Int) E=>ÿ rec (P.length:Int) l m.1.1.1 m.1.1.2 m.1.2.1 m.1.2.2.1 m.1.2.2.2.1 m.1.2.2.2.2.1 m.1.2.2.2.2.2 m.2 v.1 v.2 (fun x y=>E (x,y)) (fun Y=>Ê (fun(v:Int×CK Way) E=>ô rec Y v.1 v.2 (fun x y=>E (x,y)) (fun d=>some (d,m))) ((P.length:Int),l)))
    (K:=fun Y=>Ê (fun(v:Int×CK Way) E=>ô rec Y v.1 v.2 (fun x y=>E (x,y)) (fun d=>some (d,m))) ((P.length:Int),l)) (lo:=P.length+U.length) (hi:=P.length+U.length+V.length) (by omega)
    (fun h=>Ě m (giW l h)<Ě m (giW l P.length)) (fun c c' o g Z q4=>by have:=kV c c' o g Z; omega)
    (fun i j o g Z kn=>amn rec g (by omega) (by omega) (by omega) (kW _ (cZ _) (by omega)) (kW _ (by omega) (by omega)) _ _)
    (fun i o g kn=>by
     dsimp only;unfold ÿ
     rw[Í (decide_eq_false (by omega))])
   refine s5.trans ?_
   have hk:s-(P.length+U.length)<=V.length:=by omega
   obtain⟨k,hkk⟩:∃k,k=s-(P.length+U.length):=⟨_,rfl⟩;rw[<-hkk] at hk
   have lt:(V.take k).length=k:=by simp; omega
   have hB:∀y∈V.take k,Ě m y<Ě m x:=fun y r=>by
    obtain⟨j,j1,j2,H⟩:=sO r;have:=s3 (P.length+U.length+j) (by omega) (by omega);rw[W j y H,gx] at this;exact this
   have hD:∀y∈V.drop k,Ě m x<=Ě m y:=fun y r=>by
    obtain⟨j,j1,j2,H⟩:=sP r;have:=s4 (P.length+U.length+j) (by omega) (by omega);rw[W j y H,gx] at this;omega
   have I:V=V.take k++V.drop k:=(eD _ _).symm
   have fin:ĸ (Ě m) (U++V)=V.take k++x::V.drop k:=by
    rw[I] at sV;obtain⟨v1,v2,v3⟩:=sV.parts;refine xB ?_ ?_
    ·refine v1.append (List.Pairwise.cons hD v2) fun y r z hz=>?_;rcases dh.1 hz with rfl|hz
     ·have:=hB y r; omega
     ·exact v3 y r z hz
    ·have:=(Stb.swap (key:=Ě m) (u:=[x]) (v:=V.take k) (fun a ha b hb=>by simp at ha; subst ha; have:=hB b hb; omega)).append (Stb.refl (V.drop k));rw[D]
     have e:[x]++V.take k++V.drop k=[x]++V:=by rw[di,<-I]
     rw[e] at this;simpa using this
   have hs:(s:Int)=((P.length+(V.take k).length+1:Nat):Int):=by rw[lt]; omega
   have:=aep rec (P:=P) (B:=V.take k) (C:=V.drop k++Q) (x:=x) hs (by rw[lt]; omega) (fun d=>some (d,m))
   have R:l=P++(x::(V.take k++(V.drop k++Q))):=by
    rw[F,D,<-di (V.take k),<-I];rfl
   rw[<-R] at this;refine this.trans ?_;rw[fin];simp
  rw[Í (beq_eq_false_iff_ne.2 (fun h=>O (by exact_mod_cast h)))]
  by_cases J:V.length=1
  ·rw[Ñ (beq_iff_eq.2 (by rw[J]; rfl))]
   obtain⟨x,D⟩:∃x,V=[x]:=by
    cases V with
    |nil=>simp at J
    |cons x t=>cases t with
     |nil=>exact⟨x,rfl⟩
     |cons y t=>simp at J
   have gx:giW l (P.length+U.length)=x:=by
    have:=W 0 x (by rw[D]; rfl);exact this
   obtain⟨s,s1,s2,s3,s4,s5⟩:=abz (f:=fun(v:Int×Int) E=>þ rec ((P.length+U.length:Nat):Int) l m.1.1.1 m.1.1.2 m.1.2.1 m.1.2.2.1 m.1.2.2.2.1 m.1.2.2.2.2.1 m.1.2.2.2.2.2 m.2 v.1 v.2 (fun x y=>E (x,y)) (fun Y=>Ê (fun(v:Int×CK Way) E=>ó rec Y v.1 v.2 (fun x y=>E (x,y)) (fun d=>some (d,m))) (((P.length+U.length:Nat):Int),l)))
    (K:=fun Y=>Ê (fun(v:Int×CK Way) E=>ó rec Y v.1 v.2 (fun x y=>E (x,y)) (fun d=>some (d,m))) (((P.length+U.length:Nat):Int),l)) (lo:=P.length) (hi:=P.length+U.length) (by omega)
    (fun h=>Ě m (giW l (P.length+U.length))>=Ě m (giW l h)) (fun c c' o g Z q4=>by have:=kU c c' o g Z; omega)
    (fun i j o g Z kn=>amm rec g (by omega) (by omega) (by omega) (kW _ (by omega) (by omega)) (kW _ (by omega) (by omega)) _ _)
    (fun i o g kn=>by
     dsimp only;unfold þ
     rw[Í (decide_eq_false (by omega))])
   refine s5.trans ?_;obtain⟨k,hkk⟩:∃k,k=s-P.length:=⟨_,rfl⟩
   have hk:k<=U.length:=by omega
   have lt:(U.take k).length=k:=by simp; omega
   have hB:∀y∈U.take k,Ě m y<=Ě m x:=fun y r=>by
    obtain⟨j,j1,j2,H⟩:=sO r;have:=s3 (P.length+j) (by omega) (by omega);rw[X j y H,gx] at this;exact this
   have hD:∀y∈U.drop k,Ě m x<Ě m y:=fun y r=>by
    obtain⟨j,j1,j2,H⟩:=sP r;have:=s4 (P.length+j) (by omega) (by omega);rw[X j y H,gx] at this;omega
   have I:U=U.take k++U.drop k:=(eD _ _).symm
   have fin:ĸ (Ě m) (U++V)=U.take k++x::U.drop k:=by
    rw[I] at sU;obtain⟨v1,v2,v3⟩:=sU.parts;refine xB ?_ ?_
    ·refine v1.append (List.Pairwise.cons (fun y r=>by have:=hD y r; omega) v2) fun y r z hz=>?_;rcases dh.1 hz with rfl|hz
     ·exact hB y r
     ·exact v3 y r z hz
    ·have:=(Stb.refl (key:=Ě m) (U.take k)).append (Stb.swap (key:=Ě m) (u:=U.drop k) (v:=[x]) (fun a ha b hb=>by simp at hb; subst hb; have:=hD a ha; omega));rw[D]
     have e:U.take k++(U.drop k++[x])=U++[x]:=by rw[<-di,<-I]
     rw[e] at this;simpa using this
   have hs:(s:Int)=((P++U.take k).length:Int):=by rw[dc,lt]; omega
   have ld:(U.drop k).length=U.length-k:=by simp
   have:=agY rec (P:=P++U.take k) (B:=U.drop k) (C:=Q) (x:=x) hs (by rw[dc,lt,ld]; omega) (fun d=>some (d,m))
   have R:l=(P++U.take k)++(U.drop k++x::Q):=by
    rw[F,D,di,<-di (U.take k),<-I];rfl
   rw[<-R,show(((P++U.take k).length+(U.drop k).length:Nat):Int)=((P.length+U.length:Nat):Int) by rw[dc,lt,ld]; omega] at this;refine this.trans ?_;rw[fin];simp
  rw[Í (beq_eq_false_iff_ne.2 (fun h=>J (by exact_mod_cast h))),Ï (by omega) (by omega),half];obtain⟨mid,hmid⟩:∃mid,mid=(P.length+(P.length+U.length+V.length)) / 2:=⟨_,rfl⟩;rw[<-hmid,Ï (by omega) (by omega)]
  have hm1:P.length<=mid:=by omega
  have hm2:mid<=P.length+U.length+V.length:=by omega
  -- the search, and what is behind it
  have gen:∀lo hi:Nat,P.length<=lo->lo<=hi->hi<=P.length+U.length->hi<=mid->mid+(P.length+U.length)<=lo+(P.length+U.length+V.length)->(hi=P.length+U.length\/hi=mid)->(lo=P.length\/lo+(P.length+U.length+V.length)=mid+(P.length+U.length)) ->
   Ê (fun(v:Int×Int) E=>å rec (((mid+(P.length+U.length)-1:Nat)):Int) l m.1.1.1 m.1.1.2 m.1.2.1 m.1.2.2.1 m.1.2.2.2.1 m.1.2.2.2.2.1 m.1.2.2.2.2.2 m.2 v.1 v.2 (fun x y=>E (x,y)) (amf rec l (P.length:Int) ((P.length+U.length:Nat):Int) ((P.length+U.length+V.length:Nat):Int) (mid:Int) ((mid:Int)+((P.length+U.length:Nat):Int)) m some)) ((lo:Int),(hi:Int))=some (P++(ĸ (Ě m) (U++V)++Q),m):=by
   intro lo hi h1 h2 h3 h4 h5 h6 h7
   have hmu:mid<P.length+U.length+V.length:=by omega
   obtain⟨s,s1,s2,s3,s4,s5⟩:=abz (f:=fun(v:Int×Int) E=>å rec (((mid+(P.length+U.length)-1:Nat)):Int) l m.1.1.1 m.1.1.2 m.1.2.1 m.1.2.2.1 m.1.2.2.2.1 m.1.2.2.2.2.1 m.1.2.2.2.2.2 m.2 v.1 v.2 (fun x y=>E (x,y)) (amf rec l (P.length:Int) ((P.length+U.length:Nat):Int) ((P.length+U.length+V.length:Nat):Int) (mid:Int) ((mid:Int)+((P.length+U.length:Nat):Int)) m some))
    (K:=amf rec l (P.length:Int) ((P.length+U.length:Nat):Int) ((P.length+U.length+V.length:Nat):Int) (mid:Int) ((mid:Int)+((P.length+U.length:Nat):Int)) m some) (lo:=lo) (hi:=hi) h2
    (fun h=>Ě m (giW l (mid+(P.length+U.length)-1-h))>=Ě m (giW l h)) (fun c c' o g Z q4=>by
     have a1:=kU c c' (by omega) g (by omega);have a2:=kV (mid+(P.length+U.length)-1-c') (mid+(P.length+U.length)-1-c) (by omega) (by omega) (by omega)
     omega)
    (fun i j o g Z kn=>aml rec g (by omega) (by omega) (by omega) (by omega) (by omega) (kW _ (by omega) (by omega)) (kW _ (by omega) (by omega)) _ _)
    (fun i o g kn=>by
     dsimp only;unfold å
     rw[Í (decide_eq_false (by omega))])
   refine s5.trans ?_;obtain⟨e,he⟩:∃e,e=mid+(P.length+U.length)-s:=⟨_,rfl⟩
   have lu1:(U.take (s-P.length)).length=s-P.length:=by simp; omega
   have lu2:(U.drop (s-P.length)).length=P.length+U.length-s:=by simp; omega
   have lv1:(V.take (e-(P.length+U.length))).length=e-(P.length+U.length):=by simp; omega
   have lv2:(V.drop (e-(P.length+U.length))).length=P.length+U.length+V.length-e:=by simp; omega
   have hu:U=U.take (s-P.length)++U.drop (s-P.length):=(eD _ _).symm;have I:V=V.take (e-(P.length+U.length))++V.drop (e-(P.length+U.length)):=(eD _ _).symm
   have F1:∀x∈U.drop (s-P.length),∀y∈V.take (e-(P.length+U.length)),Ě m y<Ě m x:=fun x D y r=>by
    obtain⟨i,i1,i2,i3⟩:=sP D;obtain⟨j,j1,j2,H⟩:=sO r;have q:=s4 s (cZ _) (by omega);rw[show mid+(P.length+U.length)-1-s=e-1 by omega] at q;have a1:=kV (P.length+U.length+j) (e-1) (by omega) (by omega) (by omega);have a2:=kU s (P.length+i) (by omega) (by omega) (by omega);rw[W j y H] at a1;rw[X i x i3] at a2;omega
   have F2:∀x∈U.take (s-P.length),∀y∈V.drop (e-(P.length+U.length)),Ě m x<=Ě m y:=fun x D y r=>by
    obtain⟨i,i1,i2,i3⟩:=sO D;obtain⟨j,j1,j2,H⟩:=sP r;have q:=s3 (s-1) (by omega) (by omega);rw[show mid+(P.length+U.length)-1-(s-1)=e by omega] at q;have a1:=kV e (P.length+U.length+j) (by omega) (by omega) (by omega);have a2:=kU (P.length+i) (s-1) (by omega) (by omega) (by omega);rw[W j y H] at a1;rw[X i x i3] at a2;omega
   have hW':WOk m ((U.take (s-P.length)++U.drop (s-P.length))++(V.take (e-(P.length+U.length))++V.drop (e-(P.length+U.length)))):=by rw[<-hu,<-I]; exact hW
   have:=ajM T (P:=P) (u1:=U.take (s-P.length)) (u2:=U.drop (s-P.length)) (v1:=V.take (e-(P.length+U.length))) (v2:=V.drop (e-(P.length+U.length))) (Q:=Q) (by omega) (by omega) (by rw[<-hu]; exact sU) (by rw[<-I]; exact sV) F1 F2 hW' (by omega)
    (a:=(P.length:Int)) (c:=((P.length+U.length:Nat):Int)) (b:=((P.length+U.length+V.length:Nat):Int)) (mid:=(mid:Int)) (n:=(mid:Int)+((P.length+U.length:Nat):Int)) (z:=(s:Int)) rfl (by omega) (by omega) (by omega) (by omega) (by omega)
   rw[<-hu,<-I,<-F] at this;exact this
  by_cases hgt:mid<P.length+U.length
  ·rw[Ñ (decide_eq_true (by omega)),Ï (by omega) (by omega),Ï (by omega) (by omega)];have:=gen (mid+(P.length+U.length)-(P.length+U.length+V.length)) mid (by omega) (by omega) (by omega) (cZ _) (by omega) (.inr rfl) (.inr (by omega));rw[show((mid+(P.length+U.length)-1:Nat):Int)=(mid:Int)+((P.length+U.length:Nat):Int)-1 by omega,show((mid+(P.length+U.length)-(P.length+U.length+V.length):Nat):Int)=(mid:Int)+((P.length+U.length:Nat):Int)-((P.length+U.length+V.length:Nat):Int) by omega] at this;exact this
  ·rw[Í (decide_eq_false (by omega)),Ï (by omega) (by omega)];have:=gen P.length (P.length+U.length) (cZ _) (by omega) (cZ _) (by omega) (by omega) (.inl rfl) (.inl rfl);rw[show((mid+(P.length+U.length)-1:Nat):Int)=(mid:Int)+((P.length+U.length:Nat):Int)-1 by omega] at this;exact this
def MC {P U V Q:CK Way} (g:1<=U.length) (f:1<=V.length) (c:Srt (Ě m) U) (a:Srt (Ě m) V) (e:WOk m (U++V)) (d:P.length+U.length+V.length<=1000000) :
 Ę (P++(U++(V++Q))) P.length ((P.length+U.length:Nat):Int) ((P.length+U.length+V.length:Nat):Int) m=some (P++(ĸ (Ě m) (U++V)++Q),m) :=
 J4 99 1000000 (by decide) P U V Q g f (by omega) c a e d
end
section
variable {ρ:Type} {m:ł}
inductive Chs (m:ł) (bs:Nat):List Way->Prop
 |last {l:List Way}:l.length<=bs->Srt (Ě m) l->Chs m bs l
 |cons {u r:List Way}:u.length=bs->Srt (Ě m) u->Chs m bs r->Chs m bs (u++r)
def Chs.split {bs:Nat} {l:CK Way} (h:Chs m bs l) (d:bs<l.length):∃u r,l=u++r/\u.length=bs/\Srt (Ě m) u/\Chs m bs r:=by
 cases h with
 |last a h2=>omega
 | @cons u r a h2 c=>exact⟨u,r,rfl,a,h2,c⟩
def Chs.srt {bs:Nat} {l:CK Way} (h:Chs m bs l) (a:l.length<=bs):Srt (Ě m) l:=by
 cases h with
 |last c h2=>exact h2
 | @cons u r c h2 d =>
  have:r=[]:=by
   rw[dc] at a;exact dv.1 (by omega)
  rw[this,du];exact h2
def csR (m:ł) (bs:Nat):Nat->CK Way->CK Way
 |0,l=>l
 |f+1,l=>if bs<=l.length then ĸ (Ě m) (l.take bs)++csR m bs f (l.drop bs) else ĸ (Ě m) l
def mpR (m:ł) (bs:Nat):Nat->CK Way->CK Way
 |0,l=>l
 |f+1,l=>if 2*bs<=l.length then ĸ (Ě m) (l.take (2*bs))++mpR m bs f (l.drop (2*bs)) else if bs<l.length then ĸ (Ě m) l else l
def alW {bs:Nat} (hb:1<=bs):∀(f:Nat) (l:CK Way),l.length<f->Chs m bs (csR m bs f l)/\Stb (Ě m) l (csR m bs f l)
 |0,_,h=>by omega
 |f+1,l,h=>by
  unfold csR
  by_cases a:bs<=l.length
  ·rw[if_pos a];obtain⟨c,h2⟩:=alW hb f (l.drop bs) (by simp; omega);refine⟨.cons (by rw[rP]; simp; omega) (lg _) c,?_⟩;have:=(ŕ (key:=Ě m) (l.take bs)).append h2
   rwa [eD] at this
  ·rw[if_neg a];exact⟨.last (by rw[rP]; omega) (lg _),ŕ _⟩
def alL {bs:Nat} (hb:1<=bs):∀(f:Nat) (l:CK Way),l.length<f->Chs m bs l->Chs m (2*bs) (mpR m bs f l)/\Stb (Ě m) l (mpR m bs f l)
 |0,_,h,_=>by omega
 |f+1,l,h,c=>by
  unfold mpR
  by_cases a:2*bs<=l.length
  ·rw[if_pos a]
   have hd:Chs m bs (l.drop (2*bs)):=by
    obtain⟨u,r,rfl,g,_,h2⟩:=c.split (by omega)
    have i:bs<=r.length:=by rw[dc] at a; omega
    have e:(u++r).drop (2*bs)=r.drop bs:=by
     rw[List.drop_append,gA (by omega),d8];congr 1; omega
    rw[e];rcases gu i with d|d
    ·obtain⟨u2,r2,rfl,n,_,j⟩:=h2.split d;rw[List.drop_append,gA (by omega),d8,n,gI,gE];exact j
    ·rw[gA (by omega)];exact .last (by simp) List.Pairwise.nil
   obtain⟨g,h2⟩:=alL hb f (l.drop (2*bs)) (by simp; omega) hd;refine⟨.cons (by rw[rP]; simp; omega) (lg _) g,?_⟩;have:=(ŕ (key:=Ě m) (l.take (2*bs))).append h2
   rwa [eD] at this
  ·rw[if_neg a]
   by_cases h2:bs<l.length
   ·rw[if_pos h2];exact⟨.last (by rw[rP]; omega) (lg _),ŕ _⟩
   ·rw[if_neg h2];exact⟨.last (by omega) (c.srt (by omega)),Stb.refl _⟩
abbrev StT:=Int×Int×CK Way×Int×Int×CK pi×CK bx×CK u7×CK i4×CK bx×CK ge
def stM (a b:Int) (l:CK Way) (m:ł):StT:=(a,b,l,m.1.1.1,m.1.1.2,m.1.2.1,m.1.2.2.1,m.1.2.2.2.1,m.1.2.2.2.2.1,m.1.2.2.2.2.2,m.2)
def WOk.stb {l s:CK Way} (h:WOk m l) (c:Stb (Ě m) l s):WOk m s:=fun x a=>h x (c.mem.1 a)
def ami {xs:CK Way} (J:WOk m xs) (T:xs.length<=100000) (K:CK Way×ł->BY ρ) :
 Ê (fun(v:StT) H=>iI (xs.length:Int) (20:Int) v.1 v.2.1 v.2.2.1 v.2.2.2.1 v.2.2.2.2.1 v.2.2.2.2.2.1 v.2.2.2.2.2.2.1 v.2.2.2.2.2.2.2.1 v.2.2.2.2.2.2.2.2.1 v.2.2.2.2.2.2.2.2.2.1 v.2.2.2.2.2.2.2.2.2.2 (fun z y u s r o n l j i e=>H (z,y,u,s,r,o,n,l,j,i,e))
  (fun a=>Ä (ì a.2.1 a.1 (xs.length:Int) (((a.2.2.1,a.2.2.2.1),a.2.2.2.2.1,a.2.2.2.2.2.1,a.2.2.2.2.2.2.1,a.2.2.2.2.2.2.2.1,a.2.2.2.2.2.2.2.2.1),a.2.2.2.2.2.2.2.2.2)) fun C=>K C)) (stM 0 20 xs m)=K (csR m 20 (xs.length+1) xs,m):=by
 refine ñ (fun v:StT=>∃(A R:CK Way) (f:Nat),v=stM (A.length:Int) ((A.length+20:Nat):Int) (A++R) m/\A++csR m 20 f R=csR m 20 (xs.length+1) xs/\R.length<f/\A.length+R.length=xs.length/\WOk m R) (fun v=>(xs.length+100)-v.1.toNat) ?_ ⟨[],xs,xs.length+1,rfl,rfl,by omega,by simp,J⟩;rintro v ⟨A,R,f,rfl,d,U,I,c⟩;obtain⟨f,rfl⟩:∃g,f=g+1:=⟨f-1,by omega⟩
 have O:csR m 20 (f+1) R=if 20<=R.length then ĸ (Ě m) (R.take 20)++csR m 20 f (R.drop 20) else ĸ (Ě m) R:=rfl
 rw[O] at d
 by_cases h:20<=R.length
 ·have lt:(R.take 20).length=20:=by simp; omega
  have D:(ĸ (Ě m) (R.take 20)).length=20:=by rw[rP,lt]
  refine .inr ⟨stM (((A++ĸ (Ě m) (R.take 20)).length:Nat):Int) (((A++ĸ (Ě m) (R.take 20)).length+20:Nat):Int) ((A++ĸ (Ě m) (R.take 20))++R.drop 20) m,⟨_,_,f,rfl,?_,by simp; omega,by rw[dc,D]; simp; omega,c.sub fun x E=>List.mem_of_mem_drop E⟩,by simp only[stM,dc,D]; omega,fun F=>?_⟩
  ·rw[if_pos h] at d;rw[di];exact d
  ·show ifb (ile ((A.length+20:Nat):Int) (xs.length:Int)) (Ä (ì (A++R) (A.length:Int) ((A.length+20:Nat):Int) m) fun r1=>ck (((A.length+20:Nat):Int)+(20:Int)) fun G=>F (stM ((A.length+20:Nat):Int) G r1.1 r1.2)) _=_;have:=Kw (m:=m) (P:=A) (M:=R.take 20) (Q:=R.drop 20) (c.sub fun x E=>ff E) (by omega);rw[eD,lt] at this;rw[Ñ (decide_eq_true (by omega)),this,À,Ï (by omega) (by omega)];congr 1;rw[dc,D,di];rfl
 ·refine .inl fun F=>?_;show ifb (ile ((A.length+20:Nat):Int) (xs.length:Int)) _ (Ä (ì (A++R) (A.length:Int) (xs.length:Int) m) fun C=>K C)=_;have:=Kw (m:=m) (P:=A) (M:=R) (Q:=[]) c (by omega);rw[du,I] at this;rw[Í (decide_eq_false (by omega)),this,À];rw[if_neg h] at d;rw[<-d,du]
def amh {xs:CK Way} {bs:Nat} (hb:1<=bs) (hb2:bs<=200000) (hc:Chs m bs xs) (hW:WOk m xs) (hn:xs.length<=100000) (K:CK Way×ł->BY ρ) :
 Ê (fun(v:StT) kk=>iG (xs.length:Int) (bs:Int) v.1 v.2.1 v.2.2.1 v.2.2.2.1 v.2.2.2.2.1 v.2.2.2.2.2.1 v.2.2.2.2.2.2.1 v.2.2.2.2.2.2.2.1 v.2.2.2.2.2.2.2.2.1 v.2.2.2.2.2.2.2.2.2.1 v.2.2.2.2.2.2.2.2.2.2 (fun J I H G F E D C z y s=>kk (J,I,H,G,F,E,D,C,z,y,s))
  (fun a=>ck (a.1+(bs:Int)) fun c=>ifb (ilt c (xs.length:Int)) (Ä (Ę a.2.1 a.1 c (xs.length:Int) (((a.2.2.1,a.2.2.2.1),a.2.2.2.2.1,a.2.2.2.2.2.1,a.2.2.2.2.2.2.1,a.2.2.2.2.2.2.2.1,a.2.2.2.2.2.2.2.2.1),a.2.2.2.2.2.2.2.2.2)) fun e=>K e) (K (a.2.1,(((a.2.2.1,a.2.2.2.1),a.2.2.2.2.1,a.2.2.2.2.2.1,a.2.2.2.2.2.2.1,a.2.2.2.2.2.2.2.1,a.2.2.2.2.2.2.2.2.1),a.2.2.2.2.2.2.2.2.2))))) (stM 0 ((2*bs:Nat):Int) xs m)=K (mpR m bs (xs.length+1) xs,m):=by
 refine ñ (fun v:StT=>∃(A R:CK Way) (f:Nat),v=stM (A.length:Int) ((A.length+2*bs:Nat):Int) (A++R) m/\A++mpR m bs f R=mpR m bs (xs.length+1) xs/\R.length<f/\A.length+R.length=xs.length/\WOk m R/\Chs m bs R) (fun v=>(xs.length+1000000)-v.1.toNat) ?_ ⟨[],xs,xs.length+1,by simp[stM],rfl,by omega,by simp,hW,hc⟩;rintro v ⟨A,R,f,rfl,d,hf,n,i,l⟩;obtain⟨f,rfl⟩:∃g,f=g+1:=⟨f-1,by omega⟩
 have e0:mpR m bs (f+1) R=if 2*bs<=R.length then ĸ (Ě m) (R.take (2*bs))++mpR m bs f (R.drop (2*bs)) else if bs<R.length then ĸ (Ě m) R else R:=rfl
 rw[e0] at d
 by_cases h:2*bs<=R.length
 ·obtain⟨u,r,rfl,Y,h2,o⟩:=l.split (by omega)
  have hr:bs<=r.length:=by rw[dc] at h; omega
  -- the second block
  obtain⟨u2,r2,rfl,T,h5,h6⟩:∃u2 r2,r=u2++r2/\u2.length=bs/\Srt (Ě m) u2/\Chs m bs r2:=by
   rcases gu hr with q|q
   ·exact o.split q
   ·exact⟨r,[],by simp,q.symm,o.srt (by omega),.last (by simp) List.Pairwise.nil⟩
  have e1:(u++(u2++r2)).take (2*bs)=u++u2:=by
   rw[<-di,fQ (by simp; omega),dZ (by simp; omega)]
  have e2:(u++(u2++r2)).drop (2*bs)=r2:=by
   rw[<-di,List.drop_append,gA (by simp; omega),d8];rw[show 2*bs-(u++u2).length=0 by simp; omega];rfl
  have O:(ĸ (Ě m) (u++u2)).length=2*bs:=by rw[rP]; simp; omega
  rw[if_pos h,e1,e2] at d;refine .inr ⟨stM (((A++ĸ (Ě m) (u++u2)).length:Nat):Int) (((A++ĸ (Ě m) (u++u2)).length+2*bs:Nat):Int) ((A++ĸ (Ě m) (u++u2))++r2) m,⟨_,_,f,rfl,by rw[di]; exact d,by simp at hf; omega,by rw[dc,O]; simp at n; omega,i.sub fun x j=>by simp[j],h6⟩,by simp only[stM,dc,O]; omega,fun X=>?_⟩;show ifb (ile ((A.length+2*bs:Nat):Int) (xs.length:Int)) (ck ((A.length:Int)+(bs:Int)) fun n6=>Ä (Ę (A++(u++(u2++r2))) (A.length:Int) n6 ((A.length+2*bs:Nat):Int) m) fun W=>ck ((2:Int)*(bs:Int)) fun n8=>ck (((A.length+2*bs:Nat):Int)+n8) fun Z=>X (stM ((A.length+2*bs:Nat):Int) Z W.1 W.2)) _=_
  have:=MC (m:=m) (P:=A) (U:=u) (V:=u2) (Q:=r2) (by omega) (by omega) h2 h5 (i.sub fun x j=>by rcases dg.1 j with j|j<;>simp[j]) (by omega)
  rw[Y,T] at this;rw[List.length_append,List.length_append] at n;rw[Ñ (decide_eq_true (by omega)),Ï (by omega) (by omega),show(A.length:Int)+(bs:Int)=((A.length+bs:Nat):Int) by omega,show((A.length+2*bs:Nat):Int)=((A.length+bs+bs:Nat):Int) by omega,this,À,Ï (by omega) (by omega),Ï (by omega) (by omega)];congr 1;unfold stM;rw[List.length_append,O,List.append_assoc];refine Prod.ext (by dsimp only; omega) (Prod.ext (by dsimp only; omega) rfl)
 ·refine .inl fun X=>?_;rw[if_neg h] at d;show ifb (ile ((A.length+2*bs:Nat):Int) (xs.length:Int)) _ (ck ((A.length:Int)+(bs:Int)) fun c=>ifb (ilt c (xs.length:Int)) (Ä (Ę (A++R) (A.length:Int) c (xs.length:Int) m) fun e=>K e) (K (A++R,m)))=_;rw[Í (decide_eq_false (by omega)),Ï (by omega) (by omega)]
  by_cases h2:bs<R.length
  ·rw[if_pos h2] at d;obtain⟨u,r,rfl,Y,o,T⟩:=l.split h2;have:=MC (m:=m) (P:=A) (U:=u) (V:=r) (Q:=[]) (by omega) (by rw[dc] at h2; omega) o (T.srt (by rw[dc] at h; omega)) i (by rw[dc] at n; omega);rw[du,du,show A.length+u.length+r.length=xs.length by rw[dc] at n; omega] at this;rw[Ñ (decide_eq_true (by omega)),show(A.length:Int)+(bs:Int)=((A.length+u.length:Nat):Int) by omega,this,À,d]
  ·rw[if_neg h2] at d;rw[Í (decide_eq_false (by omega)),d]
abbrev StQ:=Int×CK Way×Int×Int×CK pi×CK bx×CK u7×CK i4×CK bx×CK ge
def stQ (b:Int) (l:CK Way) (m:ł):StQ:=(b,l,m.1.1.1,m.1.1.2,m.1.2.1,m.1.2.2.1,m.1.2.2.2.1,m.1.2.2.2.2.1,m.1.2.2.2.2.2,m.2)
def af6 {xs:CK Way} (I:WOk m xs) (J:xs.length<=100000):ĺ xs (xs.length:Int) m=some (ĸ (Ě m) xs,m):=by
 unfold ĺ jI;refine(ami I J (fun F=>Ê (fun(a:StQ) d=>iH (xs.length:Int) a.1 a.2.1 a.2.2.1 a.2.2.2.1 a.2.2.2.2.1 a.2.2.2.2.2.1 a.2.2.2.2.2.2.1 a.2.2.2.2.2.2.2.1 a.2.2.2.2.2.2.2.2.1 a.2.2.2.2.2.2.2.2.2 (fun z y u s o n j i g f=>d (z,y,u,s,o,n,j,i,g,f)) (fun c=>some (c.1,(((c.2.1,c.2.2.1),c.2.2.2.1,c.2.2.2.2.1,c.2.2.2.2.2.1,c.2.2.2.2.2.2.1,c.2.2.2.2.2.2.2.1),c.2.2.2.2.2.2.2.2)))) (stQ (20:Int) F.1 F.2))).trans ?_;obtain⟨Q,P⟩:=alW (m:=m) (bs:=20) (by omega) (xs.length+1) xs (by omega);refine ñ (fun v:StQ=>∃(bs:Nat) (l:CK Way),1<=bs/\bs<=200000/\v=stQ (bs:Int) l m/\Chs m bs l/\Stb (Ě m) xs l) (fun v=>400000-v.1.toNat) ?_ ⟨20,_,by omega,by omega,rfl,Q,P⟩;rintro v ⟨bs,l,hb,E,rfl,D,e⟩;have H:=e.length
 by_cases h:bs<xs.length
 ·obtain⟨O,K⟩:=alL hb (l.length+1) l (by omega) D;refine .inr ⟨stQ ((2*bs:Nat):Int) (mpR m bs (l.length+1) l) m,⟨2*bs,_,by omega,by omega,rfl,O,e.trans K⟩,by simp only[stQ]; omega,fun G=>?_⟩;have:=amh (m:=m) (xs:=l) hb E D (I.stb e) (by omega) (fun r=>ck ((bs:Int)*(2:Int)) fun C=>G (stQ C r.1 r.2));rw[H] at this;show ifb (ilt (bs:Int) (xs.length:Int)) (ck ((2:Int)*(bs:Int)) fun R=>_) _=_;rw[Ñ (decide_eq_true (by omega)),Ï (by omega) (by omega),show(2:Int)*(bs:Int)=((2*bs:Nat):Int) by push_cast; rfl];rw[H];refine dY ?_ (this.trans ?_)
  ·rfl
  ·rw[Ï (by omega) (by omega)];congr 2;omega
 ·refine .inl fun G=>?_;show ifb (ilt (bs:Int) (xs.length:Int)) _ (some (l,m))=_;rw[Í (decide_eq_false (by omega)),xB (D.srt (by omega)) e]
end
abbrev Mx:=Int×CK Int
def Ĵ:CK Mx->Way->Prop
 |[],[]=>True
 |m::ms,l::ls=>l.Perm m.2/\Ĵ ms ls
 |_,_=>False
def Ĵ.len:∀{ms:CK Mx} {w:Way},Ĵ ms w->w.length=ms.length
 |[],[],_=>rfl
 |m::ms,l::ls,h=>by simp[h.2.len]
def Ĵ.at:∀{ms:CK Mx} {w:Way} {i:Nat} {m:Mx},Ĵ ms w->ms[i]?=some m->∃l,w[i]?=some l/\l.Perm m.2
 |[],_,i,_,_,h=>by simp at h
 |m::ms,l::ls,0,x,h,a=>by
  simp at a; subst a;exact⟨l,rfl,h.1⟩
 |m::ms,l::ls,i+1,x,h,a=>by
  simp only[fB] at a ⊢;exact h.2.at a
def stp (d:Int) (m:Mx) (l:CK Int) (x:Int):Int :=
 if m.1<d then match l.findIdx? (·==x) with|some k=>m.2.getD k 0|none=>x else x
def ţ:CK Mx->Way->Int->Int->Int
 |m::ms,l::ls,x,d=>stp d m l (ţ ms ls x d)
 |_,_,x,_=>x
def abO {ms:CK Mx} {w:Way} {i:Nat} {m:Mx} {l:CK Int} (a:ms[i]?=some m) (c:w[i]?=some l) (x d:Int):ţ (ms.drop i) (w.drop i) x d=stp d m l (ţ (ms.drop (i+1)) (w.drop (i+1)) x d):=by
 obtain⟨e,rfl⟩:=de.1 a;obtain⟨h2,rfl⟩:=de.1 c;rw[dV e,dV h2,ţ]
def who_ok {m:ł} {w:Way} (h:Ĵ m.2 w) (C:m.2.length<=1000) (r:∀x∈m.2,x.2.length<=1000) (x d:Int):rW m w x d=some (ţ m.2 w x d):=by
 unfold rW ag3;rw[Î,Ï (by omega) (by omega)];refine ñ (fun s:Int×Int=>∃i:Nat,i<=m.2.length/\s.2=(i:Int)-1/\s.1=ţ (m.2.drop i) (w.drop i) x d) (fun s=>(s.2+1).toNat) ?_ ⟨m.2.length,Nat.le_refl _,rfl,?_⟩
 ·rintro⟨z,v⟩ ⟨i,hi,g,h2⟩;simp only at g h2;subst g h2
  cases i with
  |zero =>
   refine .inl fun n=>?_
   try dsimp only
   unfold Bm;rw[Í (by simp[ige])]; rfl
  |succ i =>
   obtain⟨y,a⟩:∃y,m.2[i]?=some y:=⟨_,cX hi⟩;obtain⟨l,c,e⟩:=h.at a
   have o:l.length<=1000:=by rw[e.length_eq]; exact r y (df a)
   have j:((i+1:Nat):Int)-1=i:=by omega
   refine .inr ⟨(ţ (m.2.drop i) (w.drop i) x d,(i:Int)-1),⟨i,by omega,rfl,rfl⟩,by simp only[j]; omega,fun n=>?_⟩
   try dsimp only
   unfold Bm;rw[j,Ñ (by simp[ige]),Æ c,ZX (by omega),À,abO a c];unfold stp
   cases u:l.findIdx? (·==ţ (m.2.drop (i+1)) (w.drop (i+1)) x d) with
   |none =>
    dsimp only;rw[Í (by simp[ige]),Ï (by omega) (by omega)]
    split<;>rfl
   |some k =>
    dsimp only;rw[Ñ (by simp[ige]),Æ a]
    have f:k<y.2.length:=by rw[<-e.length_eq]; exact(dN.1 u).1
    by_cases hd:y.1<d
    ·rw[Ñ (by simp[ilt,hd]),Æ a,Æ (cX f),Ï (by omega) (by omega),if_pos hd];rw[ej,cX f]; rfl
    ·rw[Í (by simp[ilt,hd]),Ï (by omega) (by omega),if_neg hd]
 ·simp only[List.drop_length];rw[<-h.len,List.drop_length];unfold ţ;rfl
def Wu:CK Int->CK Int->Int
 |x::l,y::m=>(if y=x then 0 else 1)+Wu l m
 |_,_=>0
def uL:CK Mx->Way->Int
 |m::ms,l::ls=>Wu l m.2+uL ms ls
 |_,_=>0
def Mw:∀{l m:CK Int} {k:Nat} {x y:Int},l[k]?=some x->m[k]?=some y->Wu (l.take (k+1)) (m.take (k+1))=Wu (l.take k) (m.take k)+if y=x then 0 else 1
 |[],_,_,_,_,h,_=>by simp at h
 |_::_,[],_,_,_,_,h=>by simp at h
 |a::l,b::m,0,x,y,c,h2=>by
  simp at c h2; subst c h2;simp[Wu]
 |a::l,b::m,k+1,x,y,c,h2=>by
  simp only[fB] at c h2;have:=Mw c h2;simp only[gk,Wu,this]; omega
def Mv:∀{ms:CK Mx} {w:Way} {k:Nat} {m:Mx} {l:CK Int},ms[k]?=some m->w[k]?=some l->uL (ms.take (k+1)) (w.take (k+1))=uL (ms.take k) (w.take k)+Wu l m.2
 |[],_,_,_,_,h,_=>by simp at h
 |_::_,[],_,_,_,_,h=>by simp at h
 |a::l,b::m,0,x,y,c,h2=>by
  simp at c h2; subst c h2;simp[uL]
 |a::l,b::m,k+1,x,y,c,h2=>by
  simp only[fB] at c h2;have:=Mv c h2;simp only[gk,uL,this]; omega
def My:∀l m:CK Int,0<=Wu l m/\Wu l m<=m.length
 |[],m=>by simp[Wu]
 |_::_,[]=>by simp[Wu]
 |a::l,b::m=>by
  have:=My l m;unfold Wu;simp only[List.length_cons]
  split<;>omega
def afR {n:Nat}:∀{ms:CK Mx} {w:Way},(∀m∈ms,m.2.length<=n)->0<=uL ms w/\uL ms w<=(ms.length*n:Nat)
 |[],w,_=>by simp[uL]
 |m::ms,[],_=>by
  unfold uL; exact⟨Int.le_refl _,Int.natCast_nonneg _⟩
 |m::ms,l::ls,h=>by
  have d:=My l m.2;have h2:=h m (by simp);have c:=afR (w:=ls) fun x a=>h x (List.mem_cons_of_mem _ a);unfold uL
  have:(m::ms).length*n=ms.length*n+n:=by rw[dk,Nat.succ_mul]
  omega
def afQ {n:Nat} {ms:CK Mx} (d:ms.length<=1000) (c:∀x∈ms,x.2.length<=1000) (w:Way) (i:Nat):0<=uL (ms.take i) w/\uL (ms.take i) w<=1000000:=by
 have e:=afR (n:=1000) (ms:=ms.take i) (w:=w) fun m a=>c m (ff a);have h2:(ms.take i).length*1000<=1000*1000:=dF _ (by rw[dm]; omega);omega
def afS {m:ł} {w:Way} (h:Ĵ m.2 w) (G:m.2.length<=1000) (E:∀x∈m.2,x.2.length<=1000):Ĺ m w=some (uL m.2 w):=by
 unfold Ĺ SS;have f:=h.len;refine ñ (fun s:Int×Int=>∃i:Nat,i<=w.length/\s.2=(i:Int)/\s.1=uL (m.2.take i) (w.take i)) (fun s=>w.length-s.2.toNat) ?_ ⟨0,Nat.zero_le _,rfl,by simp[uL]⟩;rintro⟨R,Q⟩ ⟨i,hi,g,h2⟩;simp only at g h2;subst g h2;rcases Nat.lt_or_ge i w.length with e|J
 ·obtain⟨y,j⟩:∃y,m.2[i]?=some y:=⟨_,cX (by omega)⟩;obtain⟨l,z,o⟩:=h.at j
  have H:l.length<=1000:=by rw[o.length_eq]; exact E y (df j)
  refine .inr ⟨(uL (m.2.take (i+1)) (w.take (i+1)),(i:Int)+1),⟨i+1,e,by simp,rfl⟩,by simp only[dl]; omega,fun r=>?_⟩
  try dsimp only
  unfold pN;rw[Ì e,Æ z];have hb:=afQ (n:=0) G E (w.take i) i;refine ñ (fun s:Int×Int=>∃k:Nat,k<=l.length/\s.2=(k:Int)/\s.1=uL (m.2.take i) (w.take i)+Wu (l.take k) (y.2.take k)) (fun s=>l.length-s.2.toNat) ?_ ⟨0,Nat.zero_le _,rfl,by simp[Wu]⟩;rintro⟨P,t2⟩ ⟨k,T,g,h2⟩;simp only at g h2;subst g h2;have O:=My (l.take k) (y.2.take k)
  have K:(y.2.take k).length<=1000:=by rw[dm]; omega
  rcases dq k l.length with c|I
  ·obtain⟨u,D⟩:∃u,l[k]?=some u:=⟨_,cX c⟩;obtain⟨v,C⟩:∃v,y.2[k]?=some v:=⟨_,cX (by rw[<-o.length_eq]; exact c)⟩;refine .inr ⟨(uL (m.2.take i) (w.take i)+Wu (l.take (k+1)) (y.2.take (k+1)),(k:Int)+1),⟨k+1,c,by simp,rfl⟩,by simp only[dl]; omega,fun r=>?_⟩
   try dsimp only
   unfold pM;rw[Ì c,Æ D,Æ j,Æ C,Mw D C]
   by_cases a:v=u
   ·rw[Í (by simp[ine,a]),Ï (by omega) (by omega),if_pos a]; simp
   ·rw[Ñ (by simp[ine,a]),Ï (by omega) (by omega),Ï (by omega) (by omega),if_neg a,Int.add_assoc]
  ·refine .inl fun F=>?_
   have d:k=l.length:=by omega
   subst d
   try dsimp only
   unfold pM;rw[Ó];dsimp only;rw[Ï (by omega) (by omega),Mv j z,List.take_length,o.length_eq,List.take_length]
 ·refine .inl fun r=>?_
  have d:i=w.length:=by omega
  subst d
  try dsimp only
  unfold pN;rw[Ó,List.take_length,f,List.take_length]
def aeN (a:Int):CK Int->CK Int
 |[]=>[a]
 |b::t=>if a<=b then a::b::t else b::aeN a t
def lh:CK Int->CK Int
 |[]=>[]
 |a::t=>aeN a (lh t)
def yO (p:BY Int):CK Int->CK Int
 |[]=>[]
 |a::t=>if p=some a then yO (some a) t else a::yO (some a) t
def WX (l:CK Int):CK Int:=yO none (lh l)
def HC (a:Int):∀l,(aeN a l).Perm (a::l)
 |[]=>List.Perm.refl _
 |b::t=>by
  unfold aeN
  split
  ·exact List.Perm.refl _
  ·exact((HC a t).cons b).trans (List.Perm.swap a b t)
def ĵ:∀l,(lh l).Perm l
 |[]=>List.Perm.refl _
 |a::t=>(HC a _).trans ((ĵ t).cons a)
def EX (a:Int):∀{l:CK Int},l.Pairwise (·<=·)->(aeN a l).Pairwise (·<=·)
 |[],_=>by simp[aeN]
 |b::t,h=>by
  rw[List.pairwise_cons] at h;unfold aeN
  split
  ·rename_i d;refine dJ.2 ⟨fun x c=>?_,dJ.2 h⟩;rcases dh.1 c with rfl|c
   ·exact d
   ·have:=h.1 x c; omega
  ·rename_i d;refine dJ.2 ⟨fun x c=>?_,EX a h.2⟩;rcases dh.1 ((HC a t).mem_iff.1 c) with rfl|c
   ·omega
   ·exact h.1 x c
def Ω:∀l:CK Int,(lh l).Pairwise (·<=·)
 |[]=>List.Pairwise.nil
 |a::t=>EX a (Ω t)
def Ul (l:CK Int):yR l=lh l:=by
 have d:(yR l).Pairwise (·<=·):=by
  have:=List.pairwise_mergeSort (le:=fun a b:Int=>decide (a<=b)) (fun a b c d h2=>by simp at *; omega) (fun a b=>by simp; omega) l
  exact this.imp fun h=>by simpa using h
 exact gX (le:=(·<=·)) (fun a b _ _ d h2=>by omega) d (Ω l) ((List.mergeSort_perm l _).trans (ĵ l).symm)
def RY (a:Int):∀(l:CK Int) (p:BY Int),yO p (l++[a])=yO p l++(if (match l.getLast? with|some b=>some b|none=>p)=some a then[] else[a])
 |[],p=>by simp only[d8,yO,List.getLast?_nil]; rfl
 |b::t,p=>by
  have d:=RY a t (some b)
  have e:(match (b::t).getLast? with|some c=>some c|none=>p)=(match t.getLast? with|some c=>some c|none=>some b):=by
   cases t with
   |nil=>rfl
   |cons c t =>
    rw[List.getLast?_cons_cons]
    cases h:(c::t).getLast? with
    |none=>simp at h
    |some x=>rfl
  rw[e];simp only[fe,yO,d]
  split<;>simp
def DS (l:CK Int):∀m,m<=l.length->Lib.compactUpTo l.toArray m=yO none (l.take m)
 |0,_=>by simp[Lib.compactUpTo,yO]
 |m+1,h=>by
  have d:m<l.length:=h;rw[Lib.compactUpTo_succ,DS l m (by omega),take_succ (cX d),RY];congr 1
  have e:l.toArray[m]! = l[m]:=by simp[getElem!_pos,d]
  rw[e];unfold Lib.keeps;rw[e]
  cases m with
  |zero=>simp
  |succ m =>
   have c:m<l.length:=by omega
   have g:l.toArray[m+1-1]! = l[m]:=by simp[getElem!_pos,c]
   rw[g]
   have f:(l.take (m+1)).getLast?=some l[m]:=by rw[take_succ (cX c),List.getLast?_append]; rfl
   rw[f]
   by_cases a:l[m+1]=l[m]
   ·simp[a]
   ·have:¬l[m]=l[m+1]:=fun h=>a h.symm;simp[a,this]
def abi (l:CK Int):BU l=yO none l:=by
 unfold BU Lib.compact;rw[DS l l.length (Nat.le_refl _),List.take_length]
def agd (l:CK Int):BU (yR l)=WX l:=by rw[Ul,abi]; rfl
def WI:∀{l:CK Int} {p:BY Int} {x:Int},p≠some x->(x∈yO p l↔x∈l)
 |[],_,_,_=>Iff.rfl
 |a::t,p,x,f=>by
  unfold yO
  by_cases c:x=a
  ·subst c;rw[if_neg f]; simp
  ·have d:=WI (l:=t) (p:=some a) (x:=x) (fun e=>c (by cases e; rfl))
   split<;>simp[d,c]
def abT:∀{l:CK Int} {p:BY Int},l.Pairwise (·<=·)->(∀q,p=some q->∀x∈l,q<=x)->(yO p l).Pairwise (·<·)/\∀q,p=some q->∀x∈yO p l,q<x
 |[],p,_,_=>⟨List.Pairwise.nil,fun _ _ _ h=>by cases h⟩
 |a::t,p,h,i=>by
  rw[List.pairwise_cons] at h;obtain⟨g,f⟩:=abT (l:=t) (p:=some a) h.2 (fun q d x c=>by cases d; exact h.1 x c);unfold yO
  split
  ·rename_i e;exact⟨g,fun q d x c=>by rw[e] at d; cases d; exact f _ rfl x c⟩
  ·rename_i e;refine⟨dJ.2 ⟨fun x c=>f _ rfl x c,g⟩,fun q d x c=>?_⟩;have:=i q d a (by simp);have j:q≠a:=fun h=>e (by rw[d,h]);rcases dh.1 c with rfl|c
   ·omega
   ·have:=f _ rfl x c; omega
def wH {l:CK Int} {x:Int}:x∈WX l↔x∈l:=by
 unfold WX;rw[WI (by simp),(ĵ l).mem_iff]
def D5 (l:CK Int):(WX l).Pairwise (·<·):=(abT (Ω l) (fun q a=>by cases a)).1
def WJ:∀(l:CK Int) (p:BY Int),(yO p l).length<=l.length
 |[],_=>cZ _
 |a::t,p=>by
  have:=WJ t (some a);unfold yO
  split<;>simp<;>omega
def Fs (l:CK Int):(WX l).length<=l.length:=by
 unfold WX;have:=WJ (lh l) none
 rwa [(ĵ l).length_eq] at this
def abE {l m:CK Int} (f:l.Pairwise (·<·)) (e:m.Pairwise (·<·)) (h:∀x,x∈l↔x∈m):l=m:=by
 induction l generalizing m with
 |nil =>
  cases m with
  |nil=>rfl
  |cons a t=>have:=(h a).2 (by simp); cases this
 |cons a t i =>
  rw[dJ] at f
  cases m with
  |nil=>have:=(h a).1 (by simp); cases this
  |cons b u =>
   rw[dJ] at e
   have g:a=b:=by
    rcases dh.1 ((h a).1 (by simp)) with c|c
    ·exact c
    ·rcases dh.1 ((h b).2 (by simp)) with h2|h2
     ·exact h2.symm
     ·have:=e.1 a c; have:=f.1 b h2; omega
   subst g;rw[i f.2 e.2 fun x=>?_];constructor
   ·intro d;rcases dh.1 ((h x).1 (by simp[d])) with c|c
    ·have:=f.1 x d; omega
    ·exact c
   ·intro d;rcases dh.1 ((h x).2 (by simp[d])) with c|c
    ·have:=e.1 x d; omega
    ·exact c
def uR (b:ø) (s:CK (Int×æ)) (c:Cmp):Int :=
 if (c.2.2.1++c.2.2.2.1).any (fun id=>mu s id c.2.1==5) then 5 else
 if (c.2.2.1++c.2.2.2.1).any (fun id=>mu s id c.2.1==4) then 4 else
 if (c.2.2.1++c.2.2.2.1).any (fun id=>(ś b id c.2.1).isSome) then 9 else
 if 1<(á c.2.2.1 c.2.2.2.1).length then 1 else if 1<(á c.2.2.2.1 c.2.2.1).length then 1 else
 if (á c.2.2.1 c.2.2.2.1).length+(á c.2.2.2.1 c.2.2.1).length=0 then 1 else 0
def I1 (c:Cmp):Bool :=
 inP c.1 1 1099511627776&&(yH c.2.1&&(inP c.2.2.2.2.1 (-1125899906842624) 1125899906842624&&(inP c.2.2.2.2.2.1 0 1073741824&&(j7 c.2.2.2.2.2.2 (-10000) 10000&&(uz c.2.2.1&&uz c.2.2.2.1)))))
def lP (b:ø) (s:CK (Int×æ)) (i:Nat) (c:Cmp):Int :=
 if !I1 c then 1 else if (b.2.2.2.2.1.take i).any (fun x=>x.1==c.1) then 6 else uR b s c
def rM (a b:CK Int):(á a b).length<=a.length:=dP _ _
set_option maxHeartbeats 1000000 in
def P1 {b:ø} (W:b.2.2.2.2.1.length<=1000) (R:b.2.2.2.1.length<=1000) (s:CK (Int×æ)) {i:Nat} {c:Cmp} (Y:c.2.2.1.length<=1000) (X:c.2.2.2.1.length<=1000)
 (I:b.2.2.2.2.1[i]?=some c):Ŏ b s i=some (lP b s i c):=by
 have hi:i<b.2.2.2.2.1.length:=(List.getElem?_eq_some_iff.1 I).1;unfold Ŏ pu lP I1;rw[Æ I,iB,À]
 cases inP c.1 1 1099511627776 with
 |false=>rfl
 |true =>
 rw[L6,À]
 cases yH c.2.1 with
 |false=>rfl
 |true =>
 rw[iB,À]
 cases inP c.2.2.2.2.1 (-1125899906842624) 1125899906842624 with
 |false=>rfl
 |true =>
 rw[iB,À]
 cases inP c.2.2.2.2.2.1 0 1073741824 with
 |false=>rfl
 |true =>
 rw[HB,À]
 cases j7 c.2.2.2.2.2.2 (-10000) 10000 with
 |false=>rfl
 |true =>
 rw[Hz (by omega),À]
 cases uz c.2.2.1 with
 |false=>rfl
 |true =>
 rw[Hz (by omega),À]
 cases uz c.2.2.2.1 with
 |false=>rfl
 |true =>
 have T:((ile (0:Int) (i:Int))&&(ile (i:Int) (ç b.2.2.2.2.1)))=true:=by simp[ile,ç]; omega
 simp only[dR,ä,Bool.and_self,dr,if_false];rw[à T,dl]
 -- what comes behind the IDs
 have rest:(Ä (Ī ([c.2.2.1,c.2.2.2.1])) fun g=>Ê (fun(D:Int) o=>ř s g (Õ ([(5:Int),(4:Int)])) c.2.1 ([(5:Int),(4:Int)]) D (fun F=>o F) (fun z=>some z) (fun _=>Ê (fun(E:Int) r=>Ř g (Õ g) b.1.1 b.1.2 b.2.1 b.2.2.1 b.2.2.2.1 b.2.2.2.2.1 b.2.2.2.2.2 c.2.1 E (fun G=>r G) (fun y=>some y) (fun _=>Ä (θ c.2.2.1 c.2.2.2.1) fun f=>Ä (θ c.2.2.2.1 c.2.2.1) fun e=>ifb (igt (Õ f) (1:Int)) (some (1:Int)) (ifb (igt (Õ e) (1:Int)) (some (1:Int)) (ck ((Õ f)+(Õ e)) fun h=>ifb (ieq h (0:Int)) (some (1:Int)) (some (0:Int)))))) (0:Int))) (0:Int))=some (uR b s c):=by
  rw[Qs (by omega) (by omega),À]
  have J:(c.2.2.1++c.2.2.2.1).length<=2000:=by simp; omega
  have last:(Ä (θ c.2.2.1 c.2.2.2.1) fun f=>Ä (θ c.2.2.2.1 c.2.2.1) fun e=>ifb (igt (Õ f) (1:Int)) (some (1:Int)) (ifb (igt (Õ e) (1:Int)) (some (1:Int)) (ck ((Õ f)+(Õ e)) fun h=>ifb (ieq h (0:Int)) (some (1:Int)) (some (0:Int))))) =
   some (if 1<(á c.2.2.1 c.2.2.2.1).length then 1 else if 1<(á c.2.2.2.1 c.2.2.1).length then 1 else if (á c.2.2.1 c.2.2.2.1).length+(á c.2.2.2.1 c.2.2.1).length=0 then 1 else 0):=by
   rw[AK (by omega) (by omega),À,AK (by omega) (by omega),À];have V:=rM c.2.2.1 c.2.2.2.1;have U:=rM c.2.2.2.1 c.2.2.1;rw[Î,Î,Ï (by omega) (by omega)]
   by_cases P:1<(á c.2.2.1 c.2.2.2.1).length
   ·rw[Ñ (by simp[igt]; omega),if_pos P]
   rw[Í (by simp[igt]; omega),if_neg P]
   by_cases O:1<(á c.2.2.2.1 c.2.2.1).length
   ·rw[Ñ (by simp[igt]; omega),if_pos O]
   rw[Í (by simp[igt]; omega),if_neg O]
   by_cases K:(á c.2.2.1 c.2.2.2.1).length+(á c.2.2.2.1 c.2.2.1).length=0
   ·rw[Ñ (by simp[ieq]; omega),if_pos K]
   rw[Í (by simp[ieq]; omega),if_neg K]
  refine dY (jt [(5:Int),4] (fun _ d=>if (c.2.2.1++c.2.2.2.1).any (fun id=>mu s id c.2.1==d) then some d else none) some (some (if (c.2.2.1++c.2.2.2.1).any (fun id=>(ś b id c.2.1).isSome) then 9 else if 1<(á c.2.2.1 c.2.2.2.1).length then 1 else if 1<(á c.2.2.2.1 c.2.2.1).length then 1 else if (á c.2.2.1 c.2.2.2.1).length+(á c.2.2.2.1 c.2.2.1).length=0 then 1 else 0)) (fun j d n Q v=>?_) (fun v=>?_)) ?_
  ·try dsimp only
   unfold ř;rw[Ì n,ő n,é Q];refine Eq.trans (Ē (c.2.2.1++c.2.2.2.1) (fun id=>mu s id c.2.1==d) (fun _=>some d) (some d) (v ((j:Int)+1)) (fun _=>rfl) (fun k a u ha l=>?_) (fun l=>?_)) ?_
   ·try dsimp only
    unfold jb;rw[Ì u,Æ ha,aav,À,È u (by omega),õ]
   ·try dsimp only
    unfold jb;rw[Ó,È n (by simp)]
   ·cases List.any (c.2.2.1++c.2.2.2.1) (fun id=>mu s id c.2.1==d)<;>rfl
  ·try dsimp only
   unfold ř;rw[Ó];refine Eq.trans (Ē (c.2.2.1++c.2.2.2.1) (fun id=>(ś b id c.2.1).isSome) (fun _=>some 9) (some 9) (some (if 1<(á c.2.2.1 c.2.2.2.1).length then 1 else if 1<(á c.2.2.2.1 c.2.2.1).length then 1 else if (á c.2.2.1 c.2.2.2.1).length+(á c.2.2.2.1 c.2.2.1).length=0 then 1 else 0)) (fun _=>rfl) (fun k a u ha l=>?_) (fun l=>?_)) ?_
   ·try dsimp only
    unfold Ř;have H:=ajb R a c.2.1;rw[Ì u,Æ ha,È u (by omega)];rw[show xT ((b.1.1,b.1.2),b.2.1,b.2.2.1,b.2.2.2.1,b.2.2.2.2.1,b.2.2.2.2.2) a c.2.1=xT b a c.2.1 from rfl,H,À]
    cases ś b a c.2.1<;>rfl
   ·try dsimp only
    unfold Ř;rw[Ó,last]
   ·cases List.any (c.2.2.1++c.2.2.2.1) (fun id=>(ś b id c.2.1).isSome)<;>rfl
  ·unfold uR Ĝ Ĝ Ĝ
   try dsimp only
   cases List.any (c.2.2.1++c.2.2.2.1) (fun id=>mu s id c.2.1==5) with
   |true=>rfl
   |false =>
   cases List.any (c.2.2.1++c.2.2.2.1) (fun id=>mu s id c.2.1==4)<;>rfl
 refine dY (Ē (b.2.2.2.2.1.take i) (fun x=>x.1==c.1) (fun C=>ifb (ige C (0:Int)) (some 6) (some (uR b s c))) (some 6) (some (uR b s c)) (fun j=>?_) (fun j a n ha v=>?_) (fun v=>?_)) ?_
 ·have:ige (j:Int) 0=true:=by simp[ige]
  rw[Ñ this]
 ·try dsimp only
  unfold jc;rw[rest,Ì n,Æ ha,È n (by rw[List.length_take]; omega),õ]
 ·try dsimp only
  unfold jc;rw[Ó,rest]
 ·cases List.any (b.2.2.2.2.1.take i) (fun x=>x.1==c.1)<;>rfl
def Zs (b:ø) (g:æ):CK Int :=
 [g.2.1]++(b.2.2.2.2.1.filter fun c=>!(c.2.2.1.contains g.1==c.2.2.2.1.contains g.1)).map (fun c=>c.2.1)++(b.2.2.2.2.2.filter fun n=>n.1==g.1).map (fun n=>n.2)
def Ý (b:ø) (g:æ):CK Int:=WX (Zs b g)
structure jp (b:ø):Prop where
 gauges:b.2.1.length<=1000
 uses:b.2.2.1.length<=1000
 loans:b.2.2.2.1.length<=1000
 compares:b.2.2.2.2.1.length<=1000
 looks:b.2.2.2.2.2.length<=1000
 piles:∀c∈b.2.2.2.2.1,c.2.2.1.length<=1000/\c.2.2.2.1.length<=1000
def WS (l:CK Int):(yR l).length=l.length:=List.length_mergeSort l
def Zr {b:ø} (a:jp b) (g:æ):(Zs b g).length<=2001:=by
 have f:=a.compares;have h2:=a.looks;have e:=dP (fun c:Cmp=>!(c.2.2.1.contains g.1==c.2.2.2.1.contains g.1)) b.2.2.2.2.1;have d:=dP (fun n:Int×Int=>n.1==g.1) b.2.2.2.2.2;simp only[Zs,dc,dC,dH];omega
def aic {b:ø} (d:jp b) (g:æ):qr b g=some (Ý b g):=by
 unfold qr ac1;have y:=Zr d g
 have hd:(Ý b g).length<=2001:=by
  unfold Ý;have:=Fs (Zs b g);omega
 have r:=d.compares;have o:=d.looks;refine ê b.2.2.2.2.1 (fun i=>[g.2.1]++((b.2.2.2.2.1.take i).filter fun c=>!(c.2.2.1.contains g.1==c.2.2.2.1.contains g.1)).map (fun c=>c.2.1)) _ rfl (fun i c hi f e=>?_) (fun e=>?_)
 ·try dsimp only
  unfold xw;obtain⟨v,u⟩:=d.piles c (List.mem_of_getElem? f);rw[Ì hi,Æ f,Ţ (by omega),À,Ţ (by omega),À,È hi (by omega),È hi (by omega),take_succ f,List.filter_append,List.map_append]
  have a:([g.2.1]++((b.2.2.2.2.1.take i).filter fun c=>!(c.2.2.1.contains g.1==c.2.2.2.1.contains g.1)).map (fun c=>c.2.1)).length<=1001:=by
   have l:=dP (fun c:Cmp=>!(c.2.2.1.contains g.1==c.2.2.2.1.contains g.1)) (b.2.2.2.2.1.take i);rw[dm] at l;simp only[dc,dC,dH];omega
  rw[Ð (by simp only[dH]; omega),Am.iff_true]
  cases h:(c.2.2.1.contains g.1==c.2.2.2.1.contains g.1) with
  |true=>simp only[dR,ä,eO,h,dr,if_false,eJ,fF,du]
  |false=>simp only[fu,jd,eO,h,if_true,eJ,eX,fF,di]
 ·try dsimp only
  unfold xw;rw[Ó,List.take_length];refine ê b.2.2.2.2.2 (fun i=>[g.2.1]++(b.2.2.2.2.1.filter fun c=>!(c.2.2.1.contains g.1==c.2.2.2.1.contains g.1)).map (fun c=>c.2.1)++((b.2.2.2.2.2.take i).filter fun n=>n.1==g.1).map (fun n=>n.2)) _ (by simp) (fun i n hi j e=>?_) (fun e=>?_)
  ·try dsimp only
   unfold xv;rw[Ì hi,Æ j,È hi (by omega),È hi (by omega),take_succ j,List.filter_append,List.map_append]
   have a:([g.2.1]++(b.2.2.2.2.1.filter fun c=>!(c.2.2.1.contains g.1==c.2.2.2.1.contains g.1)).map (fun c=>c.2.1)++((b.2.2.2.2.2.take i).filter fun n=>n.1==g.1).map (fun n=>n.2)).length<=2001:=by
    have l:=dP (fun c:Cmp=>!(c.2.2.1.contains g.1==c.2.2.2.1.contains g.1)) b.2.2.2.2.1;have s:=dP (fun n:Int×Int=>n.1==g.1) (b.2.2.2.2.2.take i);rw[dm] at s;simp only[dc,dC,dH];omega
   rw[Ð (by simp only[dH]; omega),Am.iff_true]
   cases h:(n.1==g.1) with
   |true =>
    have:ieq n.1 g.1=true:=h;simp[h,this]
   |false =>
    have:ieq n.1 g.1=false:=h;simp[h,this]
  ·try dsimp only
   unfold xv;rw[Ó,List.take_length];rw[show([g.2.1]++(b.2.2.2.2.1.filter fun c=>!(c.2.2.1.contains g.1==c.2.2.2.1.contains g.1)).map (fun c=>c.2.1)++(b.2.2.2.2.2.filter fun n=>n.1==g.1).map (fun n=>n.2))=Zs b g from rfl];dsimp only;rw[Ð (by omega),Am.iff_true,Ð (by rw[WS]; omega),Am.iff_true,agd];rfl
def Ò (b:ø):CK (Int×Int):=b.2.1.flatMap fun g=>(Ý b g).map fun d=>((g.1,d):Int×Int)
def Ig {b:ø} (a:jp b) (g:æ):(Ý b g).length<=2001:=by
 unfold Ý;have:=Fs (Zs b g);have:=Zr a g;omega
def xI {α β:Type} (f:α->CK β) (n:Nat) (h:∀a,(f a).length<=n):∀l:CK α,(l.flatMap f).length<=l.length*n
 |[]=>by simp
 |a::l=>by
  have:=xI f n h l;have:=h a;simp only[dB,dc,dk,dG,ft];omega
def UN {b:ø} (f:jp b):se b=some (Ò b):=by
 unfold se YT;have u:=f.gauges
 have a:∀l:CK æ,(l.flatMap fun g=>(Ý b g).map fun d=>((g.1,d):Int×Int)).length<=l.length*2001:=fun l =>
  xI _ 2001 (fun g=>by rw[dC]; exact Ig f g) l
 refine ê b.2.1 (fun i=>(b.2.1.take i).flatMap fun g=>(Ý b g).map fun d=>((g.1,d):Int×Int)) _ rfl (fun i g hi c o=>?_) (fun o=>?_)
 ·try dsimp only
  unfold tY;rw[Ì hi,Æ c];rw[show qr ((b.1.1,b.1.2),b.2.1,b.2.2.1,b.2.2.2.1,b.2.2.2.2.1,b.2.2.2.2.2) g=qr b g from rfl,aic f,À];have hd:=Ig f g;have s:=a (b.2.1.take i)
  have r:(b.2.1.take i).length<=1000:=by rw[dm]; omega
  refine ê (Ý b g) (fun j=>((b.2.1.take i).flatMap fun g=>(Ý b g).map fun d=>((g.1,d):Int×Int))++((Ý b g).take j).map fun d=>((g.1,d):Int×Int)) _ (by simp) (fun j d n e h=>?_) (fun h=>?_)
  ·try dsimp only
   unfold tX;rw[Ì n,Æ e,È n (by omega),take_succ e,List.map_append];rw[Ð (by simp only[List.length_append,List.length_map,List.length_take,List.length_singleton]; omega),Am.iff_true];simp
  ·try dsimp only
   unfold tX;rw[Ó,List.take_length];dsimp only;rw[È hi (by omega),take_succ c,List.flatMap_append];simp
 ·try dsimp only
  unfold tY;rw[Ó,List.take_length];rfl
def y0 (b:ø) (s:CK (Int×æ)):CK Int :=
 b.2.2.1.map (fun u=>Z7 s u.1 u.2)++(b.2.2.2.1.mapIdx (fun i l=>LD b s i l)++(b.2.2.2.2.1.mapIdx (fun i c=>lP b s i c)++b.2.2.2.2.2.map (fun u=>Z7 s u.1 u.2)))
def X0 {α:Type} {f:Int->BY Int} {g:Nat->α->Int} (l:CK α) (h:∀(i:Nat) (a:α),l[i]?=some a->f i=some (g i a)):No f (yN l.length)=some (l.mapIdx g):=by
 have j:∀i,i<l.length->f (i:Int)=some ((l.mapIdx g)[i]?.getD 0):=by
  intro i hi;rw[h i l[i] (cX hi)];simp[hi]
 have h2:∀x∈yN l.length,f x=some ((l.mapIdx g)[x.toNat]?.getD 0):=by
  intro x c;unfold yN at c;obtain⟨i,hi,rfl⟩:=List.mem_map.1 c;rw[j i (by simpa using hi)];rfl
 rw[FO h2];congr 1;refine il (by simp[yN]) fun i n e=>?_
 have d:i<l.length:=by simpa using e
 simp[yN,d]
def aj4 {b:ø} (a:jp b) (s:CK (Int×æ)):pb b s=some (y0 b s):=by
 unfold pb y0
 rw[FO (fun u _=>Xi s u.1 u.2),À,X0 b.2.2.2.1 (fun i l e=>Zz a.loans a.uses s e),À,
  X0 b.2.2.2.2.1 (fun i c d=>P1 a.compares a.loans s (a.piles c (df d)).1 (a.piles c (df d)).2 d),À,FO (fun u _=>Xi s u.1 u.2),À]
def ŏ (b:ø):Int :=
 if !j7 b.1 0 1000000 then 1 else
 if 12<b.2.1.length then 2 else if 40<b.2.2.1.length then 2 else if 12<b.2.2.2.1.length then 2 else if 40<b.2.2.2.2.1.length then 2 else if 10<b.2.2.2.2.2.length then 2 else
 if jR b != 0 then jR b else
 match (y0 b (ŝ b)).find? (fun e=>e != 0) with
 |some e=>e
 |none=>if 59<(Ò b).length then 2 else if 300<2*b.2.1.length+2*((Ò b).length-b.2.1.length:Int)+2*b.2.2.2.2.1.length then 2 else 0
def I2 {b:ø} (a:jp b):(Ò b).length<=2001000:=by
 have:=xI (fun g:æ=>(Ý b g).map fun d=>((g.1,d):Int×Int)) 2001 (fun g=>by rw[List.length_map]; exact Ig a g) b.2.1;have h2:=a.gauges;unfold Ò;omega
def B8 {b:ø} (a:jp b) (o:∀g∈b.2.1,I64 g.2.2.2.2.1.1):κ b=some (ŏ b):=by
 unfold κ Ph ŏ;rw[HB,À]
 cases j7 b.1 0 1000000 with
 |false=>rfl
 |true =>
 have d:=a.gauges;have h2:=a.compares;have r:=I2 a;rw[Í (show(!true)=false from rfl),if_neg (by simp)];simp only[Î]
 by_cases c0:12<b.2.1.length
 ·rw[Ñ (by simp[igt]; omega),if_pos c0]
 rw[Í (by simp[igt]; omega),if_neg c0]
 by_cases n:40<b.2.2.1.length
 ·rw[Ñ (by simp[igt]; omega),if_pos n]
 rw[Í (by simp[igt]; omega),if_neg n]
 by_cases l:12<b.2.2.2.1.length
 ·rw[Ñ (by simp[igt]; omega),if_pos l]
 rw[Í (by simp[igt]; omega),if_neg l]
 by_cases j:40<b.2.2.2.2.1.length
 ·rw[Ñ (by simp[igt]; omega),if_pos j]
 rw[Í (by simp[igt]; omega),if_neg j]
 by_cases i:10<b.2.2.2.2.2.length
 ·rw[Ñ (by simp[igt]; omega),if_pos i]
 rw[Í (by simp[igt]; omega),if_neg i];rw[RQ o d,À]
 cases c:(jR b != 0) with
 |true =>
  have:ine (jR b) 0=true:=c;rw[Ñ this,if_pos rfl]
 |false =>
 have:ine (jR b) 0=false:=c;rw[Í this,if_neg (by simp)];rw[IL d,À];unfold Xa;rw[aj4 a,À]
 cases(y0 b (ŝ b)).find? (fun e=>e != 0) with
 |some e=>rfl
 |none =>
 dsimp only;rw[UN a,À]
 by_cases h:59<(Ò b).length
 ·rw[Ñ (by simp[igt]; omega),if_pos h]
 rw[Í (by simp[igt]; omega),if_neg h];rw[Ï (by omega) (by omega),Ï (by omega) (by omega),Ï (by omega) (by omega),Ï (by omega) (by omega),Ï (by omega) (by omega),Ï (by omega) (by omega)]
 by_cases f:300<2*b.2.1.length+2*((Ò b).length-b.2.1.length:Int)+2*b.2.2.2.2.1.length
 ·rw[Ñ (by simp[igt]; omega),if_pos f]
 rw[Í (by simp[igt]; omega),if_neg f]
def wrapU {n:Nat} (h:n<18446744073709551616):IntKind.wrap .u64 (n:Int)=n:=by
 simp only[IntKind.wrap,IntKind.bits,IntKind.signed];simp;omega
def afM {n:Nat} (h:n<9223372036854775808):IntKind.wrap .i64 (n:Int)=n:=by
 simp only[IntKind.wrap,IntKind.bits,IntKind.signed];simp;omega
def iZ (l:CK (Int×Int)) (x d:Int):BY Nat:=l.findIdx? fun n=>decide (x=n.1)&&decide (d=n.2)
def ZW {l:CK (Int×Int)} (e:l.length<=100000000) (x d:Int):û l (x,d)=some (match iZ l x d with|some j=>(j:Int)|none=>-1):=by
 unfold û jK;refine Eq.trans (Χ l (fun n=>decide (x=n.1)&&decide (d=n.2)) some (some (-1)) (fun i a hi ha c=>?_) (fun c=>?_)) ?_
 ·try dsimp only
  unfold ĩ;rw[Ì hi,Æ ha,È hi (by omega),õ,Bool.and_true]
 ·try dsimp only
  unfold ĩ;rw[Ó]
 ·unfold iZ
  cases List.findIdx? (fun n=>decide (x=n.1)&&decide (d=n.2)) l<;>rfl
def atP (l:CK (Int×Int)) (p:CK Int) (d:Int):Int :=
 match p with
 |[]=>0
 |x::_=>match iZ l x d with|some j=>(j:Int)+1|none=>0
def lX {l:CK (Int×Int)} {x d:Int} {j:Nat} (h:iZ l x d=some j):j<l.length/\l[j]?=some (x,d):=by
 unfold iZ at h;obtain⟨c,a,_⟩:=List.findIdx?_eq_some_iff_getElem.1 h;refine⟨c,?_⟩;rw[List.getElem?_eq_getElem c];simp only[Bool.and_eq_true,decide_eq_true_eq] at a;congr 1;exact Prod.ext a.1.symm a.2.symm
def anf (m:Maker) (p:CK Int) (d:Int) (e:m.2.1.length<=100000000):md m p d=some (atP m.2.1 p d):=by
 unfold md Kt atP
 cases p with
 |nil=>simp[Î,ieq]
 |cons x p =>
  have h:ieq (Õ (x::p)) 0=false:=by
   rw[Î];simp only[ieq,dk,beq_eq_false_iff_ne,ne_eq];omega
  rw[h,ä,show(0:Int)=((0:Nat):Int) from rfl,Æ (a:=x) rfl,ZW e,À]
  cases c:iZ m.2.1 x d with
  |none=>dsimp only; rw[Ï (by omega) (by omega)]; simp only[c]; rfl
  |some j =>
   have:=(lX c).1;dsimp only;rw[Ï (by omega) (by omega)];simp only[c]
def Ft (s:CK (Int×æ)) (p:CK Int):Int×Int :=
 match p with
 |[]=>(0,1)
 |x::_=>match pk (k:=tI) (v:=Ù) x s with
  |some g=>g.2.2.2.2.1
  |none=>(0,0)
def W9 (s:CK (Int×æ)) (p:CK Int):jn s p=some (Ft s p):=by
 unfold jn yx Ft
 cases p with
 |nil=>simp[Î,ieq]
 |cons x p =>
  have h:ieq (Õ (x::p)) 0=false:=by
   rw[Î];simp only[ieq,dk,beq_eq_false_iff_ne,ne_eq];omega
  rw[h,ä,show(0:Int)=((0:Nat):Int) from rfl,Æ (a:=x) rfl]
  cases c:pk (k:=tI) (v:=Ù) x s with
  |none=>simp only[Qt,c]
  |some g=>simp only[Qt,c]
def abQ {l:CK (Int×Int)} (d:∀r∈l,I64 r.1) (e:l.length<=1000):lr l=some (if l.any (fun r=>!J9 r) then 1 else 0):=by
 unfold lr YM;refine Eq.trans (Ē l (fun r=>!J9 r) (fun _=>some 1) (some 1) (some 0) (fun _=>rfl) (fun i a hi ha c=>?_) (fun c=>?_)) ?_
 ·try dsimp only
  unfold tW;rw[Ì hi,Æ ha,Wq (d a (List.mem_of_getElem? ha)),À,È hi (by omega),õ]
 ·try dsimp only
  unfold tW;rw[Ó]
 ·cases l.any (fun r=>!J9 r)<;>rfl
def pj (n d:Int):Int×Int:=(n / (Nat.gcd n.natAbs d.natAbs:Nat),d / (Nat.gcd n.natAbs d.natAbs:Nat))
def lC (r:Int×Int):J9 r=true↔1<=r.2/\r.2<=2147483647/\(r.1.natAbs:Int)<=2147483647/\Nat.gcd r.1.natAbs r.2.natAbs=1:=by
 simp[J9]
def Bh {n d:Int} (hd:0<d):∃g:Nat,0<g/\g=Nat.gcd n.natAbs d.natAbs/\n=(pj n d).1*g/\d=(pj n d).2*g:=by
 have a:0<Nat.gcd n.natAbs d.natAbs:=Nat.gcd_pos_of_pos_right _ (by omega);refine⟨_,a,rfl,?_,?_⟩
 ·exact(Int.ediv_mul_cancel (Int.ofNat_dvd_left.2 (Nat.gcd_dvd_left _ _))).symm
 ·exact(Int.ediv_mul_cancel (Int.ofNat_dvd_left.2 (Nat.gcd_dvd_right _ _))).symm
def Us {n d:Int} (hd:0<d) (o:n.natAbs<=2147483647) (f:d<=2147483647):J9 (pj n d)=true:=by
 obtain⟨g,h0,e,j,h2⟩:=Bh (n:=n) hd;rw[lC]
 have c:n.natAbs=(pj n d).1.natAbs*g:=by conv=>lhs; rw[j]; rw[fX,f5]
 have a:d.natAbs=(pj n d).2.natAbs*g:=by conv=>lhs; rw[h2]; rw[fX,f5]
 have l:0<(pj n d).2:=by
  rcases Int.lt_trichotomy (pj n d).2 0 with h|h|h
  ·have:=Int.mul_neg_of_neg_of_pos h (show(0:Int)<g by omega); omega
  ·rw[h] at h2; simp at h2; omega
  ·exact h
 have s:(pj n d).1.natAbs<=n.natAbs:=by rw[c]; exact gq _ h0
 have r:(pj n d).2.natAbs<=d.natAbs:=by rw[a]; exact gq _ h0
 refine⟨by omega,by omega,by omega,?_⟩;have:=Nat.gcd_mul_right (pj n d).1.natAbs g (pj n d).2.natAbs;rw[<-c,<-a,<-e] at this
 have i:(Nat.gcd (pj n d).1.natAbs (pj n d).2.natAbs)*g=1*g:=by omega
 exact Nat.eq_of_mul_eq_mul_right h0 i
def Sh {n d:Int} (hd:0<d) (l:n.natAbs<=2147483647) (e:d<=2147483647):sd n d=some (pj n d,0):=by
 obtain⟨g,h0,o,r,h2⟩:=Bh (n:=n) hd;have D:=(lC _).1 (Us hd l e);unfold sd O4;rw[Un ⟨by omega,by omega⟩,À,Un ⟨by omega,by omega⟩,À,alS,À,<-o]
 have C:n.natAbs=(pj n d).1.natAbs*g:=by conv=>lhs; rw[r]; rw[fX,f5]
 have y:d.natAbs=(pj n d).2.natAbs*g:=by conv=>lhs; rw[h2]; rw[fX,f5]
 have j:Int.tdiv (n.natAbs:Int) (g:Int)=((pj n d).1.natAbs:Int):=by
  rw[C,iu]; exact gL _ (by omega)
 have i:Int.tdiv (d.natAbs:Int) (g:Int)=((pj n d).2.natAbs:Int):=by
  rw[y,iu]; exact gL _ (by omega)
 have z:mX (g:Int) 0=false:=by simp[mX]; omega
 have u:igt ((pj n d).1.natAbs:Int) 2147483647=false:=by simp[igt]; omega
 have s:igt ((pj n d).2.natAbs:Int) 2147483647=false:=by simp[igt]; omega
 rw[Í z,Í z,j,i,wrapU (by omega),wrapU (by omega),afM (by omega),afM (by omega),Í u,Í s]
 have f:ilt d 0=false:=by simp[ilt]; omega
 rw[f]
 have v:((pj n d).2.natAbs:Int)=(pj n d).2:=by omega
 rw[v]
 by_cases c:n<0
 ·have a:ilt n 0=true:=by simp[ilt,c]
  have:(pj n d).1<=0:=by
   rcases gS 0 (pj n d).1 with h|h
   ·have:=Int.mul_pos h (show(0:Int)<g by omega); omega
   ·exact h
  rw[a];rw[show(!true==false)=true from rfl,jd,Ï (by omega) (by omega)]
  have:0-((pj n d).1.natAbs:Int)=(pj n d).1:=by omega
  rw[this]
 ·have a:ilt n 0=false:=by simp[ilt]; omega
  have:0<=(pj n d).1:=by
   rcases gS (pj n d).1 0 with h|h
   ·have:=Int.mul_neg_of_neg_of_pos h (show(0:Int)<g by omega); omega
   ·exact h
  rw[a];rw[show(!false==false)=false from rfl,ä]
  have:((pj n d).1.natAbs:Int)=(pj n d).1:=by omega
  rw[this]
structure sE (r:Int×Int) (n d:Int):Prop where
 rat:J9 r=true
 num : -n<=r.1/\r.1<=n
 den:r.2<=d
def sE.pos {r:Int×Int} {n d:Int} (h:sE r n d):1<=r.2:=((lC r).1 h.rat).1
def sE.i64 {r:Int×Int} {n d:Int} (h:sE r n d):I64 r.1:=by
 have:=((lC r).1 h.rat).2.2.1;exact⟨by omega,by omega⟩
def afV {x y:Int×Int} (d:J9 x=true) (c:J9 y=true):lr [x,y]=some 0:=by
 rw[abQ]
 ·simp[d,c]
 ·intro r a
  have:J9 r=true:=by simp at a; rcases a with rfl|rfl<;>assumption
  have:=((lC r).1 this).2.2.1;exact⟨by omega,by omega⟩
 ·simp
def nY {a b m n:Int} (g : -m<=a/\a<=m) (h2 : -n<=b/\b<=n) : -(m*n)<=a*b/\a*b<=m*n:=by
 have d:0<=m:=by omega
 have c:0<=n:=by omega
 have f:(a*b).natAbs<=(m*n).natAbs:=by
  rw[fX,fX];exact fJ (by omega) (by omega)
 have e:0<=m*n:=fW d c;omega
def subP (x y:Int×Int):Int×Int:=pj (x.1*y.2-y.1*x.2) (x.2*y.2)
def IH {x y:Int×Int} (c:sE x 1000 100) (a:sE y 1000 100):(x.1*y.2-y.1*x.2).natAbs<=200000/\0<x.2*y.2/\x.2*y.2<=10000:=by
 have f:=nY c.num (show -100<=y.2/\y.2<=100 from⟨by have:=a.pos; omega,a.den⟩);have h2:=nY a.num (show -100<=x.2/\x.2<=100 from⟨by have:=c.pos; omega,c.den⟩);have e:=nY (show -100<=x.2/\x.2<=100 from⟨by have:=c.pos; omega,c.den⟩) (show -100<=y.2/\y.2<=100 from⟨by have:=a.pos; omega,a.den⟩);have d:=Int.mul_pos (show 0<x.2 by have:=c.pos; omega) (show 0<y.2 by have:=a.pos; omega);refine⟨by omega,d,by omega⟩
def Sub_ok {x y:Int×Int} (c:sE x 1000 100) (a:sE y 1000 100):VV x y=some (subP x y,0):=by
 obtain⟨f,d,b3⟩:=IH c a;have e:=nY c.num (show -100<=y.2/\y.2<=100 from⟨by have:=a.pos; omega,a.den⟩);have h2:=nY a.num (show -100<=x.2/\x.2<=100 from⟨by have:=c.pos; omega,c.den⟩);unfold VV ahh;rw[afV c.rat a.rat,À];rw[show ine (0:Int) 0=false from rfl,ä,Ï (by omega) (by omega),Ï (by omega) (by omega),Ï (by omega) (by omega),Ï (by omega) (by omega),Sh d (by omega) (by omega),À];rfl
def agl {n d:Int} (hd:0<d):(pj n d).1.natAbs<=n.natAbs/\(pj n d).2<=d:=by
 obtain⟨g,h0,h,a,h2⟩:=Bh (n:=n) hd
 have f:n.natAbs=(pj n d).1.natAbs*g:=by conv=>lhs; rw[a]; rw[fX,f5]
 have e:d.natAbs=(pj n d).2.natAbs*g:=by conv=>lhs; rw[h2]; rw[fX,f5]
 have c:(pj n d).1.natAbs<=n.natAbs:=by rw[f]; exact gq _ h0
 have i:(pj n d).2.natAbs<=d.natAbs:=by rw[e]; exact gq _ h0
 exact⟨c,by omega⟩
def MD {x y:Int×Int} (d:sE x 1000 100) (c:sE y 1000 100):sE (subP x y) 200000 10000:=by
 obtain⟨g,a,b3⟩:=IH d c;obtain⟨f,e⟩:=agl (n:=x.1*y.2-y.1*x.2) a;exact⟨Us a (by omega) (by omega),by unfold subP; omega,by unfold subP; omega⟩
def FL (k:Int×Int) (n:Int):Int×Int:=pj (k.1*n) k.2
def I4 {k:Int×Int} (c:sE k 200000 10000) {n:Int} (a : -10000<=n/\n<=10000):(k.1*n).natAbs<=2000000000:=by
 have:=nY c.num a;omega
def aaT {n:Int} (a : -10000<=n/\n<=10000):J9 (n,1)=true:=by
 rw[lC];exact⟨by simp,by simp,by simp; omega,by simp⟩
def al4 {k:Int×Int} (a:sE k 200000 10000) {n:Int} (c : -10000<=n/\n<=10000):PR k (n,1)=some (FL k n,0):=by
 have b:=I4 a c;have p:=a.pos;have q:=a.den;unfold PR ahj;rw[afV a.rat (aaT c),À];rw[show ine (0:Int) 0=false from rfl,ä,Ï (by simp only; omega) (by simp only; omega),Int.mul_one,Ï (by omega) (by omega),Sh (by omega) (by simp only; omega) (by omega),À];rfl
def US {k:Int×Int} (a:sE k 200000 10000) {n:Int} (c : -10000<=n/\n<=10000):sE (FL k n) 2000000000 10000:=by
 have b:=I4 a c;have p:=a.pos;have q:=a.den;obtain⟨e,d⟩:=agl (n:=k.1*n) (show 0<k.2 by omega);exact⟨Us (by omega) (by omega) (by omega),by unfold FL; omega,by unfold FL; omega⟩
def alY (x y:Int×Int):Int:=if x=y then 0 else if x.1*y.2<y.1*x.2 then -1 else if y.1*x.2<x.1*y.2 then 1 else 0
def alX {x y:Int×Int} {m d:Int} (a:sE x m d) (c:sE y m d) (e:m<=2000000000) (hd:d<=10000):PP x y=some (alY x y):=by
 have g:=nY a.num (show -d<=y.2/\y.2<=d from⟨by have:=c.pos; have:=c.den; omega,c.den⟩);have h2:=nY c.num (show -d<=x.2/\x.2<=d from⟨by have:=a.pos; have:=a.den; omega,a.den⟩);have h0:0<=m/\0<=d:=⟨by have:=a.num; omega,by have:=a.pos; have:=a.den; omega⟩;have f:m*d<=2000000000*10000:=Int.mul_le_mul e hd h0.2 (by omega);unfold PP ahf alY;rw[Ï (by omega) (by omega),Ï (by omega) (by omega)];simp only[õ,Bool.and_true,Bool.and_eq_true,decide_eq_true_eq,mX,ilt,igt,gt_iff_lt];have:(x.1=y.1/\x.2=y.2)↔x=y:=⟨fun h=>Prod.ext h.1 h.2,fun h=>by rw[h]; exact⟨rfl,rfl⟩⟩;simp only[this]
 (repeat' split)<;>rfl
def UI (k:Int×Int) (heat:Int×Int):(Int×Int)×(Int×Int) :=
 if 0<alY (FL k heat.1) (FL k heat.2) then(FL k heat.2,FL k heat.1) else(FL k heat.1,FL k heat.2)
def amx {k heat:Int×Int} (a:sE k 200000 10000) (d:j7 heat (-10000) 10000=true):qq k heat=some (UI k heat):=by
 simp only[j7,Bool.and_eq_true,decide_eq_true_eq] at d;obtain⟨g,h2,f⟩:=d;have n1 : -10000<=heat.1/\heat.1<=10000:=⟨by omega,by omega⟩;have c : -10000<=heat.2/\heat.2<=10000:=⟨by omega,by omega⟩;have r1:sE (heat.1,1) 10000 10000:=⟨aaT n1,n1,by simp⟩;have r2:sE (heat.2,1) 10000 10000:=⟨aaT c,c,by simp⟩;unfold qq G4 PQ O6 uJ DI;rw[afV r1.rat r2.rat,À];have:ieq 0 0=true:=rfl;rw[Ñ this,alX r1 r2 (by omega) (by omega),À]
 have e:ile (alY (heat.1,1) (heat.2,1)) 0=true:=by
  unfold alY;simp only[ile,decide_eq_true_eq,Int.mul_one]
  split
  ·omega
  ·split
   ·omega
   ·rw[if_neg (by omega)]; omega
 rw[e,À];simp only[Bool.not_true,ä];rw[Wq a.i64,a.rat,À];simp only[Bool.not_true,ä];rw[al4 a n1,À,al4 a c,À];simp only[show ine (0:Int) 0=false from rfl,ä];rw[alX (US a n1) (US a c) (by omega) (by omega),À];unfold UI;rw[õ]
 by_cases h:0<alY (FL k heat.1) (FL k heat.2)
 ·rw[if_pos h,if_pos (by simpa[igt] using h)]; rfl
 ·rw[if_neg h,if_neg (by simpa[igt] using h)]; rfl
def rateK (s:CK (Int×æ)) (c:Cmp):Int×Int:=subP (Ft s (á c.2.2.1 c.2.2.2.1)) (Ft s (á c.2.2.2.1 c.2.2.1))
def iM (b:ø) (c:Cmp):(Int×Int)×(Int×Int):=UI (rateK (ŝ b) c) c.2.2.2.2.2.2
def ahO {b:ø} (d:jp b) {c:Cmp} (g:c.2.2.1.length<=1000) (f:c.2.2.2.1.length<=1000)
 (a:sE (Ft (ŝ b) (á c.2.2.1 c.2.2.2.1)) 1000 100) (h2:sE (Ft (ŝ b) (á c.2.2.2.1 c.2.2.1)) 1000 100) (e:j7 c.2.2.2.2.2.2 (-10000) 10000=true):wq b c=some (iM b c):=by
 unfold wq Tv;rw[IL d.gauges,À,AK (by omega) (by omega),À,W9,À,AK (by omega) (by omega),À,W9,À];unfold xR G5;rw[Sub_ok a h2,À,À]
 try dsimp only
 rw[amx (MD a h2) e,À];rfl
def pH (b:ø) (c:Cmp):Int×Int :=
 (((c.2.2.1.length-1:Nat):Int)*b.1.1-((c.2.2.2.1.length-1:Nat):Int)*b.1.2,((c.2.2.1.length-1:Nat):Int)*b.1.2-((c.2.2.2.1.length-1:Nat):Int)*b.1.1)
def akB {b:ø} {c:Cmp} (d:c.2.2.1.length<=1000) (a:c.2.2.2.1.length<=1000) (h:0<=b.1.1) (h2:b.1.1<=1000000) (g:0<=b.1.2) (f:b.1.2<=1000000):AR b c=some (pH b c):=by
 unfold AR YX pH
 have e:∀n:Nat,Qu 0 ((n:Int)-1)=((n-1:Nat):Int):=by
  intro n;unfold Qu
  split<;>omega
 have bd:∀(n:Nat) (x:Int),n<=1000->0<=x->x<=1000000->0<=((n-1:Nat):Int)*x/\((n-1:Nat):Int)*x<=1000000000:=by
  intro n x j h0 i;refine⟨fW (by omega) h0,?_⟩;have:=fI (show((n-1:Nat):Int)<=1000 by omega) i h0 (by omega);omega
 have r:=bd _ _ d h h2;have o:=bd _ _ d g f;have b3:=bd _ _ a h h2;have l:=bd _ _ a g f;simp only[Î];rw[Ï (by omega) (by omega),Ï (by omega) (by omega)];simp only[e];rw[Ï (by omega) (by omega),Ï (by omega) (by omega),Ï (by omega) (by omega),Ï (by omega) (by omega),Ï (by omega) (by omega),Ï (by omega) (by omega)]
def VM {n d:Int} (hd:1<=d) (f : -4000000000<=n/\n<=4000000000):wo n d=some (n / d):=by
 unfold wo O5
 have z:mX d 0=false:=by simp[mX]; omega
 rw[Í z];have t:=Int.mul_tdiv_add_tmod n d
 have g : -4000000000<=Int.tdiv n d/\Int.tdiv n d<=4000000000:=by
  have:=Int.natAbs_tdiv_le_natAbs n d;omega
 rw[Ï (by omega) (by omega),Í z,õ]
 by_cases h:Int.tmod n d<0
 ·rw[if_pos (by simpa[ilt] using h),Ï (by omega) (by omega)];congr 1
  have e : -d<Int.tmod n d:=by
   have c:=iv n d;have a:=g9 n.natAbs (show 0<d.natAbs by omega);omega
  refine(gz (by omega)).2 ⟨?_,?_⟩ |>.symm
  ·rw[Int.sub_mul,f6]; omega
  ·rw[Int.sub_mul,f6 (Int.tdiv n d)]; omega
 ·rw[if_neg (by simpa[ilt] using h)];congr 1
  have e:Int.tmod n d<d:=by
   have c:=iv n d;have a:=g9 n.natAbs (show 0<d.natAbs by omega);omega
  refine(gz (by omega)).2 ⟨?_,?_⟩ |>.symm
  ·rw[f6]; omega
  ·rw[f6 (Int.tdiv n d)]; omega
def alE {x:Int×Int} (c:J9 x=true):lr [x]=some 0:=by
 rw[abQ]
 ·simp[c]
 ·intro r a
  have:J9 r=true:=by simp at a; subst a; assumption
  have:=((lC r).1 this).2.2.1;exact⟨by omega,by omega⟩
 ·simp
def RS (r:Int×Int):Int:=-(-r.1 / r.2)
def alB {r:Int×Int} (h:J9 r=true):Ib r=some (r.1 / r.2,0):=by
 unfold Ib YR;have:=(lC r).1 h;rw[alE h,À];rw[show ine (0:Int) 0=false from rfl,ä,VM (by omega) (by omega),À]
def JN {n d:Int} (hd:1<=d):(n / d).natAbs<=n.natAbs:=by
 exact Int.natAbs_ediv_le_natAbs n d
def anr {r:Int×Int} (h:J9 r=true):Mj r=some (RS r,0):=by
 unfold Mj acW RS;have:=(lC r).1 h;rw[alE h,À];rw[show ine (0:Int) 0=false from rfl,ä,Ï (by omega) (by omega),VM (by omega) (by omega),À];have hb:=JN (n:=0-r.1) (show 1<=r.2 by omega);rw[Ï (by omega) (by omega),Int.zero_sub,Int.zero_sub]
def wJ (b:ø) (c:Cmp):Int×Int :=
 (c.2.2.2.2.1-c.2.2.2.2.2.1-(pH b c).2-(iM b c).2.1 / (iM b c).2.2,c.2.2.2.2.1+c.2.2.2.2.2.1-(pH b c).1-RS (iM b c).1)
structure Ŧ (b:ø):Prop where
 film:0<=b.1.1/\b.1.1<=b.1.2/\b.1.2<=1000000
 nG:b.2.1.length<=12
 nU:b.2.2.1.length<=40
 nL:b.2.2.2.1.length<=12
 nC:b.2.2.2.2.1.length<=40
 nK:b.2.2.2.2.2.length<=10
 gauge:∀g∈b.2.1,rQ g=true
 ids:b.2.1.Pairwise fun a b=>a.1<b.1
 uses:∀u∈b.2.2.1,Z7 (ŝ b) u.1 u.2=0
 loans:∀i l,b.2.2.2.1[i]?=some l->LD b (ŝ b) i l=0
 compares:∀i c,b.2.2.2.2.1[i]?=some c->lP b (ŝ b) i c=0
 looks:∀u∈b.2.2.2.2.2,Z7 (ŝ b) u.1 u.2=0
 nodes:(Ò b).length<=59
 links:2*(Ò b).length+2*b.2.2.2.2.1.length<=300
def xF (b:ø):jR b=0↔(∀g∈b.2.1,rQ g=true)/\b.2.1.Pairwise fun a b=>a.1<b.1:=by
 have h0:Ĝ (pG b.2.1) 0 b.2.1=none↔(∀g∈b.2.1,rQ g=true)/\b.2.1.Pairwise fun a b=>a.1<b.1:=by
  rw[Α,<-Iq (fun g:æ=>g.1) b.2.1];constructor
  ·intro h
   have d:∀(j:Nat) (a:æ),b.2.1[j]?=some a->rQ a=true/\lU (fun g:æ=>g.1) b.2.1 j a=false:=by
    intro j a ha;have:=h j a ha;rw[Nat.zero_add] at this;unfold pG at this
    split at this
    ·cases this
    ·split at this
     ·cases this
     ·rename_i d h2;exact⟨by simpa using d,by simpa using h2⟩
   refine⟨fun x l=>?_,fun i a ha=>(d i a ha).2⟩;obtain⟨j,n,rfl⟩:=dp.1 l;exact(d j _ (cX n)).1
  ·rintro⟨d,h2⟩ j a ha;rw[dL];simp[pG,d a (df ha),h2 j a ha]
 rw[<-h0];unfold jR
 cases h:Ĝ (pG b.2.1) 0 b.2.1 with
 |none=>simp
 |some e =>
  have:∀(m:CK æ) (j:Nat) (x:Int),Ĝ (pG b.2.1) j m=some x->x≠0:=by
   intro m
   induction m with
   |nil=>intro j x h; cases h
   |cons a m f =>
    intro j x h;unfold Ĝ at h
    cases c:pG b.2.1 j a with
    |none=>rw[c] at h; exact f _ _ h
    |some y =>
     rw[c] at h;cases h;unfold pG at c
     split at c
     ·cases c; omega
     ·split at c
      ·cases c; omega
      ·cases c
  simp[this _ _ _ h]
def Ο (b:ø):ŏ b=0↔Ŧ b:=by
 unfold ŏ;constructor
 ·intro h
  split at h
  ·omega
  rename_i H
  (repeat' split at h)<;>try omega
  ·rename_i g
   have o:jR b≠0:=by simpa using g
   exact(o h).elim
  ·rename_i r;have:=fM r;rename_i e;simp at this;exact(this h).elim
  ·rename_i E D C z y g e r v s
   have n:jR b=0:=by simpa using g
   obtain⟨J,I⟩:=(xF b).1 n
   have a:∀x∈y0 b (ŝ b),x=0:=fun x j=>by
    have:=ew.1 r x j;simpa using this
   simp only[y0,dg] at a
   have f:j7 b.1 0 1000000=true:=by simpa using H
   simp only[j7,cY,decide_eq_true_eq] at f;refine⟨⟨f.1,f.2.1,f.2.2⟩,by omega,by omega,by omega,by omega,by omega,J,I,fun u d=>a _ (.inl (dE.2 ⟨u,d,rfl⟩)),fun i l F=>?_,fun i c G=>?_,fun u d=>a _ (.inr (.inr (.inr (dE.2 ⟨u,d,rfl⟩)))),by omega,by omega⟩
   ·obtain⟨hi,rfl⟩:=de.1 F;exact a _ (.inr (.inl (iw.2 ⟨i,hi,rfl⟩)))
   ·obtain⟨hi,rfl⟩:=de.1 G;exact a _ (.inr (.inr (.inl (iw.2 ⟨i,hi,rfl⟩))))
 ·intro h
  have f:j7 b.1 0 1000000=true:=by simp[j7,h.film.1,h.film.2.1,h.film.2.2]
  have g:jR b=0:=(xF b).2 ⟨h.gauge,h.ids⟩
  have a:(y0 b (ŝ b)).find? (fun e=>e != 0)=none:=by
   rw[ew];intro x j;simp only[y0,dg,dE,iw] at j
   have:x=0:=by
    rcases j with⟨u,d,rfl⟩|⟨i,hi,rfl⟩|⟨i,hi,rfl⟩|⟨u,d,rfl⟩
    ·exact h.uses u d
    ·exact h.loans i _ (cX hi)
    ·exact h.compares i _ (cX hi)
    ·exact h.looks u d
   simp[this]
  have:=h.nG; have:=h.nU; have:=h.nL; have:=h.nC; have:=h.nK; have:=h.nodes; have:=h.links;rw[f,g,a];simp only[dR,dr,if_false,bne_self_eq_false];rw[if_neg (by omega),if_neg (by omega),if_neg (by omega),if_neg (by omega),if_neg (by omega),if_neg (by omega),if_neg (by omega)]
section
variable {b:ø}
def œ {l:CK Int} (h:uz l=true):l.length<=6:=((yY l).1 h).2.2
def Ŧ.nums (h:Ŧ b) {c:Cmp} (a:c∈b.2.2.2.2.1):I1 c=true:=by
 obtain⟨i,hi,rfl⟩:=List.mem_iff_getElem.1 a;have:=h.compares i _ (List.getElem?_eq_getElem hi);unfold lP at this
 split at this
 ·omega
 ·rename_i h; simpa using h
def Ŧ.pilesOf (h:Ŧ b) {c:Cmp} (a:c∈b.2.2.2.2.1):uR b (ŝ b) c=0:=by
 obtain⟨i,hi,rfl⟩:=List.mem_iff_getElem.1 a;have:=h.compares i _ (List.getElem?_eq_getElem hi);unfold lP at this
 split at this
 ·omega
 ·split at this
  ·omega
  ·exact this
def Ŷ (c:Cmp):I1 c=true↔(1<=c.1/\c.1<=1099511627776)/\(0<=c.2.1/\c.2.1<=20000)/\(-1125899906842624<=c.2.2.2.2.1/\c.2.2.2.2.1<=1125899906842624)/\(0<=c.2.2.2.2.2.1/\c.2.2.2.2.2.1<=1073741824)/\j7 c.2.2.2.2.2.2 (-10000) 10000=true/\uz c.2.2.1=true/\uz c.2.2.2.1=true:=by
 simp[I1,inP,yH,and_assoc]
def Ŧ.size (h:Ŧ b):jp b:=by
 have i:=h.nG; have h2:=h.nU; have g:=h.nL; have f:=h.nC; have e:=h.nK;refine⟨by omega,by omega,by omega,by omega,by omega,fun c d=>?_⟩;have:=(Ŷ c).1 (h.nums d);have a:=œ this.2.2.2.2.2.1;have b:=œ this.2.2.2.2.2.2;omega
def vY (g:æ):rQ g=true↔J9 g.2.2.2.2.1=true/\(-1000<=g.2.2.2.2.1.1/\g.2.2.2.2.1.1<=1000)/\g.2.2.2.2.1.2<=100/\(1<=g.1/\g.1<=1099511627776)/\(0<=g.2.1/\g.2.1<=20000)/\(1<=g.2.2.1/\g.2.2.1<=1125899906842624)/\(-1073741824<=g.2.2.2.1.1/\g.2.2.2.1.1<=g.2.2.2.1.2/\g.2.2.2.1.2<=1073741824)/\(0<=g.2.2.2.2.2/\g.2.2.2.2.2<=1048576):=by
 simp[rQ,inP,yH,j7,and_assoc]
def δ {id:Int} {g:æ} (h:î b id=some g):g∈b.2.1/\g.1=id:=by
 unfold î at h;exact⟨List.mem_of_find?_eq_some h,by simpa using List.find?_some h⟩
def rR (hi:b.2.1.Pairwise fun a b=>a.1<b.1) {g:æ} (c:g∈b.2.1):î b g.1=some g:=by
 unfold î
 induction d:b.2.1 generalizing b with
 |nil=>rw[d] at c; cases c
 |cons a t e =>
  rw[d] at c hi;rw[dJ] at hi;rw[f8];rcases dh.1 c with rfl|c
  ·simp
  ·have f:=hi.1 g c
   have:(a.1==g.1)=false:=by simp; omega
   rw[this];have:=e (b:=(b.1,t,b.2.2)) hi.2 c rfl;exact this
def I5 (h:Ŧ b) {id day:Int} (a:mu (ŝ b) id day=0):∃g,î b id=some g/\g.2.1<=day:=by
 unfold mu at a;rw[vc h.ids] at a
 split at a
 ·rename_i g c
  split at a
  ·omega
  ·exact⟨g,c,by omega⟩
 ·omega
def Ej (s:CK (Int×æ)) (id day:Int):mu s id day=0\/mu s id day=4\/mu s id day=5:=by
 unfold mu
 split
 ·split<;>simp
 ·simp
def Ŧ.pile (h:Ŧ b) {c:Cmp} (j:c∈b.2.2.2.2.1) {x:Int} (d:x∈c.2.2.1++c.2.2.2.1):(∃g,î b x=some g/\g.2.1<=c.2.1)/\ś b x c.2.1=none:=by
 have a:=h.pilesOf j;unfold uR at a
 split at a
 ·omega
 rename_i n
 split at a
 ·omega
 rename_i o
 split at a
 ·omega
 rename_i l;have f:=(eh.1 (eG.2 n)) x d;have i:=(eh.1 (eG.2 o)) x d;have e:=(eh.1 (eG.2 l)) x d;simp at f i e;refine⟨I5 h ?_,e⟩;rcases Ej (ŝ b) x c.2.1 with h0|h0|h0
 ·exact h0
 ·exact(i h0).elim
 ·exact(f h0).elim
def Ŧ.lefts (h:Ŧ b) {c:Cmp} (d:c∈b.2.2.2.2.1):(á c.2.2.1 c.2.2.2.1).length<=1/\(á c.2.2.2.1 c.2.2.1).length<=1/\(á c.2.2.1 c.2.2.2.1).length+(á c.2.2.2.1 c.2.2.1).length≠0:=by
 have a:=h.pilesOf d;unfold uR at a
 (repeat' split at a)<;>first|omega|exact⟨by omega,by omega,by omega⟩
def lf {a c:CK Int} {x:Int}:x∈á a c↔x∈a/\x∉c:=by
 simp[á]
def Ŧ.rate (h:Ŧ b) {p:CK Int} (c:∀x∈p,∃g,î b x=some g):sE (Ft (ŝ b) p) 1000 100:=by
 unfold Ft
 cases p with
 |nil =>
  have:sE (0,1) 1000 100:=⟨by decide,by decide,by decide⟩;exact this
 |cons x t =>
  obtain⟨g,a⟩:=c x (by simp)
  try dsimp only
  rw[vc h.ids,a];have:=(vY g).1 (h.gauge g (δ a).1);exact⟨this.1,this.2.1,this.2.2.1⟩
def Ŧ.rates (h:Ŧ b) {c:Cmp} (e:c∈b.2.2.2.2.1):sE (Ft (ŝ b) (á c.2.2.1 c.2.2.2.1)) 1000 100/\sE (Ft (ŝ b) (á c.2.2.2.1 c.2.2.1)) 1000 100:=by
 constructor
 ·exact h.rate fun x a=>by
   obtain⟨⟨g,d,_⟩,_⟩:=h.pile e (dT _ (lf.1 a).1);exact⟨g,d⟩
 ·exact h.rate fun x a=>by
   obtain⟨⟨g,d,_⟩,_⟩:=h.pile e (dO _ (lf.1 a).1);exact⟨g,d⟩
def Ŧ.growth (h:Ŧ b) {c:Cmp} (e:c∈b.2.2.2.2.1):wq b c=some (iM b c):=by
 obtain⟨r1,r2⟩:=h.rates e;have d:=(Ŷ c).1 (h.nums e);have a:=œ d.2.2.2.2.2.1;have b:=œ d.2.2.2.2.2.2;exact ahO h.size (by omega) (by omega) r1 r2 d.2.2.2.2.1
def Ŧ.films (h:Ŧ b) {c:Cmp} (d:c.2.2.1.length<=1000) (a:c.2.2.2.1.length<=1000):AR b c=some (pH b c):=by
 have:=h.film;exact akB d a (by omega) (by omega) (by omega) (by omega)
def UH {k heat:Int×Int} (a:sE k 200000 10000) (c:j7 heat (-10000) 10000=true):sE (UI k heat).1 2000000000 10000/\sE (UI k heat).2 2000000000 10000:=by
 simp only[j7,Bool.and_eq_true,decide_eq_true_eq] at c;have r1:=US a (n:=heat.1) ⟨by omega,by omega⟩;have r2:=US a (n:=heat.2) ⟨by omega,by omega⟩;unfold UI
 split
 ·exact⟨r2,r1⟩
 ·exact⟨r1,r2⟩
def xJ {c:Cmp} (d:c.2.2.1.length<=1000) (a:c.2.2.2.1.length<=1000) (g:0<=b.1.1) (h2:b.1.1<=1000000) (f:0<=b.1.2) (e:b.1.2<=1000000) :
 (-1000000000<=(pH b c).1/\(pH b c).1<=1000000000)/\(-1000000000<=(pH b c).2/\(pH b c).2<=1000000000):=by
 have bd:∀(n:Nat) (x:Int),n<=1000->0<=x->x<=1000000->0<=((n-1:Nat):Int)*x/\((n-1:Nat):Int)*x<=1000000000:=by
  intro n x i h0 h;refine⟨fW (by omega) h0,?_⟩;have:=fI (show((n-1:Nat):Int)<=1000 by omega) h h0 (by omega);omega
 have o:=bd _ _ d g h2;have l:=bd _ _ d f e;have b3:=bd _ _ a g h2;have j:=bd _ _ a f e;unfold pH
 try dsimp only
 omega
def xH {r:Int×Int} (h:sE r 2000000000 10000) : -2000000000<=r.1 / r.2/\r.1 / r.2<=2000000000:=by
 have:=JN (n:=r.1) h.pos;have:=h.num;omega
def BX {r:Int×Int} (h:sE r 2000000000 10000) : -2000000000<=RS r/\RS r<=2000000000:=by
 have:=JN (n:=-r.1) h.pos;have:=h.num;unfold RS;omega
def Ŧ.says (h:Ŧ b) {c:Cmp} (d:c∈b.2.2.2.2.1):BO b c=some (wJ b c):=by
 obtain⟨r1,r2⟩:=h.rates d;have a:=(Ŷ c).1 (h.nums d);have ha:=œ a.2.2.2.2.2.1;have hb:=œ a.2.2.2.2.2.2;have l:=h.film;obtain⟨i,g⟩:=UH (MD r1 r2) a.2.2.2.2.1;have n:=xJ (b:=b) (c:=c) (by omega) (by omega) (by omega) (by omega) (by omega) (by omega);have f:sE (iM b c).1 2000000000 10000:=i;have e:sE (iM b c).2 2000000000 10000:=g;have r:=BX f;have o:=xH e;unfold BO acX wJ;rw[h.growth d,À,h.films (by omega) (by omega),À,alB e.rat,À,anr f.rat,À]
 try dsimp only
 have j:=a.2.2.1;have n4:=a.2.2.2.1;rw[Ï (by omega) (by omega),Ï (by omega) (by omega),Ï (by omega) (by omega),Ï (by omega) (by omega),Ï (by omega) (by omega),Ï (by omega) (by omega)]
end
def Ğ (l:IE) (f t:Int):Int:=min l.2.1.2 (t-1)-max l.2.1.1 f+1
def Ł (id f t:Int):CK IE->Int
 |[]=>0
 |l::r=>(if l.1=id/\0<Ğ l f t then Ğ l f t*l.2.2 else 0)+Ł id f t r
def AI (id f t:Int):∀(x y:CK IE),Ł id f t (x++y)=Ł id f t x+Ł id f t y
 |[],y=>by simp[Ł]
 |l::r,y=>by
  simp only[fe,Ł,AI id f t r y];omega
def jy (b:ø) (id f t:Int):CK Int:=(b.2.2.1.filter fun u=>u.1==id&&inP u.2 f (t-1)).map fun u=>u.2
def jD (b:ø) (g:æ) (f t:Int):Int:=Ł g.1 f t b.2.2.2.1+(WX (jy b g.1 f t)).length*g.2.2.2.2.2
def Ps (a c:Int):Z3 a c=min a c:=by unfold Z3; split<;>omega
def aaW (a c:Int):Qu a c=max a c:=by unfold Qu; split<;>omega
def vS {b:ø} (h:Ŧ b) {l:IE} (c:l∈b.2.2.2.1):(0<=l.2.1.1/\l.2.1.1<=l.2.1.2/\l.2.1.2<=20000)/\(0<=l.2.2/\l.2.2<=1048576):=by
 obtain⟨i,hi,rfl⟩:=List.mem_iff_getElem.1 c;have:=h.loans i _ (List.getElem?_eq_getElem hi);unfold LD at this
 split at this
 ·omega
 rename_i a
 split at this
 ·omega
 rename_i h2;simp only[eQ,Bool.not_eq_false,j7,inP,cY,decide_eq_true_eq] at a h2;exact⟨a,h2⟩
def TC {l:IE} (h:(0<=l.2.1.1/\l.2.1.1<=l.2.1.2/\l.2.1.2<=20000)/\(0<=l.2.2/\l.2.2<=1048576)) {f t:Int} (a:0<=f) (hd:0<Ğ l f t):0<=Ğ l f t*l.2.2/\Ğ l f t*l.2.2<=20001*1048576:=by
 refine⟨Int.mul_nonneg (by omega) h.2.1,Int.mul_le_mul ?_ h.2.2 h.2.1 (by omega)⟩;unfold Ğ;omega
def uH {id f t:Int} (a:0<=f):∀{x:CK IE},(∀l∈x,(0<=l.2.1.1/\l.2.1.1<=l.2.1.2/\l.2.1.2<=20000)/\(0<=l.2.2/\l.2.2<=1048576))->0<=Ł id f t x/\Ł id f t x<=x.length*(20001*1048576)
 |[],_=>by simp[Ł]
 |l::r,h=>by
  have e:=uH (id:=id) (t:=t) a (x:=r) fun l c=>h l (by simp[c]);simp only[Ł,dk,fY,f0,gd]
  split
  ·rename_i d;have:=TC (h l (by simp)) a d.2;omega
  ·omega
def amG {b:ø} (h:Ŧ b) {g:æ} (s:0<=g.2.2.2.2.2/\g.2.2.2.2.2<=1048576) {f t:Int} (C:0<=f/\f<=100000) (O:0<=t/\t<=100000):BP b g f t=some (jD b g f t):=by
 have Q:=h.nL;have I:=h.nU
 have d:∀i,0<=Ł g.1 f t (b.2.2.2.1.take i)/\Ł g.1 f t (b.2.2.2.1.take i)<=12*(20001*1048576):=by
  intro i;have e:=uH (id:=g.1) (t:=t) C.1 (x:=b.2.2.2.1.take i) fun l o=>vS h (ff o);have h2:((b.2.2.2.1.take i).length:Int)*(20001*1048576)<=12*(20001*1048576):=fN (by rw[dm]; omega) (by omega);omega
 unfold BP acZ;refine ñ (fun x:Int×Int=>∃i:Nat,i<=b.2.2.2.1.length/\x=(Ł g.1 f t (b.2.2.2.1.take i),(i:Int))) (fun x=>b.2.2.2.1.length-x.2.toNat) ?_ ⟨0,by omega,rfl⟩;rintro x ⟨i,hi,rfl⟩;rcases Nat.lt_or_ge i b.2.2.2.1.length with a|H
 ·have o:b.2.2.2.1[i]?=some b.2.2.2.1[i]:=cX a;have G:=vS h (df o);refine .inr ⟨(Ł g.1 f t (b.2.2.2.1.take (i+1)),(i:Int)+1),⟨i+1,a,by simp⟩,by simp; omega,fun F=>?_⟩
  try dsimp only
  unfold xr;have E:=d i;have R:=d (i+1)
  have j:Ł g.1 f t (b.2.2.2.1.take (i+1))=Ł g.1 f t (b.2.2.2.1.take i)+(if b.2.2.2.1[i].1=g.1/\0<Ğ b.2.2.2.1[i] f t then Ğ b.2.2.2.1[i] f t*b.2.2.2.1[i].2.2 else 0):=by
   rw[take_succ o,AI]; simp[Ł]
  rw[Ì a,Æ o,Ï (by omega) (by omega),Ps,aaW,Ï (by omega) (by omega),Ï (by omega) (by omega)];rw[show min b.2.2.2.1[i].2.1.2 (t-1)-max b.2.2.2.1[i].2.1.1 f+1=Ğ b.2.2.2.1[i] f t from rfl,õ]
  by_cases c:b.2.2.2.1[i].1=g.1
  ·rw[if_pos (by simpa[ieq] using c),õ]
   by_cases hd:0<Ğ b.2.2.2.1[i] f t
   ·have K:=TC G C.1 hd;rw[if_pos ⟨c,hd⟩] at j;rw[if_pos (by simpa[igt] using hd),Ï (by omega) (by omega),Ï (by omega) (by omega),È a (by omega),j]
   ·rw[if_neg (fun v=>hd v.2)] at j;rw[if_neg (by simpa[igt] using hd),È a (by omega),j,gG]
  ·rw[if_neg (fun v=>c v.1)] at j;rw[if_neg (by simpa[ieq] using c),È a (by omega),j,gG]
 ·refine .inl fun F=>?_
  have:i=b.2.2.2.1.length:=by omega
  subst this
  try dsimp only
  unfold xr;rw[Ó,List.take_length]
  have n:∀x:CK (Int×Int),x.length<=40->((x.filter fun u=>u.1==g.1&&inP u.2 f (t-1)).map fun u=>u.2).length<=40:=by
   intro x y;rw[dC];exact dw (dP _ _) y
  refine ê b.2.2.1 (fun i=>((b.2.2.1.take i).filter fun u=>u.1==g.1&&inP u.2 f (t-1)).map fun u=>u.2) _ rfl (fun i u hi z r=>?_) (fun r=>?_)
  ·try dsimp only
   unfold xq;have y:=n (b.2.2.1.take i) (by rw[List.length_take]; omega);rw[Ì hi,Æ z,Ï (by omega) (by omega),iB,À,Ð (by simp only[List.length_singleton]; omega),Am.iff_true,È hi (by omega),È hi (by omega),take_succ z,List.filter_append,List.map_append]
   cases e:(u.1==g.1) with
   |false =>
    have:ieq u.1 g.1=false:=e;simp only[this,ä,eO,e,Bool.false_and,dr,if_false,eJ,fF,du]
   |true =>
    have:ieq u.1 g.1=true:=e;rw[this]
    cases h2:inP u.2 f (t-1) with
    |false=>simp only[jd,ä,eO,e,h2,eI,dr,if_false,eJ,fF,du]
    |true=>simp only[jd,eO,e,h2,eI,if_true,eJ,fF,eX]
  ·try dsimp only
   unfold xq;rw[Ó,List.take_length];rw[show((b.2.2.1.filter fun u=>u.1==g.1&&inP u.2 f (t-1)).map fun u=>u.2)=jy b g.1 f t from rfl];have J:(jy b g.1 f t).length<=40:=n _ I
   have D:(WX (jy b g.1 f t)).length<=40:=by
    have:=Fs (jy b g.1 f t);omega
   have P:0<=((WX (jy b g.1 f t)).length:Int)*g.2.2.2.2.2/\((WX (jy b g.1 f t)).length:Int)*g.2.2.2.2.2<=40*1048576 :=
    ⟨fW (by omega) s.1,fI (by omega) s.2 s.1 (by omega)⟩
   have E:=d b.2.2.2.1.length;rw[List.take_length] at E;dsimp only;rw[Ð (by omega),Am.iff_true,Ð (by rw[WS]; omega),Am.iff_true,agd,Î,Ï (by omega) (by omega),Ï (by omega) (by omega)];rfl
def ù (b:ø) (g:æ):CK Lk :=
 [(0,atP (Ò b) [g.1] g.2.1,g.2.2.1+g.2.2.2.1.2),(atP (Ò b) [g.1] g.2.1,0,-(g.2.2.1+g.2.2.2.1.1))] ++
 (List.range ((Ý b g).length-1)).flatMap fun(k:Nat)=>[(atP (Ò b) [g.1] g.2.1+k,atP (Ò b) [g.1] g.2.1+k+1,0),(atP (Ò b) [g.1] g.2.1+k+1,atP (Ò b) [g.1] g.2.1+k,jD b g ((Ý b g)[k]?.getD 0) ((Ý b g)[k+1]?.getD 0))]
def cx (b:ø) (c:Cmp):Int:=atP (Ò b) (á c.2.2.1 c.2.2.2.1) c.2.1
def cy (b:ø) (c:Cmp):Int:=atP (Ò b) (á c.2.2.2.1 c.2.2.1) c.2.1
def ļ (b:ø) (c:Cmp):CK Lk:=[(cy b c,cx b c,(wJ b c).2),(cx b c,cy b c,-(wJ b c).1)]
def Ŕ (b:ø):CK Lk:=b.2.1.flatMap (ù b)++b.2.2.2.2.1.flatMap (ļ b)
def Ĕ (b:ø) (i:Nat) (g:æ):CK (Int×Int):=[(1,(i:Int)),(1,(i:Int))]++(List.range ((Ý b g).length-1)).flatMap fun _=>[(2,(i:Int)),(2,(i:Int))]
def LR (b:ø):CK (Int×Int):=(b.2.1.mapIdx (Ĕ b)).flatten++(b.2.2.2.2.1.mapIdx fun i _=>[(3,(i:Int)),(3,(i:Int))]).flatten
section
variable {b:ø}
def WD (h:Ŧ b) {id day:Int} (a:Z7 (ŝ b) id day=0):(0<=day/\day<=20000)/\∃g,î b id=some g/\g.2.1<=day:=by
 unfold Z7 at a
 split at a
 ·omega
 ·rename_i hd;simp only[eQ,Bool.not_eq_false,yH,inP,cY,decide_eq_true_eq] at hd;exact⟨hd,I5 h a⟩
def Γ {g:æ} {d:Int}:d∈Ý b g↔d=g.2.1\/(∃c∈b.2.2.2.2.1,(c.2.2.1.contains g.1)≠(c.2.2.2.1.contains g.1)/\c.2.1=d)\/(∃n∈b.2.2.2.2.2,n.1=g.1/\n.2=d):=by
 unfold Ý;rw[wH,Zs];simp only[List.mem_append,List.mem_singleton,List.mem_map,List.mem_filter];constructor
 ·rintro((h|⟨c,⟨e,h2⟩,a⟩)|⟨n,⟨e,h2⟩,a⟩)
  ·exact .inl h
  ·exact .inr (.inl ⟨c,e,by simpa using h2,a⟩)
  ·exact .inr (.inr ⟨n,e,by simpa using h2,a⟩)
 ·rintro(h|⟨c,e,h2,a⟩|⟨n,e,h2,a⟩)
  ·exact .inl (.inl h)
  ·exact .inl (.inr ⟨c,⟨e,by simpa using h2⟩,a⟩)
  ·exact .inr ⟨n,⟨e,by simpa using h2⟩,a⟩
def Ŧ.gaugeR (h:Ŧ b) {g:æ} (a:g∈b.2.1):J9 g.2.2.2.2.1=true/\(-1000<=g.2.2.2.2.1.1/\g.2.2.2.2.1.1<=1000)/\g.2.2.2.2.1.2<=100/\(1<=g.1/\g.1<=1099511627776)/\(0<=g.2.1/\g.2.1<=20000)/\(1<=g.2.2.1/\g.2.2.1<=1125899906842624)/\(-1073741824<=g.2.2.2.1.1/\g.2.2.2.1.1<=g.2.2.2.1.2/\g.2.2.2.1.2<=1073741824)/\(0<=g.2.2.2.2.2/\g.2.2.2.2.2<=1048576):=(vY g).1 (h.gauge g a)
def Ŧ.day (h:Ŧ b) {g:æ} (j:g∈b.2.1) {d:Int} (hd:d∈Ý b g):g.2.1<=d/\0<=d/\d<=20000:=by
 have r:=h.gaugeR j;have a:=rR h.ids j;rcases Γ.1 hd with rfl|⟨c,l,i,rfl⟩|⟨n,f,i,rfl⟩
 ·have:=r.2.2.2.2.1; omega
 ·have f:=(Ŷ c).1 (h.nums l)
  have o:g.1∈c.2.2.1++c.2.2.2.1:=by
   rw[dg]
   by_cases h2:g.1∈c.2.2.1
   ·exact .inl h2
   ·refine .inr ?_
    have u:c.2.2.1.contains g.1=false:=by simpa using h2
    rw[u] at i
    have:c.2.2.2.1.contains g.1=true:=by cases v:c.2.2.2.1.contains g.1<;>simp_all
    simpa using this
  obtain⟨⟨g',e,s⟩,_⟩:=h.pile l o;rw[a] at e; cases e;have:=f.2.1;omega
 ·obtain⟨h2,g',e,s⟩:=WD h (h.looks n f);rw[i,a] at e; cases e;omega
def om (g:æ):g.2.1∈Ý b g:=Γ.2 (.inl rfl)
def If (h:Ŧ b) {g:æ} (c:g∈b.2.1):(Ý b g).length<=59:=by
 have f:∀l:CK æ,g∈l->(Ý b g).length<=(l.flatMap fun g=>(Ý b g).map fun d=>((g.1,d):Int×Int)).length:=by
  intro l
  induction l with
  |nil=>intro c; cases c
  |cons a t e =>
   intro c;rw[dB,dc,dC];rcases dh.1 c with rfl|c
   ·omega
   ·have:=e c; omega
 have:=f b.2.1 c;have:=h.nodes;unfold Ò at this;omega
def ajc {p:CK Int} {d:Int}:0<=atP (Ò b) p d/\atP (Ò b) p d<=(Ò b).length:=by
 unfold atP
 cases p with
 |nil=>simp
 |cons x t =>
  try dsimp only
  cases h:iZ (Ò b) x d with
  |none=>simp
  |some j=>have:=(lX h).1; dsimp only; omega
def wI (h:Ŧ b) {c:Cmp} (d:c∈b.2.2.2.2.1):(-1125904000000000<=(wJ b c).1/\(wJ b c).1<=1125904000000000)/\(-1125904000000000<=(wJ b c).2/\(wJ b c).2<=1125904000000000):=by
 obtain⟨r1,r2⟩:=h.rates d;have a:=(Ŷ c).1 (h.nums d);have ha:=œ a.2.2.2.2.2.1;have hb:=œ a.2.2.2.2.2.2;have l:=h.film;obtain⟨i,g⟩:=UH (MD r1 r2) a.2.2.2.2.1;have n:=xJ (b:=b) (c:=c) (by omega) (by omega) (by omega) (by omega) (by omega) (by omega);have f:sE (iM b c).1 2000000000 10000:=i;have e:sE (iM b c).2 2000000000 10000:=g;have r:=BX f;have o:=xH e;have j:=a.2.2.1;have n4:=a.2.2.2.1;unfold wJ
 try dsimp only
 omega
def jQ (h:Ŧ b) {g:æ} (d:g∈b.2.1) {f t:Int} (e:0<=f):0<=jD b g f t/\jD b g f t<=12*(20001*1048576)+40*1048576:=by
 have a:=(h.gaugeR d).2.2.2.2.2.2.2;have o:=uH (id:=g.1) (t:=t) e (x:=b.2.2.2.1) fun l c=>vS h c;have h2:(b.2.2.2.1.length:Int)*(20001*1048576)<=12*(20001*1048576):=fN (by have:=h.nL; omega) (by omega)
 have n:(jy b g.1 f t).length<=40:=by
  unfold jy;rw[List.length_map];exact Nat.le_trans (List.length_filter_le _ _) h.nU
 have j:=Fs (jy b g.1 f t)
 have i:0<=((WX (jy b g.1 f t)).length:Int)*g.2.2.2.2.2/\((WX (jy b g.1 f t)).length:Int)*g.2.2.2.2.2<=40*1048576 :=
  ⟨fW (by omega) a.1,fI (by omega) a.2 a.1 (by omega)⟩
 unfold jD;omega
end
def jE {α β:Type} (f:Nat->α->β) {l:CK α} {i:Nat} {a:α} (h:l[i]?=some a):(l.take (i+1)).mapIdx f=(l.take i).mapIdx f++[f i a]:=by
 have hi:i<l.length:=(de.1 h).1
 have:(l.take i).length=i:=by rw[dm]; omega
 rw[take_succ h,List.mapIdx_append];simp[this]
def uP {α:Type} (f:Nat->CK α) (j:Nat):(List.range (j+1)).flatMap f=(List.range j).flatMap f++f j:=by
 rw[fE,eP]; simp
def iW {α:Type} (f:Nat->CK α) (n:Nat) (h:∀k,(f k).length=2):((List.range n).flatMap f).length=2*n:=by
 induction n with
 |zero=>rfl
 |succ n a=>rw[uP,dc,a,h]; omega
set_option maxHeartbeats 2000000 in
def akd {b:ø} (h:Ŧ b):Mk b=some (b,Ò b,(((Ò b).length:Int)+1,Ŕ b),LR b):=by
 unfold Mk acY;have hN:=h.nodes;have hG:=h.nG;have hC:=h.nC;rw[UN h.size,À,Î,Ï (by omega) (by omega)]
 -- lengths of what comes
 have T:∀g∈b.2.1,(ù b g).length<=120/\∀i,(Ĕ b i g).length<=120:=by
  intro g a;have:=If h a;constructor
  ·unfold ù;rw[List.length_append,iW _ _ (fun _=>rfl)];simp only[List.length_cons,List.length_nil]; omega
  ·intro i;unfold Ĕ;rw[List.length_append,iW _ _ (fun _=>rfl)];simp only[List.length_cons,List.length_nil]; omega
 have s:∀i,((b.2.1.take i).flatMap (ù b)).length<=1440/\(((b.2.1.take i).mapIdx (Ĕ b)).flatten).length<=1440:=by
  intro i
  induction i with
  |zero=>simp
  |succ i o =>
   have key:∀i,i<=b.2.1.length->((b.2.1.take i).flatMap (ù b)).length<=i*120/\(((b.2.1.take i).mapIdx (Ĕ b)).flatten).length<=i*120:=by
    intro i
    induction i with
    |zero=>intro _; simp
    |succ i o =>
     intro hi;have o:=o (by omega);have a:b.2.1[i]?=some b.2.1[i]:=cX hi;have h2:=T _ (df a);have h3:=h2.2 i;rw[jE _ a,take_succ a,eP,gM,dc,dc];simp only[dB,gh,du,ig,ip];omega
   rcases dq b.2.1.length (i+1) with G|G
   ·rw[dZ (by omega)];have:=key b.2.1.length (cZ _);rw[fo] at this;omega
   ·have:=key (i+1) G;omega
 refine ê b.2.1 (fun i=>((b.2.1.take i).flatMap (ù b),((b.2.1.take i).mapIdx (Ĕ b)).flatten)) _ rfl (fun i g hi a P=>?_) (fun P=>?_)
 ·try dsimp only
  unfold xp;have e:=List.mem_of_getElem? a;have z:=h.gaugeR e;have hd:=If h e;have r:=s i;have R:=ajc (b:=b) (p:=[g.1]) (d:=g.2.1);rw[Ì hi,Æ a];rw[show qr ((b.1.1,b.1.2),b.2.1,b.2.2.1,b.2.2.2.1,b.2.2.2.2.1,b.2.2.2.2.2) g=qr b g from rfl,aic h.size,À];rw[anf _ _ _ (by dsimp only; omega),À]
  try dsimp only
  have r1:=z.2.2.2.2.2.1;have r2:=z.2.2.2.2.2.2.1;rw[Ï (by omega) (by omega),Ï (by omega) (by omega),Ï (by omega) (by omega),Ð (by simp only[dk,dK]; omega),Am.iff_true,Ð (by simp only[dk,dK]; omega),Am.iff_true]
  refine ñ (fun x:Int×CK Lk×CK (Int×Int)=>∃j:Nat,j+1<=(Ý b g).length/\x.1=(j:Int)+1 /\
   x.2.1=(b.2.1.take i).flatMap (ù b)++([(0,atP (Ò b) [g.1] g.2.1,g.2.2.1+g.2.2.2.1.2),(atP (Ò b) [g.1] g.2.1,0,-(g.2.2.1+g.2.2.2.1.1))] ++
    (List.range j).flatMap fun(k:Nat)=>[(atP (Ò b) [g.1] g.2.1+k,atP (Ò b) [g.1] g.2.1+k+1,0),(atP (Ò b) [g.1] g.2.1+k+1,atP (Ò b) [g.1] g.2.1+k,jD b g ((Ý b g)[k]?.getD 0) ((Ý b g)[k+1]?.getD 0))]) /\
   x.2.2=((b.2.1.take i).mapIdx (Ĕ b)).flatten++([(1,(i:Int)),(1,(i:Int))]++(List.range j).flatMap fun _=>[(2,(i:Int)),(2,(i:Int))])) (fun x=>(Ý b g).length-x.1.toNat) ?_
   ⟨0,gB (om g),rfl,by simp,by simp⟩
  rintro⟨Z,O,K⟩ ⟨j,hj,J,y,v⟩;dsimp only at J y v ⊢;subst J
  have F:O.length<=1562:=by
   rw[y,dc,dc,iW _ _ (fun _=>rfl)];simp only[dk,dK]; omega
  have E:K.length<=1562:=by
   rw[v,dc,dc,iW _ _ (fun _=>rfl)];simp only[dk,dK]; omega
  rcases dq (j+1) (Ý b g).length with f|Q
  ·refine .inr ⟨((j:Int)+1+1,_,_),⟨j+1,f,by push_cast; rfl,rfl,rfl⟩,by dsimp only; omega,fun l=>?_⟩
   try dsimp only
   unfold xo
   have I:(Ý b g)[j]?=some ((Ý b g)[j]?.getD 0):=by rw[cX (by omega)]; rfl
   have H:(Ý b g)[j+1]?=some ((Ý b g)[j+1]?.getD 0):=by rw[cX f]; rfl
   have V:=h.day e (df I);have d2:=h.day e (df H);have lb:=jQ h e (t:=(Ý b g)[j+1]?.getD 0) V.2.1
   have U:((j:Int)+1)=((j+1:Nat):Int):=by push_cast; rfl
   rw[U,Ì f,Ï (by omega) (by omega),Ï (by omega) (by omega),Ï (by omega) (by omega),Ï (by omega) (by omega)];rw[show(((j+1:Nat):Int)-1)=((j:Nat):Int) by omega,Æ I,Æ H];rw[show BP ((b.1.1,b.1.2),b.2.1,b.2.2.1,b.2.2.2.1,b.2.2.2.2.1,b.2.2.2.2.2) (g.1,g.2.1,g.2.2.1,(g.2.2.2.1.1,g.2.2.2.1.2),(g.2.2.2.2.1.1,g.2.2.2.2.1.2),g.2.2.2.2.2) ((Ý b g)[j]?.getD 0) ((Ý b g)[j+1]?.getD 0)=BP b g ((Ý b g)[j]?.getD 0) ((Ý b g)[j+1]?.getD 0) from rfl];rw[amG h z.2.2.2.2.2.2.2 ⟨by omega,by omega⟩ ⟨by omega,by omega⟩,À,Ï (by omega) (by omega),Ï (by omega) (by omega),Ð (by simp only[dk,dK]; omega),Am.iff_true,Ð (by simp only[dk,dK]; omega),Am.iff_true,È f (by omega)];rw[uP,uP,y,v]
   have Y:atP (Ò b) [g.1] g.2.1+((j+1:Nat):Int)-1=atP (Ò b) [g.1] g.2.1+(j:Int):=by push_cast; omega
   have X:atP (Ò b) [g.1] g.2.1+((j+1:Nat):Int)=atP (Ò b) [g.1] g.2.1+(j:Int)+1:=by push_cast; omega
   have a3:0-(0-jD b g ((Ý b g)[j]?.getD 0) ((Ý b g)[j+1]?.getD 0))=jD b g ((Ý b g)[j]?.getD 0) ((Ý b g)[j+1]?.getD 0):=by omega
   rw[Y,X,a3];simp only[di]
  ·refine .inl fun l=>?_
   have C:j+1=(Ý b g).length:=by omega
   unfold xo;rw[show((j:Int)+1)=(((Ý b g).length:Nat):Int) by rw[<-C]; push_cast; rfl,Ó];dsimp only;rw[È hi (by omega)];rw[jE _ a,take_succ a,List.flatMap_append,List.flatten_append,y,v,show j=(Ý b g).length-1 by omega];simp only[List.flatMap_cons,List.flatMap_nil,List.append_nil,List.flatten_cons,List.flatten_nil];rfl
 ·try dsimp only
  unfold xp;rw[Ó,List.take_length];have r:=s b.2.1.length;rw[List.take_length] at r
  have W:∀i,i<=b.2.2.2.2.1.length->((b.2.2.2.2.1.take i).flatMap (ļ b)).length=2*i/\(((b.2.2.2.2.1.take i).mapIdx fun i _=>[((3:Int),(i:Int)),((3:Int),(i:Int))]).flatten).length=2*i:=by
   intro i
   induction i with
   |zero=>intro _; simp
   |succ i o =>
    intro hi;have o:=o (by omega);have a:b.2.2.2.2.1[i]?=some b.2.2.2.2.1[i]:=cX hi;rw[jE _ a,take_succ a,eP,gM,dc,dc];simp only[dB,gh,du,ig,ip,ļ,dk,dK];omega
  refine ê b.2.2.2.2.1 (fun i=>(b.2.1.flatMap (ù b)++(b.2.2.2.2.1.take i).flatMap (ļ b),(b.2.1.mapIdx (Ĕ b)).flatten++((b.2.2.2.2.1.take i).mapIdx fun i _=>[((3:Int),(i:Int)),((3:Int),(i:Int))]).flatten)) _ (by simp) (fun i c hi u l=>?_) (fun l=>?_)
  ·try dsimp only
   unfold xn;have n:=List.mem_of_getElem? u;have D:=(Ŷ c).1 (h.nums n);have ha:=œ D.2.2.2.2.2.1;have hb:=œ D.2.2.2.2.2.2;have sb:=wI h n;have c1:=W i (by omega);rw[Ì hi,Æ u,AK (by omega) (by omega),À,anf _ _ _ (by dsimp only; omega),À,AK (by omega) (by omega),À,anf _ _ _ (by dsimp only; omega),À];rw[show BO ((b.1.1,b.1.2),b.2.1,b.2.2.1,b.2.2.2.1,b.2.2.2.2.1,b.2.2.2.2.2) c=BO b c from rfl,h.says n,À];rw[Ï (by omega) (by omega),Ð (by simp only[List.length_append,List.length_cons,List.length_nil]; omega),Am.iff_true,Ð (by simp only[List.length_append,List.length_cons,List.length_nil]; omega),Am.iff_true,È hi (by omega),jE _ u,take_succ u,List.flatMap_append,List.flatten_append];simp only[List.flatMap_cons,List.flatMap_nil,List.append_nil,List.flatten_cons,List.flatten_nil,List.append_assoc,Int.zero_sub];rfl
  ·try dsimp only
   unfold xn;rw[Ó,List.take_length];rfl
section
variable {ρ:Type}
def wv (w:CK Bool) (v:Int):Bool:=w[v.toNat]?.getD false
def abM {w:CK Bool} {u v:Int} (d:0<=u) (c:0<=v) (h:u.toNat<w.length) (y:Bool):wv (w.set u.toNat y) v=if v=u then y else wv w v:=by
 unfold wv;rw[List.getElem?_set]
 by_cases a:v=u
 ·subst a; simp[h]
 ·have:¬u.toNat=v.toNat:=by omega
  simp[a,this]
def kK {x:CK Int} {v:Int} (h:v.toNat<x.length) (f:Int->BY ρ):Ħ x v.toNat f=f (gv x v):=Δ (TN h) f
def UP {w:CK Bool} {v:Int} (h:v.toNat<w.length) (f:Bool->BY ρ):Ħ w v.toNat f=f (wv w v):=by
 refine Δ ?_ f;unfold wv; rw[List.getElem?_eq_getElem h]; rfl
def ž {v:Int} {n:Nat} (h0:0<=v) (a:v<n) (x:BY ρ):Û ((ile 0 v)&&(ilt v (n:Int))) x=x:=by
 have:((ile 0 v)&&(ilt v (n:Int)))=true:=by simp[ile,ilt,h0,a]
 rw[this,Am.iff_true]
end
def rL (n least:Int):CK Lk->CK Int->CK Bool->CK Int->Bool×CK Int×CK Bool×CK Int
 |[],x,w,q=>(true,x,w,q)
 |l::t,x,w,q =>
  if l.1≠n then rL n least t x w q else
  if gv x l.2.1<=gv x n+l.2.2 then rL n least t x w q else
  if gv x n+l.2.2<least then(false,x.set l.2.1.toNat (gv x n+l.2.2),w,q) else
  if wv w l.2.1 then rL n least t (x.set l.2.1.toNat (gv x n+l.2.2)) w q else rL n least t (x.set l.2.1.toNat (gv x n+l.2.2)) (w.set l.2.1.toNat true) (q++[l.2.1])
structure jg (L:CK Lk) (N:Nat) (M:Int):Prop where
 inr:InR L N
 noloop:∀l∈L,l.1≠l.2.1
 most:∀l∈L,-M<=l.2.2/\l.2.2<=M
 len:L.length<=400
 nodes:N<=1000
 m0:0<=M
 m1:M<=4503599627370496
set_option maxHeartbeats 1000000 in
def aks {ρ:Type} {L:CK Lk} {N:Nat} {M:Int} (G:jg L N M) {n least:Int} (R:0<=n/\n<N) {x:CK Int} {w:CK Bool} {q:CK Int} (hx:x.length=N) (hw:w.length=N) (hq:q.length<=1000000)
 (hb : -2305843009213693952<=gv x n/\gv x n<=2305843009213693952) (V:(Val (.pair .bool (.pair (.slice tI) (.pair (.slice .bool) (.slice tI)))))->BY ρ) (U:(Val (.pair (.slice tI) (.pair (.slice .bool) (.slice tI))))->BY ρ) :
 Ê (fun(d:(Val (.pair tI (.pair (.slice tI) (.pair (.slice .bool) (.slice tI)))))) E=>jO [] least n L (Õ L) d.1 d.2.1 d.2.2.1 d.2.2.2 (fun P O K J=>E (P,O,K,J)) V U) ((0:Int),x,w,q) =
  match rL n least L x w q with
  |(true,r)=>U r
  |(false,r)=>V (false,r):=by
 have Y:=G.len
 refine Vv L (fun i (s:CK Int×CK Bool×CK Int) t=>match rL n least t s.1 s.2.1 s.2.2 with|(true,r)=>U r|(false,r)=>V (false,r))
  (fun i s=>s.1.length=N/\s.2.1.length=N/\gv s.1 n=gv x n/\s.2.2.length<=1000000+i) (fun s hs kn=>?_) (fun i l t s hd hi Z hI kn F=>?_) (s:=(x,w,q)) ⟨hx,hw,rfl,by simpa using hq⟩
 ·try dsimp only
  unfold jO;rw[Ó];rfl
 ·obtain⟨y,u,p⟩:=s;obtain⟨H,h2,I,h4⟩:=hI;dsimp only at H h2 I h4 F ⊢;have a:l∈L:=List.mem_of_getElem? Z;have z:=G.inr l a;have hm:=G.most l a;have hm1:=G.m1;have Q:=G.noloop l a;unfold jO;rw[Ì hi,Æ Z];unfold rL
  by_cases c:l.1=n
  ·have T:ine l.1 n=false:=by simp[ine,c]
   rw[Í T];have e1:∀(f:Bool->BY ρ) (g:BY ρ),Qt (k:=tI) (v:=.bool) (i:Int) [] f g=g:=fun f g=>rfl;rw[e1,if_neg (by simp[c])]
   have X:n.toNat<y.length:=by omega
   have D:l.2.1.toNat<y.length:=by omega
   have W:l.2.1.toNat<u.length:=by omega
   rw[ž R.1 (by omega),kK X,Ï (by omega) (by omega),ž z.2.1 (by omega),kK D,õ]
   by_cases j:gv y l.2.1<=gv y n+l.2.2
   ·rw[if_pos (by simpa[ige] using j),if_pos j,È hi (by omega)];exact F (y,u,p) ⟨H,h2,I,by dsimp only; omega⟩
   ·rw[if_neg (by simpa[ige] using j),if_neg j]
    have o:gv (y.set l.2.1.toNat (gv y n+l.2.2)) n=gv x n:=by
     rw[pF z.2.1 R.1 D,if_neg (fun h=>Q (c.trans h)),I]
    have C:gv (y.set l.2.1.toNat (gv y n+l.2.2)) l.2.1=gv y n+l.2.2:=by
     rw[pF z.2.1 z.2.1 D,if_pos rfl]
    rw[ž R.1 (by omega),kK X,Ï (by omega) (by omega),ž z.2.1 (by omega),kK D];rw[show(ç (List.set y l.2.1.toNat (gv y n+l.2.2)))=((y.length:Nat):Int) by simp[ç]];rw[ž z.2.1 (by omega),kK (by simpa using D),C,õ]
    by_cases e:gv y n+l.2.2<least
    ·rw[if_pos (by simpa[ilt] using e),if_pos e]
    ·rw[if_neg (by simpa[ilt] using e),if_neg e,ž z.2.1 (by omega),UP W,õ]
     cases hwv:wv u l.2.1 with
     |true =>
      rw[if_neg (by simp),if_pos rfl,È hi (by omega)];exact F (y.set l.2.1.toNat (gv y n+l.2.2),u,p) ⟨by simpa using H,h2,o,by dsimp only; omega⟩
     |false =>
      rw[if_pos (by simp),if_neg (by simp),Ð (by simp only[dH]; omega),Am.iff_true,ž z.2.1 (by omega),UP W,È hi (by omega)];exact F (y.set l.2.1.toNat (gv y n+l.2.2),u.set l.2.1.toNat true,p++[l.2.1]) ⟨by simpa using H,by simpa using h2,o,by simp only[dc,dH]; omega⟩
  ·have T:ine l.1 n=true:=by simp[ine,c]
   rw[Ñ T,if_pos c,È hi (by omega)];exact F (y,u,p) ⟨H,h2,I,by dsimp only; omega⟩
structure alD (N:Nat) (n least:Int) (L:CK Lk) (x:CK Int) (q:CK Int) (x':CK Int) (w':CK Bool) (q':CK Int):Prop where
 lx:x'.length=N
 lw:w'.length=N
 same:gv x' n=gv x n
 le:∀v:Int,0<=v->v<N->gv x' v<=gv x v
 link:∀v m,(n,v,m)∈L->gv x' v<=gv x n+m
 chg:∀v:Int,0<=v->v<N->gv x' v=gv x v\/(v∈q'/\gv x' v<gv x v/\∃m,(n,v,m)∈L/\gv x' v=gv x n+m/\least<=gv x' v)
 new:∃l,q'=q++l/\∀v∈l,(0<=v/\v<N)/\gv x' v<gv x v
 nodup:q'.Nodup
 waits:∀v:Int,0<=v->v<N->(wv w' v=true↔v∈q')
def mb {N:Nat} {n least:Int} (P:0<=n/\n<N):∀{L:CK Lk},InR L N->(∀l∈L,l.1≠l.2.1)->∀{x:CK Int} {w:CK Bool} {q:CK Int},x.length=N->w.length=N->q.Nodup->(∀v:Int,0<=v->v<N->(wv w v=true↔v∈q)) ->
 ∀{C:CK Int} {w':CK Bool} {G:CK Int},rL n least L x w q=(true,C,w',G)->alD N n least L x q C w' G
 |[],_,_,x,w,q,K,H,I,c,C,w',G,h=>by
  cases h;exact⟨K,H,rfl,fun _ _ _=>dQ _,fun _ _ h=>(by cases h),fun _ _ _=>.inl rfl,⟨[],by simp,fun _ h=>by cases h⟩,I,c⟩
 |l::t,hL,O,x,w,q,K,H,I,c,C,w',G,h=>by
  have s:InR t N:=fun l hl=>hL l (by simp[hl]);have r:∀l∈t,l.1≠l.2.1:=fun l hl=>O l (by simp[hl]);have d:=hL l (by simp);have hl0:=O l (by simp);unfold rL at h
  split at h
  ·rename_i F;have a:=mb P s r K H I c h
   exact⟨a.lx,a.lw,a.same,a.le,fun v m i=>by
    rcases dh.1 i with rfl|i
    ·exact(F rfl).elim
    ·exact a.link v m i,fun v h0 u=>(a.chg v h0 u).imp id fun⟨z,j,m,T,J⟩=>⟨z,j,m,by simp[T],J⟩,a.new,a.nodup,a.waits⟩
  ·rename_i F
   have R:l.1=n:=by simpa using F
   split at h
   ·rename_i hle;have a:=mb P s r K H I c h
    exact⟨a.lx,a.lw,a.same,a.le,fun v m i=>by
     rcases dh.1 i with rfl|i
     ·have:=a.le v d.2.1 d.2.2; simp only at hle; omega
     ·exact a.link v m i,fun v h0 u=>(a.chg v h0 u).imp id fun⟨z,j,m,T,J⟩=>⟨z,j,m,by simp[T],J⟩,a.new,a.nodup,a.waits⟩
   ·rename_i hgt
    split at h
    ·cases h
    ·rename_i hls
     have tt:l.2.1.toNat<x.length:=by omega
     have tw:l.2.1.toNat<w.length:=by omega
     have hy:(x.set l.2.1.toNat (gv x n+l.2.2)).length=N:=by simpa using K
     have D:gv (x.set l.2.1.toNat (gv x n+l.2.2)) n=gv x n:=by
      rw[pF d.2.1 P.1 tt,if_neg (fun h=>hl0 (R.trans h))]
     have f:∀v,0<=v->gv (x.set l.2.1.toNat (gv x n+l.2.2)) v=if v=l.2.1 then gv x n+l.2.2 else gv x v:=fun v h0=>pF d.2.1 h0 tt _
     have hlm:(n,l.2.1,l.2.2)∈l::t:=by rw[<-R]; simp
     -- what both ways have in common
     have fin:∀{w1:CK Bool} {U:CK Int},alD N n least t (x.set l.2.1.toNat (gv x n+l.2.2)) U C w' G->l.2.1∈U->(∃V,U=q++V/\∀v∈V,v=l.2.1)->alD N n least (l::t) x q C w' G:=by
      intro w1 U a Q X;obtain⟨new,y,Y⟩:=a.new;obtain⟨V,hl',hlv⟩:=X
      have W:gv C l.2.1<=gv x n+l.2.2:=by
       have:=a.le l.2.1 d.2.1 d.2.2;rw[f _ d.2.1,if_pos rfl] at this;exact this
      refine⟨a.lx,a.lw,a.same.trans D,fun v h0 u=>?_,fun v m i=>?_,fun v h0 u=>?_,⟨V++new,by rw[y,hl',di],fun v o=>?_⟩,a.nodup,a.waits⟩
      ·have:=a.le v h0 u;rw[f v h0] at this
       split at this
       ·rename_i e; subst e; omega
       ·exact this
      ·rcases dh.1 i with rfl|i
       ·exact W
       ·have:=a.link v m i
        rwa [D] at this
      ·rcases a.chg v h0 u with g|⟨z,j,m,T,J,g5⟩
       ·rw[f v h0] at g
        split at g
        ·rename_i e;subst e;exact .inr ⟨by rw[y]; exact dT _ Q,by omega,l.2.2,hlm,g,by omega⟩
        ·exact .inl g
       ·rw[f v h0] at j;rw[D] at J;refine .inr ⟨z,?_,m,by simp[T],J,g5⟩
        split at j
        ·rename_i e; subst e; omega
        ·exact j
      ·rcases dg.1 o with o|o
       ·rw[hlv v o]; exact⟨d.2,by omega⟩
       ·obtain⟨z,j⟩:=Y v o;rw[f v z.1] at j;refine⟨z,?_⟩
        split at j
        ·rename_i e; subst e; omega
        ·exact j
     split at h
     ·rename_i E;exact fin (w1:=w) (mb P s r hy H I c h) ((c _ d.2.1 d.2.2).1 E) ⟨[],by simp,fun _ h=>by cases h⟩
     ·rename_i E;have Z:l.2.1∉q:=fun hc=>E ((c _ d.2.1 d.2.2).2 hc);refine fin (w1:=w.set l.2.1.toNat true) (mb P s r hy (by simpa using H) ?_ ?_ h) (by simp) ⟨[l.2.1],rfl,fun v o=>by simpa using o⟩
      ·rw[List.nodup_append];exact⟨I,by simp,fun a ha b hb=>by simp at hb; subst hb; exact fun e=>Z (e▸ha)⟩
      ·intro v h0 u;rw[abM d.2.1 h0 tw]
       by_cases o:v=l.2.1
       ·simp[o]
       ·simp only[o,if_false,dg,dj,or_false];exact c v h0 u
def o9 {n least:Int}:∀{L:CK Lk},(∀l∈L,l.1≠l.2.1)->(∀l∈L,0<=l.2.1)->0<=n->∀{x:CK Int} {w:CK Bool} {q:CK Int} {r},rL n least L x w q=(false,r)->∃v m,(n,v,m)∈L/\gv x n+m<least
 |[],_,_,_,x,w,q,r,h=>by cases h
 |l::t,e,h0,g,x,w,q,r,h=>by
  have a:∀l∈t,l.1≠l.2.1:=fun l s=>e l (by simp[s]);have c:∀l∈t,0<=l.2.1:=fun l s=>h0 l (by simp[s]);have f:(∃v m,(n,v,m)∈t/\gv x n+m<least)->∃v m,(n,v,m)∈l::t/\gv x n+m<least:=fun⟨v,m,y,u⟩=>⟨v,m,by simp[y],u⟩;unfold rL at h
  split at h
  ·exact f (o9 a c g h)
  ·rename_i i
   have o:l.1=n:=by simpa using i
   split at h
   ·exact f (o9 a c g h)
   ·split at h
    ·rename_i j;exact⟨l.2.1,l.2.2,by rw[<-o]; simp,j⟩
    ·have d:gv (x.set l.2.1.toNat (gv x n+l.2.2)) n=gv x n:=by
      unfold gv;rw[List.getElem?_set];have z:=e l (by simp);have h2:=h0 l (by simp)
      have:¬l.2.1.toNat=n.toNat:=by omega
      simp[this]
     split at h
     ·have:=o9 a c g h;rw[d] at this;exact f this
     ·have:=o9 a c g h;rw[d] at this;exact f this
def acy {ρ:Type} {L:CK Lk} {N:Nat} {M:Int} (i:jg L N M) {n least:Int} (c:0<=n/\n<N) {x:CK Int} {w:CK Bool} {t rest:CK Int} (l:x.length=N) (o:w.length=N) (E:t.length=N) (u:rest.length<=1000000)
 (hb : -2305843009213693952<=gv x n/\gv x n<=2305843009213693952) (s:0<=gv t n/\gv t n<=1000000) (h:CK Int->CK Bool->CK Int->CK Int->BY ρ) (k0:(Val (.pair .bool (.pair (.slice tI) (.pair (.slice .bool) (.pair (.slice tI) (.slice tI))))))->BY ρ) :
 ĭ [] least (N:Int) L x w t (n::rest) h k0 =
  if (N:Int)+1<gv t n+1 then k0 (false,x,w.set n.toNat false,t.set n.toNat (gv t n+1),rest) else
  match rL n least L x (w.set n.toNat false) rest with
  |(true,d,w',g)=>h d w' (t.set n.toNat (gv t n+1)) g
  |(false,d,w',g)=>k0 (false,d,w',t.set n.toNat (gv t n+1),g):=by
 have F:=i.nodes
 have D:n.toNat<x.length:=by omega
 have j:n.toNat<w.length:=by omega
 have e:n.toNat<t.length:=by omega
 unfold ĭ
 have C:ieq (Õ (n::rest)) 0=false:=by
  rw[Î];simp only[ieq,dk,beq_eq_false_iff_ne,ne_eq];omega
 have z:ilt (0:Int) (ç (n::rest))=true:=by simp[ilt,ç]
 have y:ile (1:Int) (ç (n::rest))=true:=by simp[ile,ç]; omega
 have v:decide (1+(List.length (n::rest)-1)=List.length (n::rest))=true:=by simp; omega
 rw[Í C,à z];rw[show Ħ (n::rest) 0=fun(f:Int->BY ρ)=>f n from rfl]
 try dsimp only
 rw[à y,à v,ž c.1 (by omega),UP j,ž c.1 (by omega),kK e,Ï (by omega) (by omega),ž c.1 (by omega),kK e];rw[show(ç (List.set t n.toNat (gv t n+1)))=((t.length:Nat):Int) by simp[ç]];rw[ž c.1 (by omega),kK (by simpa using e),pF c.1 c.1 e,if_pos rfl,Ï (by omega) (by omega),õ];rw[show List.drop 1 (n::rest)=rest from rfl]
 by_cases a:(N:Int)+1<gv t n+1
 ·rw[if_pos (by simpa[igt] using a),if_pos a]
 ·rw[if_neg (by simpa[igt] using a),if_neg a];rw[aks i c l (w:=w.set n.toNat false) (by simpa using o) u hb];generalize rL n least L x (w.set n.toNat false) rest=r;obtain⟨b,d,w',g⟩:=r
  cases b<;>rfl
def agB {ρ:Type} {L:CK Lk} {N:Int} {least:Int} {x:CK Int} {w:CK Bool} {t:CK Int} (a:CK Int->CK Bool->CK Int->CK Int->BY ρ) (k0:(Val (.pair .bool (.pair (.slice tI) (.pair (.slice .bool) (.pair (.slice tI) (.slice tI))))))->BY ρ) :
 ĭ [] least N L x w t [] a k0=k0 (true,x,w,t,[]):=by
 unfold ĭ
 have c:ieq (Õ ([]:CK Int)) 0=true:=by rw[Î]; rfl
 rw[Ñ c]
def Vx (N:Nat) (t:CK Int):Nat:=(t.map fun a=>((N:Int)+2-a).toNat).sum
def ada (N:Nat):∀(t:CK Int) (i:Nat) (a b:Int),t[i]?=some a->a<b->a<(N:Int)+2->Vx N (t.set i b)<Vx N t
 |a0::t,0,a,b,h,c,h2=>by
  simp at h; subst h;simp only[Vx,List.set_cons_zero,eX,List.sum_cons];omega
 |a0::t,i+1,a,b,h,c,h2=>by
  have:=ada N t i a b (by simpa using h) c h2;simp only[Vx] at this;simp only[Vx,List.set_cons_succ,eX,List.sum_cons];omega
def Zb {N:Nat} {t:CK Int} {n:Int} (a:n.toNat<t.length) (h:gv t n<=(N:Int)+1):Vx N (t.set n.toNat (gv t n+1))<Vx N t :=
 ada N t n.toNat (gv t n) _ (TN a) (by omega) (by omega)
structure afG (L:CK Lk) (S:Int->Prop) (N:Nat) (M:Int) (k:Nat) (A B:CK Int) (x:CK Int) (w:CK Bool) (t q:CK Int):Prop where
 q_eq:q=A++B
 lx:x.length=N
 lw:w.length=N
 lt:t.length=N
 nodup:q.Nodup
 rng:∀v∈q,0<=v/\v<N
 waits:∀v:Int,0<=v->v<N->(wv w v=true↔v∈q)
 t0:∀v:Int,0<=v->v<N->0<=gv t v/\gv t v<=(k:Int)+1
 tA:∀v∈A,gv t v<=k
 low:∀vs v d,Wl L S vs v d->vs.length<=k->gv x v<=d
 nxt:∀vs u d,Wl L S vs u d->vs.length<=k->u∉A->∀v m,(u,v,m)∈L->gv x v<=d+m
 rel:∀u:Int,0<=u->u<N->u∉q->gv x u≠Ŗ->∀v m,(u,v,m)∈L->gv x v<=gv x u+m
 att:∀v:Int,0<=v->v<N->gv x v≠Ŗ->∃vs,Wl L S vs v (gv x v)
 bd:∀v:Int,0<=v->v<N->gv x v=Ŗ\/gv x v<=((k:Int)+1)*M
 bA:∀v∈A,gv x v<=(k:Int)*M
 fin:∀v∈q,gv x v<Ŗ
 kN:k+1<=N
 last:k+1=N->B=[]
section
variable {L:CK Lk} {S:Int->Prop} {N:Nat} {M:Int} {p:Int->Int} {k:Nat} {A B x:CK Int} {w:CK Bool} {t q:CK Int}
def LZ {a b:Nat} {M:Int} (h:a<=b) (c:0<=M):(a:Int)*M<=(b:Int)*M:=fN (by omega) c
def Wl.lt_free (a:jg L N M) (f:N*M<Ŗ) {vs:CK Int} {v d:Int} (c:Wl L S vs v d) (h:vs.length<=N):d<Ŗ:=by
 have g:=c.high fun l e=>(a.most l e).2;have h2:=LZ h a.m0;omega
def afG.next (r:jg L N M) (o:N*M<Ŗ) (C:∀v,S v->0<=v/\v<N) (h:afG L S N M k [] B x w t q) (E:B≠[]):afG L S N M (k+1) B [] x w t q:=by
 have D:=r.m0
 have i:q=B:=by simpa using h.q_eq
 have F:k+1≠N:=fun e=>E (h.last e);have z:=h.kN
 have a:∀vs v d,Wl L S vs v d->vs.length<=k+1->gv x v<=d:=by
  intro vs v d f n
  cases f with
  |nil y=>exact h.low [] v 0 (.nil y) (by simp)
  | @step vs u _ m d f g=>exact h.nxt vs u d f (by simpa using n) (by simp) v m g
 refine⟨by simp[i],h.lx,h.lw,h.lt,h.nodup,h.rng,h.waits,fun v h0 c=>⟨(h.t0 v h0 c).1,by have:=(h.t0 v h0 c).2; push_cast; omega⟩,fun v l=>?_,a,fun vs u d f n s v m g=>?_,h.rel,h.att,fun v h0 c=>?_,fun v l=>?_,h.fin,by omega,fun _=>rfl⟩
 ·have:=h.rng v (by rw[i]; exact l);have:=(h.t0 v this.1 this.2).2;push_cast; omega
 ·have c:=a vs u d f n;have h2:=f.lt_free r o (by omega);have j:=(f.range r.inr C).1;have:=h.rel u j.1 j.2 (by rw[i]; exact s) (by omega) v m g;omega
 ·rcases h.bd v h0 c with h2|h2
  ·exact .inl h2
  ·refine .inr ?_;have:=LZ (show k+1<=k+1+1 by omega) D;push_cast at this ⊢;omega
 ·have c:=h.rng v (by rw[i]; exact l);have h2:=h.fin v (by rw[i]; exact l);rcases h.bd v c.1 c.2 with j|j
  ·omega
  ·push_cast; exact j
def afG.step {n:Int} {K:CK Int} {least:Int} {H:CK Int} {w':CK Bool} {Z:CK Int} (F:jg L N M) (hNM:N*M<Ŗ) (hp:Pot L p) (hS:∀v,S v->0<=v/\v<N) (h:afG L S N M k (n::K) B x w t q)
 (ha:alD N n least L x (K++B) H w' Z):∃B',afG L S N M k K B' H w' (t.set n.toNat (gv t n+1)) Z:=by
 have hM:=F.m0
 have y:q=n::(K++B):=by simpa using h.q_eq
 have J:=h.kN;have r:=h.rng n (by rw[y]; simp);have hnf:=h.fin n (by rw[y]; simp)
 have U:n∉K++B:=by have:=h.nodup; rw[y,fD] at this; exact this.1
 have T:n.toNat<t.length:=by have:=h.lt; omega
 have z:∀v,0<=v->gv (t.set n.toNat (gv t n+1)) v=if v=n then gv t n+1 else gv t v:=fun v h0=>pF r.1 h0 T _
 have hkM:((k:Int)+1)*M<Ŗ:=by
  have:=LZ J hM;push_cast at this;omega
 have G:∀v:Int,0<=v->v<N->gv x v<=Ŗ:=fun v h0 a=>by rcases h.bd v h0 a with h2|h2<;>omega
 obtain⟨l,P,D⟩:=ha.new
 have C:∀v:Int,0<=v->v<N->gv H v≠Ŗ->∃vs,Wl L S vs v (gv H v):=by
  intro v h0 a I;rcases ha.chg v h0 a with g|⟨_,_,m,Y,X,_⟩
  ·rw[g] at I ⊢; exact h.att v h0 a I
  ·obtain⟨vs,s⟩:=h.att n r.1 r.2 (by omega);rw[X]; exact⟨_,s.step Y⟩
 refine⟨B++l,by rw[P,di],ha.lx,ha.lw,by rw[gR]; exact h.lt,ha.nodup,fun v c=>?_,ha.waits,fun v h0 a=>?_,fun v c=>?_,fun vs v d s i=>?_,fun vs u d s i O v m f=>?_,
  fun u h0 a O hf v m f=>?_,C,fun v h0 a=>?_,fun v c=>?_,fun v c=>?_,J,fun hk=>?_⟩
 ·rw[P] at c;rcases dg.1 c with c|c
  ·exact h.rng v (by rw[y]; simp only[dh]; exact .inr c)
  ·exact(D v c).1
 ·rw[z v h0];have h2:=h.t0 v h0 a
  split
  ·have h3:=h.tA n (by simp);have h4:=h.t0 n r.1 r.2;omega
  ·exact h2
 ·have a:=h.rng v (by rw[y]; simp[c]);rw[z v a.1,if_neg (fun e=>U (by rw[<-e]; simp[c]))];exact h.tA v (by simp[c])
 ·have a:=h.low vs v d s i;have h2:=(s.range F.inr hS).1;have:=ha.le v h2.1 h2.2;omega
 ·have j:=(F.inr _ f).2
  by_cases o:u=n
  ·subst o;have a:=ha.link v m f;have h2:=h.low vs u d s i;omega
  ·have a:=h.nxt vs u d s i (by simp[o,O]) v m f;have:=ha.le v j.1 j.2;omega
 ·have j:=(F.inr _ f).2
  have V:gv H u=gv x u:=by
   rcases ha.chg u h0 a with g|⟨g,_⟩
   ·exact g
   ·exact(O g).elim
  by_cases o:u=n
  ·subst o;have a:=ha.link v m f;omega
  ·have R:u∉q:=by
    rw[y];intro W;rcases dh.1 W with e|W
    ·exact o e
    ·exact O (by rw[P]; exact dT _ W)
   have h2:=h.rel u h0 a R (by rw[<-V]; exact hf) v m f;have:=ha.le v j.1 j.2;omega
 ·rcases ha.chg v h0 a with g|⟨_,_,m,Y,X,_⟩
  ·rw[g]; exact h.bd v h0 a
  ·have h2:=h.bA n (by simp);have h3:=(F.most _ Y).2;simp only at h3;refine .inr ?_;rw[X,f0,gd];omega
 ·have a:=h.rng v (by rw[y]; simp[c]);have h2:=h.bA v (by simp[c]);have:=ha.le v a.1 a.2;omega
 ·rw[P] at c;rcases dg.1 c with c|c
  ·have a:=h.rng v (by rw[y]; simp only[dh]; exact .inr c);have h2:=h.fin v (by rw[y]; simp only[dh]; exact .inr c);have:=ha.le v a.1 a.2;omega
  ·obtain⟨E,g2⟩:=D v c;have:=G v E.1 E.2;omega
 ·rw[h.last hk]
  cases l with
  |nil=>rfl
  |cons v l =>
   exfalso;obtain⟨E,g2⟩:=D v (by simp);have:=G v E.1 E.2;obtain⟨vs,s⟩:=C v E.1 E.2 (by omega);obtain⟨Q,d',k1,k2,k3⟩:=s.simple hp;have k4:=k1.short F.inr hS k3;have:=h.low Q v d' k1 (by omega);omega
def afG.done (e:jg L N M) (j:N*M<Ŗ) (y:Pot L p) (l:∀v,S v->0<=v/\v<N) (h:afG L S N M k A B x w t []):afI L S N (gv x):=by
 have i:=h.kN;have C:=e.m0
 have z:((k:Int)+1)*M<Ŗ:=by
  have:=LZ i C;push_cast at this;omega
 have key:∀vs v d,Wl L S vs v d->vs.length+1<=N->gv x v<=d:=by
  intro vs v d a
  induction a with
  |nil s=>intro _; exact h.low [] _ 0 (.nil s) (by simp)
  | @step vs u v m d a g ih =>
   intro c;simp only[dk] at c;have o:=ih (by omega);have h2:=a.lt_free e j (by omega);have n:=(a.range e.inr l).1;have:=h.rel u n.1 n.2 (by simp) (by omega) v m g;omega
 refine⟨h.att,fun v vs d a=>?_,fun v h0 o=>?_⟩
 ·obtain⟨f,D,k1,E,r⟩:=a.simple y;have:=key f v D k1 (k1.short e.inr l r);omega
 ·rcases h.bd v h0 o with h2|h2<;>omega
def WQ {ρ:Type} {r:BY ρ} (d:jg L N M) (i:N*M<Ŗ) (z:Pot L p) (O:∀v,S v->0<=v/\v<N) (k0:(Val (.pair .bool (.pair (.slice tI) (.pair (.slice .bool) (.pair (.slice tI) (.slice tI))))))->BY ρ)
 (hK:∀x w t q,x.length=N->afI L S N (gv x)->k0 (true,x,w,t,q)=r) (h:afG L S N M k A B x w t q) :
 Ê (fun(e:(Val (.pair (.slice tI) (.pair (.slice .bool) (.pair (.slice tI) (.slice tI)))))) o=>ĭ [] (lZ L) (N:Int) L e.1 e.2.1 e.2.2.1 e.2.2.2 (fun F E D C=>o (F,E,D,C)) k0) (x,w,t,q)=r:=by
 refine ñ (fun s:CK Int×CK Bool×CK Int×CK Int=>∃k A B,afG L S N M k A B s.1 s.2.1 s.2.2.1 s.2.2.2) (fun s=>Vx N s.2.2.1) ?_ ⟨k,A,B,h⟩;rintro⟨x,w,t,q⟩ ⟨k,A,B,h⟩;dsimp only at h ⊢;have hN:=d.nodes
 cases q with
 |nil=>exact .inl fun Z=>by rw[agB]; exact hK x w t [] h.lx (h.done d i z O)
 |cons n rest =>
  -- the phase in which the first one is
  have K:∃k j B,afG L S N M k (n::j) B x w t (n::rest):=by
   cases A with
   |nil =>
    have hB:B=n::rest:=by simpa using h.q_eq.symm
    subst hB;exact⟨k+1,rest,[],h.next d i O (by simp)⟩
   |cons a j =>
    have:=h.q_eq;simp only[fe,List.cons.injEq] at this;obtain⟨rfl,_⟩:=this;exact⟨k,j,B,h⟩
  clear h k A B;obtain⟨k,j,B,h⟩:=K
  have f:rest=j++B:=by have:=h.q_eq; simpa using this
  have c:=h.rng n (by simp);have hnf:=h.fin n (by simp);have hkN:=h.kN;have V:=h.tA n (by simp);have h2:=h.t0 n c.1 c.2;obtain⟨vs,Q⟩:=h.att n c.1 c.2 (by omega);have T:=Q.low' z
  have R : -(400*4503599627370496)<=lZ L:=by
   have:∀y:CK Lk,(∀l∈y,-M<=l.2.2)->-((y.length:Int)*M)<=lZ y:=by
    intro y
    induction y with
    |nil=>intro _; simp[lZ,Ca]
    |cons l t ih =>
     intro U;have i1:=ih fun l u=>U l (by simp[u]);have i2:=U l (by simp);have i3:=d.m0;unfold lZ at i1 ⊢;simp only[Ca,if_true,List.length_cons,Int.natCast_succ,Int.add_mul,Int.one_mul];omega
   have h3:=this L fun l u=>(d.most l u).1;have h4:(L.length:Int)*M<=400*4503599627370496:=fI (by have:=d.len; omega) d.m1 d.m0 (by omega);omega
  have I:rest.length<=1000000:=by
   have:=acf N (n::rest) h.nodup h.rng;simp only[dk] at this;omega
  refine .inr ?_
  have G:(w.set n.toNat false).length=N:=by rw[gR]; exact h.lw
  cases J:rL n (lZ L) L x (w.set n.toNat false) rest with
  |mk b X =>
  obtain⟨W,w',Y⟩:=X
  cases b with
  |false =>
   exfalso;obtain⟨v,m,g1,g2⟩:=o9 d.noloop (fun l u=>(d.inr l u).2.1) c.1 J;have:=(Q.step g1).low' z;omega
  |true =>
   have g:=h.nodup;rw[fD] at g
   have ha:=mb c d.inr d.noloop h.lx G g.2 (fun v h0 V=>by
    rw[abM c.1 h0 (by have:=h.lw; omega)]
    by_cases H:v=n
    ·subst H; simp[g.1]
    ·rw[if_neg H,h.waits v h0 V]
     simp[H]) J
   rw[f] at ha;obtain⟨B',P⟩:=h.step d i z O ha;refine⟨(W,w',t.set n.toNat (gv t n+1),Y),⟨k,j,B',P⟩,Zb (by have:=h.lt; omega) (by omega),fun Z=>?_⟩;have hF:Ŗ=1152921504606846976:=rfl
   rw[acy d c h.lx h.lw h.lt I (by constructor<;>omega) (by constructor<;>omega),if_neg (by omega),J]
end
def Nf (f:Lk->Bool):∀(L a:CK Lk),Ca f (L++a)=Ca f L+Ca f a
 |[],a=>by simp[Ca]
 |l::t,a=>by
  simp only[fe,Ca,Nf f t a];omega
def XS {L:CK Lk} {i:Nat} {l:Lk} (h:L[i]?=some l):lZ (L.take (i+1))=lZ (L.take i)+min l.2.2 0:=by
 rw[take_succ h,lZ,lZ,Nf];simp[Ca]
def imin0 (e:Int):Z3 e 0=min e 0:=by
 unfold Z3
 split<;>omega
def UR {L:CK Lk} {M:Int} (h:∀l∈L,-M<=l.2.2) (f:0<=M) : -((L.length:Int)*M)<=lZ L:=by
 induction L with
 |nil=>simp[lZ,Ca]
 |cons l t a =>
  have c:=a fun l d=>h l (by simp[d]);have e:=h l (by simp);unfold lZ at c ⊢;simp only[Ca,if_true,List.length_cons,Int.natCast_succ,Int.add_mul,Int.one_mul];omega
def amC (L:CK Lk):lZ L<=0:=nu _ L
section
variable {ρ:Type} {L:CK Lk} {N:Nat} {M:Int}
def adc (e:jg L N M) (k0:Int->BY ρ):Ê (fun(a:bx) c=>iL L (Õ L) a.1 a.2 (fun g f=>c (g,f)) k0) ((0:Int),(0:Int))=k0 (lZ L):=by
 refine ñ (fun x:Int×Int=>∃i:Nat,i<=L.length/\x=(lZ (L.take i),(i:Int))) (fun x=>L.length-x.2.toNat) ?_ ⟨0,by omega,rfl⟩;rintro x ⟨i,hi,rfl⟩;have n:=e.len;rcases dq i L.length with h|h
 ·have d:L[i]?=some L[i]:=cX h;refine .inr ⟨(lZ (L.take (i+1)),(i:Int)+1),⟨i+1,h,by simp⟩,by simp; omega,fun o=>?_⟩
  try dsimp only
  unfold iL
  have hb:∀j,j<=L.length->-(400*4503599627370496)<=lZ (L.take j):=by
   intro j s;have r:=UR (L:=L.take j) (fun l d=>(e.most l (ff d)).1) e.m0;have h2:((L.take j).length:Int)*M<=400*4503599627370496:=fI (by rw[dm]; omega) e.m1 e.m0 (by omega);omega
  have r:=hb i hi;have h2:=hb (i+1) h;have u:=amC (L.take i);rw[XS d] at h2;rw[Ì h,Æ d,imin0,Ï (by omega) (by omega),È h (by omega),XS d]
 ·refine .inl fun o=>?_
  have:i=L.length:=by omega
  subst this
  try dsimp only
  unfold iL;rw[Ó,List.take_length]
def af8 {x:CK Int} (P:x.length=N) (Q:N<=1000) {r:BY ρ} (k0:(Val (.pair (.slice .bool) (.slice tI)))->BY ρ)
 (K:∀(w:CK Bool) (q:CK Int),w.length=N->q.Nodup->(∀v∈q,0<=v/\v<N)->(∀v:Int,0<=v->v<N->(wv w v=true↔v∈q))->(∀v:Int,0<=v->v<N->(v∈q↔gv x v≠Ŗ))->k0 (w,q)=r) :
 Ê (fun(g:(Val (.pair tI (.pair (.slice .bool) (.slice tI))))) n=>Š (N:Int) x g.1 g.2.1 g.2.2 (fun G F E=>n (G,F,E)) k0) ((0:Int),(List.replicate N false),([]:CK Int))=r:=by
 refine ñ (fun s:Int×CK Bool×CK Int=>∃i:Nat,i<=N/\s.1=i/\s.2.1.length=N/\s.2.2.Nodup/\s.2.2.length<=i/\(∀v∈s.2.2,0<=v/\v<i)/\(∀v:Int,0<=v->v<N->(wv s.2.1 v=true↔v∈s.2.2))/\(∀v:Int,0<=v->v<i->(v∈s.2.2↔gv x v≠Ŗ))) (fun s=>N-s.1.toNat) ?_
  ⟨0,by omega,rfl,by simp,by simp,by simp,by simp,fun v h0 d=>?_,fun v h0 d=>by omega⟩
 ·rintro⟨s,w,q⟩ ⟨i,hi,d,h2,D,O,l,C,z⟩;simp only at d h2 D O l C z;subst d;rcases dq i N with h|h
  ·refine .inr ?_
   have f:i<x.length:=by omega
   have j:i<w.length:=by omega
   have o:((i:Int))∉q:=fun J=>by have:=(l _ J).2; omega
   by_cases y:gv x i=Ŗ
   ·refine⟨((i:Int)+1,w,q),⟨i+1,h,by simp,h2,D,by simp only; omega,fun v c=>⟨(l v c).1,by have:=(l v c).2; push_cast; omega⟩,C,fun v h0 d=>?_⟩,by simp; omega,fun I=>?_⟩
    ·by_cases c:v=i
     ·subst c; simp[y,o]
     ·exact z v h0 (by push_cast at d; omega)
    ·try dsimp only
     unfold Š
     have e:ilt (i:Int) (N:Int)=true:=by simp[ilt,h]
     rw[Ñ e,ő f,kK (by simpa using f)]
     have H:ine (gv x i) 1152921504606846976=false:=by simp[ine,y]
     rw[Í H,È h (by omega)]
   ·refine⟨((i:Int)+1,w.set i true,q++[(i:Int)]),⟨i+1,h,by simp,by simpa using h2,?_,by simp; omega,fun v c=>?_,fun v h0 d=>?_,fun v h0 d=>?_⟩,by simp; omega,fun I=>?_⟩
    ·rw[List.nodup_append];exact⟨D,by simp,fun a ha b hb=>by simp at hb; subst hb; exact fun e=>o (e▸ha)⟩
    ·rcases dg.1 c with c|c
     ·exact⟨(l v c).1,by have:=(l v c).2; push_cast; omega⟩
     ·simp at c; subst c; push_cast; omega
    ·have:=abM (w:=w) (u:=(i:Int)) (by omega) h0 (by simpa using j) true;rw[dl] at this;show wv (w.set i true) v=true↔v∈q++[(i:Int)];rw[this]
     by_cases c:v=i
     ·simp[c]
     ·simp only[c,if_false,dg,dj,or_false];exact C v h0 d
    ·show v∈q++[(i:Int)]↔_
     by_cases c:v=i
     ·subst c; simp[y]
     ·simp only[dg,dj,c,or_false];exact z v h0 (by push_cast at d; omega)
    ·try dsimp only
     unfold Š
     have e:ilt (i:Int) (N:Int)=true:=by simp[ilt,h]
     rw[Ñ e,ő f,kK (by simpa using f)]
     have H:ine (gv x i) 1152921504606846976=true:=by simp[ine,y]
     rw[Ñ H,Ð (by simp only[dH]; omega),Am.iff_true,ő j,UP (by simpa using j),È h (by omega),dl]
  ·refine .inl fun I=>?_
   have:i=N:=by omega
   subst this
   try dsimp only
   unfold Š
   have e:ilt (i:Int) (i:Int)=false:=by simp[ilt]
   rw[Í e];exact K w q h2 D l C z
 ·have:wv (List.replicate N false) v=false:=by
   unfold wv;rw[List.getElem?_replicate]
   split<;>rfl
  simp[this]
def Sb (D:jg L N M) (E:1<=N) {S:Int->Bool} (y:∀v,S v=true->0<=v/\v<N) {w:CK Bool} {q:CK Int} (g:w.length=N) (z:q.Nodup) (h:∀v∈q,0<=v/\v<N) (j:∀v:Int,0<=v->v<N->(wv w v=true↔v∈q)) (n:∀v:Int,0<=v->v<N->(v∈q↔gv (Ņ S N) v≠Ŗ)) :
 afG L (fun v=>S v=true) N M 0 q [] (Ņ S N) w (List.replicate N 0) q:=by
 have s:∀v:Int,0<=v->v<N->gv (List.replicate N (0:Int)) v=0:=by
  intro v h0 a;unfold gv;rw[List.getElem?_replicate]
  split<;>rfl
 have i:∀v:Int,0<=v->v<N->(v∈q↔S v=true):=by
  intro v h0 a;rw[n v h0 a,ū S h0 a]
  cases S v<;>simp[Ŗ]
 have C:=D.m0;refine⟨by simp,ë S N,g,by simp,z,h,j,fun v h0 a=>?_,fun v e=>?_,fun vs v d g r=>?_,fun vs u d g r l v m o=>?_,fun u h0 a l f v m o=>?_,fun v h0 a f=>?_,fun v h0 a=>?_,fun v e=>?_,fun v e=>?_,by omega,fun _=>rfl⟩
 ·rw[s v h0 a]; omega
 ·have:=h v e;rw[s v this.1 this.2]; omega
 ·cases g with
  |nil c =>
   have:=y v c;rw[ū S this.1 this.2,if_pos c]; omega
  |step=>simp at r
 ·cases g with
  |nil c =>
   have:=y u c;exact(l ((i u this.1 this.2).2 c)).elim
  |step=>simp at r
 ·rw[ū S h0 a] at f;have:=mt (i u h0 a).2 l;rw[if_neg this] at f;exact(f rfl).elim
 ·rw[ū S h0 a] at f ⊢
  split at f
  ·rename_i c;rw[if_pos c]; exact⟨[],.nil c⟩
  ·exact(f rfl).elim
 ·rw[ū S h0 a]
  split
  ·exact .inr (by simp[C])
  ·exact .inl rfl
 ·have a:=h v e;rw[ū S a.1 a.2,if_pos ((i v a.1 a.2).1 e)]; simp
 ·have a:=h v e;rw[ū S a.1 a.2,if_pos ((i v a.1 a.2).1 e)]; simp[Ŗ]
structure Bad (L:CK Lk) (N:Nat) (x:CK Int) (w:CK Bool) (t q:CK Int):Prop where
 lx:x.length=N
 lw:w.length=N
 lt:t.length=N
 nodup:q.Nodup
 rng:∀v∈q,0<=v/\v<N
 waits:∀v:Int,0<=v->v<N->(wv w v=true↔v∈q)
 t0:∀v:Int,0<=v->v<N->0<=gv t v/\gv t v<=(N:Int)+1
 bd:∀v:Int,0<=v->v<N->-2305843009213693952<=gv x v/\gv x v<=0
 rel:∀u:Int,0<=u->u<N->u∉q->∀v m,(u,v,m)∈L->gv x v<=gv x u+m
def ajO {r:BY ρ} {x:CK Int} {w:CK Bool} {t q:CK Int} (c:jg L N M) (hp:¬∃p,Pot L p) (k0:(Val (.pair .bool (.pair (.slice tI) (.pair (.slice .bool) (.pair (.slice tI) (.slice tI))))))->BY ρ)
 (Y:∀x w t q,k0 (false,x,w,t,q)=r) (h:Bad L N x w t q) :
 Ê (fun(j:(Val (.pair (.slice tI) (.pair (.slice .bool) (.pair (.slice tI) (.slice tI)))))) D=>ĭ [] (lZ L) (N:Int) L j.1 j.2.1 j.2.2.1 j.2.2.2 (fun O K J I=>D (O,K,J,I)) k0) (x,w,t,q)=r:=by
 refine ñ (fun s:CK Int×CK Bool×CK Int×CK Int=>Bad L N s.1 s.2.1 s.2.2.1 s.2.2.2) (fun s=>Vx N s.2.2.1) ?_ h;rintro⟨x,w,t,q⟩ h;dsimp only at h ⊢;have hN:=c.nodes
 cases q with
 |nil =>
  exfalso;exact hp ⟨gv x,fun u v m o=>h.rel u (c.inr _ o).1.1 (c.inr _ o).1.2 (by simp) v m o⟩
 |cons n rest =>
  have a:=h.rng n (by simp);have hb:=h.bd n a.1 a.2;have ht:=h.t0 n a.1 a.2
  have T:rest.length<=1000000:=by
   have:=acf N (n::rest) h.nodup h.rng;simp only[dk] at this;omega
  have f:=fun(H:CK Int->CK Bool->CK Int->CK Int->BY ρ)=>acy (ρ:=ρ) c (least:=lZ L) a h.lx h.lw h.lt T ⟨hb.1,by omega⟩ ⟨ht.1,by omega⟩ H k0
  by_cases z:(N:Int)+1<gv t n+1
  ·exact .inl fun H=>by rw[f,if_pos z]; exact Y _ _ _ _
  ·have P:(w.set n.toNat false).length=N:=by rw[gR]; exact h.lw
   cases U:rL n (lZ L) L x (w.set n.toNat false) rest with
   |mk b Z =>
   obtain⟨X,w',q'⟩:=Z
   cases b with
   |false=>exact .inl fun H=>by rw[f,if_neg z,U]; exact Y _ _ _ _
   |true =>
    have y:=h.nodup;rw[fD] at y
    have G:n.toNat<t.length:=by have:=h.lt; omega
    have ha:=mb a c.inr c.noloop h.lx P y.2 (fun v h0 i=>by
     rw[abM a.1 h0 (by have:=h.lw; omega)]
     by_cases d:v=n
     ·subst d; simp[y.1]
     ·rw[if_neg d,h.waits v h0 i]
      simp[d]) U
    obtain⟨l,o,V⟩:=ha.new;refine .inr ⟨(X,w',t.set n.toNat (gv t n+1),q'),⟨ha.lx,ha.lw,by rw[gR]; exact h.lt,ha.nodup,fun v d=>?_,ha.waits,fun v h0 i=>?_,fun v h0 i=>?_,fun u h0 i R v m C=>?_⟩,Zb G (by omega),fun H=>by rw[f,if_neg z,U]⟩
    ·dsimp only at d;rw[o] at d;rcases List.mem_append.1 d with d|d
     ·exact h.rng v (by simp[d])
     ·exact(V v d).1
    ·try dsimp only
     rw[pF a.1 h0 G];have:=h.t0 v h0 i
     split<;>omega
    ·try dsimp only
     have h2:=h.bd v h0 i;rcases ha.chg v h0 i with g|⟨_,g2,m,g3,g4,g5⟩
     ·rw[g]; exact h2
     ·have h3:=UR (L:=L) (fun l o=>(c.most l o).1) c.m0;have h4:(L.length:Int)*M<=400*4503599627370496:=fI (by have:=c.len; omega) c.m1 c.m0 (by omega);omega
    ·dsimp only at R ⊢;have E:=(c.inr _ C).2
     have heq:gv X u=gv x u:=by
      rcases ha.chg u h0 i with g|⟨g,_⟩
      ·exact g
      ·exact(R g).elim
     by_cases F:u=n
     ·subst F;have i:=ha.link v m C;omega
     ·have Q:u∉n::rest:=by
       intro W;rcases dh.1 W with e|W
       ·exact F e
       ·exact R (by rw[o]; exact dT _ W)
      have h2:=h.rel u h0 i Q v m C;have:=ha.le v E.1 E.2;omega
end
def yK (N:Nat) (v:Int):Bool:=decide (0<=v)&&decide (v<(N:Int))
def CG (s:Int) (v:Int):Bool:=v==s
def WP (N:Nat):Ņ (yK N) N=List.replicate N 0:=by
 refine TO (by simp[ë]) fun v h0 a=>?_;rw[ë] at a;rw[ū _ h0 a]
 have:yK N v=true:=by simp[yK,h0,a]
 rw[if_pos this];unfold gv;rw[List.getElem?_replicate]
 split<;>rfl
def iS (L:CK Lk) (N:Nat):CK Int:=Ą L N (Ņ (yK N) N)
def j8 (L:CK Lk) (N:Nat):Bool:=decide (Ĭ L (iS L N)=iS L N)
def kP (L:CK Lk) (N:Nat) (s:Int):CK Int:=Ą L N (Ņ (CG s) N)
section
variable {L:CK Lk} {N:Nat} {M:Int}
def agS (a:jg L N M) (c:N<=200):N*M<Ŗ:=by
 have:(N:Int)*M<=200*4503599627370496:=Int.mul_le_mul (by omega) a.m1 a.m0 (by omega);unfold Ŗ;omega
def II {p:Int->Int} (a:jg L N M) (e:N<=200) (c:Pot L p):afI L (fun v=>yK N v=true) N (gv (iS L N)) :=
 D9 c a.inr (fun v h=>by simpa[yK] using h) (fun l d=>(a.most l d).2) a.m0 (agS a e) N (by omega)
def E6 {p:Int->Int} (a:jg L N M) (f:N<=200) (d:Pot L p) {s:Int} (c:0<=s/\s<N):afI L (fun v=>CG s v=true) N (gv (kP L N s)) :=
 D9 d a.inr (fun v h=>by simp[CG] at h; subst h; exact c) (fun l e=>(a.most l e).2) a.m0 (agS a f) N (by omega)
def Xh:∀{L:CK Lk} {x:CK Int},(∀u v m,(u,v,m)∈L->gv x u<Ŗ->gv x v<=gv x u+m)->Ĭ L x=x
 |[],x,_=>rfl
 |l::t,x,h=>by
  have d:Ũ x l=x:=by
   unfold Ũ
   split
   ·rename_i c;have:=h l.1 l.2.1 l.2.2 (by simp) c.1;omega
   ·rfl
  show Ĭ t (Ũ x l)=x;rw[d];exact Xh fun u v m a=>h u v m (by simp[a])
def kQ (a:jg L N M) (i:N<=200):j8 L N=true↔∃p,Pot L p:=by
 unfold j8;rw[decide_eq_true_eq]
 have d:∀v:Int,0<=v->v<N->gv (iS L N) v<=0:=by
  intro v h0 f;have:=yZ a.inr N (ë (yK N) N) v h0;rw[ū _ h0 f,if_pos (by simp[yK,h0,f])] at this;exact this
 constructor
 ·intro h;refine⟨gv (iS L N),fun u v m c=>?_⟩;have e:=(a.inr _ c).1;have:=IU a.inr (x:=iS L N) (by unfold iS; rw[Ė,ë]) u v m c (by have:=d u e.1 e.2; unfold Ŗ; omega)
  rwa [h] at this
 ·rintro⟨p,g⟩;have hd:=II a i g;exact Xh fun u v m c j=>hd.pot a.inr c (by omega)
end
section
variable {ρ:Type} {L:CK Lk} {N:Nat} {M:Int}
def xE (a:N<=1000) (x:BY ρ):Û ((ile (0:Int) (N:Int))&&(ß (Int.toNat (N:Int)))) x=x:=by
 rw[dl,Ð (by omega)]
 have:((ile (0:Int) (N:Int))&&true)=true:=by simp[ile]
 rw[this,Am.iff_true]
def aaj (e:jg L N M) (U:1<=N) (o:N<=200) (k0:(Val (.pair .bool (.pair (.slice tI) (.pair (.slice .bool) (.pair (.slice tI) (.slice tI))))))->BY ρ) {rT rF:BY ρ}
 (R:j8 L N=true->∀w t q,k0 (true,iS L N,w,t,q)=rT) (T:∀x w t q,k0 (false,x,w,t,q)=rF) :
 (Ê (fun(d:(Val (.pair tI (.pair (.slice .bool) (.slice tI))))) f=>Š (N:Int) (List.replicate N (0:Int)) d.1 d.2.1 d.2.2 (fun y s r=>f (y,s,r)) (fun G=>Ê (fun(c:(Val (.pair (.slice tI) (.pair (.slice .bool) (.pair (.slice tI) (.slice tI)))))) g=>ĭ [] (lZ L) (N:Int) L c.1 c.2.1 c.2.2.1 c.2.2.2 (fun E D C z=>g (E,D,C,z)) k0) ((List.replicate N (0:Int)),G.1,(List.replicate N (0:Int)),G.2))) ((0:Int),(List.replicate N false),([]:CK Int)))=if j8 L N then rT else rF:=by
 refine af8 (by simp) (by omega) _ fun w q H K J i j=>?_
 try dsimp only
 have O:∀v,yK N v=true->0<=v/\v<N:=fun v h=>by simpa[yK] using h
 by_cases l:j8 L N=true
 ·rw[if_pos l];obtain⟨p,n⟩:=(kQ e o).1 l;have I:=Sb e U O H K J i (fun v a b=>by rw[WP]; exact j v a b);rw[WP] at I;refine WQ e (agS e o) n O k0 (fun x w t q P hd=>?_) I
  have:x=iS L N:=by
   refine TO (by rw[P]; unfold iS; rw[Ė,ë]) fun v a b=>?_;exact hd.uniq (II e o n) a (by omega)
  rw[this]; exact R l w t q
 ·rw[if_neg l];refine ajO e (fun n=>l ((kQ e o).2 n)) k0 T ?_
  have F:∀v,gv (List.replicate N (0:Int)) v=0:=by
   intro v;unfold gv;rw[List.getElem?_replicate]
   split<;>rfl
  refine⟨by simp,H,by simp,K,J,i,fun v a b=>?_,fun v a b=>?_,fun u a b Q v m V=>?_⟩
  ·rw[F]; omega
  ·rw[F]; omega
  ·exact(Q ((j u a b).2 (by rw[F]; unfold Ŗ; omega))).elim
end
def shift_ok {ρ:Type} {x:CK Int} (f:Int) (s:x.length<=1000) (u : -2305843009213693952<=f/\f<=2305843009213693952) (hb:∀a∈x,-2305843009213693952<=a/\a<=2305843009213693952) (k0:CK Int->BY ρ) :
 Ê (fun(d:pc) e=>jN f (Õ x) d.1 d.2 (fun j h=>e (j,h)) k0) ((0:Int),x)=k0 (x.map fun a=>a-f):=by
 refine ê x (fun i=>(x.take i).map (fun a=>a-f)++x.drop i) _ (by simp) (fun i a hi ha n=>?_) (fun n=>?_)
 ·try dsimp only
  unfold jN
  have l:((x.take i).map (fun a=>a-f)++x.drop i).length=x.length:=by simp; omega
  have c:((x.take i).map (fun a=>a-f)++x.drop i)[i]?=some a:=by
   rw[fg (by simp; omega)];simp only[dC,dm,eR];rw[<-ha]; congr 1; omega
  have g:i<((x.take i).map (fun a=>a-f)++x.drop i).length:=by omega
  have o:=hb a (df ha);rw[Ì hi,ő g,é c,Ï (by omega) (by omega),ő g,é c,È hi (by omega),dl,take_succ ha];congr 2;rw[dV hi,fc,di,f7 _ _ (by simp; omega)]
  have:i-(List.map (fun a=>a-f) (List.take i x)).length=0:=by simp; omega
  rw[this]
  have r:x[i]=a:=by rw[cX hi] at ha; simpa using ha
  simp[r]
 ·try dsimp only
  unfold jN;rw[Ó];simp
section
variable {L:CK Lk} {N:Nat} {M:Int}
def ajP (c:jg L N M) (h:N<=200) (n:j8 L N=true):∀a∈iS L N,-2305843009213693952<=a/\a<=0:=by
 obtain⟨p,e⟩:=(kQ c h).1 n;have hd:=II c h e;intro a ha;obtain⟨i,hi,rfl⟩:=dp.1 ha
 have f:(iS L N).length=N:=by unfold iS; rw[Ė,ë]
 have h0:gv (iS L N) i=(iS L N)[i]:=by unfold gv; simp[hi]
 have d:=yZ c.inr N (ë (yK N) N) (i:Int) (by omega);rw[ū _ (by omega) (by omega),if_pos (by simp[yK]; omega)] at d;have g:gv (iS L N) i<=0:=d;obtain⟨vs,j⟩:=hd.att i (by omega) (by omega) (by unfold Ŗ; omega);have u:=j.low' e;have s:=UR (L:=L) (fun l o=>(c.most l o).1) c.m0;have r:(L.length:Int)*M<=400*4503599627370496:=Int.mul_le_mul (by have:=c.len; omega) c.m1 c.m0 (by omega);omega
def solP (L:CK Lk) (N:Nat):CK Int:=(iS L N).map fun a=>a-gv (iS L N) 0
def wF (c:jg L N M) (i:1<=N) (f:N<=200):mc ((N:Int),L) []=some (if j8 L N then(solP L N,true) else([],false)):=by
 unfold mc Ap
 try dsimp only
 rw[xE (by omega),xE (by omega),xE (by omega),dl];refine dY (adc c _) ?_;refine dY (aaj c i f _ (rT:=some (solP L N,true)) (rF:=some ([],false)) (fun g w t q=>?_) (fun x w t q=>?_)) ?_
 ·try dsimp only
  have d:(iS L N).length=N:=by unfold iS; rw[Ė,ë]
  have hb:=ajP c f g;have h0:ilt (0:Int) (ç (iS L N))=true:=decide_eq_true (show(0:Int)<((iS L N).length:Int) by omega);have e:(iS L N)[0]?=some (gv (iS L N) 0):=TN (v:=0) (show 0<_ by omega);have h:=hb _ (df e);rw[show(!true)=false from rfl,ä,à h0,Δ e];exact shift_ok _ (by omega) ⟨h.1,by omega⟩ (fun a ha=>⟨(hb a ha).1,by have:=(hb a ha).2; omega⟩) _
 ·rfl
 ·cases j8 L N<;>rfl
structure jo (L:CK Lk) (N:Nat):Prop where
 n1:1<=N
 n60:N<=60
 len:L.length<=300
 inr:InR L N
 noloop:∀l∈L,l.1≠l.2.1
 most:∀l∈L,-4503599627370496<=l.2.2/\l.2.2<=4503599627370496
def jo.links (h:jo L N):jg L N 4503599627370496 :=
 ⟨h.inr,h.noloop,h.most,by have:=h.len; omega,by have:=h.n60; omega,by omega,by omega⟩
def aat (n:Int) (L:CK Lk) (v:Int):BN (n,L) v=some (decide (0<=v)&&decide (v<n)):=by
 unfold BN acU ige
 by_cases h:0<=v
 ·have:decide (v>=0)=true:=by simpa using h
  rw[Ñ this]; simp[h]
 ·have:decide (v>=0)=false:=by simpa using h
  rw[Í this]; simp[h]
def mW (h:jo L N):sc ((N:Int),L)=some (0,-1):=by
 have o:=h.n1;have h2:=h.n60;have n:=h.len;unfold sc YL
 try dsimp only
 rw[Í (by simp[ilt]; omega),Í (by simp[igt]; omega),Í (by rw[Î]; simp[igt]; omega)];refine dY (Χ L (fun _=>false) (fun i=>some (1,i)) (some (0,-1)) (fun i l hi e f=>?_) (fun f=>?_)) ?_
 ·try dsimp only
  unfold tV;have d:=List.mem_of_getElem? e;have a:=h.inr l d;have b:=h.noloop l d;have c:=h.most l d
  have j:(decide (0<=l.1)&&decide (l.1<(N:Int)))=true:=by simp[a.1.1,a.1.2]
  have g:(decide (0<=l.2.1)&&decide (l.2.1<(N:Int)))=true:=by simp[a.2.1,a.2.2]
  rw[Ì hi,Æ e,aat,À,j,aat,À,g];simp only[dR,ä,dr,if_false];rw[Í (by simp[ieq,b]),Í (by simp[ilt]; omega),Í (by simp[igt]; omega),È hi (by omega)]
 ·try dsimp only
  unfold tV;rw[Ó]
 ·rw[dU.2 (by simp)]
def xD {ρ:Type} {x:CK Int} {v:Int} (h0:0<=v) (h:v.toNat<x.length) (f:Int->BY ρ):ï x v f=f (gv x v):=by
 obtain⟨i,rfl⟩:=Int.eq_ofNat_of_zero_le h0;exact Æ (TN h) f
end
section
variable {b:ø}
def sg (b:ø) (g:æ):(Ý b g).Pairwise (·<·):=D5 _
def PU (h:Ŧ b) {g:æ} (i:g∈b.2.1):∃t,Ý b g=g.2.1::t:=by
 have c:=sg b g;have h2:=om (b:=b) g;have f:∀d∈Ý b g,g.2.1<=d:=fun d hd=>(h.day i hd).1
 cases hd:Ý b g with
 |nil=>rw[hd] at h2; cases h2
 |cons a t =>
  rw[hd] at c h2 f;rw[dJ] at c;rcases dh.1 h2 with e|e
  ·exact⟨t,by rw[e]⟩
  ·have:=c.1 _ e;have:=f a (by simp);omega
def off (b:ø) (i:Nat):Nat:=((b.2.1.take i).flatMap fun g=>(Ý b g).map fun d=>((g.1,d):Int×Int)).length
def Ee {i:Nat} {g:æ} (a:b.2.1[i]?=some g):Ò b=((b.2.1.take i).flatMap fun g=>(Ý b g).map fun d=>((g.1,d):Int×Int))++(((Ý b g).map fun d=>((g.1,d):Int×Int))++((b.2.1.drop (i+1)).flatMap fun g=>(Ý b g).map fun d=>((g.1,d):Int×Int))):=by
 obtain⟨hi,rfl⟩:=de.1 a
 have c:b.2.1=b.2.1.take i++(b.2.1[i]::b.2.1.drop (i+1)):=by
  rw[<-dV hi,eD]
 unfold Ò
 conv=>lhs; rw[c]
 rw[eP,dB]
def UO (h:Ŧ b) {i:Nat} {g:æ} (r:b.2.1[i]?=some g) {k:Nat} {d:Int} (s:(Ý b g)[k]?=some d):iZ (Ò b) g.1 d=some (off b i+k):=by
 obtain⟨hi,l⟩:=List.getElem?_eq_some_iff.1 r;obtain⟨a,c⟩:=List.getElem?_eq_some_iff.1 s;unfold iZ;rw[Ee r,List.findIdx?_append,List.findIdx?_append]
 have u:List.findIdx? (fun n:Int×Int=>decide (g.1=n.1)&&decide (d=n.2)) ((b.2.1.take i).flatMap fun g=>(Ý b g).map fun d=>((g.1,d):Int×Int))=none:=by
  rw[dU];intro x e;obtain⟨g',o,e⟩:=dD.1 e;obtain⟨v,_,rfl⟩:=dE.1 e;obtain⟨j,f,rfl⟩:=dp.1 o;rw[dm] at f;rw[fj];have:=(dM.1 h.ids) j i (by omega) hi (by omega);rw[l] at this;simp only[iq,decide_eq_false_iff_not];exact .inl (by omega)
 have h2:List.findIdx? (fun n:Int×Int=>decide (g.1=n.1)&&decide (d=n.2)) ((Ý b g).map fun d=>((g.1,d):Int×Int))=some k:=by
  rw[dN];refine⟨by simpa using a,by simp[c],fun j f=>?_⟩;have:=(dM.1 (sg b g)) j k (by omega) a f;rw[c] at this;simp only[List.getElem_map,cY,decide_eq_true_eq,not_and];intro _;omega
 rw[u,h2];simp only[Option.map_some,Option.some_or,Option.none_or];unfold off;congr 1;omega
def LY {i:Nat} {g:æ} (f:b.2.1[i]?=some g) {k:Nat} {d:Int} (a:(Ý b g)[k]?=some d):(Ò b)[off b i+k]?=some (g.1,d):=by
 obtain⟨c,e⟩:=List.getElem?_eq_some_iff.1 a;rw[Ee f,List.getElem?_append_right (by unfold off; omega),List.getElem?_append_left (by unfold off; simp; omega)];unfold off;simp[a]
def adL (h:Ŧ b) {i:Nat} {g:æ} (a:b.2.1[i]?=some g):atP (Ò b) [g.1] g.2.1=(off b i:Int)+1:=by
 obtain⟨t,c⟩:=PU h (List.mem_of_getElem? a);have:=UO h a (k:=0) (d:=g.2.1) (by rw[c]; rfl);unfold atP;simp only[this];rfl
def agK (h:Ŧ b) {i:Nat} {g:æ} (a:b.2.1[i]?=some g):off b i+(Ý b g).length<=(Ò b).length:=by
 rw[Ee a];unfold off;simp only[List.length_append,List.length_map];omega
def aj7 {i:Nat} {g:æ} (a:b.2.1[i]?=some g):off b (i+1)=off b i+(Ý b g).length:=by
 unfold off;rw[take_succ a,List.flatMap_append];simp
def XQ (h:Ŧ b) {c:Cmp} (u:c∈b.2.2.2.2.1) {x:Int} (s:(x∈c.2.2.1/\x∉c.2.2.2.1)\/(x∈c.2.2.2.1/\x∉c.2.2.1)):∃j,iZ (Ò b) x c.2.1=some j:=by
 have v:x∈c.2.2.1++c.2.2.2.1:=by rw[dg]; exact s.imp (·.1) (·.1)
 obtain⟨⟨g,z,_⟩,_⟩:=h.pile u v;obtain⟨f,a⟩:=δ z;obtain⟨i,hi,l⟩:=dp.1 f
 have hd:c.2.1∈Ý b g:=Γ.2 (.inr (.inl ⟨c,u,by
  rw[a];rcases s with⟨n,h2⟩|⟨n,h2⟩
  ·have r:c.2.2.1.contains x=true:=by simpa using n
   have o:c.2.2.2.1.contains x=false:=by simpa using h2
   rw[r,o]; simp
  ·have r:c.2.2.2.1.contains x=true:=by simpa using n
   have o:c.2.2.1.contains x=false:=by simpa using h2
   rw[r,o]; simp,rfl⟩))
 obtain⟨k,y,e⟩:=dp.1 hd;have:=UO h (g:=g) (i:=i) (by rw[cX hi,l]) (k:=k) (d:=c.2.1) (by rw[cX y,e]);rw[a] at this;exact⟨_,this⟩
inductive afA (b:ø) (p:List Int) (d:Int) (n:Int):Prop
 |none:p=[]->n=0->afA b p d n
 |one (x:Int) (j:Nat):p=[x]->iZ (Ò b) x d=some j->n=(j:Int)+1->afA b p d n
def aif (h:Ŧ b) {c:Cmp} (f:c∈b.2.2.2.2.1):afA b (á c.2.2.1 c.2.2.2.1) c.2.1 (cx b c):=by
 have d:=(h.lefts f).1
 cases a:á c.2.2.1 c.2.2.2.1 with
 |nil=>exact .none rfl (by unfold cx atP; rw[a])
 |cons x t =>
  rw[a] at d
  have:t=[]:=by cases t with|nil=>rfl|cons=>simp at d
  subst this;obtain⟨j,e⟩:=XQ h f (x:=x) (.inl (lf.1 (by rw[a]; simp)));exact .one x j rfl e (by unfold cx atP; rw[a]; simp only[e])
def abf (h:Ŧ b) {c:Cmp} (f:c∈b.2.2.2.2.1):afA b (á c.2.2.2.1 c.2.2.1) c.2.1 (cy b c):=by
 have d:=(h.lefts f).2.1
 cases a:á c.2.2.2.1 c.2.2.1 with
 |nil=>exact .none rfl (by unfold cy atP; rw[a])
 |cons x t =>
  rw[a] at d
  have:t=[]:=by cases t with|nil=>rfl|cons=>simp at d
  subst this;obtain⟨j,e⟩:=XQ h f (x:=x) (.inr (lf.1 (by rw[a]; simp)));exact .one x j rfl e (by unfold cy atP; rw[a]; simp only[e])
def afA.rng {p:CK Int} {d n:Int} (h:afA b p d n):0<=n/\n<((Ò b).length+1:Nat):=by
 rcases h with⟨_,h⟩|⟨x,j,_,a,h2⟩
 ·omega
 ·have:=(lX a).1;omega
def akM (h:Ŧ b) {c:Cmp} (d:c∈b.2.2.2.2.1):cx b c≠cy b c:=by
 have l:=(h.lefts d).2.2;rcases aif h d with⟨g,h2⟩|⟨x,j,g,h2,s⟩
 ·rcases abf h d with⟨a,f⟩|⟨y,k,a,f,o⟩
  ·rw[g,a] at l; simp at l
  ·omega
 ·rcases abf h d with⟨a,f⟩|⟨y,k,a,f,o⟩
  ·omega
  ·intro e
   have:j=k:=by omega
   subst this;have r:=(lX h2).2;have i:=(lX f).2;rw[r] at i;simp only[Option.some.injEq,Prod.mk.injEq] at i
   have m1:x∈á c.2.2.1 c.2.2.2.1:=by rw[g]; simp
   have n:y∈á c.2.2.2.1 c.2.2.1:=by rw[a]; simp
   rw[i.1] at m1;exact(lf.1 m1).2 (lf.1 n).1
def Y9 (h:Ŧ b):(Ŕ b).length=2*(Ò b).length+2*b.2.2.2.2.1.length:=by
 have i:∀l:CK æ,(∀g∈l,g∈b.2.1)->(l.flatMap (ù b)).length=2*(l.flatMap fun g=>(Ý b g).map fun d=>((g.1,d):Int×Int)).length:=by
  intro l
  induction l with
  |nil=>intro _; rfl
  |cons g t a =>
   intro e;have:=a fun g f=>e g (by simp[f]);have j:=List.length_pos_of_mem (om (b:=b) g);simp only[List.flatMap_cons,List.length_append,List.length_map,this];unfold ù;rw[List.length_append,iW _ _ (fun _=>rfl)];simp only[List.length_cons,List.length_nil];omega
 have h2:∀l:CK Cmp,(l.flatMap (ļ b)).length=2*l.length:=by
  intro l
  induction l with
  |nil=>rfl
  |cons c t a =>
   simp only[dB,dc,a,ļ,dk,dK];omega
 unfold Ŕ;rw[List.length_append,i _ fun _ h=>h,h2];rfl
def ń (h:Ŧ b) {i:Nat} {g:æ} (n:b.2.1[i]?=some g) {l:Lk}:l∈ù b g ↔
 l=(0,(off b i:Int)+1,g.2.2.1+g.2.2.2.1.2)\/l=((off b i:Int)+1,0,-(g.2.2.1+g.2.2.2.1.1)) \/
 ∃(k:Nat) (d e:Int),(Ý b g)[k]?=some d/\(Ý b g)[k+1]?=some e/\(l=((off b i:Int)+k+1,(off b i:Int)+k+2,0)\/l=((off b i:Int)+k+2,(off b i:Int)+k+1,jD b g d e)):=by
 unfold ù;rw[adL h n];simp only[List.mem_append,List.mem_cons,List.not_mem_nil,or_false,List.mem_flatMap,List.mem_range];constructor
 ·rintro((a|a)|⟨k,o,a⟩)
  ·exact .inl a
  ·exact .inr (.inl a)
  ·refine .inr (.inr ⟨k,(Ý b g)[k],(Ý b g)[k+1],cX (by omega),cX (by omega),?_⟩);rw[cX (show k<(Ý b g).length by omega),cX (show k+1<(Ý b g).length by omega)] at a;simp only[fZ] at a
   have f:(off b i:Int)+1+k=(off b i:Int)+k+1:=by omega
   have c:(off b i:Int)+k+1+1=(off b i:Int)+k+2:=by omega
   rw[f,c] at a;exact a
 ·rintro(a|a|⟨k,d,e,hd,j,a⟩)
  ·exact .inl (.inl a)
  ·exact .inl (.inr a)
  ·obtain⟨h2,rfl⟩:=de.1 hd;obtain⟨r,rfl⟩:=de.1 j;refine .inr ⟨k,by omega,?_⟩;rw[hd,j];simp only[fZ]
   have f:(off b i:Int)+1+k=(off b i:Int)+k+1:=by omega
   have c:(off b i:Int)+k+1+1=(off b i:Int)+k+2:=by omega
   rw[f,c];exact a
def qF {l:Lk}:l∈Ŕ b↔(∃(i:Nat) (g:æ),b.2.1[i]?=some g/\l∈ù b g)\/∃c∈b.2.2.2.2.1,l=(cy b c,cx b c,(wJ b c).2)\/l=(cx b c,cy b c,-(wJ b c).1):=by
 unfold Ŕ;simp only[List.mem_append,List.mem_flatMap,ļ,List.mem_cons,List.not_mem_nil,or_false];constructor
 ·rintro(⟨g,a,h⟩|h)
  ·obtain⟨i,hi,rfl⟩:=dp.1 a;exact .inl ⟨i,_,cX hi,h⟩
  ·exact .inr h
 ·rintro(⟨i,g,a,h⟩|h)
  ·exact .inl ⟨g,df a,h⟩
  ·exact .inr h
def Ŧ.sys (h:Ŧ b):jo (Ŕ b) ((Ò b).length+1):=by
 have F:=h.nodes;have G:=h.links
 have key:∀l∈Ŕ b,((0<=l.1/\l.1<((Ò b).length+1:Nat))/\(0<=l.2.1/\l.2.1<((Ò b).length+1:Nat)))/\l.1≠l.2.1/\(-4503599627370496<=l.2.2/\l.2.2<=4503599627370496):=by
  intro l f;rcases qF.1 f with⟨i,g,o,f⟩|⟨c,n,f⟩
  ·have j:=df o;have r:=h.gaugeR j;have E:=agK h o;have D:=gB (om (b:=b) g);have r1:=r.2.2.2.2.2.1;have r2:=r.2.2.2.2.2.2.1;rcases(ń h o).1 f with rfl|rfl|⟨k,d,e,hd,s,u⟩
   ·dsimp only; omega
   ·dsimp only; omega
   ·obtain⟨h2,_⟩:=de.1 s;have v:=h.day j (df hd);have C:=jQ h j (t:=e) v.2.1;rcases u with rfl|rfl
    ·dsimp only; omega
    ·dsimp only; omega
  ·have a:=(aif h n).rng;have H:=(abf h n).rng;have z:=akM h n;have y:=wI h n;rcases f with rfl|rfl
   ·dsimp only; omega
   ·dsimp only; omega
 exact⟨by omega,by omega,by rw[Y9 h]; omega,fun l f=>(key l f).1,fun l f=>(key l f).2.1,fun l f=>(key l f).2.2⟩
end
def KH (b:ø) (id day:Int):Bool:=b.2.2.1.any fun u=>u.1==id&&u.2==day
def abe (b:ø) (g:æ) (d:Int):Int:=match ś b g.1 d with|some l=>l.2.2|none=>if KH b g.1 d then g.2.2.2.2.2 else 0
def ahs (l:IE) (id:Int) {f t:Int} (n:f<=t):(if l.1=id/\0<Ğ l f (t+1) then Ğ l f (t+1)*l.2.2 else 0)=(if l.1=id/\0<Ğ l f t then Ğ l f t*l.2.2 else 0)+(if l.1=id/\l.2.1.1<=t/\t<=l.2.1.2 then l.2.2 else 0):=by
 by_cases a:l.1=id
 ·by_cases d:l.2.1.1<=t/\t<=l.2.1.2
  ·have e:Ğ l f (t+1)=Ğ l f t+1:=by unfold Ğ; omega
   have p:0<=Ğ l f t:=by unfold Ğ; omega
   rw[e,if_pos ⟨a,by omega⟩,if_pos (show l.1=id/\l.2.1.1<=t/\t<=l.2.1.2 from⟨a,d⟩),f0,gd]
   by_cases c:0<Ğ l f t
   ·rw[if_pos ⟨a,c⟩]
   ·rw[if_neg (fun h=>c h.2)]
    have:Ğ l f t=0:=by omega
    rw[this];omega
  ·rw[if_neg (show ¬(l.1=id/\l.2.1.1<=t/\t<=l.2.1.2) from fun h=>d h.2),gG]
   by_cases j:l.2.1.1<=t
   ·have e:Ğ l f (t+1)=Ğ l f t:=by unfold Ğ; omega
    rw[e]
   ·have i:¬0<Ğ l f (t+1):=by unfold Ğ; omega
    have g:¬0<Ğ l f t:=by unfold Ğ; omega
    rw[if_neg (fun h=>i h.2),if_neg (fun h=>g h.2)]
 ·rw[if_neg (fun h=>a h.1),if_neg (fun h=>a h.1),if_neg (fun h=>a h.1)];rfl
def TB (id:Int) {f t:Int} (g:f<=t):∀{x:CK IE},x.Pairwise (fun a c=>¬(a.1=c.1/\a.2.1.1<=c.2.1.2/\c.2.1.1<=a.2.1.2)) ->
 Ł id f (t+1) x=Ł id f t x+(match x.find? (fun l=>l.1==id&&inP t l.2.1.1 l.2.1.2) with|some l=>l.2.2|none=>0)
 |[],_=>rfl
 |l::r,j=>by
  rw[dJ] at j;have n:=TB id g j.2;simp only[Ł];rw[n,ahs l id g,f8]
  by_cases d:l.1=id/\l.2.1.1<=t/\t<=l.2.1.2
  ·have e:(l.1==id&&inP t l.2.1.1 l.2.1.2)=true:=by simp[inP,d.1,d.2.1,d.2.2]
   have o:r.find? (fun l=>l.1==id&&inP t l.2.1.1 l.2.1.2)=none:=by
    rw[ew];intro c s i;simp only[inP,cY,beq_iff_eq,decide_eq_true_eq] at i;exact j.1 c s ⟨by rw[d.1,i.1],by omega,by omega⟩
   rw[if_pos d,e,o];simp only;omega
  ·have e:(l.1==id&&inP t l.2.1.1 l.2.1.2)=false:=by
    rw[eG];intro h;simp only[inP,cY,beq_iff_eq,decide_eq_true_eq] at h;exact d h
   rw[if_neg d,e];simp only;omega
section
variable {b:ø}
def Ŧ.apart (h:Ŧ b):b.2.2.2.1.Pairwise (fun a c=>¬(a.1=c.1/\a.2.1.1<=c.2.1.2/\c.2.1.1<=a.2.1.2)):=by
 rw[List.pairwise_iff_getElem];intro i j hi f g ⟨n,h2,l⟩;have e:=h.loans j _ (List.getElem?_eq_getElem f);unfold LD at e
 have d:(b.2.2.2.1.take j).any (fun x=>x.1==b.2.2.2.1[j].1&&(decide (x.2.1.1<=b.2.2.2.1[j].2.1.2)&&decide (b.2.2.2.1[j].2.1.1<=x.2.1.2)))=true:=by
  rw[dA];exact⟨b.2.2.2.1[i],dp.2 ⟨i,by rw[dm]; omega,by rw[fj]⟩,by simp[n,h2,l]⟩
 rw[d] at e
 (repeat' split at e)<;>first|omega|simp_all
def Ŧ.notUsed (h:Ŧ b) {id d:Int} {l:IE} (i:ś b id d=some l):KH b id d=false:=by
 have n:=fL i;have g:=fM i;simp only[inP,cY,beq_iff_eq,decide_eq_true_eq] at g;obtain⟨j,o,rfl⟩:=dp.1 n;have e:=h.loans j _ (cX o);rw[eG];intro f;obtain⟨u,f,a⟩:=dA.1 f;simp only[cY,beq_iff_eq] at a
 have c:b.2.2.1.any (fun u=>u.1==b.2.2.2.1[j].1&&inP u.2 b.2.2.2.1[j].2.1.1 b.2.2.2.1[j].2.1.2)=true:=by
  rw[dA];exact⟨u,f,by simp only[inP,cY,beq_iff_eq,decide_eq_true_eq]; exact⟨by rw[a.1,g.1],by omega,by omega⟩⟩
 unfold LD at e;rw[c] at e
 (repeat' split at e)<;>first|omega|simp_all
def WE {id f t:Int} (j:f<=t):WX (jy b id f (t+1))=WX (jy b id f t)++if KH b id t then[t] else[]:=by
 have i:∀t x,x∈jy b id f t↔KH b id x=true/\f<=x/\x<t:=by
  intro t x;unfold jy KH;simp only[List.mem_map,List.mem_filter,List.any_eq_true,inP,Bool.and_eq_true,beq_iff_eq,decide_eq_true_eq];constructor
  ·rintro⟨u,⟨d,h2,e,o⟩,rfl⟩;exact⟨⟨u,d,h2,rfl⟩,e,by omega⟩
  ·rintro⟨⟨u,d,h2,rfl⟩,e,o⟩;exact⟨u,⟨d,h2,e,by omega⟩,rfl⟩
 refine abE (D5 _) ?_ fun x=>?_
 ·rw[gb]
  refine⟨D5 _,by split<;>simp,fun a ha c n=>?_⟩
  rw[wH,i] at ha
  split at n
  ·rw[dj] at n; omega
  ·cases n
 ·rw[wH,i,dg,wH,i]
  by_cases g:KH b id t=true
  ·rw[if_pos g,dj];constructor
   ·rintro⟨d,h2,e⟩
    by_cases l:x=t
    ·exact .inr l
    ·exact .inl ⟨d,h2,by omega⟩
   ·rintro(⟨d,h2,e⟩|rfl)
    ·exact⟨d,h2,by omega⟩
    ·exact⟨g,j,by omega⟩
  ·rw[if_neg g];constructor
   ·rintro⟨d,h2,e⟩;refine .inl ⟨d,h2,?_⟩
    by_cases l:x=t
    ·rw[l] at d; exact absurd d g
    ·omega
   ·rintro(⟨d,h2,e⟩|h)
    ·exact⟨d,h2,by omega⟩
    ·cases h
def Pk (h:Ŧ b) (g:æ) {f t:Int} (a:f<=t):jD b g f (t+1)=jD b g f t+abe b g t:=by
 unfold jD abe;rw[TB g.1 a h.apart,WE a];show Ł g.1 f t b.2.2.2.1+(match ś b g.1 t with|some l=>l.2.2|none=>0)+_=_
 cases ha:ś b g.1 t with
 |some l =>
  rw[h.notUsed ha];simp only[dr,if_false,du];omega
 |none =>
  simp only
  cases KH b g.1 t with
  |true=>simp only[if_true,dc,dH,Int.natCast_add,f0]; omega
  |false=>simp only[dr,if_false,du]; omega
def AG (g:æ) {f t:Int} (c:t<=f):jD b g f t=0:=by
 unfold jD
 have h:∀x:CK IE,Ł g.1 f t x=0:=by
  intro x
  induction x with
  |nil=>rfl
  |cons l r a =>
   simp only[Ł];rw[a,if_neg (by unfold Ğ; omega)];rfl
 have h2:jy b g.1 f t=[]:=by
  unfold jy
  rw[ii.2 fun u i d=>by
   simp only[inP,cY,beq_iff_eq,decide_eq_true_eq] at d
   omega]
  rfl
 rw[h,h2];have e:WX ([]:CK Int)=[]:=rfl;rw[e];simp
end
def ai5 {ρ:Type}:@xj ρ=@iL ρ:=rfl
def ai4 {ρ:Type}:@xi ρ=@Š ρ:=rfl
def ai3 {ρ:Type}:@xh ρ=@ĭ ρ:=rfl
def Zf {ρ:Type} {N:Nat} (a:N<=1000) (x:BY ρ):Û ((ile (0:Int) (N:Int))&&(ß N)) x=x:=by
 have:=xE a x
 rwa [dl] at this
section
variable {L:CK Lk} {N:Nat} {M:Int}
def WO {s:Int} (c:0<=s/\s<N):(List.replicate N Ŗ).set s.toNat 0=Ņ (CG s) N:=by
 refine TO (by simp[ë]) fun v h0 d=>?_
 have a:v<N:=by simpa using d
 rw[ū _ h0 a,pF c.1 h0 (by simp; omega)];unfold CG
 by_cases h:v=s
 ·simp[h]
 ·simp only[h,if_false,beq_iff_eq];unfold gv;rw[List.getElem?_replicate]
  have:v.toNat<N:=by omega
  simp[this]
def ZI (c:jg L N M) (G:1<=N) (n:N<=200) (F:j8 L N=true) {s:Int} (d:0<=s/\s<N):wm ((N:Int),L) [] s=some (kP L N s):=by
 obtain⟨p,o⟩:=(kQ c n).1 F;unfold wm Jq;rw[ai5,ai4,ai3];dsimp only;rw[xE (by omega),Int.toNat_natCast];refine ê (List.replicate N (0:Int)) (fun i=>List.replicate i Ŗ++List.replicate (N-i) 0) _ (by simp) (fun i a hi ha y=>?_) (fun y=>?_)
 ·dsimp only;unfold qf
  have l:i<N:=by simpa using hi
  have r:i<(List.replicate i Ŗ++List.replicate (N-i) (0:Int)).length:=by simp; omega
  rw[Ì hi,ő r,é (cX r),È l (by omega),dl];congr 2;rw[f7 _ _ (by simp)]
  have:N-i=(N-(i+1))+1:=by omega
  rw[this,fm,gI,fT,List.set_cons_zero,List.replicate_succ'];simp
 ·try dsimp only
  unfold qf;rw[Ó];dsimp only
  have H:List.replicate (List.replicate N (0:Int)).length Ŗ++List.replicate (N-(List.replicate N (0:Int)).length) 0=List.replicate N Ŗ:=by simp
  rw[H]
  have e:s.toNat<(List.replicate N Ŗ).length:=by simp; omega
  rw[show ç (List.replicate N Ŗ)=((N:Nat):Int) by simp[ç],ž d.1 d.2,kK e,Zf (by omega),Zf (by omega),WO d];refine dY (adc c _) ?_
  have u:∀v,CG s v=true->0<=v/\v<N:=fun v h=>by simp[CG] at h; subst h; exact d
  refine af8 (ë _ _) (by omega) _ fun w q C E D f j=>?_;have g:=Sb c G u C E D f j;refine WQ c (agS c n) o u _ (fun x w t q z hd=>?_) g
  have:x=kP L N s:=by
   refine TO (by rw[z]; unfold kP; rw[Ė,ë]) fun v a b=>?_;exact hd.uniq (E6 c n o d) a (by omega)
  dsimp only;rw[this]
def ale (h:jo L N) {c:CK Int} (g:∀n∈c,0<=n/\n<N) (j:c.length<=1000):Ia ((N:Int),L) c=some (if j8 L N then 0 else 9):=by
 have h2:=h.n60;unfold Ia YJ;rw[mW h,À];dsimp only;rw[Í (by rfl)];refine Eq.trans (Χ c (fun _=>false) (fun _=>some 1) (some (if j8 L N then 0 else 9)) (fun i n hi d f=>?_) (fun f=>?_)) ?_
 ·try dsimp only
  unfold tR;have a:=g n (List.mem_of_getElem? d)
  have e:(decide (0<=n)&&decide (n<(N:Int)))=true:=by simp[a.1,a.2]
  rw[Ì hi,Æ d,aat,À,e,È hi (by omega)];simp
 ·try dsimp only
  unfold tR;rw[Ó,wF h.links h.n1 (by omega),À]
  cases j8 L N<;>rfl
 ·rw[dU.2 (by simp)]
end
def ai6:ø:=((0,0),[],[],[],[],[])
structure ajA (b:ø) (c:Cmp):Prop where
 nums:I1 c=true
 r1:sE (Ft (ŝ b) (á c.2.2.1 c.2.2.2.1)) 1000 100
 r2:sE (Ft (ŝ b) (á c.2.2.2.1 c.2.2.1)) 1000 100
def Ŧ.cmp {b:ø} (h:Ŧ b) {c:Cmp} (a:c∈b.2.2.2.2.1):ajA b c:=⟨h.nums a,(h.rates a).1,(h.rates a).2⟩
def WV {b:ø} (i:0<=b.1.1/\b.1.1<=b.1.2/\b.1.2<=1000000) {c:Cmp} (h:ajA b c):sE (iM b c).1 2000000000 10000/\sE (iM b c).2 2000000000 10000/\(-3000000000<=RS (iM b c).1+(pH b c).1/\RS (iM b c).1+(pH b c).1<=3000000000) /\
 (-3000000000<=(iM b c).2.1 / (iM b c).2.2+(pH b c).2/\(iM b c).2.1 / (iM b c).2.2+(pH b c).2<=3000000000)/\(0<=c.2.2.2.2.2.1/\c.2.2.2.2.2.1<=1073741824):=by
 have a:=(Ŷ c).1 h.nums;have ha:=œ a.2.2.2.2.2.1;have hb:=œ a.2.2.2.2.2.2;obtain⟨g,f⟩:=UH (MD h.r1 h.r2) a.2.2.2.2.1;have j:=xJ (b:=b) (c:=c) (by omega) (by omega) (by omega) (by omega) (by omega) (by omega);have e:sE (iM b c).1 2000000000 10000:=g;have d:sE (iM b c).2 2000000000 10000:=f;have n:=BX e;have l:=xH d;exact⟨e,d,by omega,by omega,a.2.2.2.1⟩
structure In (b:ø):Prop where
 size:jp b
 num:∀g∈b.2.1,I64 g.2.2.2.2.1.1
def Wr (b:ø):Sys×CK (Int×Int)×Int:=if ŏ b≠0 then((0,[]),[],ŏ b) else((((Ò b).length:Int)+1,Ŕ b),LR b,0)
def ZR {b:ø} (h:In b):jx b=some (Wr b):=by
 unfold jx Tx Wr;rw[B8 h.size h.num,À]
 by_cases a:ŏ b=0
 ·rw[Í (by simp[ine,a]),akd ((Ο b).1 a),À,if_neg (show ¬(ŏ b≠0) from fun h=>h a)]
 ·rw[Ñ (by simp[ine,a]),if_pos a]
def Qh (b:ø) (g:Int) (a:CK Int):Int:=if ŏ b≠0 then ŏ b else if a.any (fun d=>!yH d) then 1 else if (pk (k:=tI) (v:=Ù) g (ŝ b)).isNone then 5 else 0
def ajf {b:ø} (h:In b) (g:Int) {a:CK Int} (hd:a.length<=1000):Ic b g a=some (Qh b g a):=by
 unfold Ic YY Qh;rw[B8 h.size h.num,À]
 by_cases c:ŏ b=0
 ·rw[Í (by simp[ine,c]),if_neg (show ¬(ŏ b≠0) from fun h=>h c)]
  have last:(Ä (Ň b) fun n=>Qt (k:=tI) (v:=Ù) g n (fun l=>some (0:Int)) (some (5:Int)))=some (if (pk (k:=tI) (v:=Ù) g (ŝ b)).isNone then 5 else 0):=by
   rw[IL h.size.gauges,À];unfold Qt
   cases pk (k:=tI) (v:=Ù) g (ŝ b)<;>rfl
  refine dY (Ē a (fun d=>!yH d) (fun f=>ifb (ige f (0:Int)) (some (1:Int)) (Ä (Ň b) fun o=>Qt (k:=tI) (v:=Ù) g o (fun s=>some (0:Int)) (some (5:Int)))) (some 1) (some (if (pk (k:=tI) (v:=Ù) g (ŝ b)).isNone then 5 else 0)) (fun j=>?_) (fun i d hi e r=>?_) (fun r=>?_)) ?_
  ·rw[Ñ (by simp[ige])]
  ·try dsimp only
   unfold t8;rw[Ì hi,Æ e,L6,À,È hi (by omega),õ]
  ·try dsimp only
   unfold t8;rw[Ó,last]
  ·cases a.any (fun d=>!yH d)<;>rfl
 ·rw[Ñ (by simp[ine,c]),if_pos c]
section
variable {b:ø}
def agL:off b b.2.1.length=(Ò b).length:=by unfold off Ò; rw[List.take_length]
def acA:∀n,n<=b.2.1.length->∀j,j<off b n->∃(i:Nat) (g:æ) (k:Nat),b.2.1[i]?=some g/\k<(Ý b g).length/\j=off b i+k:=by
 intro n
 induction n with
 |zero=>intro _ j a; simp[off] at a
 |succ n d =>
  intro e j a;have c:b.2.1[n]?=some b.2.1[n]:=cX (by omega);rw[aj7 c] at a
  by_cases h:j<off b n
  ·exact d (by omega) j h
  ·exact⟨n,_,j-off b n,c,by omega,by omega⟩
def SJ {v:Int} (h0:1<=v) (d:v<((Ò b).length+1:Nat)):∃(i:Nat) (g:æ) (k:Nat),b.2.1[i]?=some g/\k<(Ý b g).length/\v=(off b i:Int)+k+1:=by
 obtain⟨i,g,k,h2,a,c⟩:=acA (b:=b) b.2.1.length (cZ _) (v-1).toNat (by rw[agL]; omega);exact⟨i,g,k,h2,a,by omega⟩
def GL (b:ø) (L:CK Lk):Prop:=∀(i:Nat) (g:æ),b.2.1[i]?=some g->∀l∈ù b g,l∈L
def adg:GL b (Ŕ b):=fun i g c l a=>qF.2 (.inl ⟨i,g,c,a⟩)
def amc {L:CK Lk} (h:Ŧ b) (n:GL b L) {v:Int} (h0:0<=v) (s:v<((Ò b).length+1:Nat)):∃vs d,Wl L (fun u=>u=0) vs v d/\d<=4503599627370496:=by
 by_cases r:v=0
 ·exact⟨[],0,.nil r,by omega⟩
 obtain⟨i,g,k,f,j,rfl⟩:=SJ (by omega) s;have l:=h.gaugeR (df f);have r1:=l.2.2.2.2.2.1;have r2:=l.2.2.2.2.2.2.1
 have key:∀k:Nat,k<(Ý b g).length->∃vs,Wl L (fun u=>u=0) vs ((off b i:Int)+k+1) (g.2.2.1+g.2.2.2.1.2):=by
  intro k
  induction k with
  |zero =>
   intro _;have a:Wl L (fun u=>u=0) [0] ((off b i:Int)+1) (0+(g.2.2.1+g.2.2.2.1.2)):=Wl.step (.nil rfl) (n i g f _ ((ń h f).2 (.inl rfl)));rw[Int.zero_add] at a;exact⟨[0],by simpa using a⟩
  |succ k o =>
   intro j;obtain⟨vs,a⟩:=o (by omega);have c:=Wl.step a (n i g f _ ((ń h f).2 (.inr (.inr ⟨k,_,_,cX (show k<_ by omega),cX j,.inl rfl⟩))));rw[gG] at c
   have e:(off b i:Int)+((k+1:Nat):Int)+1=(off b i:Int)+k+2:=by push_cast; omega
   exact⟨_,by rw[e]; exact c⟩
 obtain⟨vs,a⟩:=key k j;exact⟨vs,_,a,by omega⟩
def afZ {L:CK Lk} (h:Ŧ b) (o:GL b L) {v:Int} (h0:0<=v) (C:v<((Ò b).length+1:Nat)):∃vs d,Wl L (fun u=>u=v) vs 0 d/\d<=4503599627370496:=by
 by_cases s:v=0
 ·exact⟨[],0,.nil s.symm,by omega⟩
 obtain⟨i,g,k,j,F,rfl⟩:=SJ (by omega) C;have a:=df j;have n:=h.gaugeR a;have r1:=n.2.2.2.2.2.1;have r2:=n.2.2.2.2.2.2.1;have hd:=If h a
 have key:∀m:Nat,m<=k->∃vs d,Wl L (fun u=>u=(off b i:Int)+k+1) vs ((off b i:Int)+(k-m:Nat)+1) d/\d<=m*(12*(20001*1048576)+40*1048576):=by
  intro m
  induction m with
  |zero=>intro _; exact⟨[],0,.nil (by simp),by simp⟩
  |succ m r =>
   intro E;obtain⟨vs,d,c,hd⟩:=r (by omega)
   have G:((k-m:Nat):Int)=((k-(m+1):Nat):Int)+1:=by omega
   have y:(((off b i:Int)+(k-(m+1):Nat)+2,(off b i:Int)+(k-(m+1):Nat)+1,jD b g ((Ý b g)[k-(m+1)]'(by omega)) ((Ý b g)[k-(m+1)+1]'(by omega))):Lk)∈L :=
    o i g j _ ((ń h j).2 (.inr (.inr ⟨k-(m+1),_,_,cX (by omega),cX (by omega),.inr rfl⟩)))
   have hb:=jQ h a (f:=(Ý b g)[k-(m+1)]'(by omega)) (t:=(Ý b g)[k-(m+1)+1]'(by omega)) (h.day a (fq _)).2.1
   have D:(off b i:Int)+(k-m:Nat)+1=(off b i:Int)+(k-(m+1):Nat)+2:=by omega
   rw[D] at c;exact⟨_,_,.step c y,by push_cast; omega⟩
 obtain⟨vs,d,c,z⟩:=key k (cZ _)
 have e:(off b i:Int)+(k-k:Nat)+1=(off b i:Int)+1:=by omega
 rw[e] at c;have l:=Wl.step c (o i g j _ ((ń h j).2 (.inr (.inl rfl))));exact⟨_,_,l,by omega⟩
end
structure abH (L:CK Lk) (N:Nat):Prop where
 to:∀v:Int,0<=v->v<N->∃vs d,Wl L (fun u=>u=0) vs v d/\d<=4503599627370496
 from':∀v:Int,0<=v->v<N->∃vs d,Wl L (fun u=>u=v) vs 0 d/\d<=4503599627370496
def Ŧ.tied {b:ø} (h:Ŧ b):abH (Ŕ b) ((Ò b).length+1):=⟨fun v h0 a=>amc h adg h0 a,fun v h0 a=>afZ h adg h0 a⟩
section
variable {L:CK Lk} {N:Nat}
def alK {L:CK Lk} {s:Int} {vs:CK Int} {v d:Int}:Wl L (fun v=>CG s v=true) vs v d↔Wl L (fun u=>u=s) vs v d :=
 ⟨fun h=>h.mono fun u a=>by simpa[CG] using a,fun h=>h.mono fun u a=>by simpa[CG] using a⟩
def ya (s:Int):(kP L N s).length=N:=by unfold kP; rw[Ė,ë]
end
def afq {b:ø}:∀i,i<=b.2.2.2.2.1.length->((b.2.2.2.2.1.take i).flatMap (ļ b)).length=2*i/\(((b.2.2.2.2.1.take i).mapIdx fun i _=>[((3:Int),(i:Int)),((3:Int),(i:Int))]).flatten).length=2*i:=by
 intro i
 induction i with
 |zero=>intro _; simp
 |succ i a =>
  intro hi;have a:=a (by omega);have c:b.2.2.2.2.1[i]?=some b.2.2.2.2.1[i]:=cX hi;rw[jE _ c,take_succ c,eP,gM,dc,dc];simp only[dB,gh,du,ig,ip,ļ,dk,dK];omega
end Go.Proofs.ZzM
end
