/- lemmas -/
import Derived.Test.YtenljaeklhlanaaGreatMdPA
import Derived.Test.YtenljaeklhlanaaGreatMdTA
set_option linter.all false
noncomputable section
namespace Go.Proofs.ZzM
open Go Go.Am
abbrev Lk:Type:=Int×Int×Int
inductive Wl (L:List Lk) (S:Int->Prop):List Int->Int->Int->Prop
 |nil {v:Int}:S v->Wl L S [] v 0
 |step {vs:List Int} {u v m d:Int}:Wl L S vs u d->(u,v,m)∈L->Wl L S (u::vs) v (d+m)
def Pot (L:CK Lk) (p:Int->Int):Prop:=∀u v m,(u,v,m)∈L->p v<=p u+m
def InR (L:CK Lk) (N:Nat):Prop:=∀l∈L,(0<=l.1/\l.1<N)/\(0<=l.2.1/\l.2.1<N)
section
variable {L:CK Lk} {S:Int->Prop} {N:Nat} {p:Int->Int}
def Wl.cut (g:Pot L p) {vs:CK Int} {v d:Int} (h:Wl L S vs v d):∀x∈vs,∃a e,Wl L S a x e/\(x::a) <:+ vs/\e+(p v-p x)<=d:=by
 induction h with
 |nil h=>intro x c; cases c
 | @step vs u v m d f i ih =>
  intro x c;have n:=g u v m i;rcases df.1 c with rfl|c
  ·exact⟨vs,d,f,List.suffix_refl _,by omega⟩
  ·obtain⟨a,e,l,j,o⟩:=ih x c;exact⟨a,e,l,j.trans (List.suffix_cons _ _),by omega⟩
def Wl.simple (n:Pot L p) {vs:CK Int} {v d:Int} (h:Wl L S vs v d):∃c j,Wl L S c v j/\j<=d/\(v::c).Nodup:=by
 induction h with
 |nil h=>exact⟨[],0,.nil h,dQ _,by simp⟩
 | @step vs u v m d C o ih =>
  obtain⟨a,y,r,D,i⟩:=ih;have e:=Wl.step r o
  by_cases g:v∈u::a
  ·obtain⟨f,s,k1,l,z⟩:=e.cut n v g;exact⟨f,s,k1,by omega,i.sublist l.sublist⟩
  ·exact⟨u::a,y+m,e,by omega,fq.2 ⟨g,i⟩⟩
def Wl.range (g:InR L N) (f:∀v,S v->0<=v/\v<N) {vs:CK Int} {v d:Int} (h:Wl L S vs v d):(0<=v/\v<N)/\∀u∈vs,0<=u/\u<N:=by
 induction h with
 |nil h=>exact⟨f _ h,fun u c=>by cases c⟩
 | @step vs u v m d i e ih =>
  refine⟨(g _ e).2,fun w a=>?_⟩;rcases df.1 a with rfl|h
  ·exact ih.1
  ·exact ih.2 w h
def ada:∀(N:Nat) (l:CK Int),l.Nodup->(∀x∈l,0<=x/\x<N)->l.length<=N
 |0,l,_,h=>by
  cases l with
  |nil=>simp
  |cons a l=>have:=h a (by simp); omega
 |N+1,l,c,h=>by
  have e:(l.erase (N:Int)).length<=N:=ada N _ (c.erase _) fun x d=>by
   have h2:=(c.mem_erase_iff).1 d;have:=h x h2.2;have:=h2.1;omega
  have:=List.length_erase (a:=(N:Int)) (l:=l)
  split at this<;>omega
def Wl.short (f:InR L N) (e:∀v,S v->0<=v/\v<N) {vs:CK Int} {v d:Int} (h:Wl L S vs v d) (c:(v::vs).Nodup):vs.length+1<=N:=by
 have:=h.range f e
 exact ada N (v::vs) c fun x a=>by
  rcases df.1 a with rfl|a
  ·exact this.1
  ·exact this.2 x a
def CQ (f:Lk->Bool):CK Lk->Int
 |[]=>0
 |l::t=>(if f l then min l.2.2 0 else 0)+CQ f t
def ah1 (f:Lk->Bool):∀L:CK Lk,CQ (fun _=>true) L<=CQ f L
 |[]=>dQ _
 |l::t=>by
  have:=ah1 f t;simp only[CQ,if_true]
  split<;>omega
def nY (f:Lk->Bool):∀L:CK Lk,CQ f L<=0
 |[]=>dQ _
 |l::t=>by
  have:=nY f t;simp only[CQ]
  split<;>omega
def ady {f:Lk->Bool} {l:Lk} (c:f l=true):∀{L:CK Lk},l∈L->CQ f L<=l.2.2
 |a::t,h=>by
  simp only[CQ];rcases df.1 h with rfl|h
  ·have:=nY f t;rw[if_pos c]; omega
  ·have:=ady c h
   split<;>omega
def ah0 {f g:Lk->Bool} (h:∀l,f l=true->g l=false):∀L:CK Lk,CQ (fun l=>f l||g l) L=CQ f L+CQ g L
 |[]=>rfl
 |l::t=>by
  have e:=ah0 h t;simp only[CQ,e]
  by_cases c:f l=true
  ·simp[c,h l c]; omega
  ·have a:f l=false:=by simpa using c
   by_cases d:g l=true
   ·simp[a,d]; omega
   ·simp[a,d]
def Wl.low {vs:CK Int} {v d:Int} (h:Wl L S vs v d):vs.Nodup->CQ (fun l=>vs.contains l.1) L<=d:=by
 induction h with
 |nil h=>intro _; exact nY _ _
 | @step vs u v m d n e ih =>
  intro a;rw[fq] at a;have o:=ih a.2;have h2:CQ (fun l=>l.1==u) L<=m:=ady (f:=fun l=>l.1==u) (l:=(u,v,m)) (by simp) e
  have j:=ah0 (f:=fun l:Lk=>l.1==u) (g:=fun l=>vs.contains l.1) (fun l c=>by
   simp only[beq_iff_eq] at c;rw[c]
   simpa using a.1) L
  have i:(fun l:Lk=>(u::vs).contains l.1)=fun l=>(l.1==u)||vs.contains l.1:=by funext l; rw[List.contains_cons]
  rw[i,j];omega
def mB (L:CK Lk):Int:=CQ (fun _=>true) L
def Wl.low' (c:Pot L p) {vs:CK Int} {v d:Int} (h:Wl L S vs v d):mB L<=d:=by
 obtain⟨a,g,f,h2,e⟩:=h.simple c;have:=f.low (List.nodup_cons.1 e).2;have:=ah1 (fun l=>a.contains l.1) L;unfold mB;omega
def Wl.high {M:Int} (c:∀l∈L,l.2.2<=M) {vs:CK Int} {v d:Int} (h:Wl L S vs v d):d<=vs.length*M:=by
 induction h with
 |nil h=>simp
 | @step vs u v m d e a ih =>
  have:=c _ a;simp only[di,fX,fZ,gd];simp only at this;omega
def Wl.lowM {M:Int} (c:∀l∈L,-M<=l.2.2) {vs:CK Int} {v d:Int} (h:Wl L S vs v d) : -(vs.length*M)<=d:=by
 induction h with
 |nil h=>simp
 | @step vs u v m d e a ih =>
  have:=c _ a;simp only[di,fX,fZ,gd];simp only at this;omega
def Wl.mono {a:Int->Prop} (f:∀v,S v->a v) {vs:CK Int} {v d:Int} (h:Wl L S vs v d):Wl L a vs v d:=by
 induction h with
 |nil h=>exact .nil (f _ h)
 |step g e c=>exact .step c e
def Wl.pot (a:Pot L p) {vs:CK Int} {v d:Int} (h:Wl L S vs v d):∃s,S s/\p v-p s<=d:=by
 induction h with
 | @nil v h=>exact⟨v,h,by omega⟩
 | @step vs u v m d f c ih =>
  obtain⟨s,e,h2⟩:=ih;have:=a u v m c;exact⟨s,e,by omega⟩
end
abbrev Ś:Int:=1152921504606846976
structure agP (L:CK Lk) (S:Int->Prop) (N:Nat) (x:Int->Int):Prop where
 att:∀v:Int,0<=v->v<N->x v≠Ś->∃vs,Wl L S vs v (x v)
 low:∀v vs d,Wl L S vs v d->x v<=d
 bd:∀v:Int,0<=v->v<N->x v<=Ś
def agP.uniq {L:CK Lk} {S:Int->Prop} {N:Nat} {x y:Int->Int} (a:agP L S N x) (c:agP L S N y) {v:Int} (h0:0<=v) (d:v<N):x v=y v:=by
 have key:∀{x y:Int->Int},agP L S N x->agP L S N y->x v<=y v:=by
  intro x y a c
  by_cases h:y v=Ś
  ·rw[h]; exact a.bd v h0 d
  ·obtain⟨vs,e⟩:=c.att v h0 d h;exact a.low v vs _ e
 exact iA (key a c) (key c a)
def gv (x:CK Int) (v:Int):Int:=x[v.toNat]?.getD 0
def aac {x:CK Int} {v:Int} (h:v.toNat<x.length):x[v.toNat]?=some (gv x v):=by
 unfold gv; rw[List.getElem?_eq_getElem h]; rfl
def qj {x:CK Int} {u v:Int} (d:0<=u) (c:0<=v) (h:u.toNat<x.length) (y:Int):gv (x.set u.toNat y) v=if v=u then y else gv x v:=by
 unfold gv;rw[List.getElem?_set]
 by_cases a:v=u
 ·subst a; simp[h]
 ·have:¬u.toNat=v.toNat:=by omega
  simp[a,this]
def aad {x y:CK Int} (a:x.length=y.length) (h:∀v:Int,0<=v->v<x.length->gv x v=gv y v):x=y:=by
 refine List.ext_getElem a fun i c h2=>?_;have:=h i (by omega) (by omega);unfold gv at this;simpa[c,h2] using this
def iF (x:CK Int) (l:Lk):CK Int:=if gv x l.1<Ś/\gv x l.1+l.2.2<gv x l.2.1 then x.set l.2.1.toNat (gv x l.1+l.2.2) else x
def i5 (L:CK Lk) (x:CK Int):CK Int:=L.foldl iF x
def Ķ (L:CK Lk):Nat->CK Int->CK Int
 |0,x=>x
 |n+1,x=>Ķ L n (i5 L x)
def mG (x:CK Int) (l:Lk):(iF x l).length=x.length:=by unfold iF; split<;>simp
def tj (L:CK Lk):∀x:CK Int,(i5 L x).length=x.length:=by
 induction L with
 |nil=>intro x; rfl
 |cons l t a=>intro x; show(i5 t (iF x l)).length=_; rw[a,mG]
def Ń (L:CK Lk):∀(n:Nat) (x:CK Int),(Ķ L n x).length=x.length
 |0,x=>rfl
 |n+1,x=>by rw[Ķ,Ń L n,tj]
def jf (L:CK Lk):∀(n:Nat) (x:CK Int),Ķ L (n+1) x=i5 L (Ķ L n x)
 |0,x=>rfl
 |n+1,x=>by rw[Ķ,jf L n]; rfl
section
variable {L0:CK Lk} {S:Int->Prop} {N:Nat}
def Ya {x:CK Int} {l:Lk} (c:(0<=l.1/\l.1<N)/\(0<=l.2.1/\l.2.1<N)) (d:x.length=N) (v:Int) (a:0<=v):gv (iF x l) v<=gv x v:=by
 unfold iF
 split
 ·rename_i h;rw[qj c.2.1 a (by omega)]
  split
  ·rename_i h2; subst h2; omega
  ·exact dQ _
 ·exact dQ _
def xy:∀{L:CK Lk},InR L N->∀{x:CK Int},x.length=N->∀v,0<=v->gv (i5 L x) v<=gv x v
 |[],_,x,_,v,_=>dQ _
 |l::t,d,x,a,v,c=>by
  have f:=Ya (d l (by simp)) a v c;have h2:=xy (L:=t) (fun l e=>d l (by simp[e])) (x:=iF x l) (by rw[mG,a]) v c;show gv (i5 t (iF x l)) v<=_;omega
def Jm:∀{L:CK Lk},InR L N->∀{x:CK Int},x.length=N->∀u v m,(u,v,m)∈L->gv x u<Ś->gv (i5 L x) v<=gv x u+m
 |l::t,e,x,f,u,v,m,d,i=>by
  have g:InR t N:=fun l a=>e l (by simp[a])
  have c:(iF x l).length=N:=by rw[mG,f]
  show gv (i5 t (iF x l)) v<=_;rcases df.1 d with rfl|d
  ·have a:=e (u,v,m) (by simp);have h2:=xy g c v a.2.1
   have j:gv (iF x (u,v,m)) v<=gv x u+m:=by
    unfold iF
    split
    ·rw[qj a.2.1 a.2.1 (by simp only at a; simp only; omega),if_pos rfl]; exact dQ _
    ·rename_i h; simp only[not_and,Int.not_lt] at h; exact h i
   omega
  ·have a:=e (u,v,m) (by simp[d]);have n:=Ya (e l (by simp)) f u a.1.1;have:=Jm g c u v m d (by omega);omega
def Att (L0:CK Lk) (S:Int->Prop) (N:Nat) (x:CK Int):Prop:=∀v:Int,0<=v->v<N->gv x v<Ś->∃vs,Wl L0 S vs v (gv x v)
def afe {x:CK Int} {l:Lk} (a:(0<=l.1/\l.1<N)/\(0<=l.2.1/\l.2.1<N)) (e:l∈L0) (i:x.length=N) (h:Att L0 S N x):Att L0 S N (iF x l):=by
 unfold iF
 split
 ·rename_i f;intro v h0 g c;rw[qj a.2.1 h0 (by omega)] at c ⊢
  split
  ·rename_i h2;obtain⟨vs,d⟩:=h l.1 a.1.1 a.1.2 f.1;exact⟨_,h2▸Wl.step d e⟩
  ·rename_i h2;rw[if_neg h2] at c;exact h v h0 g c
 ·exact h
def Yj:∀{L:CK Lk},InR L N->(∀l∈L,l∈L0)->∀{x:CK Int},x.length=N->Att L0 S N x->Att L0 S N (i5 L x)
 |[],_,_,_,_,h=>h
 |l::t,d,hsub,x,c,h=>Yj (L:=t) (fun l a=>d l (by simp[a])) (fun l a=>hsub l (by simp[a])) (x:=iF x l) (by rw[mG,c]) (afe (d l (by simp)) (hsub l (by simp)) c h)
def Tk (c:InR L0 N):∀(n:Nat) {x:CK Int},x.length=N->Att L0 S N x->Att L0 S N (Ķ L0 n x)
 |0,_,_,h=>h
 |n+1,x,a,h=>Tk c n (by rw[tj,a]) (Yj c (fun _ h=>h) a h)
def F6 (d:InR L0 N):∀(n:Nat) {x:CK Int},x.length=N->∀v,0<=v->gv (Ķ L0 n x) v<=gv x v
 |0,_,_,_,_=>dQ _
 |n+1,x,a,v,c=>Int.le_trans (F6 d n (by rw[tj,a]) v c) (xy d a v c)
def iZ (S:Int->Bool) (N:Nat):CK Int:=(List.range N).map fun(i:Nat)=>if S i then 0 else Ś
def Μ (S:Int->Bool) {N:Nat} {v:Int} (h0:0<=v) (a:v<N):gv (iZ S N) v=if S v then 0 else Ś:=by
 unfold gv iZ
 have:v.toNat<N:=by omega
 rw[eP,gu this];simp only[dZ,fc];rw[Int.toNat_of_nonneg h0]
def ý (S:Int->Bool) (N:Nat):(iZ S N).length=N:=by simp[iZ]
end
def Jl {L:CK Lk} {S:Int->Bool} {N:Nat} {M:Int} (j:InR L N) (i:∀v,S v=true->0<=v/\v<N) (r:∀l∈L,l.2.2<=M):∀(n:Nat),n*M<Ś->0<=M->∀vs v d,Wl L (fun v=>S v=true) vs v d->vs.length<=n->gv (Ķ L n (iZ S N)) v<=d
 |0,_,_,vs,v,d,e,g=>by
  cases e with
  |nil h =>
   have:=i v h;rw[Ķ,Μ S this.1 this.2,if_pos h]; exact dQ _
  |step=>simp at g
 |n+1,s,c,vs,v,d,e,g=>by
  have f:n*M<Ś:=by rw[fX,fZ,gd] at s; omega
  have a:(Ķ L n (iZ S N)).length=N:=by rw[Ń,ý]
  rw[jf]
  cases e with
  |nil h =>
   have C:=xy j a v (i v h).1;have h2:=Jl j i r n f c [] v 0 (.nil h) (by simp);omega
  | @step vs u _ m d e o =>
   have h2:=Jl j i r n f c vs u d e (by simpa using g);have z:=e.high r;have y:(vs.length:Int)*M<=n*M:=fN (by simp at g; omega) c;have:=Jm j a u v m o (by omega);omega
def Nz {L:CK Lk} {S:Int->Bool} {N:Nat} {M:Int} {p:Int->Int} (C:Pot L p) (c:InR L N) (o:∀v,S v=true->0<=v/\v<N) (G:∀l∈L,l.2.2<=M) (r:0<=M) (F:N*M<Ś) (n:Nat) (u:N<=n+1):agP L (fun v=>S v=true) N (gv (Ķ L n (iZ S N))):=by
 have g:Att L (fun v=>S v=true) N (iZ S N):=fun v h0 a y=>by
  rw[Μ S h0 a] at y ⊢
  split
  ·rename_i h; exact⟨[],.nil h⟩
  ·rename_i h; rw[if_neg h] at y; omega
 have f:∀v:Int,0<=v->v<N->gv (Ķ L n (iZ S N)) v<=Ś:=fun v h0 a=>by
  have:=F6 c n (ý S N) v h0;rw[Μ S h0 a] at this
  have O:(0:Int)<=Ś:=by decide
  split at this<;>omega
 have e:∀(n:Nat),N<=n+1->∀v vs d,Wl L (fun v=>S v=true) vs v d->gv (Ķ L n (iZ S N)) v<=d:=by
  intro n u v vs d z;obtain⟨i,J,a,h2,I⟩:=z.simple C;have Q:=a.short c o I
  have s:0<N:=by omega
  obtain⟨k,rfl⟩:∃k,N=k+1:=⟨N-1,by omega⟩
  have E:(k:Int)*M<Ś:=by rw[fX,fZ,gd] at F; omega
  have P:=Jl c o G k E r i v J a (by omega);obtain⟨j,rfl⟩:∃j,n=k+j:=⟨n-k,by omega⟩
  have H:∀(j:Nat),gv (Ķ L (k+j) (iZ S (k+1))) v<=gv (Ķ L k (iZ S (k+1))) v:=by
   intro j
   induction j with
   |zero=>exact dQ _
   |succ j K =>
    rw[<-Nat.add_assoc,jf];have:=xy c (x:=Ķ L (k+j) (iZ S (k+1))) (by rw[Ń,ý]) v (a.range c o).1.1;omega
  have:=H j;omega
 exact⟨fun v h0 a D=>Tk c n (ý S N) g v h0 a (by have:=f v h0 a; omega),e n u,f⟩
def agP.pot {L:CK Lk} {S:Int->Prop} {N:Nat} {x:Int->Int} (h:agP L S N x) (c:InR L N) {u v m:Int} (a:(u,v,m)∈L) (e:x u≠Ś):x v<=x u+m:=by
 obtain⟨vs,d⟩:=h.att u (c _ a).1.1 (c _ a).1.2 e;exact h.low v _ _ (.step d a)
section
variable {α:Type} (key:α->Int)
def Srt (l:CK α):Prop:=l.Pairwise fun x y=>key x<=key y
def Stb (l s:CK α):Prop:=∀k:Int,s.filter (fun x=>key x==k)=l.filter (fun x=>key x==k)
variable {key}
def Stb.refl (l:CK α):Stb key l l:=fun _=>rfl
def Stb.symm {l s:CK α} (h:Stb key l s):Stb key s l:=fun k=>(h k).symm
def Stb.trans {l s t:CK α} (h:Stb key l s) (h2:Stb key s t):Stb key l t:=fun k=>(h2 k).trans (h k)
def Stb.append {l s c a:CK α} (h:Stb key l s) (h2:Stb key c a):Stb key (l++c) (s++a):=fun k=>by
 rw[eZ,eZ,h k,h2 k]
def Stb.mem {l s:CK α} (h:Stb key l s) {x:α}:x∈s↔x∈l:=by
 have:=h (key x);constructor
 ·intro a;have:x∈s.filter fun y=>key y==key x:=dW.2 ⟨a,by simp⟩;rw[h] at this;exact(dW.1 this).1
 ·intro a;have:x∈l.filter fun y=>key y==key x:=dW.2 ⟨a,by simp⟩;rw[<-h] at this;exact(dW.1 this).1
def Stb.swap {u v:CK α} (h:∀x∈u,∀y∈v,key x≠key y):Stb key (u++v) (v++u):=fun k=>by
 rw[eZ,eZ]
 by_cases c:∃x∈u,key x=k
 ·obtain⟨x,d,rfl⟩:=c
  have:v.filter (fun y=>key y==key x)=[]:=ij.2 fun y a=>by
   have:=h x d y a;simp; omega
  rw[this]; simp
 ·have:u.filter (fun y=>key y==k)=[]:=ij.2 fun y a=>by
   simp;exact fun e=>c ⟨y,a,e⟩
  rw[this]; simp
def Stb.uniq:∀{s t:CK α},Srt key s->Srt key t->Stb key s t->s=t
 |[],[],_,_,_=>rfl
 |[],y::t,_,_,h=>absurd ((h.mem (x:=y)).1 (by simp)) (by simp)
 |x::s,[],_,_,h=>absurd ((h.mem (x:=x)).2 (by simp)) (by simp)
 |x::s,y::t,l,j,h=>by
  have g:=dG.1 l;have h2:=dG.1 j
  have a:key x=key y:=by
   have o:key x<=key y:=by
    rcases df.1 ((h.mem (x:=y)).1 (by simp)) with e|c
    ·rw[e]; exact dQ _
    ·exact g.1 y c
   have n:key y<=key x:=by
    rcases df.1 ((h.mem (x:=x)).2 (by simp)) with e|c
    ·rw[e]; exact dQ _
    ·exact h2.1 x c
   omega
  have i:x=y:=by
   have:=h (key x);have d:(key y==key x)=true:=beq_iff_eq.2 a.symm;have f:(key x==key x)=true:=beq_iff_eq.2 rfl;simp only[eM,d,f,if_true] at this;exact(List.cons.inj this).1.symm
  subst i;congr 1;refine Stb.uniq g.2 h2.2 fun k=>?_;have:=h k
  by_cases a:key x=k
  ·rw[gz (by simp[a]),gz (by simp[a])] at this;exact(List.cons.inj this).2
  ·rw[fS (by simp[a]),fS (by simp[a])] at this;exact this
variable (key)
def WM (x:α):CK α->CK α
 |[]=>[x]
 |y::l=>if key x<=key y then x::y::l else y::WM x l
def Ĺ (l:CK α):CK α:=l.foldr (WM key) []
variable {key}
def WL (x:α):∀l:CK α,Stb key (x::l) (WM key x l)
 |[]=>Stb.refl _
 |y::l=>by
  unfold WM
  split
  ·exact Stb.refl _
  ·rename_i h;refine Stb.trans (s:=y::x::l) ?_ fun k=>?_
   ·have:=Stb.swap (key:=key) (u:=[x]) (v:=[y]) (fun a ha b hb=>by simp at ha hb; subst ha hb; omega);exact(this.append (Stb.refl l))
   ·have:=WL x l k;simp only[eM];rw[this];simp only[eM]
def alv {x z:α} {l:CK α}:z∈WM key x l↔z=x\/z∈l:=by
 rw[(WL x l).mem,df]
def aeb (x:α):∀{l:CK α},Srt key l->Srt key (WM key x l)
 |[],_=>List.pairwise_singleton _ _
 |y::l,h=>by
  have d:=List.pairwise_cons.1 h;unfold WM
  split
  ·rename_i c;refine List.Pairwise.cons (fun z a=>?_) h;rcases df.1 a with rfl|a
   ·exact c
   ·exact Int.le_trans c (d.1 z a)
  ·rename_i c;refine List.Pairwise.cons (fun z a=>?_) (aeb x d.2);rcases alv.1 a with rfl|a
   ·omega
   ·exact d.1 z a
def lN:∀l:CK α,Srt key (Ĺ key l)
 |[]=>List.Pairwise.nil
 |x::l=>aeb x (lN l)
def Ő:∀l:CK α,Stb key l (Ĺ key l)
 |[]=>Stb.refl _
 |x::l=>by
  have:Stb key (x::l) (x::Ĺ key l):=(Stb.refl [x]).append (Ő l);exact this.trans (WL x _)
def yo {l s:CK α} (h:Srt key s) (h2:Stb key l s):Ĺ key l=s:=Stb.uniq (lN l) h ((Ő l).symm.trans h2)
def Stb.perm {l s:CK α} [DecidableEq α] (h:Stb key l s):s.Perm l:=by
 rw[List.perm_iff_count];intro x
 have e:∀l:CK α,l.count x=(l.filter fun y=>key y==key x).count x:=fun l=>by
  rw[List.count_filter];simp
 rw[e s,e l,h]
def Stb.length {l s:CK α} (h:Stb key l s):s.length=l.length:=by
 classical
 exact h.perm.length_eq
def Srt.append {l s:CK α} (h:Srt key l) (h2:Srt key s) (a:∀x∈l,∀y∈s,key x<=key y):Srt key (l++s):=gJ.2 ⟨h,h2,a⟩
def Srt.parts {l s:CK α} (h:Srt key (l++s)):Srt key l/\Srt key s/\∀x∈l,∀y∈s,key x<=key y:=gJ.1 h
end
abbrev Way:=CK (CK Int)
abbrev Ň:=a8
def ě (m:Ň) (x:Way):Int:=(ĺ m x).getD 0
def WOk (m:Ň) (l:CK Way):Prop:=∀x∈l,ĺ m x=some (ě m x)
section
variable {ρ:Type} {m:Ň}
def ajt (a b:Int):iV a b=some (if a<b then -1 else if b<a then 1 else 0):=by
 unfold iV wD nl Bj
 have e:∀x:Int,ine x x=false:=fun x=>by simp[ine]
 rw[e,e,À,À,æ,æ]
 by_cases h:a<b
 ·rw[Ð (decide_eq_true h),if_pos h]
 ·rw[Ì (decide_eq_false h),if_neg h]
  by_cases h2:b<a
  ·rw[Ð (decide_eq_true h2),if_pos h2]
  ·rw[Ì (decide_eq_false h2),if_neg h2]
def XI {x y:Way} (c:ĺ m x=some (ě m x)) (a:ĺ m y=some (ě m y)):kS x y m=some (if ě m x<ě m y then -1 else if ě m y<ě m x then 1 else 0):=by
 unfold kS TT;rw[c,À,a,À,ajt,À]
def ad6 {x y:Way} (c:ĺ m x=some (ě m x)) (a:ĺ m y=some (ě m y)) (X Y:BY ρ):(Å (kS x y m) fun r=>ifb (ilt r (0:Int)) X Y)=if ě m x<ě m y then X else Y:=by
 rw[XI c a,À]
 by_cases h:ě m x<ě m y
 ·rw[if_pos h,if_pos h]; rfl
 ·rw[if_neg h,if_neg h]
  by_cases h2:ě m y<ě m x
  ·rw[if_pos h2]; rfl
  ·rw[if_neg h2]; rfl
def anS {α:Type} (A:CK α) (x:α) (B:CK α):(A++x::B)[A.length]?=some x:=by simp
def anm {α:Type} (A:CK α) (x y:α) (B:CK α):(A++x::B).set A.length y=A++y::B:=by simp
def jL {α:Type} {l A B:CK α} {x:α} {i:Int} (h:l=A++x::B) (hi:i=A.length) (K:α->BY ρ):(à ((ile (0:Int) i)&&(ilt i (î l))) (Į l (Int.toNat i) K))=K x:=by
 subst h hi;rw[å (by simp[ile,ilt,î]; omega),dj,ž (anS A x B)]
def KA {α:Type} {l A B:CK α} {x:α} {i:Int} (h:l=A++x::B) (hi:i=A.length) (y:α):List.set l (Int.toNat i) y=A++y::B:=by
 subst h hi;rw[dj,anm]
def ins_L1 {c0:Int} {A C:CK Way} {x y:Way} (g:ĺ m x=some (ě m x)) (f:ĺ m y=some (ě m y)) (j:c0<=A.length) (i:A.length<=1000000) (d:Int->CK Way->BY ρ) (k0:CK Way->BY ρ) :
 ë c0 m.1.1.1 m.1.1.2 m.1.2.1 m.1.2.2.1 m.1.2.2.2.1 m.1.2.2.2.2.1 m.1.2.2.2.2.2 m.2 ((A.length:Int)+1) (A++y::x::C) d k0 =
  if ě m x<ě m y then d A.length (A++x::y::C) else k0 (A++y::x::C):=by
 have h:((A.length:Int)+1-1)=A.length:=by omega
 have a:A++y::x::C=(A++[y])++x::C:=by simp
 have c:((A.length:Int)+1)=(A++[y]).length:=by simp
 unfold ë;rw[Ð (decide_eq_true (by omega)),jL a c,h,Ï (by omega) (by omega),jL (A:=A) (x:=y) (B:=x::C) rfl rfl];refine(ad6 g f _ _).trans ?_
 split
 ·rw[Ï (by omega) (by omega),Ï (by omega) (by omega),jL (A:=A) (x:=y) (B:=x::C) rfl rfl,jL a c,jL a c,KA a c]
  have e:A++[y]++y::C=A++y::y::C:=by simp
  rw[e,jL (A:=A) (x:=y) (B:=y::C) rfl rfl,KA (A:=A) (x:=y) (B:=y::C) rfl rfl,Ï (by omega) (by omega)]
 ·rfl
def alu {c0:Int} {P S Q:CK Way} {x:Way} (G:c0=P.length) (C:Srt (ě m) S) (z:WOk m (x::S)) (J:P.length+S.length<=1000000) (K:CK Way->BY ρ) :
 Ë (fun(v:Int×CK Way) F=>ë c0 m.1.1.1 m.1.1.2 m.1.2.1 m.1.2.2.1 m.1.2.2.2.1 m.1.2.2.2.2.1 m.1.2.2.2.2.2 m.2 v.1 v.2 (fun a b=>F (a,b)) K) (((P.length+S.length:Nat):Int),P++(S++x::Q))=K (P++(Ĺ (ě m) (S++[x])++Q)):=by
 subst G;have n:=z x (by simp)
 -- when it stops
 have stop:∀A B:CK Way,S=A++B->(∀t∈B,ě m x<ě m t)->(∀t∈A,ě m t<=ě m x)->Ĺ (ě m) (S++[x])=A++x::B:=fun A B c i j=>by
  subst c;obtain⟨r,h2,o⟩:=C.parts;refine yo ?_ ?_
  ·refine r.append (List.Pairwise.cons (fun t d=>by have:=i t d; omega) h2) fun a ha b hb=>?_;rcases df.1 hb with rfl|hb
   ·exact j a ha
   ·exact o a ha b hb
  ·have:=Stb.swap (key:=ě m) (u:=B) (v:=[x]) (fun a ha b hb=>by simp at hb; subst hb; have:=i a ha; omega);have D:=(Stb.refl (key:=ě m) A).append this;rw[<-dg] at D;exact D
 refine ï (fun v:Int×CK Way=>∃A B:CK Way,S=A++B/\(∀t∈B,ě m x<ě m t)/\v=(((P.length+A.length:Nat):Int),P++(A++x::(B++Q)))) (fun v=>v.1.toNat) ?_ ⟨S,[],by simp,by simp,by simp⟩;rintro v ⟨A,B,c,i,rfl⟩
 cases j:A.reverse with
 |nil =>
  have f:A=[]:=by simpa using j
  subst f;refine .inl fun g=>?_;dsimp only;unfold ë;rw[Ì (decide_eq_false (by simp)),stop [] B c i (by simp)];simp
 |cons y E =>
  have f:A=E.reverse++[y]:=by
   have:=congrArg List.reverse j;simpa using this
  generalize E.reverse=A1 at f;subst f;have l:ĺ m y=some (ě m y):=z y (by rw[c]; simp)
  have e:∀g:Int×CK Way->BY ρ,ë (P.length:Int) m.1.1.1 m.1.1.2 m.1.2.1 m.1.2.2.1 m.1.2.2.2.1 m.1.2.2.2.2.1 m.1.2.2.2.2.2 m.2 ((P.length+(A1++[y]).length:Nat):Int) (P++(A1++[y]++x::(B++Q))) (fun a b=>g (a,b)) K =
   if ě m x<ě m y then g (((P.length+A1.length:Nat):Int),P++(A1++x::(y::B++Q))) else K (P++(A1++[y]++x::(B++Q))):=fun g=>by
   have I:((P.length+(A1++[y]).length:Nat):Int)=((P++A1).length:Int)+1:=by simp; omega
   have H:P++(A1++[y]++x::(B++Q))=(P++A1)++y::x::(B++Q):=by simp
   have s:A1.length<=S.length:=by rw[c]; simp
   rw[I,H,ins_L1 n l (by simp; omega) (by simp; omega)];simp
  by_cases h:ě m x<ě m y
  ·refine .inr ⟨(((P.length+A1.length:Nat):Int),P++(A1++x::(y::B++Q))),⟨A1,y::B,by rw[c]; simp,fun t d=>?_,rfl⟩,by simp; omega,fun g=>(e g).trans (if_pos h)⟩;rcases df.1 d with rfl|d
   ·exact h
   ·exact i t d
  ·refine .inl fun g=>(e g).trans ?_;rw[if_neg h,stop (A1++[y]) B c i fun t d=>?_]
   ·simp
   ·obtain⟨r,_,_⟩:=Srt.parts (c▸C);obtain⟨_,_,o⟩:=Srt.parts r;rcases de.1 d with d|d
    ·have:=o t d y (by simp); omega
    ·simp at d; subst d; omega
def WOk.sub {l s:CK Way} (h:WOk m l) (c:∀x∈s,x∈l):WOk m s:=fun x a=>h x (c x a)
def K7 {P M Q:CK Way} (r:WOk m M) (u:P.length+M.length<=1000000):ê (P++(M++Q)) P.length ((P.length+M.length:Nat):Int) m=some (P++(Ĺ (ě m) M++Q),m):=by
 unfold ê ŭ;rw[Ï (by omega) (by omega)];refine ï (fun v:Int×CK Way=>(M.length=0/\v=((P.length:Int)+1,P++(M++Q)))\/∃k:Nat,1<=k/\k<=M.length/\v=(((P.length+k:Nat):Int),P++(Ĺ (ě m) (M.take k)++(M.drop k++Q)))) (fun v=>(P.length+M.length+1)-v.1.toNat) ?_ ?_
 ·rintro v (⟨h0,rfl⟩|⟨k,s,l,rfl⟩)
  ·refine .inl fun g=>?_;have:M=[]:=List.length_eq_zero_iff.1 h0;subst this;dsimp only;unfold ē;rw[Ì (decide_eq_false (by simp; omega))];rfl
  ·rcases gB l with h|rfl
   ·have o:M[k]?=some M[k]:=cV h;have hd:M.drop k=M[k]::M.drop (k+1):=dT h;have n:M.take (k+1)=M.take k++[M[k]]:=take_succ o;have c:M[k]∈M:=fC h;generalize M[k]=x at o hd n c
    have j:(Ĺ (ě m) (M.take k)).length=k:=by rw[(Ő _).length]; simp; omega
    refine .inr ⟨(((P.length+(k+1):Nat):Int),P++(Ĺ (ě m) (M.take (k+1))++(M.drop (k+1)++Q))),.inr ⟨k+1,by omega,h,rfl⟩,by dsimp only; omega,fun g=>?_⟩;dsimp only;unfold ē;rw[Ð (decide_eq_true (by omega)),hd]
    have:=alu (m:=m) (c0:=(P.length:Int)) (P:=P) (S:=Ĺ (ě m) (M.take k)) (Q:=M.drop (k+1)++Q) (x:=x) rfl (lN _) (fun y i=>by
     rcases df.1 i with rfl|i
     ·exact r _ c
     ·exact r _ (fM ((Ő _).mem.1 i))) (by omega) (fun d=>ck (((P.length+k:Nat):Int)+(1:Int)) fun f=>g (f,d))
    rw[j] at this;refine this.trans ?_;rw[Ï (by omega) (by omega)];congr 1;refine Prod.ext (by dsimp only; omega) ?_;dsimp only
    have e:Ĺ (ě m) (Ĺ (ě m) (M.take k)++[x])=Ĺ (ě m) (M.take (k+1)):=by
     rw[n];exact yo (lN _) (((Ő (M.take k)).append (Stb.refl [x])).symm.trans (Ő _))
    rw[e]
   ·refine .inl fun g=>?_;dsimp only;unfold ē;rw[Ì (decide_eq_false (by omega))];simp
 ·cases M with
  |nil=>exact .inl ⟨rfl,rfl⟩
  |cons a M =>
   refine .inr ⟨1,cX _,by simp,?_⟩;refine Prod.ext (by simp) ?_;simp[Ĺ,WM]
end
section
variable {ρ:Type} {m:Ň}
def rot_L2:@iO ρ=@Ē ρ:=rfl
def rot_L3:@iN ρ=@Ē ρ:=rfl
def xr {A U B V C:CK Way} (J:V.length=U.length) {a b n:Int} (ha:a=A.length) (hb:b=((A.length+U.length+B.length:Nat):Int)) (g:n=U.length) (O:A.length+U.length+B.length+V.length<=1000000) (K:CK Way->BY ρ) :
 Ë (fun(v:Int×CK Way) F=>Ē a b n v.1 v.2 (fun x y=>F (x,y)) K) ((0:Int),A++(U++(B++(V++C))))=K (A++(V++(B++(U++C)))):=by
 subst ha hb g;refine ð (List.replicate U.length ()) (fun i=>A++(V.take i++(U.drop i++(B++(U.take i++(V.drop i++C)))))) _ (by simp) (fun i x hi I E=>?_) (fun E=>?_)
 ·try dsimp only
  rw[fH] at hi;have r:U.drop i=U[i]::U.drop (i+1):=dT hi;have o:V.drop i=V[i]::V.drop (i+1):=dT (by omega);have d:U.take (i+1)=U.take i++[U[i]]:=take_succ (cV hi);have c:V.take (i+1)=V.take i++[V[i]]:=take_succ (cV (by omega));generalize U[i]=u at r d;generalize V[i]=v at o c
  have H:(U.take i).length=i:=by simp; omega
  have G:(V.take i).length=i:=by simp; omega
  have D:(U.drop (i+1)).length=U.length-(i+1):=by simp
  rw[r,o,d,c];generalize U.drop (i+1)=U2 at *;generalize V.drop (i+1)=V2 at *;generalize U.take i=U1 at *;generalize V.take i=V1 at *;unfold Ē
  -- the places
  have e:A++(V1++(u::U2++(B++(U1++(v::V2++C)))))=(A++V1)++u::(U2++(B++(U1++(v::V2++C)))):=by simp
  have s:A++(V1++(u::U2++(B++(U1++(v::V2++C)))))=(A++(V1++(u::U2++(B++U1))))++v::(V2++C):=by simp
  have f:(A.length:Int)+i=(A++V1).length:=by simp; omega
  have z:((A.length+U.length+B.length:Nat):Int)+i=(A++(V1++(u::U2++(B++U1)))).length:=by simp; omega
  have h:(A++V1)++v::(U2++(B++(U1++(v::V2++C))))=(A++(V1++(v::U2++(B++U1))))++v::(V2++C):=by simp
  have j:((A.length+U.length+B.length:Nat):Int)+i=(A++(V1++(v::U2++(B++U1)))).length:=by simp; omega
  rw[Ð (decide_eq_true (by omega)),Ï (by omega) (by omega),Ï (by omega) (by omega),Ï (by omega) (by omega),jL s z,Ï (by omega) (by omega),jL e f,jL e f,KA e f,jL h j,KA h j,Ï (by omega) (by omega)];simp
 ·try dsimp only
  unfold Ē;rw[List.length_replicate,Ì (decide_eq_false (by omega))];rw[List.take_of_length_le (l:=V) (by omega),List.drop_of_length_le (l:=U) (by omega),List.take_of_length_le (l:=U) (by omega),List.drop_of_length_le (l:=V) (by omega)];simp
def aho {A U V C:CK Way} (E:1<=U.length) (D:1<=V.length) (G:A.length+U.length+V.length<=1000000) :
 ļ (A++(U++(V++C))) A.length ((A.length+U.length:Nat):Int) ((A.length+U.length+V.length:Nat):Int) m=some (A++(V++(U++C)),m):=by
 unfold ļ jY;rw[Ï (by omega) (by omega),Ï (by omega) (by omega)];refine ï (fun v:Int×Int×CK Way=>∃L X Y R:CK Way,1<=X.length/\1<=Y.length/\L.length+X.length=U.length/\Y.length+R.length=V.length/\L++(Y++(X++R))=V++U/\v=((X.length:Int),(Y.length:Int),A++(L++(X++(Y++(R++C)))))) (fun v=>v.1.toNat+v.2.1.toNat) ?_ ⟨[],U,V,[],E,D,by simp,by simp,by simp,?_⟩
 rotate_left
 ·rw[Prod.mk.injEq,Prod.mk.injEq];refine⟨?_,?_,by simp⟩
  ·show((A.length+U.length:Nat):Int)-(A.length:Int)=(U.length:Int);omega
  ·show((A.length+U.length+V.length:Nat):Int)-((A.length+U.length:Nat):Int)=(V.length:Int);omega
 rintro v ⟨L,X,Y,R,I,H,f,h2,y,rfl⟩
 by_cases d:X.length=Y.length
 ·refine .inl fun j=>?_;dsimp only;unfold ĸ;rw[Ì (by simp[ine,d])];dsimp only;rw[rot_L3,Ï (by omega) (by omega)];have:=xr (A:=A++L) (U:=X) (B:=[]) (V:=Y) (C:=R++C) d.symm (a:=((A.length+U.length:Nat):Int)-X.length) (b:=((A.length+U.length:Nat):Int)) (n:=X.length) (by simp; omega) (by simp; omega) rfl (by simp; omega) (fun l=>some (l,m))
  have i:(A++L)++(X++([]++(Y++(R++C))))=A++(L++(X++(Y++(R++C)))):=by simp
  rw[i] at this;refine this.trans ?_
  have F:A++L++(Y++([]++(X++(R++C))))=A++((L++(Y++(X++R)))++C):=by simp
  rw[F,y];simp
 ·by_cases h:Y.length<X.length
  ·-- the first part of X and Y change places
   have g:(X.take Y.length).length=Y.length:=by simp; omega
   have c:(X.drop Y.length).length=X.length-Y.length:=by simp
   have ex:X=X.take Y.length++X.drop Y.length:=(ew _ _).symm;generalize X.take Y.length=X1 at g ex;generalize X.drop Y.length=X2 at c ex;subst ex;refine .inr ⟨((X2.length:Int),(X1.length:Int),A++((L++Y)++(X2++(X1++(R++C))))),⟨L++Y,X2,X1,R,by simp at c h; omega,by omega,by simp at f ⊢; omega,by omega,?_,rfl⟩,by simp at c ⊢; omega,fun j=>?_⟩
   ·rw[<-y]; simp
   ·dsimp only;unfold ĸ;have e:ine ((X1++X2).length:Int) (Y.length:Int)=true:=bne_iff_ne.2 (by omega);rw[Ð e,Ð (decide_eq_true (by omega)),Ï (by simp at f ⊢; omega) (by simp at f ⊢; omega)];have:=xr (A:=A++L) (U:=X1) (B:=X2) (V:=Y) (C:=R++C) g.symm (a:=((A.length+U.length:Nat):Int)-(X1++X2).length) (b:=((A.length+U.length:Nat):Int)) (n:=Y.length) (by simp at f ⊢; omega) (by simp at f ⊢; omega) (by omega) (by simp at f ⊢; omega) (fun r=>ck (((X1++X2).length:Int)-(Y.length:Int)) fun u=>j (u,((Y.length:Int),r)))
    have i:(A++L)++(X1++(X2++(Y++(R++C))))=A++(L++(X1++X2++(Y++(R++C)))):=by simp
    rw[i] at this;refine this.trans ?_;rw[Ï (by simp; omega) (by simp; omega)];congr 1;rw[Prod.mk.injEq,Prod.mk.injEq];exact⟨by simp; omega,by omega,by simp⟩
  ·have g:(Y.drop (Y.length-X.length)).length=X.length:=by simp; omega
   have c:(Y.take (Y.length-X.length)).length=Y.length-X.length:=by simp
   have z:Y=Y.take (Y.length-X.length)++Y.drop (Y.length-X.length):=(ew _ _).symm;generalize Y.take (Y.length-X.length)=Y1 at c z;generalize Y.drop (Y.length-X.length)=Y2 at g z;subst z;refine .inr ⟨((Y2.length:Int),(Y1.length:Int),A++(L++(Y2++(Y1++((X++R)++C))))),⟨L,Y2,Y1,X++R,by omega,by simp at c d h; omega,by omega,by simp at h2 ⊢; omega,?_,rfl⟩,by simp at c ⊢; omega,fun j=>?_⟩
   ·rw[<-y]; simp
   ·dsimp only;unfold ĸ;have e:ine (X.length:Int) ((Y1++Y2).length:Int)=true:=bne_iff_ne.2 (by omega);rw[Ð e,Ì (decide_eq_false (by omega)),rot_L2,Ï (by omega) (by omega),Ï (by simp at h2 ⊢; omega) (by simp at h2 ⊢; omega),Ï (by simp at h2 ⊢; omega) (by simp at h2 ⊢; omega)];have:=xr (A:=A++L) (U:=X) (B:=Y1) (V:=Y2) (C:=R++C) g (a:=((A.length+U.length:Nat):Int)-X.length) (b:=((A.length+U.length:Nat):Int)+((Y1++Y2).length:Int)-X.length) (n:=X.length) (by simp; omega) (by simp; omega) rfl (by simp at h2 ⊢; omega) (fun o=>ck (((Y1++Y2).length:Int)-(X.length:Int)) fun s=>j ((X.length:Int),(s,o)))
    have i:(A++L)++(X++(Y1++(Y2++(R++C))))=A++(L++(X++(Y1++Y2++(R++C)))):=by simp
    rw[i] at this;refine this.trans ?_;rw[Ï (by simp; omega) (by simp; omega)];congr 1;rw[Prod.mk.injEq,Prod.mk.injEq];exact⟨by omega,by simp; omega,by simp⟩
end
def anQ {n:Nat} (h:n<=10000000):IntKind.wrap .i64 (jd .u64 (IntKind.wrap .u64 (n:Int)) (1:Int))=((n / 2:Nat):Int):=by
 have c:IntKind.wrap .u64 (n:Int)=n:=by
  simp[IntKind.wrap,IntKind.bits,IntKind.signed];omega
 rw[c]
 have a:jd .u64 (n:Int) 1=((n / 2:Nat):Int):=by
  unfold jd
  have:(2:Int) ^ (min (Int.toNat 1) IntKind.u64.bits)=2:=by decide
  rw[this,Int.fdiv_eq_ediv_of_nonneg _ (by omega)];omega
 rw[a];simp[IntKind.wrap,IntKind.bits,IntKind.signed];omega
section
variable {ρ:Type} {m:Ň}
abbrev akp:=CK Way->Int->Int->Int->Ň->BY (CK Way×Ň)
def aeH (p:Nat->Prop) [DecidablePred p] {lo:Nat}:∀(n:Nat),(∀c c',lo<=c->c<=c'->c'<lo+n->p c'->p c)->∃s,lo<=s/\s<=lo+n/\(∀c,lo<=c->c<s->p c)/\∀c,s<=c->c<lo+n->¬p c
 |0,_=>⟨lo,cX _,cX _,fun c d h2=>by omega,fun c d h2=>by omega⟩
 |n+1,h=>by
  obtain⟨s,d,h2,j,i⟩:=aeH p (lo:=lo) n fun c c' o l a3=>h c c' o l (by omega)
  by_cases g:p (lo+n)
  ·exact⟨lo+n+1,by omega,by omega,fun c a f=>h c (lo+n) a (by omega) (by omega) g,fun c a f=>by omega⟩
  ·refine⟨s,d,by omega,j,fun c a f=>?_⟩
   by_cases e:c=lo+n
   ·rw[e]; exact g
   ·exact i c a (by omega)
def acy {f:Int×Int->(Int×Int->BY ρ)->BY ρ} {K:Int->BY ρ} {lo hi:Nat} (C:lo<=hi) (p:Nat->Prop) [DecidablePred p] (g:∀c c',lo<=c->c<=c'->c'<hi->p c'->p c)
 (step:∀i j:Nat,lo<=i->i<j->j<=hi->∀a,f ((i:Int),(j:Int)) a=if p ((i+j) / 2) then a ((((i+j) / 2+1:Nat):Int),(j:Int)) else a ((i:Int),(((i+j) / 2:Nat):Int)))
 (stop:∀i:Nat,lo<=i->i<=hi->∀a,f ((i:Int),(i:Int)) a=K i) :
 ∃s,lo<=s/\s<=hi/\(∀c,lo<=c->c<s->p c)/\(∀c,s<=c->c<hi->¬p c)/\Ë f ((lo:Int),(hi:Int))=K (s:Nat):=by
 obtain⟨s,y,h2,u,r⟩:=aeH p (lo:=lo) (hi-lo) fun c c' E D a3=>g c c' E D (by omega);refine⟨s,y,by omega,u,fun c d o=>r c d (by omega),?_⟩;refine ï (fun v:Int×Int=>∃i j:Nat,lo<=i/\i<=s/\s<=j/\j<=hi/\v=((i:Int),(j:Int))) (fun v=>v.2.toNat-v.1.toNat) ?_ ⟨lo,hi,cX _,y,by omega,cX _,rfl⟩;rintro v ⟨i,j,d,o,z,l,rfl⟩;rcases dl i j with h|h
 ·by_cases n:p ((i+j) / 2)
  ·refine .inr ⟨_,⟨(i+j) / 2+1,j,by omega,?_,z,l,rfl⟩,by dsimp only; omega,fun a=>by rw[step i j d h l,if_pos n]⟩;rcases Nat.lt_or_ge ((i+j) / 2) s with e|e
   ·omega
   ·exact absurd n (r _ e (by omega))
  ·refine .inr ⟨_,⟨i,(i+j) / 2,d,o,?_,by omega,rfl⟩,by dsimp only; omega,fun a=>by rw[step i j d h l,if_neg n]⟩;rcases Nat.lt_or_ge ((i+j) / 2) s with e|e
   ·exact absurd (u _ (by omega) e) n
   ·exact e
 ·obtain rfl:i=j:=by omega
  obtain rfl:i=s:=by omega
  exact .inl fun a=>stop i d l a
def afr (g:akp) {P B C:CK Way} {x:Way} {c0:Int} (u:c0=((P.length+B.length+1:Nat):Int)) (z:P.length+B.length<=1000000) (K:CK Way->BY ρ) :
 Ë (fun(v:Int×CK Way) s=>ô g c0 v.1 v.2 (fun a b=>s (a,b)) K) ((P.length:Int),P++(x::(B++C)))=K (P++(B++x::C)):=by
 subst u;refine ï (fun v:Int×CK Way=>∃c d:CK Way,B=c++d/\v=(((P.length+c.length:Nat):Int),P++(c++x::(d++C)))) (fun v=>(P.length+B.length+1)-v.1.toNat) ?_ ⟨[],B,rfl,rfl⟩;rintro v ⟨c,d,e,rfl⟩
 cases d with
 |nil =>
  refine .inl fun r=>?_;rw[List.append_nil] at e;subst e;dsimp only;unfold ô;rw[Ï (by omega) (by omega),Ì (decide_eq_false (by omega))];rfl
 |cons y d =>
  have l:B.length=c.length+d.length+1:=by rw[e]; simp; omega
  refine .inr ⟨(((P.length+(c++[y]).length:Nat):Int),P++((c++[y])++x::(d++C))),⟨c++[y],d,by rw[e]; simp,rfl⟩,by simp; omega,fun r=>?_⟩;dsimp only;unfold ô
  have f:P++(c++x::(y::d++C))=(P++c)++x::(y::(d++C)):=by simp
  have h:((P.length+c.length:Nat):Int)=(P++c).length:=by simp
  have n:P++(c++x::(y::d++C))=(P++c++[x])++y::(d++C):=by simp
  have o:((P.length+c.length:Nat):Int)+1=(P++c++[x]).length:=by simp; omega
  have i:(P++c)++y::(y::(d++C))=(P++c++[y])++y::(d++C):=by simp
  have j:((P.length+c.length:Nat):Int)+1=(P++c++[y]).length:=by simp; omega
  rw[Ï (by omega) (by omega),Ð (decide_eq_true (by omega)),Ï (by omega) (by omega),Ï (by omega) (by omega),jL n o,jL f h,jL f h,KA f h,jL i j,KA i j,Ï (by omega) (by omega)];congr 1
  ·simp; omega
  ·simp
def ah3 (h:akp) {P B C:CK Way} {x:Way} {c0:Int} (D:c0=(P.length:Int)) (F:P.length+B.length<=1000000) (K:CK Way->BY ρ) :
 Ë (fun(v:Int×CK Way) z=>ó h c0 v.1 v.2 (fun a b=>z (a,b)) K) (((P.length+B.length:Nat):Int),P++(B++x::C))=K (P++(x::(B++C))):=by
 subst D;refine ï (fun v:Int×CK Way=>∃d c:CK Way,B=d++c/\v=(((P.length+d.length:Nat):Int),P++(d++x::(c++C)))) (fun v=>v.1.toNat) ?_ ⟨B,[],by simp,by simp⟩;rintro v ⟨d,c,l,rfl⟩
 cases e:d.reverse with
 |nil =>
  have:d=[]:=by simpa using e
  subst this;refine .inl fun u=>?_;dsimp only;unfold ó;rw[Ì (decide_eq_false (by simp)),l];simp
 |cons y r =>
  have f:d=r.reverse++[y]:=by
   have:=congrArg List.reverse e;simpa using this
  generalize r.reverse=A1 at f;subst f
  have o:B.length=A1.length+1+c.length:=by rw[l]; simp; omega
  refine .inr ⟨(((P.length+A1.length:Nat):Int),P++(A1++x::(y::c++C))),⟨A1,y::c,by rw[l]; simp,rfl⟩,by simp; omega,fun u=>?_⟩;dsimp only;unfold ó
  have E:((P.length+(A1++[y]).length:Nat):Int)-1=((P.length+A1.length:Nat):Int):=by simp; omega
  have s:P++(A1++[y]++x::(c++C))=(P++A1)++y::(x::(c++C)):=by simp
  have j:((P.length+A1.length:Nat):Int)=(P++A1).length:=by simp
  have g:P++(A1++[y]++x::(c++C))=(P++A1++[y])++x::(c++C):=by simp
  have i:((P.length+(A1++[y]).length:Nat):Int)=(P++A1++[y]).length:=by simp
  have n:(P++A1++[y])++y::(c++C)=(P++A1)++y::(y::(c++C)):=by simp
  rw[Ð (decide_eq_true (by simp; omega)),E,Ï (by omega) (by omega),Ï (by omega) (by omega),jL s j,jL g i,jL g i,KA g i,jL n j,KA n j,Ï (by omega) (by omega)];congr 1;simp
end
section
variable {ρ:Type} {m:Ň}
def symS (a:akp) (mid e b:Int) (k:CK Way×Ň->BY ρ) (l:CK Way) (c:Ň):BY ρ :=
 ifb (ilt mid e) (ifb (ilt e b) (Å (a l mid e b c) fun r=>k (r.1,r.2)) (k (l,c))) (k (l,c))
def symR (c:akp) (a z mid e b:Int) (k:CK Way×Ň->BY ρ) (l:CK Way) (d:Ň):BY ρ :=
 ifb (ilt a z) (ifb (ilt z mid) (Å (c l a z mid d) fun r=>symS c mid e b k r.1 r.2) (symS c mid e b k l d)) (symS c mid e b k l d)
def anh (d:akp) (l:CK Way) (a c b mid n:Int) (f:Ň) (k:CK Way×Ň->BY ρ) (z:Int):BY ρ :=
 ck (n-z) fun e=>ifb (ilt z c) (ifb (ilt c e) (Å (ļ l z c e f) fun r=>symR d a z mid e b k r.1 r.2) (symR d a z mid e b k l f)) (symR d a z mid e b k l f)
def afT (n:Int):Int:=IntKind.wrap .i64 (jd .u64 (IntKind.wrap .u64 n) (1:Int))
def sym_eq (e:akp) (l:CK Way) (a c b:Int) (d:Ň) (k:CK Way×Ň->BY ρ):ĩ e l a c b d k =
 ck (c-a) fun n1=>ifb (ieq n1 (1:Int)) (Ë (fun(v:Int×Int) h=>Ā e a l d.1.1.1 d.1.1.2 d.1.2.1 d.1.2.2.1 d.1.2.2.2.1 d.1.2.2.2.2.1 d.1.2.2.2.2.2 d.2 v.1 v.2 (fun x y=>h (x,y)) (fun z=>Ë (fun(v:Int×CK Way) h=>ô e z v.1 v.2 (fun x y=>h (x,y)) (fun n=>k (n,d))) (a,l))) (c,b))
  (ck (b-c) fun u=>ifb (ieq u (1:Int)) (Ë (fun(v:Int×Int) h=>ÿ e c l d.1.1.1 d.1.1.2 d.1.2.1 d.1.2.2.1 d.1.2.2.2.1 d.1.2.2.2.2.1 d.1.2.2.2.2.2 d.2 v.1 v.2 (fun x y=>h (x,y)) (fun j=>Ë (fun(v:Int×CK Way) h=>ó e j v.1 v.2 (fun x y=>h (x,y)) (fun i=>k (i,d))) (c,l))) (a,c))
   (ck (a+b) fun g=>ck (afT g+c) fun f=>ifb (igt c (afT g))
    (ck (f-b) fun s=>ck (f-(1:Int)) fun r=>Ë (fun(v:Int×Int) h=>ã e r l d.1.1.1 d.1.1.2 d.1.2.1 d.1.2.2.1 d.1.2.2.2.1 d.1.2.2.2.2.1 d.1.2.2.2.2.2 d.2 v.1 v.2 (fun x y=>h (x,y)) (anh e l a c b (afT g) f d k)) (s,afT g))
    (ck (f-(1:Int)) fun o=>Ë (fun(v:Int×Int) h=>ã e o l d.1.1.1 d.1.1.2 d.1.2.1 d.1.2.2.1 d.1.2.2.2.1 d.1.2.2.2.2.1 d.1.2.2.2.2.2 d.2 v.1 v.2 (fun x y=>h (x,y)) (anh e l a c b (afT g) f d k)) (a,c)))):=rfl
def RecOk (a:akp) (m:Ň) (N:Nat):Prop:=∀P U V Q:CK Way,1<=U.length->1<=V.length->U.length+V.length<=N->Srt (ě m) U->Srt (ě m) V->WOk m (U++V)->P.length+U.length+V.length<=1000000 ->
 a (P++(U++(V++Q))) P.length ((P.length+U.length:Nat):Int) ((P.length+U.length+V.length:Nat):Int) m=some (P++(Ĺ (ě m) (U++V)++Q),m)
def uP {l:CK Way} (h:Srt (ě m) l):Ĺ (ě m) l=l:=yo h (Stb.refl l)
def sv (l:CK Way):(Ĺ (ě m) l).length=l.length:=(Ő l).length
def akQ {h:akp} {N:Nat} (i:RecOk h m N) {P u1 u2 v1 v2 Q:CK Way} (T:u1.length+v1.length<=N) (R:u2.length+v2.length<=N) (X:Srt (ě m) (u1++u2)) (W:Srt (ě m) (v1++v2))
 (O:∀x∈u2,∀y∈v1,ě m y<ě m x) (F2:∀x∈u1,∀y∈v2,ě m x<=ě m y) (K:WOk m ((u1++u2)++(v1++v2))) (hl:P.length+u1.length+u2.length+v1.length+v2.length<=1000000)
 {a c b mid n z:Int} (ea:a=P.length) (ec:c=((P.length+u1.length+u2.length:Nat):Int)) (eb:b=((P.length+u1.length+u2.length+v1.length+v2.length:Nat):Int)) (v:mid=((P.length+u1.length+v1.length:Nat):Int)) (Y:z=((P.length+u1.length:Nat):Int)) (Z:n-z=((P.length+u1.length+u2.length+v1.length:Nat):Int)) :
 anh h (P++((u1++u2)++((v1++v2)++Q))) a c b mid n m some z=some (P++(Ĺ (ě m) ((u1++u2)++(v1++v2))++Q),m):=by
 obtain⟨s,r,G⟩:=X.parts;obtain⟨o,l,F⟩:=W.parts;subst ea ec eb v Y
 have fin:Ĺ (ě m) ((u1++u2)++(v1++v2))=Ĺ (ě m) (u1++v1)++Ĺ (ě m) (u2++v2):=by
  refine yo ?_ ?_
  ·refine(lN _).append (lN _) fun x d y f=>?_;have d:=(Ő _).mem.1 d;have f:=(Ő _).mem.1 f
   rcases de.1 d with d|d<;>rcases de.1 f with f|f
   ·exact G x d y f
   ·exact F2 x d y f
   ·have:=O y f x d; omega
   ·exact F x d y f
  ·have q:Stb (ě m) (u2++v1) (v1++u2):=Stb.swap fun x d y f=>by have:=O x d y f; omega
   have J:=((Stb.refl (key:=ě m) u1).append (q.append (Stb.refl v2)))
   have D:u1++(u2++v1++v2)=u1++u2++(v1++v2):=by simp
   have I:u1++(v1++u2++v2)=(u1++v1)++(u2++v2):=by simp
   rw[D,I] at J;exact J.trans ((Ő _).append (Ő _))
 have E:(Ĺ (ě m) (u1++v1)).length=u1.length+v1.length:=by rw[sv]; simp
 have u:symS h ((P.length+u1.length+v1.length:Nat):Int) ((P.length+u1.length+u2.length+v1.length:Nat):Int) ((P.length+u1.length+u2.length+v1.length+v2.length:Nat):Int) some (P++(Ĺ (ě m) (u1++v1)++(u2++(v2++Q)))) m=some (P++(Ĺ (ě m) ((u1++u2)++(v1++v2))++Q),m):=by
  rw[fin];unfold symS
  by_cases g:u2=[]
  ·subst g;rw[Ì (decide_eq_false (by simp))];simp only[d8,dg];rw[uP l]
  by_cases h2:v2=[]
  ·subst h2;have q:ilt ((P.length+u1.length+u2.length+v1.length:Nat):Int) ((P.length+u1.length+u2.length+v1.length+([]:CK Way).length:Nat):Int)=false:=decide_eq_false (by simp);rw[q,æ];simp only[d8,dt,dg];rw[uP r]
   cases ilt ((P.length+u1.length+v1.length:Nat):Int) ((P.length+u1.length+u2.length+v1.length:Nat):Int)<;>rfl
  have k1:1<=u2.length:=eT.2 g;have j:1<=v2.length:=eT.2 h2
  have:=i (P++Ĺ (ě m) (u1++v1)) u2 v2 Q k1 j R r l (K.sub fun x d=>by
   rcases de.1 d with d|d<;>simp[d]) (by rw[cZ,E]; omega)
  rw[Ð (decide_eq_true (by omega)),Ð (decide_eq_true (by omega))]
  have D:P++(Ĺ (ě m) (u1++v1)++(u2++(v2++Q)))=(P++Ĺ (ě m) (u1++v1))++(u2++(v2++Q)):=by simp
  rw[D,show((P.length+u1.length+v1.length:Nat):Int)=((P++Ĺ (ě m) (u1++v1)).length:Int) by rw[cZ,E]; omega,
   show((P.length+u1.length+u2.length+v1.length:Nat):Int)=(((P++Ĺ (ě m) (u1++v1)).length+u2.length:Nat):Int) by rw[cZ,E]; omega,
   show((P.length+u1.length+u2.length+v1.length+v2.length:Nat):Int)=(((P++Ĺ (ě m) (u1++v1)).length+u2.length+v2.length:Nat):Int) by rw[cZ,E]; omega,this,À]
  simp
 have H:symR h (P.length:Int) ((P.length+u1.length:Nat):Int) ((P.length+u1.length+v1.length:Nat):Int) ((P.length+u1.length+u2.length+v1.length:Nat):Int) ((P.length+u1.length+u2.length+v1.length+v2.length:Nat):Int) some (P++(u1++(v1++(u2++(v2++Q))))) m=some (P++(Ĺ (ě m) ((u1++u2)++(v1++v2))++Q),m):=by
  unfold symR
  by_cases g:u1=[]
  ·have q:ilt (P.length:Int) ((P.length+u1.length:Nat):Int)=false:=decide_eq_false (by rw[g]; simp)
   have e:P++(Ĺ (ě m) (u1++v1)++(u2++(v2++Q)))=P++(u1++(v1++(u2++(v2++Q)))):=by
    subst g;simp only[d8];rw[uP o]
   rw[e] at u;rw[q,æ,u]
  by_cases h2:v1=[]
  ·have e:P++(Ĺ (ě m) (u1++v1)++(u2++(v2++Q)))=P++(u1++(v1++(u2++(v2++Q)))):=by
    subst h2;simp only[dt,d8];rw[uP s]
   rw[e] at u;have q:ilt ((P.length+u1.length:Nat):Int) ((P.length+u1.length+v1.length:Nat):Int)=false:=decide_eq_false (by rw[h2]; simp);rw[q,æ,u]
   cases ilt (P.length:Int) ((P.length+u1.length:Nat):Int)<;>rfl
  have k1:1<=u1.length:=eT.2 g;have j:1<=v1.length:=eT.2 h2;rw[Ð (decide_eq_true (by omega)),Ð (decide_eq_true (by omega))]
  rw[i P u1 v1 (u2++(v2++Q)) k1 j T s o (K.sub fun x d=>by
   rcases de.1 d with d|d<;>simp[d]) (by omega),À]
  exact u
 unfold anh;rw[Z,Ï (by omega) (by omega)]
 by_cases g:u2=[]
 ·have q:ilt ((P.length+u1.length:Nat):Int) ((P.length+u1.length+u2.length:Nat):Int)=false:=decide_eq_false (by rw[g]; simp)
  have e:P++((u1++u2)++((v1++v2)++Q))=P++(u1++(v1++(u2++(v2++Q)))):=by rw[g]; simp
  rw[q,æ,e,H]
 by_cases h2:v1=[]
 ·have e:P++((u1++u2)++((v1++v2)++Q))=P++(u1++(v1++(u2++(v2++Q)))):=by rw[h2]; simp
  have q:ilt ((P.length+u1.length+u2.length:Nat):Int) ((P.length+u1.length+u2.length+v1.length:Nat):Int)=false:=decide_eq_false (by rw[h2]; simp);rw[q,æ,e,H]
  cases ilt ((P.length+u1.length:Nat):Int) ((P.length+u1.length+u2.length:Nat):Int)<;>rfl
 have k1:1<=u2.length:=eT.2 g;have j:1<=v1.length:=eT.2 h2;rw[Ð (decide_eq_true (by omega)),Ð (decide_eq_true (by omega))];have:=aho (m:=m) (A:=P++u1) (U:=u2) (V:=v1) (C:=v2++Q) k1 j (by simp; omega);rw[cZ] at this
 have D:P++((u1++u2)++((v1++v2)++Q))=(P++u1)++(u2++(v1++(v2++Q))):=by simp
 rw[D,this,À]
 have I:(P++u1)++(v1++(u2++(v2++Q)))=P++(u1++(v1++(u2++(v2++Q)))):=by simp
 rw[I];exact H
end
section
variable {ρ:Type} {m:Ň}
def giW (l:CK Way) (i:Nat):Way:=(l[i]?).getD []
def Jv {l:CK Way} {i:Nat} (h:i<l.length) (K:Way->BY ρ):(à ((ile (0:Int) (i:Int))&&(ilt (i:Int) (î l))) (Į l (Int.toNat (i:Int)) K))=K (giW l i):=by
 rw[å (by simp[ile,ilt,î]; omega),dj,ž (cV h)];simp[giW,cV h]
def MJ {i j:Nat} (h:i+j<=10000000):IntKind.wrap .i64 (jd .u64 (IntKind.wrap .u64 ((i:Int)+(j:Int))) (1:Int))=(((i+j) / 2:Nat):Int):=by
 rw[<-anQ h]; push_cast; rfl
def KOk (m:Ň) (x:Way):Prop:=ĺ m x=some (ě m x)
def YN {x y:Way} (c:KOk m x) (a:KOk m y) (X Y:BY ρ):(Å (kS x y m) fun r=>ifb (!(ilt r (0:Int))) X Y)=if ě m x>=ě m y then X else Y:=by
 rw[XI c a,À]
 by_cases h:ě m x<ě m y
 ·rw[if_pos h,if_neg (show ¬ě m x>=ě m y by omega)]; rfl
 ·rw[if_neg h,if_pos (show ě m x>=ě m y by omega)]
  by_cases h2:ě m y<ě m x
  ·rw[if_pos h2]; rfl
  ·rw[if_neg h2]; rfl
def anp (c:akp) {l:CK Way} {a i j:Nat} (g:i<j) (n:j<=l.length) (ha:a<l.length) (h:j<=2000000) (f:KOk m (giW l a)) (e:KOk m (giW l ((i+j) / 2))) (d:Int->Int->BY ρ) (k0:Int->BY ρ) :
 Ā c (a:Int) l m.1.1.1 m.1.1.2 m.1.2.1 m.1.2.2.1 m.1.2.2.2.1 m.1.2.2.2.2.1 m.1.2.2.2.2.2 m.2 (i:Int) (j:Int) d k0=if ě m (giW l ((i+j) / 2))<ě m (giW l a) then d (((i+j) / 2+1:Nat):Int) j else d i (((i+j) / 2:Nat):Int):=by
 unfold Ā;rw[Ð (decide_eq_true (by omega)),Ï (by omega) (by omega),MJ (by omega),Jv (by omega),Jv ha];refine(ad6 e f _ _).trans ?_;rw[Ï (by omega) (by omega)];rfl
def ano (a:akp) {l:CK Way} {c i j:Nat} (g:i<j) (o:j<=l.length) (h:c<l.length) (n:j<=2000000) (f:KOk m (giW l c)) (e:KOk m (giW l ((i+j) / 2))) (d:Int->Int->BY ρ) (k0:Int->BY ρ) :
 ÿ a (c:Int) l m.1.1.1 m.1.1.2 m.1.2.1 m.1.2.2.1 m.1.2.2.2.1 m.1.2.2.2.2.1 m.1.2.2.2.2.2 m.2 (i:Int) (j:Int) d k0=if ě m (giW l c)>=ě m (giW l ((i+j) / 2)) then d (((i+j) / 2+1:Nat):Int) j else d i (((i+j) / 2:Nat):Int):=by
 unfold ÿ;rw[Ð (decide_eq_true (by omega)),Ï (by omega) (by omega),MJ (by omega),Jv h,Jv (by omega)];refine(YN f e _ _).trans ?_;rw[Ï (by omega) (by omega)];rfl
def ann (a:akp) {l:CK Way} {p i j:Nat} (h:i<j) (r:j<=l.length) (n:(i+j) / 2<=p) (d:p-(i+j) / 2<l.length) (o:j<=2000000) (g:p<=4000000) (f:KOk m (giW l (p-(i+j) / 2))) (e:KOk m (giW l ((i+j) / 2))) (c:Int->Int->BY ρ) (k0:Int->BY ρ) :
 ã a (p:Int) l m.1.1.1 m.1.1.2 m.1.2.1 m.1.2.2.1 m.1.2.2.2.1 m.1.2.2.2.2.1 m.1.2.2.2.2.2 m.2 (i:Int) (j:Int) c k0=if ě m (giW l (p-(i+j) / 2))>=ě m (giW l ((i+j) / 2)) then c (((i+j) / 2+1:Nat):Int) j else c i (((i+j) / 2:Nat):Int):=by
 unfold ã;rw[Ð (decide_eq_true (by omega)),Ï (by omega) (by omega),MJ (by omega),show(p:Int)-(((i+j) / 2:Nat):Int)=((p-(i+j) / 2:Nat):Int) by omega,Ï (by omega) (by omega),Jv d,Jv (by omega)];refine(YN f e _ _).trans ?_;rw[Ï (by omega) (by omega)];rfl
def tx {α:Type} {l:CK α} {n:Nat} {y:α} (h:y∈l.take n):∃j,j<n/\j<l.length/\l[j]?=some y:=by
 obtain⟨j,a,e⟩:=dm.1 h;simp only[dk] at a;refine⟨j,by omega,by omega,?_⟩;rw[fg] at e;rw[cV (by omega),e]
def tz {α:Type} {l:CK α} {n:Nat} {y:α} (h:y∈l.drop n):∃j,n<=j/\j<l.length/\l[j]?=some y:=by
 obtain⟨j,a,e⟩:=dm.1 h;simp only[ik] at a;refine⟨n+j,by omega,by omega,?_⟩;rw[List.getElem_drop] at e;rw[cV (by omega),e]
def ahf {l:CK Way} (h:Srt (ě m) l) {i j:Nat} {x y:Way} (hi:l[i]?=some x) (d:l[j]?=some y) (c:i<=j):ě m x<=ě m y:=by
 obtain⟨e,rfl⟩:=cY.1 hi;obtain⟨h2,rfl⟩:=cY.1 d;rcases gB c with a|rfl
 ·exact dL.1 h i j e h2 a
 ·exact dQ _
def Kw:∀(f N:Nat),N<=2 ^ f->RecOk (Ĩ (f+1)) m N
 |0,N,hN=>fun P U V Q hU hV hn=>by simp at hN; omega
 |f+1,N,hN=>fun P U V Q hU hV hn sU sV hW hl=>by
  have T:=Kw f (2 ^ f) (cX _)
  have hpow:2 ^ (f+1)=2*2 ^ f:=by rw[Nat.pow_succ]; omega
  show ĩ (Ĩ (f+1)) _ _ _ _ m some=_;generalize Ĩ (f+1)=rec at T;obtain⟨l,F⟩:∃l,l=P++(U++(V++Q)):=⟨_,rfl⟩
  have hll:P.length+U.length+V.length<=l.length:=by rw[F]; simp; omega
  rw[sym_eq]
  -- what lies where
  have X:∀i x,U[i]?=some x->giW l (P.length+i)=x:=fun i x D=>by
   have hi:=(List.getElem?_eq_some_iff.1 D).1;unfold giW;rw[F,List.getElem?_append_right (by omega),List.getElem?_append_left (by omega),show P.length+i-P.length=i by omega,D];rfl
  have W:∀i x,V[i]?=some x->giW l (P.length+U.length+i)=x:=fun i x D=>by
   have hi:=(List.getElem?_eq_some_iff.1 D).1;unfold giW;rw[F,List.getElem?_append_right (by omega),List.getElem?_append_right (by omega),List.getElem?_append_left (by omega),show P.length+U.length+i-P.length-U.length=i by omega,D];rfl
  have kU:∀c c',P.length<=c->c<=c'->c'<P.length+U.length->ě m (giW l c)<=ě m (giW l c'):=fun c c' h1 h2 h3=>by
   have o:U[c-P.length]?=some U[c-P.length]:=cV (by omega);have g:U[c'-P.length]?=some U[c'-P.length]:=cV (by omega);have G:=X _ _ o;have R:=X _ _ g;rw[show P.length+(c-P.length)=c by omega] at G;rw[show P.length+(c'-P.length)=c' by omega] at R;rw[G,R];exact ahf sU o g (by omega)
  have kV:∀c c',P.length+U.length<=c->c<=c'->c'<P.length+U.length+V.length->ě m (giW l c)<=ě m (giW l c'):=fun c c' h1 h2 h3=>by
   have o:V[c-(P.length+U.length)]?=some V[c-(P.length+U.length)]:=cV (by omega);have g:V[c'-(P.length+U.length)]?=some V[c'-(P.length+U.length)]:=cV (by omega);have G:=W _ _ o;have R:=W _ _ g;rw[show P.length+U.length+(c-(P.length+U.length))=c by omega] at G;rw[show P.length+U.length+(c'-(P.length+U.length))=c' by omega] at R;rw[G,R];exact ahf sV o g (by omega)
  have kW:∀c,P.length<=c->c<P.length+U.length+V.length->KOk m (giW l c):=fun c h1 h2=>by
   rcases dl c (P.length+U.length) with h3|h3
   ·have o:U[c-P.length]?=some U[c-P.length]:=cV (by omega);have G:=X _ _ o;rw[show P.length+(c-P.length)=c by omega] at G;rw[G];exact hW _ (dR _ (fC _))
   ·have o:V[c-(P.length+U.length)]?=some V[c-(P.length+U.length)]:=cV (by omega);have G:=W _ _ o;rw[show P.length+U.length+(c-(P.length+U.length))=c by omega] at G;rw[G];exact hW _ (dN _ (fC _))
  have e0:((P.length+U.length:Nat):Int)-(P.length:Int)=U.length:=by omega
  have G:((P.length+U.length+V.length:Nat):Int)-((P.length+U.length:Nat):Int)=V.length:=by omega
  rw[e0,G,Ï (by omega) (by omega),Ï (by omega) (by omega),<-F];have half:afT ((P.length:Int)+((P.length+U.length+V.length:Nat):Int))=(((P.length+(P.length+U.length+V.length)) / 2:Nat):Int):=MJ (by omega)
  by_cases O:U.length=1
  ·rw[Ð (beq_iff_eq.2 (by rw[O]; rfl))]
   obtain⟨x,D⟩:∃x,U=[x]:=by
    cases U with
    |nil=>simp at O
    |cons x t=>cases t with
     |nil=>exact⟨x,rfl⟩
     |cons y t=>simp at O
   have gx:giW l P.length=x:=by
    have:=X 0 x (by rw[D]; rfl);exact this
   obtain⟨s,s1,s2,s3,s4,s5⟩:=acy (f:=fun(v:Int×Int) E=>Ā rec (P.length:Int) l m.1.1.1 m.1.1.2 m.1.2.1 m.1.2.2.1 m.1.2.2.2.1 m.1.2.2.2.2.1 m.1.2.2.2.2.2 m.2 v.1 v.2 (fun x y=>E (x,y)) (fun Y=>Ë (fun(v:Int×CK Way) E=>ô rec Y v.1 v.2 (fun x y=>E (x,y)) (fun d=>some (d,m))) ((P.length:Int),l)))
    (K:=fun Y=>Ë (fun(v:Int×CK Way) E=>ô rec Y v.1 v.2 (fun x y=>E (x,y)) (fun d=>some (d,m))) ((P.length:Int),l)) (lo:=P.length+U.length) (hi:=P.length+U.length+V.length) (by omega)
    (fun h=>ě m (giW l h)<ě m (giW l P.length)) (fun c c' o g Z q4=>by have:=kV c c' o g Z; omega)
    (fun i j o g Z kn=>anp rec g (by omega) (by omega) (by omega) (kW _ (cX _) (by omega)) (kW _ (by omega) (by omega)) _ _)
    (fun i o g kn=>by
     dsimp only;unfold Ā
     rw[Ì (decide_eq_false (by omega))])
   refine s5.trans ?_
   have hk:s-(P.length+U.length)<=V.length:=by omega
   obtain⟨k,hkk⟩:∃k,k=s-(P.length+U.length):=⟨_,rfl⟩;rw[<-hkk] at hk
   have lt:(V.take k).length=k:=by simp; omega
   have hB:∀y∈V.take k,ě m y<ě m x:=fun y r=>by
    obtain⟨j,j1,j2,H⟩:=tx r;have:=s3 (P.length+U.length+j) (by omega) (by omega);rw[W j y H,gx] at this;exact this
   have hD:∀y∈V.drop k,ě m x<=ě m y:=fun y r=>by
    obtain⟨j,j1,j2,H⟩:=tz r;have:=s4 (P.length+U.length+j) (by omega) (by omega);rw[W j y H,gx] at this;omega
   have I:V=V.take k++V.drop k:=(ew _ _).symm
   have fin:Ĺ (ě m) (U++V)=V.take k++x::V.drop k:=by
    rw[I] at sV;obtain⟨v1,v2,v3⟩:=sV.parts;refine yo ?_ ?_
    ·refine v1.append (List.Pairwise.cons hD v2) fun y r z hz=>?_;rcases df.1 hz with rfl|hz
     ·have:=hB y r; omega
     ·exact v3 y r z hz
    ·have:=(Stb.swap (key:=ě m) (u:=[x]) (v:=V.take k) (fun a ha b hb=>by simp at ha; subst ha; have:=hB b hb; omega)).append (Stb.refl (V.drop k));rw[D]
     have e:[x]++V.take k++V.drop k=[x]++V:=by rw[dg,<-I]
     rw[e] at this;simpa using this
   have hs:(s:Int)=((P.length+(V.take k).length+1:Nat):Int):=by rw[lt]; omega
   have:=afr rec (P:=P) (B:=V.take k) (C:=V.drop k++Q) (x:=x) hs (by rw[lt]; omega) (fun d=>some (d,m))
   have R:l=P++(x::(V.take k++(V.drop k++Q))):=by
    rw[F,D,<-dg (V.take k),<-I];rfl
   rw[<-R] at this;refine this.trans ?_;rw[fin];simp
  rw[Ì (beq_eq_false_iff_ne.2 (fun h=>O (by exact_mod_cast h)))]
  by_cases J:V.length=1
  ·rw[Ð (beq_iff_eq.2 (by rw[J]; rfl))]
   obtain⟨x,D⟩:∃x,V=[x]:=by
    cases V with
    |nil=>simp at J
    |cons x t=>cases t with
     |nil=>exact⟨x,rfl⟩
     |cons y t=>simp at J
   have gx:giW l (P.length+U.length)=x:=by
    have:=W 0 x (by rw[D]; rfl);exact this
   obtain⟨s,s1,s2,s3,s4,s5⟩:=acy (f:=fun(v:Int×Int) E=>ÿ rec ((P.length+U.length:Nat):Int) l m.1.1.1 m.1.1.2 m.1.2.1 m.1.2.2.1 m.1.2.2.2.1 m.1.2.2.2.2.1 m.1.2.2.2.2.2 m.2 v.1 v.2 (fun x y=>E (x,y)) (fun Y=>Ë (fun(v:Int×CK Way) E=>ó rec Y v.1 v.2 (fun x y=>E (x,y)) (fun d=>some (d,m))) (((P.length+U.length:Nat):Int),l)))
    (K:=fun Y=>Ë (fun(v:Int×CK Way) E=>ó rec Y v.1 v.2 (fun x y=>E (x,y)) (fun d=>some (d,m))) (((P.length+U.length:Nat):Int),l)) (lo:=P.length) (hi:=P.length+U.length) (by omega)
    (fun h=>ě m (giW l (P.length+U.length))>=ě m (giW l h)) (fun c c' o g Z q4=>by have:=kU c c' o g Z; omega)
    (fun i j o g Z kn=>ano rec g (by omega) (by omega) (by omega) (kW _ (by omega) (by omega)) (kW _ (by omega) (by omega)) _ _)
    (fun i o g kn=>by
     dsimp only;unfold ÿ
     rw[Ì (decide_eq_false (by omega))])
   refine s5.trans ?_;obtain⟨k,hkk⟩:∃k,k=s-P.length:=⟨_,rfl⟩
   have hk:k<=U.length:=by omega
   have lt:(U.take k).length=k:=by simp; omega
   have hB:∀y∈U.take k,ě m y<=ě m x:=fun y r=>by
    obtain⟨j,j1,j2,H⟩:=tx r;have:=s3 (P.length+j) (by omega) (by omega);rw[X j y H,gx] at this;exact this
   have hD:∀y∈U.drop k,ě m x<ě m y:=fun y r=>by
    obtain⟨j,j1,j2,H⟩:=tz r;have:=s4 (P.length+j) (by omega) (by omega);rw[X j y H,gx] at this;omega
   have I:U=U.take k++U.drop k:=(ew _ _).symm
   have fin:Ĺ (ě m) (U++V)=U.take k++x::U.drop k:=by
    rw[I] at sU;obtain⟨v1,v2,v3⟩:=sU.parts;refine yo ?_ ?_
    ·refine v1.append (List.Pairwise.cons (fun y r=>by have:=hD y r; omega) v2) fun y r z hz=>?_;rcases df.1 hz with rfl|hz
     ·exact hB y r
     ·exact v3 y r z hz
    ·have:=(Stb.refl (key:=ě m) (U.take k)).append (Stb.swap (key:=ě m) (u:=U.drop k) (v:=[x]) (fun a ha b hb=>by simp at hb; subst hb; have:=hD a ha; omega));rw[D]
     have e:U.take k++(U.drop k++[x])=U++[x]:=by rw[<-dg,<-I]
     rw[e] at this;simpa using this
   have hs:(s:Int)=((P++U.take k).length:Int):=by rw[cZ,lt]; omega
   have ld:(U.drop k).length=U.length-k:=by simp
   have:=ah3 rec (P:=P++U.take k) (B:=U.drop k) (C:=Q) (x:=x) hs (by rw[cZ,lt,ld]; omega) (fun d=>some (d,m))
   have R:l=(P++U.take k)++(U.drop k++x::Q):=by
    rw[F,D,dg,<-dg (U.take k),<-I];rfl
   rw[<-R,show(((P++U.take k).length+(U.drop k).length:Nat):Int)=((P.length+U.length:Nat):Int) by rw[cZ,lt,ld]; omega] at this;refine this.trans ?_;rw[fin];simp
  rw[Ì (beq_eq_false_iff_ne.2 (fun h=>J (by exact_mod_cast h))),Ï (by omega) (by omega),half];obtain⟨mid,hmid⟩:∃mid,mid=(P.length+(P.length+U.length+V.length)) / 2:=⟨_,rfl⟩;rw[<-hmid,Ï (by omega) (by omega)]
  have hm1:P.length<=mid:=by omega
  have hm2:mid<=P.length+U.length+V.length:=by omega
  -- the search, and what is behind it
  have gen:∀lo hi:Nat,P.length<=lo->lo<=hi->hi<=P.length+U.length->hi<=mid->mid+(P.length+U.length)<=lo+(P.length+U.length+V.length)->(hi=P.length+U.length\/hi=mid)->(lo=P.length\/lo+(P.length+U.length+V.length)=mid+(P.length+U.length)) ->
   Ë (fun(v:Int×Int) E=>ã rec (((mid+(P.length+U.length)-1:Nat)):Int) l m.1.1.1 m.1.1.2 m.1.2.1 m.1.2.2.1 m.1.2.2.2.1 m.1.2.2.2.2.1 m.1.2.2.2.2.2 m.2 v.1 v.2 (fun x y=>E (x,y)) (anh rec l (P.length:Int) ((P.length+U.length:Nat):Int) ((P.length+U.length+V.length:Nat):Int) (mid:Int) ((mid:Int)+((P.length+U.length:Nat):Int)) m some)) ((lo:Int),(hi:Int))=some (P++(Ĺ (ě m) (U++V)++Q),m):=by
   intro lo hi h1 h2 h3 h4 h5 h6 h7
   have hmu:mid<P.length+U.length+V.length:=by omega
   obtain⟨s,s1,s2,s3,s4,s5⟩:=acy (f:=fun(v:Int×Int) E=>ã rec (((mid+(P.length+U.length)-1:Nat)):Int) l m.1.1.1 m.1.1.2 m.1.2.1 m.1.2.2.1 m.1.2.2.2.1 m.1.2.2.2.2.1 m.1.2.2.2.2.2 m.2 v.1 v.2 (fun x y=>E (x,y)) (anh rec l (P.length:Int) ((P.length+U.length:Nat):Int) ((P.length+U.length+V.length:Nat):Int) (mid:Int) ((mid:Int)+((P.length+U.length:Nat):Int)) m some))
    (K:=anh rec l (P.length:Int) ((P.length+U.length:Nat):Int) ((P.length+U.length+V.length:Nat):Int) (mid:Int) ((mid:Int)+((P.length+U.length:Nat):Int)) m some) (lo:=lo) (hi:=hi) h2
    (fun h=>ě m (giW l (mid+(P.length+U.length)-1-h))>=ě m (giW l h)) (fun c c' o g Z q4=>by
     have a1:=kU c c' (by omega) g (by omega);have a2:=kV (mid+(P.length+U.length)-1-c') (mid+(P.length+U.length)-1-c) (by omega) (by omega) (by omega)
     omega)
    (fun i j o g Z kn=>ann rec g (by omega) (by omega) (by omega) (by omega) (by omega) (kW _ (by omega) (by omega)) (kW _ (by omega) (by omega)) _ _)
    (fun i o g kn=>by
     dsimp only;unfold ã
     rw[Ì (decide_eq_false (by omega))])
   refine s5.trans ?_;obtain⟨e,he⟩:∃e,e=mid+(P.length+U.length)-s:=⟨_,rfl⟩
   have lu1:(U.take (s-P.length)).length=s-P.length:=by simp; omega
   have lu2:(U.drop (s-P.length)).length=P.length+U.length-s:=by simp; omega
   have lv1:(V.take (e-(P.length+U.length))).length=e-(P.length+U.length):=by simp; omega
   have lv2:(V.drop (e-(P.length+U.length))).length=P.length+U.length+V.length-e:=by simp; omega
   have hu:U=U.take (s-P.length)++U.drop (s-P.length):=(ew _ _).symm;have I:V=V.take (e-(P.length+U.length))++V.drop (e-(P.length+U.length)):=(ew _ _).symm
   have F1:∀x∈U.drop (s-P.length),∀y∈V.take (e-(P.length+U.length)),ě m y<ě m x:=fun x D y r=>by
    obtain⟨i,i1,i2,i3⟩:=tz D;obtain⟨j,j1,j2,H⟩:=tx r;have q:=s4 s (cX _) (by omega);rw[show mid+(P.length+U.length)-1-s=e-1 by omega] at q;have a1:=kV (P.length+U.length+j) (e-1) (by omega) (by omega) (by omega);have a2:=kU s (P.length+i) (by omega) (by omega) (by omega);rw[W j y H] at a1;rw[X i x i3] at a2;omega
   have F2:∀x∈U.take (s-P.length),∀y∈V.drop (e-(P.length+U.length)),ě m x<=ě m y:=fun x D y r=>by
    obtain⟨i,i1,i2,i3⟩:=tx D;obtain⟨j,j1,j2,H⟩:=tz r;have q:=s3 (s-1) (by omega) (by omega);rw[show mid+(P.length+U.length)-1-(s-1)=e by omega] at q;have a1:=kV e (P.length+U.length+j) (by omega) (by omega) (by omega);have a2:=kU (P.length+i) (s-1) (by omega) (by omega) (by omega);rw[W j y H] at a1;rw[X i x i3] at a2;omega
   have hW':WOk m ((U.take (s-P.length)++U.drop (s-P.length))++(V.take (e-(P.length+U.length))++V.drop (e-(P.length+U.length)))):=by rw[<-hu,<-I]; exact hW
   have:=akQ T (P:=P) (u1:=U.take (s-P.length)) (u2:=U.drop (s-P.length)) (v1:=V.take (e-(P.length+U.length))) (v2:=V.drop (e-(P.length+U.length))) (Q:=Q) (by omega) (by omega) (by rw[<-hu]; exact sU) (by rw[<-I]; exact sV) F1 F2 hW' (by omega)
    (a:=(P.length:Int)) (c:=((P.length+U.length:Nat):Int)) (b:=((P.length+U.length+V.length:Nat):Int)) (mid:=(mid:Int)) (n:=(mid:Int)+((P.length+U.length:Nat):Int)) (z:=(s:Int)) rfl (by omega) (by omega) (by omega) (by omega) (by omega)
   rw[<-hu,<-I,<-F] at this;exact this
  by_cases hgt:mid<P.length+U.length
  ·rw[Ð (decide_eq_true (by omega)),Ï (by omega) (by omega),Ï (by omega) (by omega)];have:=gen (mid+(P.length+U.length)-(P.length+U.length+V.length)) mid (by omega) (by omega) (by omega) (cX _) (by omega) (.inr rfl) (.inr (by omega));rw[show((mid+(P.length+U.length)-1:Nat):Int)=(mid:Int)+((P.length+U.length:Nat):Int)-1 by omega,show((mid+(P.length+U.length)-(P.length+U.length+V.length):Nat):Int)=(mid:Int)+((P.length+U.length:Nat):Int)-((P.length+U.length+V.length:Nat):Int) by omega] at this;exact this
  ·rw[Ì (decide_eq_false (by omega)),Ï (by omega) (by omega)];have:=gen P.length (P.length+U.length) (cX _) (by omega) (cX _) (by omega) (by omega) (.inl rfl) (.inl rfl);rw[show((mid+(P.length+U.length)-1:Nat):Int)=(mid:Int)+((P.length+U.length:Nat):Int)-1 by omega] at this;exact this
def Nf {P U V Q:CK Way} (g:1<=U.length) (f:1<=V.length) (c:Srt (ě m) U) (a:Srt (ě m) V) (e:WOk m (U++V)) (d:P.length+U.length+V.length<=1000000) :
 Ě (P++(U++(V++Q))) P.length ((P.length+U.length:Nat):Int) ((P.length+U.length+V.length:Nat):Int) m=some (P++(Ĺ (ě m) (U++V)++Q),m) :=
 Kw 99 1000000 (by decide) P U V Q g f (by omega) c a e d
end
section
variable {ρ:Type} {m:Ň}
inductive Chs (m:Ň) (bs:Nat):List Way->Prop
 |last {l:List Way}:l.length<=bs->Srt (ě m) l->Chs m bs l
 |cons {u r:List Way}:u.length=bs->Srt (ě m) u->Chs m bs r->Chs m bs (u++r)
def Chs.split {bs:Nat} {l:CK Way} (h:Chs m bs l) (d:bs<l.length):∃u r,l=u++r/\u.length=bs/\Srt (ě m) u/\Chs m bs r:=by
 cases h with
 |last a h2=>omega
 | @cons u r a h2 c=>exact⟨u,r,rfl,a,h2,c⟩
def Chs.srt {bs:Nat} {l:CK Way} (h:Chs m bs l) (a:l.length<=bs):Srt (ě m) l:=by
 cases h with
 |last c h2=>exact h2
 | @cons u r c h2 d =>
  have:r=[]:=by
   rw[cZ] at a;exact dD.1 (by omega)
  rw[this,dt];exact h2
def csR (m:Ň) (bs:Nat):Nat->CK Way->CK Way
 |0,l=>l
 |f+1,l=>if bs<=l.length then Ĺ (ě m) (l.take bs)++csR m bs f (l.drop bs) else Ĺ (ě m) l
def mpR (m:Ň) (bs:Nat):Nat->CK Way->CK Way
 |0,l=>l
 |f+1,l=>if 2*bs<=l.length then Ĺ (ě m) (l.take (2*bs))++mpR m bs f (l.drop (2*bs)) else if bs<l.length then Ĺ (ě m) l else l
def amW {bs:Nat} (hb:1<=bs):∀(f:Nat) (l:CK Way),l.length<f->Chs m bs (csR m bs f l)/\Stb (ě m) l (csR m bs f l)
 |0,_,h=>by omega
 |f+1,l,h=>by
  unfold csR
  by_cases a:bs<=l.length
  ·rw[if_pos a];obtain⟨c,h2⟩:=amW hb f (l.drop bs) (by simp; omega);refine⟨.cons (by rw[sv]; simp; omega) (lN _) c,?_⟩;have:=(Ő (key:=ě m) (l.take bs)).append h2
   rwa [ew] at this
  ·rw[if_neg a];exact⟨.last (by rw[sv]; omega) (lN _),Ő _⟩
def amL {bs:Nat} (hb:1<=bs):∀(f:Nat) (l:CK Way),l.length<f->Chs m bs l->Chs m (2*bs) (mpR m bs f l)/\Stb (ě m) l (mpR m bs f l)
 |0,_,h,_=>by omega
 |f+1,l,h,c=>by
  unfold mpR
  by_cases a:2*bs<=l.length
  ·rw[if_pos a]
   have hd:Chs m bs (l.drop (2*bs)):=by
    obtain⟨u,r,rfl,g,_,h2⟩:=c.split (by omega)
    have i:bs<=r.length:=by rw[cZ] at a; omega
    have e:(u++r).drop (2*bs)=r.drop bs:=by
     rw[List.drop_append,gD (by omega),d8];congr 1; omega
    rw[e];rcases gB i with d|d
    ·obtain⟨u2,r2,rfl,n,_,j⟩:=h2.split d;rw[List.drop_append,gD (by omega),d8,n,Nat.sub_self,g8];exact j
    ·rw[gD (by omega)];exact .last (by simp) List.Pairwise.nil
   obtain⟨g,h2⟩:=amL hb f (l.drop (2*bs)) (by simp; omega) hd;refine⟨.cons (by rw[sv]; simp; omega) (lN _) g,?_⟩;have:=(Ő (key:=ě m) (l.take (2*bs))).append h2
   rwa [ew] at this
  ·rw[if_neg a]
   by_cases h2:bs<l.length
   ·rw[if_pos h2];exact⟨.last (by rw[sv]; omega) (lN _),Ő _⟩
   ·rw[if_neg h2];exact⟨.last (by omega) (c.srt (by omega)),Stb.refl _⟩
abbrev StT:=Int×Int×CK Way×Int×Int×CK pc×CK bx×CK u6×CK io×CK bx×CK f4
def stM (a b:Int) (l:CK Way) (m:Ň):StT:=(a,b,l,m.1.1.1,m.1.1.2,m.1.2.1,m.1.2.2.1,m.1.2.2.2.1,m.1.2.2.2.2.1,m.1.2.2.2.2.2,m.2)
def WOk.stb {l s:CK Way} (h:WOk m l) (c:Stb (ě m) l s):WOk m s:=fun x a=>h x (c.mem.1 a)
def ank {xs:CK Way} (J:WOk m xs) (T:xs.length<=100000) (K:CK Way×Ň->BY ρ) :
 Ë (fun(v:StT) H=>iM (xs.length:Int) (20:Int) v.1 v.2.1 v.2.2.1 v.2.2.2.1 v.2.2.2.2.1 v.2.2.2.2.2.1 v.2.2.2.2.2.2.1 v.2.2.2.2.2.2.2.1 v.2.2.2.2.2.2.2.2.1 v.2.2.2.2.2.2.2.2.2.1 v.2.2.2.2.2.2.2.2.2.2 (fun z y u s r o n l j i e=>H (z,y,u,s,r,o,n,l,j,i,e))
  (fun a=>Å (ê a.2.1 a.1 (xs.length:Int) (((a.2.2.1,a.2.2.2.1),a.2.2.2.2.1,a.2.2.2.2.2.1,a.2.2.2.2.2.2.1,a.2.2.2.2.2.2.2.1,a.2.2.2.2.2.2.2.2.1),a.2.2.2.2.2.2.2.2.2)) fun C=>K C)) (stM 0 20 xs m)=K (csR m 20 (xs.length+1) xs,m):=by
 refine ï (fun v:StT=>∃(A R:CK Way) (f:Nat),v=stM (A.length:Int) ((A.length+20:Nat):Int) (A++R) m/\A++csR m 20 f R=csR m 20 (xs.length+1) xs/\R.length<f/\A.length+R.length=xs.length/\WOk m R) (fun v=>(xs.length+100)-v.1.toNat) ?_ ⟨[],xs,xs.length+1,rfl,rfl,by omega,by simp,J⟩;rintro v ⟨A,R,f,rfl,d,U,I,c⟩;obtain⟨f,rfl⟩:∃g,f=g+1:=⟨f-1,by omega⟩
 have O:csR m 20 (f+1) R=if 20<=R.length then Ĺ (ě m) (R.take 20)++csR m 20 f (R.drop 20) else Ĺ (ě m) R:=rfl
 rw[O] at d
 by_cases h:20<=R.length
 ·have lt:(R.take 20).length=20:=by simp; omega
  have D:(Ĺ (ě m) (R.take 20)).length=20:=by rw[sv,lt]
  refine .inr ⟨stM (((A++Ĺ (ě m) (R.take 20)).length:Nat):Int) (((A++Ĺ (ě m) (R.take 20)).length+20:Nat):Int) ((A++Ĺ (ě m) (R.take 20))++R.drop 20) m,⟨_,_,f,rfl,?_,by simp; omega,by rw[cZ,D]; simp; omega,c.sub fun x E=>List.mem_of_mem_drop E⟩,by simp only[stM,cZ,D]; omega,fun F=>?_⟩
  ·rw[if_pos h] at d;rw[dg];exact d
  ·show ifb (ile ((A.length+20:Nat):Int) (xs.length:Int)) (Å (ê (A++R) (A.length:Int) ((A.length+20:Nat):Int) m) fun r1=>ck (((A.length+20:Nat):Int)+(20:Int)) fun G=>F (stM ((A.length+20:Nat):Int) G r1.1 r1.2)) _=_;have:=K7 (m:=m) (P:=A) (M:=R.take 20) (Q:=R.drop 20) (c.sub fun x E=>fM E) (by omega);rw[ew,lt] at this;rw[Ð (decide_eq_true (by omega)),this,À,Ï (by omega) (by omega)];congr 1;rw[cZ,D,dg];rfl
 ·refine .inl fun F=>?_;show ifb (ile ((A.length+20:Nat):Int) (xs.length:Int)) _ (Å (ê (A++R) (A.length:Int) (xs.length:Int) m) fun C=>K C)=_;have:=K7 (m:=m) (P:=A) (M:=R) (Q:=[]) c (by omega);rw[dt,I] at this;rw[Ì (decide_eq_false (by omega)),this,À];rw[if_neg h] at d;rw[<-d,dt]
def anj {xs:CK Way} {bs:Nat} (hb:1<=bs) (hb2:bs<=200000) (hc:Chs m bs xs) (hW:WOk m xs) (hn:xs.length<=100000) (K:CK Way×Ň->BY ρ) :
 Ë (fun(v:StT) kk=>iK (xs.length:Int) (bs:Int) v.1 v.2.1 v.2.2.1 v.2.2.2.1 v.2.2.2.2.1 v.2.2.2.2.2.1 v.2.2.2.2.2.2.1 v.2.2.2.2.2.2.2.1 v.2.2.2.2.2.2.2.2.1 v.2.2.2.2.2.2.2.2.2.1 v.2.2.2.2.2.2.2.2.2.2 (fun J I H G F E D C z y s=>kk (J,I,H,G,F,E,D,C,z,y,s))
  (fun a=>ck (a.1+(bs:Int)) fun c=>ifb (ilt c (xs.length:Int)) (Å (Ě a.2.1 a.1 c (xs.length:Int) (((a.2.2.1,a.2.2.2.1),a.2.2.2.2.1,a.2.2.2.2.2.1,a.2.2.2.2.2.2.1,a.2.2.2.2.2.2.2.1,a.2.2.2.2.2.2.2.2.1),a.2.2.2.2.2.2.2.2.2)) fun e=>K e) (K (a.2.1,(((a.2.2.1,a.2.2.2.1),a.2.2.2.2.1,a.2.2.2.2.2.1,a.2.2.2.2.2.2.1,a.2.2.2.2.2.2.2.1,a.2.2.2.2.2.2.2.2.1),a.2.2.2.2.2.2.2.2.2))))) (stM 0 ((2*bs:Nat):Int) xs m)=K (mpR m bs (xs.length+1) xs,m):=by
 refine ï (fun v:StT=>∃(A R:CK Way) (f:Nat),v=stM (A.length:Int) ((A.length+2*bs:Nat):Int) (A++R) m/\A++mpR m bs f R=mpR m bs (xs.length+1) xs/\R.length<f/\A.length+R.length=xs.length/\WOk m R/\Chs m bs R) (fun v=>(xs.length+1000000)-v.1.toNat) ?_ ⟨[],xs,xs.length+1,by simp[stM],rfl,by omega,by simp,hW,hc⟩;rintro v ⟨A,R,f,rfl,d,hf,n,i,l⟩;obtain⟨f,rfl⟩:∃g,f=g+1:=⟨f-1,by omega⟩
 have e0:mpR m bs (f+1) R=if 2*bs<=R.length then Ĺ (ě m) (R.take (2*bs))++mpR m bs f (R.drop (2*bs)) else if bs<R.length then Ĺ (ě m) R else R:=rfl
 rw[e0] at d
 by_cases h:2*bs<=R.length
 ·obtain⟨u,r,rfl,Y,h2,o⟩:=l.split (by omega)
  have hr:bs<=r.length:=by rw[cZ] at h; omega
  -- the second block
  obtain⟨u2,r2,rfl,T,h5,h6⟩:∃u2 r2,r=u2++r2/\u2.length=bs/\Srt (ě m) u2/\Chs m bs r2:=by
   rcases gB hr with q|q
   ·exact o.split q
   ·exact⟨r,[],by simp,q.symm,o.srt (by omega),.last (by simp) List.Pairwise.nil⟩
  have e1:(u++(u2++r2)).take (2*bs)=u++u2:=by
   rw[<-dg,fR (by simp; omega),dY (by simp; omega)]
  have e2:(u++(u2++r2)).drop (2*bs)=r2:=by
   rw[<-dg,List.drop_append,gD (by simp; omega),d8];rw[show 2*bs-(u++u2).length=0 by simp; omega];rfl
  have O:(Ĺ (ě m) (u++u2)).length=2*bs:=by rw[sv]; simp; omega
  rw[if_pos h,e1,e2] at d;refine .inr ⟨stM (((A++Ĺ (ě m) (u++u2)).length:Nat):Int) (((A++Ĺ (ě m) (u++u2)).length+2*bs:Nat):Int) ((A++Ĺ (ě m) (u++u2))++r2) m,⟨_,_,f,rfl,by rw[dg]; exact d,by simp at hf; omega,by rw[cZ,O]; simp at n; omega,i.sub fun x j=>by simp[j],h6⟩,by simp only[stM,cZ,O]; omega,fun X=>?_⟩;show ifb (ile ((A.length+2*bs:Nat):Int) (xs.length:Int)) (ck ((A.length:Int)+(bs:Int)) fun n6=>Å (Ě (A++(u++(u2++r2))) (A.length:Int) n6 ((A.length+2*bs:Nat):Int) m) fun W=>ck ((2:Int)*(bs:Int)) fun n8=>ck (((A.length+2*bs:Nat):Int)+n8) fun Z=>X (stM ((A.length+2*bs:Nat):Int) Z W.1 W.2)) _=_
  have:=Nf (m:=m) (P:=A) (U:=u) (V:=u2) (Q:=r2) (by omega) (by omega) h2 h5 (i.sub fun x j=>by rcases de.1 j with j|j<;>simp[j]) (by omega)
  rw[Y,T] at this;rw[List.length_append,List.length_append] at n;rw[Ð (decide_eq_true (by omega)),Ï (by omega) (by omega),show(A.length:Int)+(bs:Int)=((A.length+bs:Nat):Int) by omega,show((A.length+2*bs:Nat):Int)=((A.length+bs+bs:Nat):Int) by omega,this,À,Ï (by omega) (by omega),Ï (by omega) (by omega)];congr 1;unfold stM;rw[List.length_append,O,List.append_assoc];refine Prod.ext (by dsimp only; omega) (Prod.ext (by dsimp only; omega) rfl)
 ·refine .inl fun X=>?_;rw[if_neg h] at d;show ifb (ile ((A.length+2*bs:Nat):Int) (xs.length:Int)) _ (ck ((A.length:Int)+(bs:Int)) fun c=>ifb (ilt c (xs.length:Int)) (Å (Ě (A++R) (A.length:Int) c (xs.length:Int) m) fun e=>K e) (K (A++R,m)))=_;rw[Ì (decide_eq_false (by omega)),Ï (by omega) (by omega)]
  by_cases h2:bs<R.length
  ·rw[if_pos h2] at d;obtain⟨u,r,rfl,Y,o,T⟩:=l.split h2;have:=Nf (m:=m) (P:=A) (U:=u) (V:=r) (Q:=[]) (by omega) (by rw[cZ] at h2; omega) o (T.srt (by rw[cZ] at h; omega)) i (by rw[cZ] at n; omega);rw[dt,dt,show A.length+u.length+r.length=xs.length by rw[cZ] at n; omega] at this;rw[Ð (decide_eq_true (by omega)),show(A.length:Int)+(bs:Int)=((A.length+u.length:Nat):Int) by omega,this,À,d]
  ·rw[if_neg h2] at d;rw[Ì (decide_eq_false (by omega)),d]
abbrev StQ:=Int×CK Way×Int×Int×CK pc×CK bx×CK u6×CK io×CK bx×CK f4
def stQ (b:Int) (l:CK Way) (m:Ň):StQ:=(b,l,m.1.1.1,m.1.1.2,m.1.2.1,m.1.2.2.1,m.1.2.2.2.1,m.1.2.2.2.2.1,m.1.2.2.2.2.2,m.2)
def ahe {xs:CK Way} (I:WOk m xs) (J:xs.length<=100000):Ļ xs (xs.length:Int) m=some (Ĺ (ě m) xs,m):=by
 unfold Ļ jX;refine(ank I J (fun F=>Ë (fun(a:StQ) d=>iL (xs.length:Int) a.1 a.2.1 a.2.2.1 a.2.2.2.1 a.2.2.2.2.1 a.2.2.2.2.2.1 a.2.2.2.2.2.2.1 a.2.2.2.2.2.2.2.1 a.2.2.2.2.2.2.2.2.1 a.2.2.2.2.2.2.2.2.2 (fun z y u s o n j i g f=>d (z,y,u,s,o,n,j,i,g,f)) (fun c=>some (c.1,(((c.2.1,c.2.2.1),c.2.2.2.1,c.2.2.2.2.1,c.2.2.2.2.2.1,c.2.2.2.2.2.2.1,c.2.2.2.2.2.2.2.1),c.2.2.2.2.2.2.2.2)))) (stQ (20:Int) F.1 F.2))).trans ?_;obtain⟨Q,P⟩:=amW (m:=m) (bs:=20) (by omega) (xs.length+1) xs (by omega);refine ï (fun v:StQ=>∃(bs:Nat) (l:CK Way),1<=bs/\bs<=200000/\v=stQ (bs:Int) l m/\Chs m bs l/\Stb (ě m) xs l) (fun v=>400000-v.1.toNat) ?_ ⟨20,_,by omega,by omega,rfl,Q,P⟩;rintro v ⟨bs,l,hb,E,rfl,D,e⟩;have H:=e.length
 by_cases h:bs<xs.length
 ·obtain⟨O,K⟩:=amL hb (l.length+1) l (by omega) D;refine .inr ⟨stQ ((2*bs:Nat):Int) (mpR m bs (l.length+1) l) m,⟨2*bs,_,by omega,by omega,rfl,O,e.trans K⟩,by simp only[stQ]; omega,fun G=>?_⟩;have:=anj (m:=m) (xs:=l) hb E D (I.stb e) (by omega) (fun r=>ck ((bs:Int)*(2:Int)) fun C=>G (stQ C r.1 r.2));rw[H] at this;show ifb (ilt (bs:Int) (xs.length:Int)) (ck ((2:Int)*(bs:Int)) fun R=>_) _=_;rw[Ð (decide_eq_true (by omega)),Ï (by omega) (by omega),show(2:Int)*(bs:Int)=((2*bs:Nat):Int) by push_cast; rfl];rw[H];refine dJ ?_ (this.trans ?_)
  ·rfl
  ·rw[Ï (by omega) (by omega)];congr 2;omega
 ·refine .inl fun G=>?_;show ifb (ilt (bs:Int) (xs.length:Int)) _ (some (l,m))=_;rw[Ì (decide_eq_false (by omega)),yo (D.srt (by omega)) e]
end
abbrev Mx:=Int×CK Int
def ĵ:CK Mx->Way->Prop
 |[],[]=>True
 |m::ms,l::ls=>l.Perm m.2/\ĵ ms ls
 |_,_=>False
def ĵ.len:∀{ms:CK Mx} {w:Way},ĵ ms w->w.length=ms.length
 |[],[],_=>rfl
 |m::ms,l::ls,h=>by simp[h.2.len]
def ĵ.at:∀{ms:CK Mx} {w:Way} {i:Nat} {m:Mx},ĵ ms w->ms[i]?=some m->∃l,w[i]?=some l/\l.Perm m.2
 |[],_,i,_,_,h=>by simp at h
 |m::ms,l::ls,0,x,h,a=>by
  simp at a; subst a;exact⟨l,rfl,h.1⟩
 |m::ms,l::ls,i+1,x,h,a=>by
  simp only[eQ] at a ⊢;exact h.2.at a
def stp (d:Int) (m:Mx) (l:CK Int) (x:Int):Int :=
 if m.1<d then match l.findIdx? (·==x) with|some k=>m.2.getD k 0|none=>x else x
def iY:CK Mx->Way->Int->Int->Int
 |m::ms,l::ls,x,d=>stp d m l (iY ms ls x d)
 |_,_,x,_=>x
def acM {ms:CK Mx} {w:Way} {i:Nat} {m:Mx} {l:CK Int} (a:ms[i]?=some m) (c:w[i]?=some l) (x d:Int):iY (ms.drop i) (w.drop i) x d=stp d m l (iY (ms.drop (i+1)) (w.drop (i+1)) x d):=by
 obtain⟨e,rfl⟩:=cY.1 a;obtain⟨h2,rfl⟩:=cY.1 c;rw[dT e,dT h2,iY]
def who_ok {m:Ň} {w:Way} (h:ĵ m.2 w) (C:m.2.length<=1000) (r:∀x∈m.2,x.2.length<=1000) (x d:Int):vr m w x d=some (iY m.2 w x d):=by
 unfold vr ah8;rw[Î,Ï (by omega) (by omega)];refine ï (fun s:Int×Int=>∃i:Nat,i<=m.2.length/\s.2=(i:Int)-1/\s.1=iY (m.2.drop i) (w.drop i) x d) (fun s=>(s.2+1).toNat) ?_ ⟨m.2.length,Nat.le_refl _,rfl,?_⟩
 ·rintro⟨z,v⟩ ⟨i,hi,g,h2⟩;simp only at g h2;subst g h2
  cases i with
  |zero =>
   refine .inl fun n=>?_
   try dsimp only
   unfold B8;rw[Ì (by simp[ige])]; rfl
  |succ i =>
   obtain⟨y,a⟩:∃y,m.2[i]?=some y:=⟨_,cV hi⟩;obtain⟨l,c,e⟩:=h.at a
   have o:l.length<=1000:=by rw[e.length_eq]; exact r y (dc a)
   have j:((i+1:Nat):Int)-1=i:=by omega
   refine .inr ⟨(iY (m.2.drop i) (w.drop i) x d,(i:Int)-1),⟨i,by omega,rfl,rfl⟩,by simp only[j]; omega,fun n=>?_⟩
   try dsimp only
   unfold B8;rw[j,Ð (by simp[ige]),Ã c,aa0 (by omega),À,acM a c];unfold stp
   cases u:l.findIdx? (·==iY (m.2.drop (i+1)) (w.drop (i+1)) x d) with
   |none =>
    dsimp only;rw[Ì (by simp[ige]),Ï (by omega) (by omega)]
    split<;>rfl
   |some k =>
    dsimp only;rw[Ð (by simp[ige]),Ã a]
    have f:k<y.2.length:=by rw[<-e.length_eq]; exact(dM.1 u).1
    by_cases hd:y.1<d
    ·rw[Ð (by simp[ilt,hd]),Ã a,Ã (cV f),Ï (by omega) (by omega),if_pos hd];rw[ej,cV f]; rfl
    ·rw[Ì (by simp[ilt,hd]),Ï (by omega) (by omega),if_neg hd]
 ·simp only[List.drop_length];rw[<-h.len,List.drop_length];unfold iY;rfl
def XF:CK Int->CK Int->Int
 |x::l,y::m=>(if y=x then 0 else 1)+XF l m
 |_,_=>0
def vv:CK Mx->Way->Int
 |m::ms,l::ls=>XF l m.2+vv ms ls
 |_,_=>0
def M9:∀{l m:CK Int} {k:Nat} {x y:Int},l[k]?=some x->m[k]?=some y->XF (l.take (k+1)) (m.take (k+1))=XF (l.take k) (m.take k)+if y=x then 0 else 1
 |[],_,_,_,_,h,_=>by simp at h
 |_::_,[],_,_,_,_,h=>by simp at h
 |a::l,b::m,0,x,y,c,h2=>by
  simp at c h2; subst c h2;simp[XF]
 |a::l,b::m,k+1,x,y,c,h2=>by
  simp only[eQ] at c h2;have:=M9 c h2;simp only[gq,XF,this]; omega
def M8:∀{ms:CK Mx} {w:Way} {k:Nat} {m:Mx} {l:CK Int},ms[k]?=some m->w[k]?=some l->vv (ms.take (k+1)) (w.take (k+1))=vv (ms.take k) (w.take k)+XF l m.2
 |[],_,_,_,_,h,_=>by simp at h
 |_::_,[],_,_,_,_,h=>by simp at h
 |a::l,b::m,0,x,y,c,h2=>by
  simp at c h2; subst c h2;simp[vv]
 |a::l,b::m,k+1,x,y,c,h2=>by
  simp only[eQ] at c h2;have:=M8 c h2;simp only[gq,vv,this]; omega
def Na:∀l m:CK Int,0<=XF l m/\XF l m<=m.length
 |[],m=>by simp[XF]
 |_::_,[]=>by simp[XF]
 |a::l,b::m=>by
  have:=Na l m;unfold XF;simp only[List.length_cons]
  split<;>omega
def agY {n:Nat}:∀{ms:CK Mx} {w:Way},(∀m∈ms,m.2.length<=n)->0<=vv ms w/\vv ms w<=(ms.length*n:Nat)
 |[],w,_=>by simp[vv]
 |m::ms,[],_=>by
  unfold vv; exact⟨Int.le_refl _,Int.natCast_nonneg _⟩
 |m::ms,l::ls,h=>by
  have d:=Na l m.2;have h2:=h m (by simp);have c:=agY (w:=ls) fun x a=>h x (List.mem_cons_of_mem _ a);unfold vv
  have:(m::ms).length*n=ms.length*n+n:=by rw[di,Nat.succ_mul]
  omega
def agX {n:Nat} {ms:CK Mx} (d:ms.length<=1000) (c:∀x∈ms,x.2.length<=1000) (w:Way) (i:Nat):0<=vv (ms.take i) w/\vv (ms.take i) w<=1000000:=by
 have e:=agY (n:=1000) (ms:=ms.take i) (w:=w) fun m a=>c m (fM a);have h2:(ms.take i).length*1000<=1000*1000:=dB _ (by rw[dk]; omega);omega
def agZ {m:Ň} {w:Way} (h:ĵ m.2 w) (G:m.2.length<=1000) (E:∀x∈m.2,x.2.length<=1000):ĺ m w=some (vv m.2 w):=by
 unfold ĺ TS;have f:=h.len;refine ï (fun s:Int×Int=>∃i:Nat,i<=w.length/\s.2=(i:Int)/\s.1=vv (m.2.take i) (w.take i)) (fun s=>w.length-s.2.toNat) ?_ ⟨0,Nat.zero_le _,rfl,by simp[vv]⟩;rintro⟨R,Q⟩ ⟨i,hi,g,h2⟩;simp only at g h2;subst g h2;rcases Nat.lt_or_ge i w.length with e|J
 ·obtain⟨y,j⟩:∃y,m.2[i]?=some y:=⟨_,cV (by omega)⟩;obtain⟨l,z,o⟩:=h.at j
  have H:l.length<=1000:=by rw[o.length_eq]; exact E y (dc j)
  refine .inr ⟨(vv (m.2.take (i+1)) (w.take (i+1)),(i:Int)+1),⟨i+1,e,by simp,rfl⟩,by simp only[dj]; omega,fun r=>?_⟩
  try dsimp only
  unfold qr;rw[Í e,Ã z];have hb:=agX (n:=0) G E (w.take i) i;refine ï (fun s:Int×Int=>∃k:Nat,k<=l.length/\s.2=(k:Int)/\s.1=vv (m.2.take i) (w.take i)+XF (l.take k) (y.2.take k)) (fun s=>l.length-s.2.toNat) ?_ ⟨0,Nat.zero_le _,rfl,by simp[XF]⟩;rintro⟨P,t2⟩ ⟨k,T,g,h2⟩;simp only at g h2;subst g h2;have O:=Na (l.take k) (y.2.take k)
  have K:(y.2.take k).length<=1000:=by rw[dk]; omega
  rcases dl k l.length with c|I
  ·obtain⟨u,D⟩:∃u,l[k]?=some u:=⟨_,cV c⟩;obtain⟨v,C⟩:∃v,y.2[k]?=some v:=⟨_,cV (by rw[<-o.length_eq]; exact c)⟩;refine .inr ⟨(vv (m.2.take i) (w.take i)+XF (l.take (k+1)) (y.2.take (k+1)),(k:Int)+1),⟨k+1,c,by simp,rfl⟩,by simp only[dj]; omega,fun r=>?_⟩
   try dsimp only
   unfold qq;rw[Í c,Ã D,Ã j,Ã C,M9 D C]
   by_cases a:v=u
   ·rw[Ì (by simp[ine,a]),Ï (by omega) (by omega),if_pos a]; simp
   ·rw[Ð (by simp[ine,a]),Ï (by omega) (by omega),Ï (by omega) (by omega),if_neg a,Int.add_assoc]
  ·refine .inl fun F=>?_
   have d:k=l.length:=by omega
   subst d
   try dsimp only
   unfold qq;rw[Ô];dsimp only;rw[Ï (by omega) (by omega),M8 j z,List.take_length,o.length_eq,List.take_length]
 ·refine .inl fun r=>?_
  have d:i=w.length:=by omega
  subst d
  try dsimp only
  unfold qr;rw[Ô,List.take_length,f,List.take_length]
def afR (a:Int):CK Int->CK Int
 |[]=>[a]
 |b::t=>if a<=b then a::b::t else b::afR a t
def Υ:CK Int->CK Int
 |[]=>[]
 |a::t=>afR a (Υ t)
def zy (p:BY Int):CK Int->CK Int
 |[]=>[]
 |a::t=>if p=some a then zy (some a) t else a::zy (some a) t
def X3 (l:CK Int):CK Int:=zy none (Υ l)
def Io (a:Int):∀l,(afR a l).Perm (a::l)
 |[]=>List.Perm.refl _
 |b::t=>by
  unfold afR
  split
  ·exact List.Perm.refl _
  ·exact((Io a t).cons b).trans (List.Perm.swap a b t)
def ā:∀l,(Υ l).Perm l
 |[]=>List.Perm.refl _
 |a::t=>(Io a _).trans ((ā t).cons a)
def FG (a:Int):∀{l:CK Int},l.Pairwise (·<=·)->(afR a l).Pairwise (·<=·)
 |[],_=>by simp[afR]
 |b::t,h=>by
  rw[List.pairwise_cons] at h;unfold afR
  split
  ·rename_i d;refine dG.2 ⟨fun x c=>?_,dG.2 h⟩;rcases df.1 c with rfl|c
   ·exact d
   ·have:=h.1 x c; omega
  ·rename_i d;refine dG.2 ⟨fun x c=>?_,FG a h.2⟩;rcases df.1 ((Io a t).mem_iff.1 c) with rfl|c
   ·omega
   ·exact h.1 x c
def Ř:∀l:CK Int,(Υ l).Pairwise (·<=·)
 |[]=>List.Pairwise.nil
 |a::t=>FG a (Ř t)
def Vh (l:CK Int):zB l=Υ l:=by
 have d:(zB l).Pairwise (·<=·):=by
  have:=List.pairwise_mergeSort (le:=fun a b:Int=>decide (a<=b)) (fun a b c d h2=>by simp at *; omega) (fun a b=>by simp; omega) l
  exact this.imp fun h=>by simpa using h
 exact gi (le:=(·<=·)) (fun a b _ _ d h2=>by omega) d (Ř l) ((List.mergeSort_perm l _).trans (ā l).symm)
def S7 (a:Int):∀(l:CK Int) (p:BY Int),zy p (l++[a])=zy p l++(if (match l.getLast? with|some b=>some b|none=>p)=some a then[] else[a])
 |[],p=>by simp only[d8,zy,List.getLast?_nil]; rfl
 |b::t,p=>by
  have d:=S7 a t (some b)
  have e:(match (b::t).getLast? with|some c=>some c|none=>p)=(match t.getLast? with|some c=>some c|none=>some b):=by
   cases t with
   |nil=>rfl
   |cons c t =>
    rw[List.getLast?_cons_cons]
    cases h:(c::t).getLast? with
    |none=>simp at h
    |some x=>rfl
  rw[e];simp only[fe,zy,d]
  split<;>simp
def EB (l:CK Int):∀m,m<=l.length->Lib.compactUpTo l.toArray m=zy none (l.take m)
 |0,_=>by simp[Lib.compactUpTo,zy]
 |m+1,h=>by
  have d:m<l.length:=h;rw[Lib.compactUpTo_succ,EB l m (by omega),take_succ (cV d),S7];congr 1
  have e:l.toArray[m]! = l[m]:=by simp[getElem!_pos,d]
  rw[e];unfold Lib.keeps;rw[e]
  cases m with
  |zero=>simp
  |succ m =>
   have c:m<l.length:=by omega
   have g:l.toArray[m+1-1]! = l[m]:=by simp[getElem!_pos,c]
   rw[g]
   have f:(l.take (m+1)).getLast?=some l[m]:=by rw[take_succ (cV c),List.getLast?_append]; rfl
   rw[f]
   by_cases a:l[m+1]=l[m]
   ·simp[a]
   ·have:¬l[m]=l[m+1]:=fun h=>a h.symm;simp[a,this]
def aci (l:CK Int):CF l=zy none l:=by
 unfold CF Lib.compact;rw[EB l l.length (Nat.le_refl _),List.take_length]
def ahl (l:CK Int):CF (zB l)=X3 l:=by rw[Vh,aci]; rfl
def XQ:∀{l:CK Int} {p:BY Int} {x:Int},p≠some x->(x∈zy p l↔x∈l)
 |[],_,_,_=>Iff.rfl
 |a::t,p,x,f=>by
  unfold zy
  by_cases c:x=a
  ·subst c;rw[if_neg f]; simp
  ·have d:=XQ (l:=t) (p:=some a) (x:=x) (fun e=>c (by cases e; rfl))
   split<;>simp[d,c]
def acR:∀{l:CK Int} {p:BY Int},l.Pairwise (·<=·)->(∀q,p=some q->∀x∈l,q<=x)->(zy p l).Pairwise (·<·)/\∀q,p=some q->∀x∈zy p l,q<x
 |[],p,_,_=>⟨List.Pairwise.nil,fun _ _ _ h=>by cases h⟩
 |a::t,p,h,i=>by
  rw[List.pairwise_cons] at h;obtain⟨g,f⟩:=acR (l:=t) (p:=some a) h.2 (fun q d x c=>by cases d; exact h.1 x c);unfold zy
  split
  ·rename_i e;exact⟨g,fun q d x c=>by rw[e] at d; cases d; exact f _ rfl x c⟩
  ·rename_i e;refine⟨dG.2 ⟨fun x c=>f _ rfl x c,g⟩,fun q d x c=>?_⟩;have:=i q d a (by simp);have j:q≠a:=fun h=>e (by rw[d,h]);rcases df.1 c with rfl|c
   ·omega
   ·have:=f _ rfl x c; omega
def xw {l:CK Int} {x:Int}:x∈X3 l↔x∈l:=by
 unfold X3;rw[XQ (by simp),(ā l).mem_iff]
def EI (l:CK Int):(X3 l).Pairwise (·<·):=(acR (Ř l) (fun q a=>by cases a)).1
def XR:∀(l:CK Int) (p:BY Int),(zy p l).length<=l.length
 |[],_=>cX _
 |a::t,p=>by
  have:=XR t (some a);unfold zy
  split<;>simp<;>omega
def F4 (l:CK Int):(X3 l).length<=l.length:=by
 unfold X3;have:=XR (Υ l) none
 rwa [(ā l).length_eq] at this
def Xs {l m:CK Int} (f:l.Pairwise (·<·)) (e:m.Pairwise (·<·)) (h:∀x,x∈l↔x∈m):l=m:=by
 induction l generalizing m with
 |nil =>
  cases m with
  |nil=>rfl
  |cons a t=>have:=(h a).2 (by simp); cases this
 |cons a t i =>
  rw[dG] at f
  cases m with
  |nil=>have:=(h a).1 (by simp); cases this
  |cons b u =>
   rw[dG] at e
   have g:a=b:=by
    rcases df.1 ((h a).1 (by simp)) with c|c
    ·exact c
    ·rcases df.1 ((h b).2 (by simp)) with h2|h2
     ·exact h2.symm
     ·have:=e.1 a c; have:=f.1 b h2; omega
   subst g;rw[i f.2 e.2 fun x=>?_];constructor
   ·intro d;rcases df.1 ((h x).1 (by simp[d])) with c|c
    ·have:=f.1 x d; omega
    ·exact c
   ·intro d;rcases df.1 ((h x).2 (by simp[d])) with c|c
    ·have:=e.1 x d; omega
    ·exact c
def vC (b:ò) (s:CK (Int×è)) (c:Cmp):Int :=
 if (c.2.2.1++c.2.2.2.1).any (fun id=>mM s id c.2.1==5) then 5 else
 if (c.2.2.1++c.2.2.2.1).any (fun id=>mM s id c.2.1==4) then 4 else
 if (c.2.2.1++c.2.2.2.1).any (fun id=>(ŗ b id c.2.1).isSome) then 9 else
 if 1<(Þ c.2.2.1 c.2.2.2.1).length then 1 else if 1<(Þ c.2.2.2.1 c.2.2.1).length then 1 else
 if (Þ c.2.2.1 c.2.2.2.1).length+(Þ c.2.2.2.1 c.2.2.1).length=0 then 1 else 0
def Jt (c:Cmp):Bool :=
 inP c.1 1 1099511627776&&(Da c.2.1&&(inP c.2.2.2.2.1 (-1125899906842624) 1125899906842624&&(inP c.2.2.2.2.2.1 0 1073741824&&(ks c.2.2.2.2.2.2 (-10000) 10000&&(vc c.2.2.1&&vc c.2.2.2.1)))))
def md (b:ò) (s:CK (Int×è)) (i:Nat) (c:Cmp):Int :=
 if !Jt c then 1 else if (b.2.2.2.2.1.take i).any (fun x=>x.1==c.1) then 6 else vC b s c
def sq (a b:CK Int):(Þ a b).length<=a.length:=eA _ _
set_option maxHeartbeats 1000000 in
def QN {b:ò} (W:b.2.2.2.2.1.length<=1000) (R:b.2.2.2.1.length<=1000) (s:CK (Int×è)) {i:Nat} {c:Cmp} (Y:c.2.2.1.length<=1000) (X:c.2.2.2.1.length<=1000)
 (I:b.2.2.2.2.1[i]?=some c):Ō b s i=some (md b s i c):=by
 have hi:i<b.2.2.2.2.1.length:=(List.getElem?_eq_some_iff.1 I).1;unfold Ō pX md Jt;rw[Ã I,Λ,À]
 cases inP c.1 1 1099511627776 with
 |false=>rfl
 |true =>
 rw[MH,À]
 cases Da c.2.1 with
 |false=>rfl
 |true =>
 rw[Λ,À]
 cases inP c.2.2.2.2.1 (-1125899906842624) 1125899906842624 with
 |false=>rfl
 |true =>
 rw[Λ,À]
 cases inP c.2.2.2.2.2.1 0 1073741824 with
 |false=>rfl
 |true =>
 rw[Im,À]
 cases ks c.2.2.2.2.2.2 (-10000) 10000 with
 |false=>rfl
 |true =>
 rw[Ik (by omega),À]
 cases vc c.2.2.1 with
 |false=>rfl
 |true =>
 rw[Ik (by omega),À]
 cases vc c.2.2.2.1 with
 |false=>rfl
 |true =>
 have T:((ile (0:Int) (i:Int))&&(ile (i:Int) (î b.2.2.2.2.1)))=true:=by simp[ile,î]; omega
 simp only[dP,æ,Bool.and_self,dp,if_false];rw[å T,dj]
 -- what comes behind the IDs
 have rest:(Å (Ĭ ([c.2.2.1,c.2.2.2.1])) fun g=>Ë (fun(D:Int) o=>œ s g (Õ ([(5:Int),(4:Int)])) c.2.1 ([(5:Int),(4:Int)]) D (fun F=>o F) (fun z=>some z) (fun _=>Ë (fun(E:Int) r=>Œ g (Õ g) b.1.1 b.1.2 b.2.1 b.2.2.1 b.2.2.2.1 b.2.2.2.2.1 b.2.2.2.2.2 c.2.1 E (fun G=>r G) (fun y=>some y) (fun _=>Å (δ c.2.2.1 c.2.2.2.1) fun f=>Å (δ c.2.2.2.1 c.2.2.1) fun e=>ifb (igt (Õ f) (1:Int)) (some (1:Int)) (ifb (igt (Õ e) (1:Int)) (some (1:Int)) (ck ((Õ f)+(Õ e)) fun h=>ifb (ieq h (0:Int)) (some (1:Int)) (some (0:Int)))))) (0:Int))) (0:Int))=some (vC b s c):=by
  rw[Rg (by omega) (by omega),À]
  have J:(c.2.2.1++c.2.2.2.1).length<=2000:=by simp; omega
  have last:(Å (δ c.2.2.1 c.2.2.2.1) fun f=>Å (δ c.2.2.2.1 c.2.2.1) fun e=>ifb (igt (Õ f) (1:Int)) (some (1:Int)) (ifb (igt (Õ e) (1:Int)) (some (1:Int)) (ck ((Õ f)+(Õ e)) fun h=>ifb (ieq h (0:Int)) (some (1:Int)) (some (0:Int))))) =
   some (if 1<(Þ c.2.2.1 c.2.2.2.1).length then 1 else if 1<(Þ c.2.2.2.1 c.2.2.1).length then 1 else if (Þ c.2.2.1 c.2.2.2.1).length+(Þ c.2.2.2.1 c.2.2.1).length=0 then 1 else 0):=by
   rw[Bq (by omega) (by omega),À,Bq (by omega) (by omega),À];have V:=sq c.2.2.1 c.2.2.2.1;have U:=sq c.2.2.2.1 c.2.2.1;rw[Î,Î,Ï (by omega) (by omega)]
   by_cases P:1<(Þ c.2.2.1 c.2.2.2.1).length
   ·rw[Ð (by simp[igt]; omega),if_pos P]
   rw[Ì (by simp[igt]; omega),if_neg P]
   by_cases O:1<(Þ c.2.2.2.1 c.2.2.1).length
   ·rw[Ð (by simp[igt]; omega),if_pos O]
   rw[Ì (by simp[igt]; omega),if_neg O]
   by_cases K:(Þ c.2.2.1 c.2.2.2.1).length+(Þ c.2.2.2.1 c.2.2.1).length=0
   ·rw[Ð (by simp[ieq]; omega),if_pos K]
   rw[Ì (by simp[ieq]; omega),if_neg K]
  refine dJ (iQ [(5:Int),4] (fun _ d=>if (c.2.2.1++c.2.2.2.1).any (fun id=>mM s id c.2.1==d) then some d else none) some (some (if (c.2.2.1++c.2.2.2.1).any (fun id=>(ŗ b id c.2.1).isSome) then 9 else if 1<(Þ c.2.2.1 c.2.2.2.1).length then 1 else if 1<(Þ c.2.2.2.1 c.2.2.1).length then 1 else if (Þ c.2.2.1 c.2.2.2.1).length+(Þ c.2.2.2.1 c.2.2.1).length=0 then 1 else 0)) (fun j d n Q v=>?_) (fun v=>?_)) ?_
  ·try dsimp only
   unfold œ;rw[Í n,Š n,Ą Q];refine Eq.trans (ù (c.2.2.1++c.2.2.2.1) (fun id=>mM s id c.2.1==d) (fun _=>some d) (some d) (v ((j:Int)+1)) (fun _=>rfl) (fun k a u ha l=>?_) (fun l=>?_)) ?_
   ·try dsimp only
    unfold jm;rw[Í u,Ã ha,abA,À,È u (by omega),é]
   ·try dsimp only
    unfold jm;rw[Ô,È n (by simp)]
   ·cases List.any (c.2.2.1++c.2.2.2.1) (fun id=>mM s id c.2.1==d)<;>rfl
  ·try dsimp only
   unfold œ;rw[Ô];refine Eq.trans (ù (c.2.2.1++c.2.2.2.1) (fun id=>(ŗ b id c.2.1).isSome) (fun _=>some 9) (some 9) (some (if 1<(Þ c.2.2.1 c.2.2.2.1).length then 1 else if 1<(Þ c.2.2.2.1 c.2.2.1).length then 1 else if (Þ c.2.2.1 c.2.2.2.1).length+(Þ c.2.2.2.1 c.2.2.1).length=0 then 1 else 0)) (fun _=>rfl) (fun k a u ha l=>?_) (fun l=>?_)) ?_
   ·try dsimp only
    unfold Œ;have H:=akc R a c.2.1;rw[Í u,Ã ha,È u (by omega)];rw[show yF ((b.1.1,b.1.2),b.2.1,b.2.2.1,b.2.2.2.1,b.2.2.2.2.1,b.2.2.2.2.2) a c.2.1=yF b a c.2.1 from rfl,H,À]
    cases ŗ b a c.2.1<;>rfl
   ·try dsimp only
    unfold Œ;rw[Ô,last]
   ·cases List.any (c.2.2.1++c.2.2.2.1) (fun id=>(ŗ b id c.2.1).isSome)<;>rfl
  ·unfold vC ė ė ė
   try dsimp only
   cases List.any (c.2.2.1++c.2.2.2.1) (fun id=>mM s id c.2.1==5) with
   |true=>rfl
   |false =>
   cases List.any (c.2.2.1++c.2.2.2.1) (fun id=>mM s id c.2.1==4)<;>rfl
 refine dJ (ù (b.2.2.2.2.1.take i) (fun x=>x.1==c.1) (fun C=>ifb (ige C (0:Int)) (some 6) (some (vC b s c))) (some 6) (some (vC b s c)) (fun j=>?_) (fun j a n ha v=>?_) (fun v=>?_)) ?_
 ·have:ige (j:Int) 0=true:=by simp[ige]
  rw[Ð this]
 ·try dsimp only
  unfold jn;rw[rest,Í n,Ã ha,È n (by rw[List.length_take]; omega),é]
 ·try dsimp only
  unfold jn;rw[Ô,rest]
 ·cases List.any (b.2.2.2.2.1.take i) (fun x=>x.1==c.1)<;>rfl
def aap (b:ò) (g:è):CK Int :=
 [g.2.1]++(b.2.2.2.2.1.filter fun c=>!(c.2.2.1.contains g.1==c.2.2.2.1.contains g.1)).map (fun c=>c.2.1)++(b.2.2.2.2.2.filter fun n=>n.1==g.1).map (fun n=>n.2)
def Û (b:ò) (g:è):CK Int:=X3 (aap b g)
structure iX (b:ò):Prop where
 gauges:b.2.1.length<=1000
 uses:b.2.2.1.length<=1000
 loans:b.2.2.2.1.length<=1000
 compares:b.2.2.2.2.1.length<=1000
 looks:b.2.2.2.2.2.length<=1000
 piles:∀c∈b.2.2.2.2.1,c.2.2.1.length<=1000/\c.2.2.2.1.length<=1000
def XX (l:CK Int):(zB l).length=l.length:=List.length_mergeSort l
def aao {b:ò} (a:iX b) (g:è):(aap b g).length<=2001:=by
 have f:=a.compares;have h2:=a.looks;have e:=eA (fun c:Cmp=>!(c.2.2.1.contains g.1==c.2.2.2.1.contains g.1)) b.2.2.2.2.1;have d:=eA (fun n:Int×Int=>n.1==g.1) b.2.2.2.2.2;simp only[aap,cZ,dF,dO];omega
def ajj {b:ò} (d:iX b) (g:è):qQ b g=some (Û b g):=by
 unfold qQ adY;have y:=aao d g
 have hd:(Û b g).length<=2001:=by
  unfold Û;have:=F4 (aap b g);omega
 have r:=d.compares;have o:=d.looks;refine ð b.2.2.2.2.1 (fun i=>[g.2.1]++((b.2.2.2.2.1.take i).filter fun c=>!(c.2.2.1.contains g.1==c.2.2.2.1.contains g.1)).map (fun c=>c.2.1)) _ rfl (fun i c hi f e=>?_) (fun e=>?_)
 ·try dsimp only
  unfold yj;obtain⟨v,u⟩:=d.piles c (List.mem_of_getElem? f);rw[Í hi,Ã f,Ţ (by omega),À,Ţ (by omega),À,È hi (by omega),È hi (by omega),take_succ f,List.filter_append,List.map_append]
  have a:([g.2.1]++((b.2.2.2.2.1.take i).filter fun c=>!(c.2.2.1.contains g.1==c.2.2.2.1.contains g.1)).map (fun c=>c.2.1)).length<=1001:=by
   have l:=eA (fun c:Cmp=>!(c.2.2.1.contains g.1==c.2.2.2.1.contains g.1)) (b.2.2.2.2.1.take i);rw[dk] at l;simp only[cZ,dF,dO];omega
  rw[Ñ (by simp only[dO]; omega),Am.iff_true]
  cases h:(c.2.2.1.contains g.1==c.2.2.2.1.contains g.1) with
  |true=>simp only[dP,æ,eM,h,dp,if_false,eY,fu,dt]
  |false=>simp only[fF,kQ,eM,h,if_true,eY,eV,fu,dg]
 ·try dsimp only
  unfold yj;rw[Ô,List.take_length];refine ð b.2.2.2.2.2 (fun i=>[g.2.1]++(b.2.2.2.2.1.filter fun c=>!(c.2.2.1.contains g.1==c.2.2.2.1.contains g.1)).map (fun c=>c.2.1)++((b.2.2.2.2.2.take i).filter fun n=>n.1==g.1).map (fun n=>n.2)) _ (by simp) (fun i n hi j e=>?_) (fun e=>?_)
  ·try dsimp only
   unfold yi;rw[Í hi,Ã j,È hi (by omega),È hi (by omega),take_succ j,List.filter_append,List.map_append]
   have a:([g.2.1]++(b.2.2.2.2.1.filter fun c=>!(c.2.2.1.contains g.1==c.2.2.2.1.contains g.1)).map (fun c=>c.2.1)++((b.2.2.2.2.2.take i).filter fun n=>n.1==g.1).map (fun n=>n.2)).length<=2001:=by
    have l:=eA (fun c:Cmp=>!(c.2.2.1.contains g.1==c.2.2.2.1.contains g.1)) b.2.2.2.2.1;have s:=eA (fun n:Int×Int=>n.1==g.1) (b.2.2.2.2.2.take i);rw[dk] at s;simp only[cZ,dF,dO];omega
   rw[Ñ (by simp only[dO]; omega),Am.iff_true]
   cases h:(n.1==g.1) with
   |true =>
    have:ieq n.1 g.1=true:=h;simp[h,this]
   |false =>
    have:ieq n.1 g.1=false:=h;simp[h,this]
  ·try dsimp only
   unfold yi;rw[Ô,List.take_length];rw[show([g.2.1]++(b.2.2.2.2.1.filter fun c=>!(c.2.2.1.contains g.1==c.2.2.2.1.contains g.1)).map (fun c=>c.2.1)++(b.2.2.2.2.2.filter fun n=>n.1==g.1).map (fun n=>n.2))=aap b g from rfl];dsimp only;rw[Ñ (by omega),Am.iff_true,Ñ (by rw[XX]; omega),Am.iff_true,ahl];rfl
def Ò (b:ò):CK (Int×Int):=b.2.1.flatMap fun g=>(Û b g).map fun d=>((g.1,d):Int×Int)
def IX {b:ò} (a:iX b) (g:è):(Û b g).length<=2001:=by
 unfold Û;have:=F4 (aap b g);have:=aao a g;omega
def yu {α β:Type} (f:α->CK β) (n:Nat) (h:∀a,(f a).length<=n):∀l:CK α,(l.flatMap f).length<=l.length*n
 |[]=>by simp
 |a::l=>by
  have:=yu f n h l;have:=h a;simp only[dz,cZ,di,dE,fm];omega
def VL {b:ò} (f:iX b):sN b=some (Ò b):=by
 unfold sN ZS;have u:=f.gauges
 have a:∀l:CK è,(l.flatMap fun g=>(Û b g).map fun d=>((g.1,d):Int×Int)).length<=l.length*2001:=fun l =>
  yu _ 2001 (fun g=>by rw[dF]; exact IX f g) l
 refine ð b.2.1 (fun i=>(b.2.1.take i).flatMap fun g=>(Û b g).map fun d=>((g.1,d):Int×Int)) _ rfl (fun i g hi c o=>?_) (fun o=>?_)
 ·try dsimp only
  unfold uJ;rw[Í hi,Ã c];rw[show qQ ((b.1.1,b.1.2),b.2.1,b.2.2.1,b.2.2.2.1,b.2.2.2.2.1,b.2.2.2.2.2) g=qQ b g from rfl,ajj f,À];have hd:=IX f g;have s:=a (b.2.1.take i)
  have r:(b.2.1.take i).length<=1000:=by rw[dk]; omega
  refine ð (Û b g) (fun j=>((b.2.1.take i).flatMap fun g=>(Û b g).map fun d=>((g.1,d):Int×Int))++((Û b g).take j).map fun d=>((g.1,d):Int×Int)) _ (by simp) (fun j d n e h=>?_) (fun h=>?_)
  ·try dsimp only
   unfold uI;rw[Í n,Ã e,È n (by omega),take_succ e,List.map_append];rw[Ñ (by simp only[List.length_append,List.length_map,List.length_take,List.length_singleton]; omega),Am.iff_true];simp
  ·try dsimp only
   unfold uI;rw[Ô,List.take_length];dsimp only;rw[È hi (by omega),take_succ c,List.flatMap_append];simp
 ·try dsimp only
  unfold uJ;rw[Ô,List.take_length];rfl
def zK (b:ò) (s:CK (Int×è)):CK Int :=
 b.2.2.1.map (fun u=>aba s u.1 u.2)++(b.2.2.2.1.mapIdx (fun i l=>Mh b s i l)++(b.2.2.2.2.1.mapIdx (fun i c=>md b s i c)++b.2.2.2.2.2.map (fun u=>aba s u.1 u.2)))
def YW {α:Type} {f:Int->BY Int} {g:Nat->α->Int} (l:CK α) (h:∀(i:Nat) (a:α),l[i]?=some a->f i=some (g i a)):N3 f (zx l.length)=some (l.mapIdx g):=by
 have j:∀i,i<l.length->f (i:Int)=some ((l.mapIdx g)[i]?.getD 0):=by
  intro i hi;rw[h i l[i] (cV hi)];simp[hi]
 have h2:∀x∈zx l.length,f x=some ((l.mapIdx g)[x.toNat]?.getD 0):=by
  intro x c;unfold zx at c;obtain⟨i,hi,rfl⟩:=List.mem_map.1 c;rw[j i (by simpa using hi)];rfl
 rw[Gw h2];congr 1;refine iq (by simp[zx]) fun i n e=>?_
 have d:i<l.length:=by simpa using e
 simp[zx,d]
def ala {b:ò} (a:iX b) (s:CK (Int×è)):pJ b s=some (zK b s):=by
 unfold pJ zK
 rw[Gw (fun u _=>Yk s u.1 u.2),À,YW b.2.2.2.1 (fun i l e=>aav a.loans a.uses s e),À,
  YW b.2.2.2.2.1 (fun i c d=>QN a.compares a.loans s (a.piles c (dc d)).1 (a.piles c (dc d)).2 d),À,Gw (fun u _=>Yk s u.1 u.2),À]
def ō (b:ò):Int :=
 if !ks b.1 0 1000000 then 1 else
 if 12<b.2.1.length then 2 else if 40<b.2.2.1.length then 2 else if 12<b.2.2.2.1.length then 2 else if 40<b.2.2.2.2.1.length then 2 else if 10<b.2.2.2.2.2.length then 2 else
 if ke b != 0 then ke b else
 match (zK b (ś b)).find? (fun e=>e != 0) with
 |some e=>e
 |none=>if 59<(Ò b).length then 2 else if 300<2*b.2.1.length+2*((Ò b).length-b.2.1.length:Int)+2*b.2.2.2.2.1.length then 2 else 0
def Ju {b:ò} (a:iX b):(Ò b).length<=2001000:=by
 have:=yu (fun g:è=>(Û b g).map fun d=>((g.1,d):Int×Int)) 2001 (fun g=>by rw[List.length_map]; exact IX a g) b.2.1;have h2:=a.gauges;unfold Ò;omega
def yO {b:ò} (a:iX b) (o:∀g∈b.2.1,I64 g.2.2.2.2.1.1):ż b=some (ō b):=by
 unfold ż P4 ō;rw[Im,À]
 cases ks b.1 0 1000000 with
 |false=>rfl
 |true =>
 have d:=a.gauges;have h2:=a.compares;have r:=Ju a;rw[Ì (show(!true)=false from rfl),if_neg (by simp)];simp only[Î]
 by_cases c0:12<b.2.1.length
 ·rw[Ð (by simp[igt]; omega),if_pos c0]
 rw[Ì (by simp[igt]; omega),if_neg c0]
 by_cases n:40<b.2.2.1.length
 ·rw[Ð (by simp[igt]; omega),if_pos n]
 rw[Ì (by simp[igt]; omega),if_neg n]
 by_cases l:12<b.2.2.2.1.length
 ·rw[Ð (by simp[igt]; omega),if_pos l]
 rw[Ì (by simp[igt]; omega),if_neg l]
 by_cases j:40<b.2.2.2.2.1.length
 ·rw[Ð (by simp[igt]; omega),if_pos j]
 rw[Ì (by simp[igt]; omega),if_neg j]
 by_cases i:10<b.2.2.2.2.2.length
 ·rw[Ð (by simp[igt]; omega),if_pos i]
 rw[Ì (by simp[igt]; omega),if_neg i];rw[SW o d,À]
 cases c:(ke b != 0) with
 |true =>
  have:ine (ke b) 0=true:=c;rw[Ð this,if_pos rfl]
 |false =>
 have:ine (ke b) 0=false:=c;rw[Ì this,if_neg (by simp)];rw[Ji d,À];unfold Yc;rw[ala a,À]
 cases(zK b (ś b)).find? (fun e=>e != 0) with
 |some e=>rfl
 |none =>
 dsimp only;rw[VL a,À]
 by_cases h:59<(Ò b).length
 ·rw[Ð (by simp[igt]; omega),if_pos h]
 rw[Ì (by simp[igt]; omega),if_neg h];rw[Ï (by omega) (by omega),Ï (by omega) (by omega),Ï (by omega) (by omega),Ï (by omega) (by omega),Ï (by omega) (by omega),Ï (by omega) (by omega)]
 by_cases f:300<2*b.2.1.length+2*((Ò b).length-b.2.1.length:Int)+2*b.2.2.2.2.1.length
 ·rw[Ð (by simp[igt]; omega),if_pos f]
 rw[Ì (by simp[igt]; omega),if_neg f]
def wrapU {n:Nat} (h:n<18446744073709551616):IntKind.wrap .u64 (n:Int)=n:=by
 simp only[IntKind.wrap,IntKind.bits,IntKind.signed];simp;omega
def agT {n:Nat} (h:n<9223372036854775808):IntKind.wrap .i64 (n:Int)=n:=by
 simp only[IntKind.wrap,IntKind.bits,IntKind.signed];simp;omega
def iG (l:CK (Int×Int)) (x d:Int):BY Nat:=l.findIdx? fun n=>decide (x=n.1)&&decide (d=n.2)
def aaZ {l:CK (Int×Int)} (e:l.length<=100000000) (x d:Int):ü l (x,d)=some (match iG l x d with|some j=>(j:Int)|none=>-1):=by
 unfold ü jZ;refine Eq.trans (iR l (fun n=>decide (x=n.1)&&decide (d=n.2)) some (some (-1)) (fun i a hi ha c=>?_) (fun c=>?_)) ?_
 ·try dsimp only
  unfold ī;rw[Í hi,Ã ha,È hi (by omega),é,Bool.and_true]
 ·try dsimp only
  unfold ī;rw[Ô]
 ·unfold iG
  cases List.findIdx? (fun n=>decide (x=n.1)&&decide (d=n.2)) l<;>rfl
def atP (l:CK (Int×Int)) (p:CK Int) (d:Int):Int :=
 match p with
 |[]=>0
 |x::_=>match iG l x d with|some j=>(j:Int)+1|none=>0
def ky {l:CK (Int×Int)} {x d:Int} {j:Nat} (h:iG l x d=some j):j<l.length/\l[j]?=some (x,d):=by
 unfold iG at h;obtain⟨c,a,_⟩:=List.findIdx?_eq_some_iff_getElem.1 h;refine⟨c,?_⟩;rw[List.getElem?_eq_getElem c];simp only[Bool.and_eq_true,decide_eq_true_eq] at a;congr 1;exact Prod.ext a.1.symm a.2.symm
def aok (m:Maker) (p:CK Int) (d:Int) (e:m.2.1.length<=100000000):mw m p d=some (atP m.2.1 p d):=by
 unfold mw K4 atP
 cases p with
 |nil=>simp[Î,ieq]
 |cons x p =>
  have h:ieq (Õ (x::p)) 0=false:=by
   rw[Î];simp only[ieq,di,beq_eq_false_iff_ne,ne_eq];omega
  rw[h,æ,show(0:Int)=((0:Nat):Int) from rfl,Ã (a:=x) rfl,aaZ e,À]
  cases c:iG m.2.1 x d with
  |none=>dsimp only; rw[Ï (by omega) (by omega)]; simp only[c]; rfl
  |some j =>
   have:=(ky c).1;dsimp only;rw[Ï (by omega) (by omega)];simp only[c]
def F5 (s:CK (Int×è)) (p:CK Int):Int×Int :=
 match p with
 |[]=>(0,1)
 |x::_=>match tv (k:=tI) (v:=Ú) x s with
  |some g=>g.2.2.2.2.1
  |none=>(0,0)
def Yb (s:CK (Int×è)) (p:CK Int):jy s p=some (F5 s p):=by
 unfold jy zc F5
 cases p with
 |nil=>simp[Î,ieq]
 |cons x p =>
  have h:ieq (Õ (x::p)) 0=false:=by
   rw[Î];simp only[ieq,di,beq_eq_false_iff_ne,ne_eq];omega
  rw[h,æ,show(0:Int)=((0:Nat):Int) from rfl,Ã (a:=x) rfl]
  cases c:tv (k:=tI) (v:=Ú) x s with
  |none=>simp only[Rh,c]
  |some g=>simp only[Rh,c]
def acO {l:CK (Int×Int)} (d:∀r∈l,I64 r.1) (e:l.length<=1000):lP l=some (if l.any (fun r=>!KC r) then 1 else 0):=by
 unfold lP ZK;refine Eq.trans (ù l (fun r=>!KC r) (fun _=>some 1) (some 1) (some 0) (fun _=>rfl) (fun i a hi ha c=>?_) (fun c=>?_)) ?_
 ·try dsimp only
  unfold uH;rw[Í hi,Ã ha,Xz (d a (List.mem_of_getElem? ha)),À,È hi (by omega),é]
 ·try dsimp only
  unfold uH;rw[Ô]
 ·cases l.any (fun r=>!KC r)<;>rfl
def pP (n d:Int):Int×Int:=(n / (Nat.gcd n.natAbs d.natAbs:Nat),d / (Nat.gcd n.natAbs d.natAbs:Nat))
def lT (r:Int×Int):KC r=true↔1<=r.2/\r.2<=2147483647/\(r.1.natAbs:Int)<=2147483647/\Nat.gcd r.1.natAbs r.2.natAbs=1:=by
 simp[KC]
def B5 {n d:Int} (hd:0<d):∃g:Nat,0<g/\g=Nat.gcd n.natAbs d.natAbs/\n=(pP n d).1*g/\d=(pP n d).2*g:=by
 have a:0<Nat.gcd n.natAbs d.natAbs:=Nat.gcd_pos_of_pos_right _ (by omega);refine⟨_,a,rfl,?_,?_⟩
 ·exact(Int.ediv_mul_cancel (Int.ofNat_dvd_left.2 (Nat.gcd_dvd_left _ _))).symm
 ·exact(Int.ediv_mul_cancel (Int.ofNat_dvd_left.2 (Nat.gcd_dvd_right _ _))).symm
def Vo {n d:Int} (hd:0<d) (o:n.natAbs<=2147483647) (f:d<=2147483647):KC (pP n d)=true:=by
 obtain⟨g,h0,e,j,h2⟩:=B5 (n:=n) hd;rw[lT]
 have c:n.natAbs=(pP n d).1.natAbs*g:=by conv=>lhs; rw[j]; rw[fY,f0]
 have a:d.natAbs=(pP n d).2.natAbs*g:=by conv=>lhs; rw[h2]; rw[fY,f0]
 have l:0<(pP n d).2:=by
  rcases Int.lt_trichotomy (pP n d).2 0 with h|h|h
  ·have:=Int.mul_neg_of_neg_of_pos h (show(0:Int)<g by omega); omega
  ·rw[h] at h2; simp at h2; omega
  ·exact h
 have s:(pP n d).1.natAbs<=n.natAbs:=by rw[c]; exact gw _ h0
 have r:(pP n d).2.natAbs<=d.natAbs:=by rw[a]; exact gw _ h0
 refine⟨by omega,by omega,by omega,?_⟩;have:=Nat.gcd_mul_right (pP n d).1.natAbs g (pP n d).2.natAbs;rw[<-c,<-a,<-e] at this
 have i:(Nat.gcd (pP n d).1.natAbs (pP n d).2.natAbs)*g=1*g:=by omega
 exact Nat.eq_of_mul_eq_mul_right h0 i
def Th {n d:Int} (hd:0<d) (l:n.natAbs<=2147483647) (e:d<=2147483647):sM n d=some (pP n d,0):=by
 obtain⟨g,h0,o,r,h2⟩:=B5 (n:=n) hd;have D:=(lT _).1 (Vo hd l e);unfold sM PR;rw[Vj ⟨by omega,by omega⟩,À,Vj ⟨by omega,by omega⟩,À,amT,À,<-o]
 have C:n.natAbs=(pP n d).1.natAbs*g:=by conv=>lhs; rw[r]; rw[fY,f0]
 have y:d.natAbs=(pP n d).2.natAbs*g:=by conv=>lhs; rw[h2]; rw[fY,f0]
 have j:Int.tdiv (n.natAbs:Int) (g:Int)=((pP n d).1.natAbs:Int):=by
  rw[C,iy]; exact gN _ (by omega)
 have i:Int.tdiv (d.natAbs:Int) (g:Int)=((pP n d).2.natAbs:Int):=by
  rw[y,iy]; exact gN _ (by omega)
 have z:oQ (g:Int) 0=false:=by simp[oQ]; omega
 have u:igt ((pP n d).1.natAbs:Int) 2147483647=false:=by simp[igt]; omega
 have s:igt ((pP n d).2.natAbs:Int) 2147483647=false:=by simp[igt]; omega
 rw[Ì z,Ì z,j,i,wrapU (by omega),wrapU (by omega),agT (by omega),agT (by omega),Ì u,Ì s]
 have f:ilt d 0=false:=by simp[ilt]; omega
 rw[f]
 have v:((pP n d).2.natAbs:Int)=(pP n d).2:=by omega
 rw[v]
 by_cases c:n<0
 ·have a:ilt n 0=true:=by simp[ilt,c]
  have:(pP n d).1<=0:=by
   rcases gW 0 (pP n d).1 with h|h
   ·have:=Int.mul_pos h (show(0:Int)<g by omega); omega
   ·exact h
  rw[a];rw[show(!true==false)=true from rfl,kQ,Ï (by omega) (by omega)]
  have:0-((pP n d).1.natAbs:Int)=(pP n d).1:=by omega
  rw[this]
 ·have a:ilt n 0=false:=by simp[ilt]; omega
  have:0<=(pP n d).1:=by
   rcases gW (pP n d).1 0 with h|h
   ·have:=Int.mul_neg_of_neg_of_pos h (show(0:Int)<g by omega); omega
   ·exact h
  rw[a];rw[show(!false==false)=false from rfl,æ]
  have:((pP n d).1.natAbs:Int)=(pP n d).1:=by omega
  rw[this]
structure tf (r:Int×Int) (n d:Int):Prop where
 rat:KC r=true
 num : -n<=r.1/\r.1<=n
 den:r.2<=d
def tf.pos {r:Int×Int} {n d:Int} (h:tf r n d):1<=r.2:=((lT r).1 h.rat).1
def tf.i64 {r:Int×Int} {n d:Int} (h:tf r n d):I64 r.1:=by
 have:=((lT r).1 h.rat).2.2.1;exact⟨by omega,by omega⟩
def ag3 {x y:Int×Int} (d:KC x=true) (c:KC y=true):lP [x,y]=some 0:=by
 rw[acO]
 ·simp[d,c]
 ·intro r a
  have:KC r=true:=by simp at a; rcases a with rfl|rfl<;>assumption
  have:=((lT r).1 this).2.2.1;exact⟨by omega,by omega⟩
 ·simp
def oC {a b m n:Int} (g : -m<=a/\a<=m) (h2 : -n<=b/\b<=n) : -(m*n)<=a*b/\a*b<=m*n:=by
 have d:0<=m:=by omega
 have c:0<=n:=by omega
 have f:(a*b).natAbs<=(m*n).natAbs:=by
  rw[fY,fY];exact fI (by omega) (by omega)
 have e:0<=m*n:=fW d c;omega
def subP (x y:Int×Int):Int×Int:=pP (x.1*y.2-y.1*x.2) (x.2*y.2)
def Je {x y:Int×Int} (c:tf x 1000 100) (a:tf y 1000 100):(x.1*y.2-y.1*x.2).natAbs<=200000/\0<x.2*y.2/\x.2*y.2<=10000:=by
 have f:=oC c.num (show -100<=y.2/\y.2<=100 from⟨by have:=a.pos; omega,a.den⟩);have h2:=oC a.num (show -100<=x.2/\x.2<=100 from⟨by have:=c.pos; omega,c.den⟩);have e:=oC (show -100<=x.2/\x.2<=100 from⟨by have:=c.pos; omega,c.den⟩) (show -100<=y.2/\y.2<=100 from⟨by have:=a.pos; omega,a.den⟩);have d:=Int.mul_pos (show 0<x.2 by have:=c.pos; omega) (show 0<y.2 by have:=a.pos; omega);refine⟨by omega,d,by omega⟩
def Sub_ok {x y:Int×Int} (c:tf x 1000 100) (a:tf y 1000 100):W9 x y=some (subP x y,0):=by
 obtain⟨f,d,b3⟩:=Je c a;have e:=oC c.num (show -100<=y.2/\y.2<=100 from⟨by have:=a.pos; omega,a.den⟩);have h2:=oC a.num (show -100<=x.2/\x.2<=100 from⟨by have:=c.pos; omega,c.den⟩);unfold W9 aim;rw[ag3 c.rat a.rat,À];rw[show ine (0:Int) 0=false from rfl,æ,Ï (by omega) (by omega),Ï (by omega) (by omega),Ï (by omega) (by omega),Ï (by omega) (by omega),Th d (by omega) (by omega),À];rfl
def ahr {n d:Int} (hd:0<d):(pP n d).1.natAbs<=n.natAbs/\(pP n d).2<=d:=by
 obtain⟨g,h0,h,a,h2⟩:=B5 (n:=n) hd
 have f:n.natAbs=(pP n d).1.natAbs*g:=by conv=>lhs; rw[a]; rw[fY,f0]
 have e:d.natAbs=(pP n d).2.natAbs*g:=by conv=>lhs; rw[h2]; rw[fY,f0]
 have c:(pP n d).1.natAbs<=n.natAbs:=by rw[f]; exact gw _ h0
 have i:(pP n d).2.natAbs<=d.natAbs:=by rw[e]; exact gw _ h0
 exact⟨c,by omega⟩
def Ng {x y:Int×Int} (d:tf x 1000 100) (c:tf y 1000 100):tf (subP x y) 200000 10000:=by
 obtain⟨g,a,b3⟩:=Je d c;obtain⟨f,e⟩:=ahr (n:=x.1*y.2-y.1*x.2) a;exact⟨Vo a (by omega) (by omega),by unfold subP; omega,by unfold subP; omega⟩
def Gt (k:Int×Int) (n:Int):Int×Int:=pP (k.1*n) k.2
def Jw {k:Int×Int} (c:tf k 200000 10000) {n:Int} (a : -10000<=n/\n<=10000):(k.1*n).natAbs<=2000000000:=by
 have:=oC c.num a;omega
def abW {n:Int} (a : -10000<=n/\n<=10000):KC (n,1)=true:=by
 rw[lT];exact⟨by simp,by simp,by simp; omega,by simp⟩
def am4 {k:Int×Int} (a:tf k 200000 10000) {n:Int} (c : -10000<=n/\n<=10000):QD k (n,1)=some (Gt k n,0):=by
 have b:=Jw a c;have p:=a.pos;have q:=a.den;unfold QD aio;rw[ag3 a.rat (abW c),À];rw[show ine (0:Int) 0=false from rfl,æ,Ï (by simp only; omega) (by simp only; omega),Int.mul_one,Ï (by omega) (by omega),Th (by omega) (by simp only; omega) (by omega),À];rfl
def VQ {k:Int×Int} (a:tf k 200000 10000) {n:Int} (c : -10000<=n/\n<=10000):tf (Gt k n) 2000000000 10000:=by
 have b:=Jw a c;have p:=a.pos;have q:=a.den;obtain⟨e,d⟩:=ahr (n:=k.1*n) (show 0<k.2 by omega);exact⟨Vo (by omega) (by omega) (by omega),by unfold Gt; omega,by unfold Gt; omega⟩
def amY (x y:Int×Int):Int:=if x=y then 0 else if x.1*y.2<y.1*x.2 then -1 else if y.1*x.2<x.1*y.2 then 1 else 0
def amX {x y:Int×Int} {m d:Int} (a:tf x m d) (c:tf y m d) (e:m<=2000000000) (hd:d<=10000):QB x y=some (amY x y):=by
 have g:=oC a.num (show -d<=y.2/\y.2<=d from⟨by have:=c.pos; have:=c.den; omega,c.den⟩);have h2:=oC c.num (show -d<=x.2/\x.2<=d from⟨by have:=a.pos; have:=a.den; omega,a.den⟩);have h0:0<=m/\0<=d:=⟨by have:=a.num; omega,by have:=a.pos; have:=a.den; omega⟩;have f:m*d<=2000000000*10000:=Int.mul_le_mul e hd h0.2 (by omega);unfold QB aik amY;rw[Ï (by omega) (by omega),Ï (by omega) (by omega)];simp only[é,Bool.and_true,Bool.and_eq_true,decide_eq_true_eq,oQ,ilt,igt,gt_iff_lt];have:(x.1=y.1/\x.2=y.2)↔x=y:=⟨fun h=>Prod.ext h.1 h.2,fun h=>by rw[h]; exact⟨rfl,rfl⟩⟩;simp only[this]
 (repeat' split)<;>rfl
def VG (k:Int×Int) (heat:Int×Int):(Int×Int)×(Int×Int) :=
 if 0<amY (Gt k heat.1) (Gt k heat.2) then(Gt k heat.2,Gt k heat.1) else(Gt k heat.1,Gt k heat.2)
def anB {k heat:Int×Int} (a:tf k 200000 10000) (d:ks heat (-10000) 10000=true):qP k heat=some (VG k heat):=by
 simp only[ks,Bool.and_eq_true,decide_eq_true_eq] at d;obtain⟨g,h2,f⟩:=d;have n1 : -10000<=heat.1/\heat.1<=10000:=⟨by omega,by omega⟩;have c : -10000<=heat.2/\heat.2<=10000:=⟨by omega,by omega⟩;have r1:tf (heat.1,1) 10000 10000:=⟨abW n1,n1,by simp⟩;have r2:tf (heat.2,1) 10000 10000:=⟨abW c,c,by simp⟩;unfold qP HL QC PT vt Er;rw[ag3 r1.rat r2.rat,À];have:ieq 0 0=true:=rfl;rw[Ð this,amX r1 r2 (by omega) (by omega),À]
 have e:ile (amY (heat.1,1) (heat.2,1)) 0=true:=by
  unfold amY;simp only[ile,decide_eq_true_eq,Int.mul_one]
  split
  ·omega
  ·split
   ·omega
   ·rw[if_neg (by omega)]; omega
 rw[e,À];simp only[Bool.not_true,æ];rw[Xz a.i64,a.rat,À];simp only[Bool.not_true,æ];rw[am4 a n1,À,am4 a c,À];simp only[show ine (0:Int) 0=false from rfl,æ];rw[amX (VQ a n1) (VQ a c) (by omega) (by omega),À];unfold VG;rw[é]
 by_cases h:0<amY (Gt k heat.1) (Gt k heat.2)
 ·rw[if_pos h,if_pos (by simpa[igt] using h)]; rfl
 ·rw[if_neg h,if_neg (by simpa[igt] using h)]; rfl
def rateK (s:CK (Int×è)) (c:Cmp):Int×Int:=subP (F5 s (Þ c.2.2.1 c.2.2.2.1)) (F5 s (Þ c.2.2.2.1 c.2.2.1))
def ń (b:ò) (c:Cmp):(Int×Int)×(Int×Int):=VG (rateK (ś b) c) c.2.2.2.2.2.2
def aiV {b:ò} (d:iX b) {c:Cmp} (g:c.2.2.1.length<=1000) (f:c.2.2.2.1.length<=1000)
 (a:tf (F5 (ś b) (Þ c.2.2.1 c.2.2.2.1)) 1000 100) (h2:tf (F5 (ś b) (Þ c.2.2.2.1 c.2.2.1)) 1000 100) (e:ks c.2.2.2.2.2.2 (-10000) 10000=true):xb b c=some (ń b c):=by
 unfold xb Uq;rw[Ji d.gauges,À,Bq (by omega) (by omega),À,Yb,À,Bq (by omega) (by omega),À,Yb,À];unfold yD HM;rw[Sub_ok a h2,À,À]
 try dsimp only
 rw[anB (Ng a h2) e,À];rfl
def lr (b:ò) (c:Cmp):Int×Int :=
 (((c.2.2.1.length-1:Nat):Int)*b.1.1-((c.2.2.2.1.length-1:Nat):Int)*b.1.2,((c.2.2.1.length-1:Nat):Int)*b.1.2-((c.2.2.2.1.length-1:Nat):Int)*b.1.1)
def alE {b:ò} {c:Cmp} (d:c.2.2.1.length<=1000) (a:c.2.2.2.1.length<=1000) (h:0<=b.1.1) (h2:b.1.1<=1000000) (g:0<=b.1.2) (f:b.1.2<=1000000):BB b c=some (lr b c):=by
 unfold BB ZW lr
 have e:∀n:Nat,SP 0 ((n:Int)-1)=((n-1:Nat):Int):=by
  intro n;unfold SP
  split<;>omega
 have bd:∀(n:Nat) (x:Int),n<=1000->0<=x->x<=1000000->0<=((n-1:Nat):Int)*x/\((n-1:Nat):Int)*x<=1000000000:=by
  intro n x j h0 i;refine⟨fW (by omega) h0,?_⟩;have:=fG (show((n-1:Nat):Int)<=1000 by omega) i h0 (by omega);omega
 have r:=bd _ _ d h h2;have o:=bd _ _ d g f;have b3:=bd _ _ a h h2;have l:=bd _ _ a g f;simp only[Î];rw[Ï (by omega) (by omega),Ï (by omega) (by omega)];simp only[e];rw[Ï (by omega) (by omega),Ï (by omega) (by omega),Ï (by omega) (by omega),Ï (by omega) (by omega),Ï (by omega) (by omega),Ï (by omega) (by omega)]
def WX {n d:Int} (hd:1<=d) (f : -4000000000<=n/\n<=4000000000):wY n d=some (n / d):=by
 unfold wY PS
 have z:oQ d 0=false:=by simp[oQ]; omega
 rw[Ì z];have t:=Int.mul_tdiv_add_tmod n d
 have g : -4000000000<=Int.tdiv n d/\Int.tdiv n d<=4000000000:=by
  have:=Int.natAbs_tdiv_le_natAbs n d;omega
 rw[Ï (by omega) (by omega),Ì z,é]
 by_cases h:Int.tmod n d<0
 ·rw[if_pos (by simpa[ilt] using h),Ï (by omega) (by omega)];congr 1
  have e : -d<Int.tmod n d:=by
   have c:=iz n d;have a:=g9 n.natAbs (show 0<d.natAbs by omega);omega
  refine(gC (by omega)).2 ⟨?_,?_⟩ |>.symm
  ·rw[Int.sub_mul,f7]; omega
  ·rw[Int.sub_mul,f7 (Int.tdiv n d)]; omega
 ·rw[if_neg (by simpa[ilt] using h)];congr 1
  have e:Int.tmod n d<d:=by
   have c:=iz n d;have a:=g9 n.natAbs (show 0<d.natAbs by omega);omega
  refine(gC (by omega)).2 ⟨?_,?_⟩ |>.symm
  ·rw[f7]; omega
  ·rw[f7 (Int.tdiv n d)]; omega
def amE {x:Int×Int} (c:KC x=true):lP [x]=some 0:=by
 rw[acO]
 ·simp[c]
 ·intro r a
  have:KC r=true:=by simp at a; subst a; assumption
  have:=((lT r).1 this).2.2.1;exact⟨by omega,by omega⟩
 ·simp
def Kj (r:Int×Int):Int:=-(-r.1 / r.2)
def amA {r:Int×Int} (h:KC r=true):IQ r=some (r.1 / r.2,0):=by
 unfold IQ ZQ;have:=(lT r).1 h;rw[amE h,À];rw[show ine (0:Int) 0=false from rfl,æ,WX (by omega) (by omega),À]
def Ke {n d:Int} (hd:1<=d):(n / d).natAbs<=n.natAbs:=by
 exact Int.natAbs_ediv_le_natAbs n d
def aow {r:Int×Int} (h:KC r=true):MT r=some (Kj r,0):=by
 unfold MT adT Kj;have:=(lT r).1 h;rw[amE h,À];rw[show ine (0:Int) 0=false from rfl,æ,Ï (by omega) (by omega),WX (by omega) (by omega),À];have hb:=Ke (n:=0-r.1) (show 1<=r.2 by omega);rw[Ï (by omega) (by omega),Int.zero_sub,Int.zero_sub]
def ql (b:ò) (c:Cmp):Int×Int :=
 (c.2.2.2.2.1-c.2.2.2.2.2.1-(lr b c).2-(ń b c).2.1 / (ń b c).2.2,c.2.2.2.2.1+c.2.2.2.2.2.1-(lr b c).1-Kj (ń b c).1)
structure ţ (b:ò):Prop where
 film:0<=b.1.1/\b.1.1<=b.1.2/\b.1.2<=1000000
 nG:b.2.1.length<=12
 nU:b.2.2.1.length<=40
 nL:b.2.2.2.1.length<=12
 nC:b.2.2.2.2.1.length<=40
 nK:b.2.2.2.2.2.length<=10
 gauge:∀g∈b.2.1,sw g=true
 ids:b.2.1.Pairwise fun a b=>a.1<b.1
 uses:∀u∈b.2.2.1,aba (ś b) u.1 u.2=0
 loans:∀i l,b.2.2.2.1[i]?=some l->Mh b (ś b) i l=0
 compares:∀i c,b.2.2.2.2.1[i]?=some c->md b (ś b) i c=0
 looks:∀u∈b.2.2.2.2.2,aba (ś b) u.1 u.2=0
 nodes:(Ò b).length<=59
 links:2*(Ò b).length+2*b.2.2.2.2.1.length<=300
def yq (b:ò):ke b=0↔(∀g∈b.2.1,sw g=true)/\b.2.1.Pairwise fun a b=>a.1<b.1:=by
 have h0:ė (qk b.2.1) 0 b.2.1=none↔(∀g∈b.2.1,sw g=true)/\b.2.1.Pairwise fun a b=>a.1<b.1:=by
  rw[ŕ,<-I5 (fun g:è=>g.1) b.2.1];constructor
  ·intro h
   have d:∀(j:Nat) (a:è),b.2.1[j]?=some a->sw a=true/\mi (fun g:è=>g.1) b.2.1 j a=false:=by
    intro j a ha;have:=h j a ha;rw[Nat.zero_add] at this;unfold qk at this
    split at this
    ·cases this
    ·split at this
     ·cases this
     ·rename_i d h2;exact⟨by simpa using d,by simpa using h2⟩
   refine⟨fun x l=>?_,fun i a ha=>(d i a ha).2⟩;obtain⟨j,n,rfl⟩:=dm.1 l;exact(d j _ (cV n)).1
  ·rintro⟨d,h2⟩ j a ha;rw[dH];simp[qk,d a (dc ha),h2 j a ha]
 rw[<-h0];unfold ke
 cases h:ė (qk b.2.1) 0 b.2.1 with
 |none=>simp
 |some e =>
  have:∀(m:CK è) (j:Nat) (x:Int),ė (qk b.2.1) j m=some x->x≠0:=by
   intro m
   induction m with
   |nil=>intro j x h; cases h
   |cons a m f =>
    intro j x h;unfold ė at h
    cases c:qk b.2.1 j a with
    |none=>rw[c] at h; exact f _ _ h
    |some y =>
     rw[c] at h;cases h;unfold qk at c
     split at c
     ·cases c; omega
     ·split at c
      ·cases c; omega
      ·cases c
  simp[this _ _ _ h]
def ť (b:ò):ō b=0↔ţ b:=by
 unfold ō;constructor
 ·intro h
  split at h
  ·omega
  rename_i H
  (repeat' split at h)<;>try omega
  ·rename_i g
   have o:ke b≠0:=by simpa using g
   exact(o h).elim
  ·rename_i r;have:=fK r;rename_i e;simp at this;exact(this h).elim
  ·rename_i E D C z y g e r v s
   have n:ke b=0:=by simpa using g
   obtain⟨J,I⟩:=(yq b).1 n
   have a:∀x∈zK b (ś b),x=0:=fun x j=>by
    have:=ee.1 r x j;simpa using this
   simp only[zK,de] at a
   have f:ks b.1 0 1000000=true:=by simpa using H
   simp only[ks,cW,decide_eq_true_eq] at f;refine⟨⟨f.1,f.2.1,f.2.2⟩,by omega,by omega,by omega,by omega,by omega,J,I,fun u d=>a _ (.inl (dw.2 ⟨u,d,rfl⟩)),fun i l F=>?_,fun i c G=>?_,fun u d=>a _ (.inr (.inr (.inr (dw.2 ⟨u,d,rfl⟩)))),by omega,by omega⟩
   ·obtain⟨hi,rfl⟩:=cY.1 F;exact a _ (.inr (.inl (ix.2 ⟨i,hi,rfl⟩)))
   ·obtain⟨hi,rfl⟩:=cY.1 G;exact a _ (.inr (.inr (.inl (ix.2 ⟨i,hi,rfl⟩))))
 ·intro h
  have f:ks b.1 0 1000000=true:=by simp[ks,h.film.1,h.film.2.1,h.film.2.2]
  have g:ke b=0:=(yq b).2 ⟨h.gauge,h.ids⟩
  have a:(zK b (ś b)).find? (fun e=>e != 0)=none:=by
   rw[ee];intro x j;simp only[zK,de,dw,ix] at j
   have:x=0:=by
    rcases j with⟨u,d,rfl⟩|⟨i,hi,rfl⟩|⟨i,hi,rfl⟩|⟨u,d,rfl⟩
    ·exact h.uses u d
    ·exact h.loans i _ (cV hi)
    ·exact h.compares i _ (cV hi)
    ·exact h.looks u d
   simp[this]
  have:=h.nG; have:=h.nU; have:=h.nL; have:=h.nC; have:=h.nK; have:=h.nodes; have:=h.links;rw[f,g,a];simp only[dP,dp,if_false,bne_self_eq_false];rw[if_neg (by omega),if_neg (by omega),if_neg (by omega),if_neg (by omega),if_neg (by omega),if_neg (by omega),if_neg (by omega)]
section
variable {b:ò}
def Ī {l:CK Int} (h:vc l=true):l.length<=6:=((zJ l).1 h).2.2
def ţ.nums (h:ţ b) {c:Cmp} (a:c∈b.2.2.2.2.1):Jt c=true:=by
 obtain⟨i,hi,rfl⟩:=List.mem_iff_getElem.1 a;have:=h.compares i _ (List.getElem?_eq_getElem hi);unfold md at this
 split at this
 ·omega
 ·rename_i h; simpa using h
def ţ.pilesOf (h:ţ b) {c:Cmp} (a:c∈b.2.2.2.2.1):vC b (ś b) c=0:=by
 obtain⟨i,hi,rfl⟩:=List.mem_iff_getElem.1 a;have:=h.compares i _ (List.getElem?_eq_getElem hi);unfold md at this
 split at this
 ·omega
 ·split at this
  ·omega
  ·exact this
def Ŝ (c:Cmp):Jt c=true↔(1<=c.1/\c.1<=1099511627776)/\(0<=c.2.1/\c.2.1<=20000)/\(-1125899906842624<=c.2.2.2.2.1/\c.2.2.2.2.1<=1125899906842624)/\(0<=c.2.2.2.2.2.1/\c.2.2.2.2.2.1<=1073741824)/\ks c.2.2.2.2.2.2 (-10000) 10000=true/\vc c.2.2.1=true/\vc c.2.2.2.1=true:=by
 simp[Jt,inP,Da,and_assoc]
def ţ.size (h:ţ b):iX b:=by
 have i:=h.nG; have h2:=h.nU; have g:=h.nL; have f:=h.nC; have e:=h.nK;refine⟨by omega,by omega,by omega,by omega,by omega,fun c d=>?_⟩;have:=(Ŝ c).1 (h.nums d);have a:=Ī this.2.2.2.2.2.1;have b:=Ī this.2.2.2.2.2.2;omega
def wM (g:è):sw g=true↔KC g.2.2.2.2.1=true/\(-1000<=g.2.2.2.2.1.1/\g.2.2.2.2.1.1<=1000)/\g.2.2.2.2.1.2<=100/\(1<=g.1/\g.1<=1099511627776)/\(0<=g.2.1/\g.2.1<=20000)/\(1<=g.2.2.1/\g.2.2.1<=1125899906842624)/\(-1073741824<=g.2.2.2.1.1/\g.2.2.2.1.1<=g.2.2.2.1.2/\g.2.2.2.1.2<=1073741824)/\(0<=g.2.2.2.2.2/\g.2.2.2.2.2<=1048576):=by
 simp[sw,inP,Da,ks,and_assoc]
def i9 {id:Int} {g:è} (h:í b id=some g):g∈b.2.1/\g.1=id:=by
 unfold í at h;exact⟨List.mem_of_find?_eq_some h,by simpa using List.find?_some h⟩
def jp (hi:b.2.1.Pairwise fun a b=>a.1<b.1) {g:è} (c:g∈b.2.1):í b g.1=some g:=by
 unfold í
 induction d:b.2.1 generalizing b with
 |nil=>rw[d] at c; cases c
 |cons a t e =>
  rw[d] at c hi;rw[dG] at hi;rw[f9];rcases df.1 c with rfl|c
  ·simp
  ·have f:=hi.1 g c
   have:(a.1==g.1)=false:=by simp; omega
   rw[this];have:=e (b:=(b.1,t,b.2.2)) hi.2 c rfl;exact this
def Jy (h:ţ b) {id day:Int} (a:mM (ś b) id day=0):∃g,í b id=some g/\g.2.1<=day:=by
 unfold mM at a;rw[vM h.ids] at a
 split at a
 ·rename_i g c
  split at a
  ·omega
  ·exact⟨g,c,by omega⟩
 ·omega
def EU (s:CK (Int×è)) (id day:Int):mM s id day=0\/mM s id day=4\/mM s id day=5:=by
 unfold mM
 split
 ·split<;>simp
 ·simp
def ţ.pile (h:ţ b) {c:Cmp} (j:c∈b.2.2.2.2.1) {x:Int} (d:x∈c.2.2.1++c.2.2.2.1):(∃g,í b x=some g/\g.2.1<=c.2.1)/\ŗ b x c.2.1=none:=by
 have a:=h.pilesOf j;unfold vC at a
 split at a
 ·omega
 rename_i n
 split at a
 ·omega
 rename_i o
 split at a
 ·omega
 rename_i l;have f:=(dI.1 (eE.2 n)) x d;have i:=(dI.1 (eE.2 o)) x d;have e:=(dI.1 (eE.2 l)) x d;simp at f i e;refine⟨Jy h ?_,e⟩;rcases EU (ś b) x c.2.1 with h0|h0|h0
 ·exact h0
 ·exact(i h0).elim
 ·exact(f h0).elim
def ţ.lefts (h:ţ b) {c:Cmp} (d:c∈b.2.2.2.2.1):(Þ c.2.2.1 c.2.2.2.1).length<=1/\(Þ c.2.2.2.1 c.2.2.1).length<=1/\(Þ c.2.2.1 c.2.2.2.1).length+(Þ c.2.2.2.1 c.2.2.1).length≠0:=by
 have a:=h.pilesOf d;unfold vC at a
 (repeat' split at a)<;>first|omega|exact⟨by omega,by omega,by omega⟩
def lM {a c:CK Int} {x:Int}:x∈Þ a c↔x∈a/\x∉c:=by
 simp[Þ]
def ţ.rate (h:ţ b) {p:CK Int} (c:∀x∈p,∃g,í b x=some g):tf (F5 (ś b) p) 1000 100:=by
 unfold F5
 cases p with
 |nil =>
  have:tf (0,1) 1000 100:=⟨by decide,by decide,by decide⟩;exact this
 |cons x t =>
  obtain⟨g,a⟩:=c x (by simp)
  try dsimp only
  rw[vM h.ids,a];have:=(wM g).1 (h.gauge g (i9 a).1);exact⟨this.1,this.2.1,this.2.2.1⟩
def ţ.rates (h:ţ b) {c:Cmp} (e:c∈b.2.2.2.2.1):tf (F5 (ś b) (Þ c.2.2.1 c.2.2.2.1)) 1000 100/\tf (F5 (ś b) (Þ c.2.2.2.1 c.2.2.1)) 1000 100:=by
 constructor
 ·exact h.rate fun x a=>by
   obtain⟨⟨g,d,_⟩,_⟩:=h.pile e (dR _ (lM.1 a).1);exact⟨g,d⟩
 ·exact h.rate fun x a=>by
   obtain⟨⟨g,d,_⟩,_⟩:=h.pile e (dN _ (lM.1 a).1);exact⟨g,d⟩
def ţ.growth (h:ţ b) {c:Cmp} (e:c∈b.2.2.2.2.1):xb b c=some (ń b c):=by
 obtain⟨r1,r2⟩:=h.rates e;have d:=(Ŝ c).1 (h.nums e);have a:=Ī d.2.2.2.2.2.1;have b:=Ī d.2.2.2.2.2.2;exact aiV h.size (by omega) (by omega) r1 r2 d.2.2.2.2.1
def ţ.films (h:ţ b) {c:Cmp} (d:c.2.2.1.length<=1000) (a:c.2.2.2.1.length<=1000):BB b c=some (lr b c):=by
 have:=h.film;exact alE d a (by omega) (by omega) (by omega) (by omega)
def VF {k heat:Int×Int} (a:tf k 200000 10000) (c:ks heat (-10000) 10000=true):tf (VG k heat).1 2000000000 10000/\tf (VG k heat).2 2000000000 10000:=by
 simp only[ks,Bool.and_eq_true,decide_eq_true_eq] at c;have r1:=VQ a (n:=heat.1) ⟨by omega,by omega⟩;have r2:=VQ a (n:=heat.2) ⟨by omega,by omega⟩;unfold VG
 split
 ·exact⟨r2,r1⟩
 ·exact⟨r1,r2⟩
def sH {c:Cmp} (d:c.2.2.1.length<=1000) (a:c.2.2.2.1.length<=1000) (g:0<=b.1.1) (h2:b.1.1<=1000000) (f:0<=b.1.2) (e:b.1.2<=1000000) :
 (-1000000000<=(lr b c).1/\(lr b c).1<=1000000000)/\(-1000000000<=(lr b c).2/\(lr b c).2<=1000000000):=by
 have bd:∀(n:Nat) (x:Int),n<=1000->0<=x->x<=1000000->0<=((n-1:Nat):Int)*x/\((n-1:Nat):Int)*x<=1000000000:=by
  intro n x i h0 h;refine⟨fW (by omega) h0,?_⟩;have:=fG (show((n-1:Nat):Int)<=1000 by omega) h h0 (by omega);omega
 have o:=bd _ _ d g h2;have l:=bd _ _ d f e;have b3:=bd _ _ a g h2;have j:=bd _ _ a f e;unfold lr
 try dsimp only
 omega
def sF {r:Int×Int} (h:tf r 2000000000 10000) : -2000000000<=r.1 / r.2/\r.1 / r.2<=2000000000:=by
 have:=Ke (n:=r.1) h.pos;have:=h.num;omega
def xf {r:Int×Int} (h:tf r 2000000000 10000) : -2000000000<=Kj r/\Kj r<=2000000000:=by
 have:=Ke (n:=-r.1) h.pos;have:=h.num;unfold Kj;omega
def ţ.says (h:ţ b) {c:Cmp} (d:c∈b.2.2.2.2.1):CA b c=some (ql b c):=by
 obtain⟨r1,r2⟩:=h.rates d;have a:=(Ŝ c).1 (h.nums d);have ha:=Ī a.2.2.2.2.2.1;have hb:=Ī a.2.2.2.2.2.2;have l:=h.film;obtain⟨i,g⟩:=VF (Ng r1 r2) a.2.2.2.2.1;have n:=sH (b:=b) (c:=c) (by omega) (by omega) (by omega) (by omega) (by omega) (by omega);have f:tf (ń b c).1 2000000000 10000:=i;have e:tf (ń b c).2 2000000000 10000:=g;have r:=xf f;have o:=sF e;unfold CA adU ql;rw[h.growth d,À,h.films (by omega) (by omega),À,amA e.rat,À,aow f.rat,À]
 try dsimp only
 have j:=a.2.2.1;have n4:=a.2.2.2.1;rw[Ï (by omega) (by omega),Ï (by omega) (by omega),Ï (by omega) (by omega),Ï (by omega) (by omega),Ï (by omega) (by omega),Ï (by omega) (by omega)]
end
def ğ (l:Jb) (f t:Int):Int:=min l.2.1.2 (t-1)-max l.2.1.1 f+1
def Ł (id f t:Int):CK Jb->Int
 |[]=>0
 |l::r=>(if l.1=id/\0<ğ l f t then ğ l f t*l.2.2 else 0)+Ł id f t r
def Bo (id f t:Int):∀(x y:CK Jb),Ł id f t (x++y)=Ł id f t x+Ł id f t y
 |[],y=>by simp[Ł]
 |l::r,y=>by
  simp only[fe,Ł,Bo id f t r y];omega
def jK (b:ò) (id f t:Int):CK Int:=(b.2.2.1.filter fun u=>u.1==id&&inP u.2 f (t-1)).map fun u=>u.2
def υ (b:ò) (g:è) (f t:Int):Int:=Ł g.1 f t b.2.2.2.1+(X3 (jK b g.1 f t)).length*g.2.2.2.2.2
def WN (a c:Int):abZ a c=min a c:=by unfold abZ; split<;>omega
def aiS (a c:Int):SP a c=max a c:=by unfold SP; split<;>omega
def wG {b:ò} (h:ţ b) {l:Jb} (c:l∈b.2.2.2.1):(0<=l.2.1.1/\l.2.1.1<=l.2.1.2/\l.2.1.2<=20000)/\(0<=l.2.2/\l.2.2<=1048576):=by
 obtain⟨i,hi,rfl⟩:=List.mem_iff_getElem.1 c;have:=h.loans i _ (List.getElem?_eq_getElem hi);unfold Mh at this
 split at this
 ·omega
 rename_i a
 split at this
 ·omega
 rename_i h2;simp only[eJ,Bool.not_eq_false,ks,inP,cW,decide_eq_true_eq] at a h2;exact⟨a,h2⟩
def Uw {l:Jb} (h:(0<=l.2.1.1/\l.2.1.1<=l.2.1.2/\l.2.1.2<=20000)/\(0<=l.2.2/\l.2.2<=1048576)) {f t:Int} (a:0<=f) (hd:0<ğ l f t):0<=ğ l f t*l.2.2/\ğ l f t*l.2.2<=20001*1048576:=by
 refine⟨Int.mul_nonneg (by omega) h.2.1,Int.mul_le_mul ?_ h.2.2 h.2.1 (by omega)⟩;unfold ğ;omega
def vp {id f t:Int} (a:0<=f):∀{x:CK Jb},(∀l∈x,(0<=l.2.1.1/\l.2.1.1<=l.2.1.2/\l.2.1.2<=20000)/\(0<=l.2.2/\l.2.2<=1048576))->0<=Ł id f t x/\Ł id f t x<=x.length*(20001*1048576)
 |[],_=>by simp[Ł]
 |l::r,h=>by
  have e:=vp (id:=id) (t:=t) a (x:=r) fun l c=>h l (by simp[c]);simp only[Ł,di,fX,fZ,gd]
  split
  ·rename_i d;have:=Uw (h l (by simp)) a d.2;omega
  ·omega
def anK {b:ò} (h:ţ b) {g:è} (s:0<=g.2.2.2.2.2/\g.2.2.2.2.2<=1048576) {f t:Int} (C:0<=f/\f<=100000) (O:0<=t/\t<=100000):CB b g f t=some (υ b g f t):=by
 have Q:=h.nL;have I:=h.nU
 have d:∀i,0<=Ł g.1 f t (b.2.2.2.1.take i)/\Ł g.1 f t (b.2.2.2.1.take i)<=12*(20001*1048576):=by
  intro i;have e:=vp (id:=g.1) (t:=t) C.1 (x:=b.2.2.2.1.take i) fun l o=>wG h (fM o);have h2:((b.2.2.2.1.take i).length:Int)*(20001*1048576)<=12*(20001*1048576):=fN (by rw[dk]; omega) (by omega);omega
 unfold CB adW;refine ï (fun x:Int×Int=>∃i:Nat,i<=b.2.2.2.1.length/\x=(Ł g.1 f t (b.2.2.2.1.take i),(i:Int))) (fun x=>b.2.2.2.1.length-x.2.toNat) ?_ ⟨0,by omega,rfl⟩;rintro x ⟨i,hi,rfl⟩;rcases Nat.lt_or_ge i b.2.2.2.1.length with a|H
 ·have o:b.2.2.2.1[i]?=some b.2.2.2.1[i]:=cV a;have G:=wG h (dc o);refine .inr ⟨(Ł g.1 f t (b.2.2.2.1.take (i+1)),(i:Int)+1),⟨i+1,a,by simp⟩,by simp; omega,fun F=>?_⟩
  try dsimp only
  unfold yf;have E:=d i;have R:=d (i+1)
  have j:Ł g.1 f t (b.2.2.2.1.take (i+1))=Ł g.1 f t (b.2.2.2.1.take i)+(if b.2.2.2.1[i].1=g.1/\0<ğ b.2.2.2.1[i] f t then ğ b.2.2.2.1[i] f t*b.2.2.2.1[i].2.2 else 0):=by
   rw[take_succ o,Bo]; simp[Ł]
  rw[Í a,Ã o,Ï (by omega) (by omega),WN,aiS,Ï (by omega) (by omega),Ï (by omega) (by omega)];rw[show min b.2.2.2.1[i].2.1.2 (t-1)-max b.2.2.2.1[i].2.1.1 f+1=ğ b.2.2.2.1[i] f t from rfl,é]
  by_cases c:b.2.2.2.1[i].1=g.1
  ·rw[if_pos (by simpa[ieq] using c),é]
   by_cases hd:0<ğ b.2.2.2.1[i] f t
   ·have K:=Uw G C.1 hd;rw[if_pos ⟨c,hd⟩] at j;rw[if_pos (by simpa[igt] using hd),Ï (by omega) (by omega),Ï (by omega) (by omega),È a (by omega),j]
   ·rw[if_neg (fun v=>hd v.2)] at j;rw[if_neg (by simpa[igt] using hd),È a (by omega),j,gH]
  ·rw[if_neg (fun v=>c v.1)] at j;rw[if_neg (by simpa[ieq] using c),È a (by omega),j,gH]
 ·refine .inl fun F=>?_
  have:i=b.2.2.2.1.length:=by omega
  subst this
  try dsimp only
  unfold yf;rw[Ô,List.take_length]
  have n:∀x:CK (Int×Int),x.length<=40->((x.filter fun u=>u.1==g.1&&inP u.2 f (t-1)).map fun u=>u.2).length<=40:=by
   intro x y;rw[dF];exact du (eA _ _) y
  refine ð b.2.2.1 (fun i=>((b.2.2.1.take i).filter fun u=>u.1==g.1&&inP u.2 f (t-1)).map fun u=>u.2) _ rfl (fun i u hi z r=>?_) (fun r=>?_)
  ·try dsimp only
   unfold ye;have y:=n (b.2.2.1.take i) (by rw[List.length_take]; omega);rw[Í hi,Ã z,Ï (by omega) (by omega),Λ,À,Ñ (by simp only[List.length_singleton]; omega),Am.iff_true,È hi (by omega),È hi (by omega),take_succ z,List.filter_append,List.map_append]
   cases e:(u.1==g.1) with
   |false =>
    have:ieq u.1 g.1=false:=e;simp only[this,æ,eM,e,gZ,dp,if_false,eY,fu,dt]
   |true =>
    have:ieq u.1 g.1=true:=e;rw[this]
    cases h2:inP u.2 f (t-1) with
    |false=>simp only[kQ,æ,eM,e,h2,eD,dp,if_false,eY,fu,dt]
    |true=>simp only[kQ,eM,e,h2,eD,if_true,eY,fu,eV]
  ·try dsimp only
   unfold ye;rw[Ô,List.take_length];rw[show((b.2.2.1.filter fun u=>u.1==g.1&&inP u.2 f (t-1)).map fun u=>u.2)=jK b g.1 f t from rfl];have J:(jK b g.1 f t).length<=40:=n _ I
   have D:(X3 (jK b g.1 f t)).length<=40:=by
    have:=F4 (jK b g.1 f t);omega
   have P:0<=((X3 (jK b g.1 f t)).length:Int)*g.2.2.2.2.2/\((X3 (jK b g.1 f t)).length:Int)*g.2.2.2.2.2<=40*1048576 :=
    ⟨fW (by omega) s.1,fG (by omega) s.2 s.1 (by omega)⟩
   have E:=d b.2.2.2.1.length;rw[List.take_length] at E;dsimp only;rw[Ñ (by omega),Am.iff_true,Ñ (by rw[XX]; omega),Am.iff_true,ahl,Î,Ï (by omega) (by omega),Ï (by omega) (by omega)];rfl
def ö (b:ò) (g:è):CK Lk :=
 [(0,atP (Ò b) [g.1] g.2.1,g.2.2.1+g.2.2.2.1.2),(atP (Ò b) [g.1] g.2.1,0,-(g.2.2.1+g.2.2.2.1.1))] ++
 (List.range ((Û b g).length-1)).flatMap fun(k:Nat)=>[(atP (Ò b) [g.1] g.2.1+k,atP (Ò b) [g.1] g.2.1+k+1,0),(atP (Ò b) [g.1] g.2.1+k+1,atP (Ò b) [g.1] g.2.1+k,υ b g ((Û b g)[k]?.getD 0) ((Û b g)[k+1]?.getD 0))]
def cx (b:ò) (c:Cmp):Int:=atP (Ò b) (Þ c.2.2.1 c.2.2.2.1) c.2.1
def cy (b:ò) (c:Cmp):Int:=atP (Ò b) (Þ c.2.2.2.1 c.2.2.1) c.2.1
def Ľ (b:ò) (c:Cmp):CK Lk:=[(cy b c,cx b c,(ql b c).2),(cx b c,cy b c,-(ql b c).1)]
def ů (b:ò):CK Lk:=b.2.1.flatMap (ö b)++b.2.2.2.2.1.flatMap (Ľ b)
def Ė (b:ò) (i:Nat) (g:è):CK (Int×Int):=[(1,(i:Int)),(1,(i:Int))]++(List.range ((Û b g).length-1)).flatMap fun _=>[(2,(i:Int)),(2,(i:Int))]
def FZ (b:ò):CK (Int×Int):=(b.2.1.mapIdx (Ė b)).flatten++(b.2.2.2.2.1.mapIdx fun i _=>[(3,(i:Int)),(3,(i:Int))]).flatten
section
variable {b:ò}
def XL (h:ţ b) {id day:Int} (a:aba (ś b) id day=0):(0<=day/\day<=20000)/\∃g,í b id=some g/\g.2.1<=day:=by
 unfold aba at a
 split at a
 ·omega
 ·rename_i hd;simp only[eJ,Bool.not_eq_false,Da,inP,cW,decide_eq_true_eq] at hd;exact⟨hd,Jy h a⟩
def Ž {g:è} {d:Int}:d∈Û b g↔d=g.2.1\/(∃c∈b.2.2.2.2.1,(c.2.2.1.contains g.1)≠(c.2.2.2.1.contains g.1)/\c.2.1=d)\/(∃n∈b.2.2.2.2.2,n.1=g.1/\n.2=d):=by
 unfold Û;rw[xw,aap];simp only[List.mem_append,List.mem_singleton,List.mem_map,List.mem_filter];constructor
 ·rintro((h|⟨c,⟨e,h2⟩,a⟩)|⟨n,⟨e,h2⟩,a⟩)
  ·exact .inl h
  ·exact .inr (.inl ⟨c,e,by simpa using h2,a⟩)
  ·exact .inr (.inr ⟨n,e,by simpa using h2,a⟩)
 ·rintro(h|⟨c,e,h2,a⟩|⟨n,e,h2,a⟩)
  ·exact .inl (.inl h)
  ·exact .inl (.inr ⟨c,⟨e,by simpa using h2⟩,a⟩)
  ·exact .inr ⟨n,⟨e,by simpa using h2⟩,a⟩
def ţ.gaugeR (h:ţ b) {g:è} (a:g∈b.2.1):KC g.2.2.2.2.1=true/\(-1000<=g.2.2.2.2.1.1/\g.2.2.2.2.1.1<=1000)/\g.2.2.2.2.1.2<=100/\(1<=g.1/\g.1<=1099511627776)/\(0<=g.2.1/\g.2.1<=20000)/\(1<=g.2.2.1/\g.2.2.1<=1125899906842624)/\(-1073741824<=g.2.2.2.1.1/\g.2.2.2.1.1<=g.2.2.2.1.2/\g.2.2.2.1.2<=1073741824)/\(0<=g.2.2.2.2.2/\g.2.2.2.2.2<=1048576):=(wM g).1 (h.gauge g a)
def ţ.day (h:ţ b) {g:è} (j:g∈b.2.1) {d:Int} (hd:d∈Û b g):g.2.1<=d/\0<=d/\d<=20000:=by
 have r:=h.gaugeR j;have a:=jp h.ids j;rcases Ž.1 hd with rfl|⟨c,l,i,rfl⟩|⟨n,f,i,rfl⟩
 ·have:=r.2.2.2.2.1; omega
 ·have f:=(Ŝ c).1 (h.nums l)
  have o:g.1∈c.2.2.1++c.2.2.2.1:=by
   rw[de]
   by_cases h2:g.1∈c.2.2.1
   ·exact .inl h2
   ·refine .inr ?_
    have u:c.2.2.1.contains g.1=false:=by simpa using h2
    rw[u] at i
    have:c.2.2.2.1.contains g.1=true:=by cases v:c.2.2.2.1.contains g.1<;>simp_all
    simpa using this
  obtain⟨⟨g',e,s⟩,_⟩:=h.pile l o;rw[a] at e; cases e;have:=f.2.1;omega
 ·obtain⟨h2,g',e,s⟩:=XL h (h.looks n f);rw[i,a] at e; cases e;omega
def nr (g:è):g.2.1∈Û b g:=Ž.2 (.inl rfl)
def IW (h:ţ b) {g:è} (c:g∈b.2.1):(Û b g).length<=59:=by
 have f:∀l:CK è,g∈l->(Û b g).length<=(l.flatMap fun g=>(Û b g).map fun d=>((g.1,d):Int×Int)).length:=by
  intro l
  induction l with
  |nil=>intro c; cases c
  |cons a t e =>
   intro c;rw[dz,cZ,dF];rcases df.1 c with rfl|c
   ·omega
   ·have:=e c; omega
 have:=f b.2.1 c;have:=h.nodes;unfold Ò at this;omega
def akd {p:CK Int} {d:Int}:0<=atP (Ò b) p d/\atP (Ò b) p d<=(Ò b).length:=by
 unfold atP
 cases p with
 |nil=>simp
 |cons x t =>
  try dsimp only
  cases h:iG (Ò b) x d with
  |none=>simp
  |some j=>have:=(ky h).1; dsimp only; omega
def xx (h:ţ b) {c:Cmp} (d:c∈b.2.2.2.2.1):(-1125904000000000<=(ql b c).1/\(ql b c).1<=1125904000000000)/\(-1125904000000000<=(ql b c).2/\(ql b c).2<=1125904000000000):=by
 obtain⟨r1,r2⟩:=h.rates d;have a:=(Ŝ c).1 (h.nums d);have ha:=Ī a.2.2.2.2.2.1;have hb:=Ī a.2.2.2.2.2.2;have l:=h.film;obtain⟨i,g⟩:=VF (Ng r1 r2) a.2.2.2.2.1;have n:=sH (b:=b) (c:=c) (by omega) (by omega) (by omega) (by omega) (by omega) (by omega);have f:tf (ń b c).1 2000000000 10000:=i;have e:tf (ń b c).2 2000000000 10000:=g;have r:=xf f;have o:=sF e;have j:=a.2.2.1;have n4:=a.2.2.2.1;unfold ql
 try dsimp only
 omega
def kd (h:ţ b) {g:è} (d:g∈b.2.1) {f t:Int} (e:0<=f):0<=υ b g f t/\υ b g f t<=12*(20001*1048576)+40*1048576:=by
 have a:=(h.gaugeR d).2.2.2.2.2.2.2;have o:=vp (id:=g.1) (t:=t) e (x:=b.2.2.2.1) fun l c=>wG h c;have h2:(b.2.2.2.1.length:Int)*(20001*1048576)<=12*(20001*1048576):=fN (by have:=h.nL; omega) (by omega)
 have n:(jK b g.1 f t).length<=40:=by
  unfold jK;rw[List.length_map];exact Nat.le_trans (List.length_filter_le _ _) h.nU
 have j:=F4 (jK b g.1 f t)
 have i:0<=((X3 (jK b g.1 f t)).length:Int)*g.2.2.2.2.2/\((X3 (jK b g.1 f t)).length:Int)*g.2.2.2.2.2<=40*1048576 :=
  ⟨fW (by omega) a.1,fG (by omega) a.2 a.1 (by omega)⟩
 unfold υ;omega
end
def jT {α β:Type} (f:Nat->α->β) {l:CK α} {i:Nat} {a:α} (h:l[i]?=some a):(l.take (i+1)).mapIdx f=(l.take i).mapIdx f++[f i a]:=by
 have hi:i<l.length:=(cY.1 h).1
 have:(l.take i).length=i:=by rw[dk]; omega
 rw[take_succ h,List.mapIdx_append];simp[this]
def vA {α:Type} (f:Nat->CK α) (j:Nat):(List.range (j+1)).flatMap f=(List.range j).flatMap f++f j:=by
 rw[ft,eO]; simp
def jc {α:Type} (f:Nat->CK α) (n:Nat) (h:∀k,(f k).length=2):((List.range n).flatMap f).length=2*n:=by
 induction n with
 |zero=>rfl
 |succ n a=>rw[vA,cZ,a,h]; omega
set_option maxHeartbeats 2000000 in
def adA {b:ò} (h:ţ b):IR b=some (b,Ò b,(((Ò b).length:Int)+1,ů b),FZ b):=by
 unfold IR adV;have hN:=h.nodes;have hG:=h.nG;have hC:=h.nC;rw[VL h.size,À,Î,Ï (by omega) (by omega)]
 -- lengths of what comes
 have T:∀g∈b.2.1,(ö b g).length<=120/\∀i,(Ė b i g).length<=120:=by
  intro g a;have:=IW h a;constructor
  ·unfold ö;rw[List.length_append,jc _ _ (fun _=>rfl)];simp only[List.length_cons,List.length_nil]; omega
  ·intro i;unfold Ė;rw[List.length_append,jc _ _ (fun _=>rfl)];simp only[List.length_cons,List.length_nil]; omega
 have s:∀i,((b.2.1.take i).flatMap (ö b)).length<=1440/\(((b.2.1.take i).mapIdx (Ė b)).flatten).length<=1440:=by
  intro i
  induction i with
  |zero=>simp
  |succ i o =>
   have key:∀i,i<=b.2.1.length->((b.2.1.take i).flatMap (ö b)).length<=i*120/\(((b.2.1.take i).mapIdx (Ė b)).flatten).length<=i*120:=by
    intro i
    induction i with
    |zero=>intro _; simp
    |succ i o =>
     intro hi;have o:=o (by omega);have a:b.2.1[i]?=some b.2.1[i]:=cV hi;have h2:=T _ (dc a);have h3:=h2.2 i;rw[jT _ a,take_succ a,eO,gQ,cZ,cZ];simp only[dz,gj,dt,ig,ir];omega
   rcases dl b.2.1.length (i+1) with G|G
   ·rw[dY (by omega)];have:=key b.2.1.length (cX _);rw[fB] at this;omega
   ·have:=key (i+1) G;omega
 refine ð b.2.1 (fun i=>((b.2.1.take i).flatMap (ö b),((b.2.1.take i).mapIdx (Ė b)).flatten)) _ rfl (fun i g hi a P=>?_) (fun P=>?_)
 ·try dsimp only
  unfold yd;have e:=List.mem_of_getElem? a;have z:=h.gaugeR e;have hd:=IW h e;have r:=s i;have R:=akd (b:=b) (p:=[g.1]) (d:=g.2.1);rw[Í hi,Ã a];rw[show qQ ((b.1.1,b.1.2),b.2.1,b.2.2.1,b.2.2.2.1,b.2.2.2.2.1,b.2.2.2.2.2) g=qQ b g from rfl,ajj h.size,À];rw[aok _ _ _ (by dsimp only; omega),À]
  try dsimp only
  have r1:=z.2.2.2.2.2.1;have r2:=z.2.2.2.2.2.2.1;rw[Ï (by omega) (by omega),Ï (by omega) (by omega),Ï (by omega) (by omega),Ñ (by simp only[di,dK]; omega),Am.iff_true,Ñ (by simp only[di,dK]; omega),Am.iff_true]
  refine ï (fun x:Int×CK Lk×CK (Int×Int)=>∃j:Nat,j+1<=(Û b g).length/\x.1=(j:Int)+1 /\
   x.2.1=(b.2.1.take i).flatMap (ö b)++([(0,atP (Ò b) [g.1] g.2.1,g.2.2.1+g.2.2.2.1.2),(atP (Ò b) [g.1] g.2.1,0,-(g.2.2.1+g.2.2.2.1.1))] ++
    (List.range j).flatMap fun(k:Nat)=>[(atP (Ò b) [g.1] g.2.1+k,atP (Ò b) [g.1] g.2.1+k+1,0),(atP (Ò b) [g.1] g.2.1+k+1,atP (Ò b) [g.1] g.2.1+k,υ b g ((Û b g)[k]?.getD 0) ((Û b g)[k+1]?.getD 0))]) /\
   x.2.2=((b.2.1.take i).mapIdx (Ė b)).flatten++([(1,(i:Int)),(1,(i:Int))]++(List.range j).flatMap fun _=>[(2,(i:Int)),(2,(i:Int))])) (fun x=>(Û b g).length-x.1.toNat) ?_
   ⟨0,fw (nr g),rfl,by simp,by simp⟩
  rintro⟨Z,O,K⟩ ⟨j,hj,J,y,v⟩;dsimp only at J y v ⊢;subst J
  have F:O.length<=1562:=by
   rw[y,cZ,cZ,jc _ _ (fun _=>rfl)];simp only[di,dK]; omega
  have E:K.length<=1562:=by
   rw[v,cZ,cZ,jc _ _ (fun _=>rfl)];simp only[di,dK]; omega
  rcases dl (j+1) (Û b g).length with f|Q
  ·refine .inr ⟨((j:Int)+1+1,_,_),⟨j+1,f,by push_cast; rfl,rfl,rfl⟩,by dsimp only; omega,fun l=>?_⟩
   try dsimp only
   unfold yc
   have I:(Û b g)[j]?=some ((Û b g)[j]?.getD 0):=by rw[cV (by omega)]; rfl
   have H:(Û b g)[j+1]?=some ((Û b g)[j+1]?.getD 0):=by rw[cV f]; rfl
   have V:=h.day e (dc I);have d2:=h.day e (dc H);have lb:=kd h e (t:=(Û b g)[j+1]?.getD 0) V.2.1
   have U:((j:Int)+1)=((j+1:Nat):Int):=by push_cast; rfl
   rw[U,Í f,Ï (by omega) (by omega),Ï (by omega) (by omega),Ï (by omega) (by omega),Ï (by omega) (by omega)];rw[show(((j+1:Nat):Int)-1)=((j:Nat):Int) by omega,Ã I,Ã H];rw[show CB ((b.1.1,b.1.2),b.2.1,b.2.2.1,b.2.2.2.1,b.2.2.2.2.1,b.2.2.2.2.2) (g.1,g.2.1,g.2.2.1,(g.2.2.2.1.1,g.2.2.2.1.2),(g.2.2.2.2.1.1,g.2.2.2.2.1.2),g.2.2.2.2.2) ((Û b g)[j]?.getD 0) ((Û b g)[j+1]?.getD 0)=CB b g ((Û b g)[j]?.getD 0) ((Û b g)[j+1]?.getD 0) from rfl];rw[anK h z.2.2.2.2.2.2.2 ⟨by omega,by omega⟩ ⟨by omega,by omega⟩,À,Ï (by omega) (by omega),Ï (by omega) (by omega),Ñ (by simp only[di,dK]; omega),Am.iff_true,Ñ (by simp only[di,dK]; omega),Am.iff_true,È f (by omega)];rw[vA,vA,y,v]
   have Y:atP (Ò b) [g.1] g.2.1+((j+1:Nat):Int)-1=atP (Ò b) [g.1] g.2.1+(j:Int):=by push_cast; omega
   have X:atP (Ò b) [g.1] g.2.1+((j+1:Nat):Int)=atP (Ò b) [g.1] g.2.1+(j:Int)+1:=by push_cast; omega
   have a3:0-(0-υ b g ((Û b g)[j]?.getD 0) ((Û b g)[j+1]?.getD 0))=υ b g ((Û b g)[j]?.getD 0) ((Û b g)[j+1]?.getD 0):=by omega
   rw[Y,X,a3];simp only[dg]
  ·refine .inl fun l=>?_
   have C:j+1=(Û b g).length:=by omega
   unfold yc;rw[show((j:Int)+1)=(((Û b g).length:Nat):Int) by rw[<-C]; push_cast; rfl,Ô];dsimp only;rw[È hi (by omega)];rw[jT _ a,take_succ a,List.flatMap_append,List.flatten_append,y,v,show j=(Û b g).length-1 by omega];simp only[List.flatMap_cons,List.flatMap_nil,List.append_nil,List.flatten_cons,List.flatten_nil];rfl
 ·try dsimp only
  unfold yd;rw[Ô,List.take_length];have r:=s b.2.1.length;rw[List.take_length] at r
  have W:∀i,i<=b.2.2.2.2.1.length->((b.2.2.2.2.1.take i).flatMap (Ľ b)).length=2*i/\(((b.2.2.2.2.1.take i).mapIdx fun i _=>[((3:Int),(i:Int)),((3:Int),(i:Int))]).flatten).length=2*i:=by
   intro i
   induction i with
   |zero=>intro _; simp
   |succ i o =>
    intro hi;have o:=o (by omega);have a:b.2.2.2.2.1[i]?=some b.2.2.2.2.1[i]:=cV hi;rw[jT _ a,take_succ a,eO,gQ,cZ,cZ];simp only[dz,gj,dt,ig,ir,Ľ,di,dK];omega
  refine ð b.2.2.2.2.1 (fun i=>(b.2.1.flatMap (ö b)++(b.2.2.2.2.1.take i).flatMap (Ľ b),(b.2.1.mapIdx (Ė b)).flatten++((b.2.2.2.2.1.take i).mapIdx fun i _=>[((3:Int),(i:Int)),((3:Int),(i:Int))]).flatten)) _ (by simp) (fun i c hi u l=>?_) (fun l=>?_)
  ·try dsimp only
   unfold yb;have n:=List.mem_of_getElem? u;have D:=(Ŝ c).1 (h.nums n);have ha:=Ī D.2.2.2.2.2.1;have hb:=Ī D.2.2.2.2.2.2;have sb:=xx h n;have c1:=W i (by omega);rw[Í hi,Ã u,Bq (by omega) (by omega),À,aok _ _ _ (by dsimp only; omega),À,Bq (by omega) (by omega),À,aok _ _ _ (by dsimp only; omega),À];rw[show CA ((b.1.1,b.1.2),b.2.1,b.2.2.1,b.2.2.2.1,b.2.2.2.2.1,b.2.2.2.2.2) c=CA b c from rfl,h.says n,À];rw[Ï (by omega) (by omega),Ñ (by simp only[List.length_append,List.length_cons,List.length_nil]; omega),Am.iff_true,Ñ (by simp only[List.length_append,List.length_cons,List.length_nil]; omega),Am.iff_true,È hi (by omega),jT _ u,take_succ u,List.flatMap_append,List.flatten_append];simp only[List.flatMap_cons,List.flatMap_nil,List.append_nil,List.flatten_cons,List.flatten_nil,List.append_assoc,Int.zero_sub];rfl
  ·try dsimp only
   unfold yb;rw[Ô,List.take_length];rfl
section
variable {ρ:Type}
def wv (w:CK Bool) (v:Int):Bool:=w[v.toNat]?.getD false
def acK {w:CK Bool} {u v:Int} (d:0<=u) (c:0<=v) (h:u.toNat<w.length) (y:Bool):wv (w.set u.toNat y) v=if v=u then y else wv w v:=by
 unfold wv;rw[List.getElem?_set]
 by_cases a:v=u
 ·subst a; simp[h]
 ·have:¬u.toNat=v.toNat:=by omega
  simp[a,this]
def lD {x:CK Int} {v:Int} (h:v.toNat<x.length) (f:Int->BY ρ):Į x v.toNat f=f (gv x v):=ž (aac h) f
def VO {w:CK Bool} {v:Int} (h:v.toNat<w.length) (f:Bool->BY ρ):Į w v.toNat f=f (wv w v):=by
 refine ž ?_ f;unfold wv; rw[List.getElem?_eq_getElem h]; rfl
def ź {v:Int} {n:Nat} (h0:0<=v) (a:v<n) (x:BY ρ):à ((ile 0 v)&&(ilt v (n:Int))) x=x:=by
 have:((ile 0 v)&&(ilt v (n:Int)))=true:=by simp[ile,ilt,h0,a]
 rw[this,Am.iff_true]
end
def sn (n least:Int):CK Lk->CK Int->CK Bool->CK Int->Bool×CK Int×CK Bool×CK Int
 |[],x,w,q=>(true,x,w,q)
 |l::t,x,w,q =>
  if l.1≠n then sn n least t x w q else
  if gv x l.2.1<=gv x n+l.2.2 then sn n least t x w q else
  if gv x n+l.2.2<least then(false,x.set l.2.1.toNat (gv x n+l.2.2),w,q) else
  if wv w l.2.1 then sn n least t (x.set l.2.1.toNat (gv x n+l.2.2)) w q else sn n least t (x.set l.2.1.toNat (gv x n+l.2.2)) (w.set l.2.1.toNat true) (q++[l.2.1])
structure jt (L:CK Lk) (N:Nat) (M:Int):Prop where
 inr:InR L N
 noloop:∀l∈L,l.1≠l.2.1
 most:∀l∈L,-M<=l.2.2/\l.2.2<=M
 len:L.length<=400
 nodes:N<=1000
 m0:0<=M
 m1:M<=4503599627370496
set_option maxHeartbeats 1000000 in
def alw {ρ:Type} {L:CK Lk} {N:Nat} {M:Int} (G:jt L N M) {n least:Int} (R:0<=n/\n<N) {x:CK Int} {w:CK Bool} {q:CK Int} (hx:x.length=N) (hw:w.length=N) (hq:q.length<=1000000)
 (hb : -2305843009213693952<=gv x n/\gv x n<=2305843009213693952) (V:(Val (.pair .bool (.pair (.slice tI) (.pair (.slice .bool) (.slice tI)))))->BY ρ) (U:(Val (.pair (.slice tI) (.pair (.slice .bool) (.slice tI))))->BY ρ) :
 Ë (fun(d:(Val (.pair tI (.pair (.slice tI) (.pair (.slice .bool) (.slice tI)))))) E=>j9 [] least n L (Õ L) d.1 d.2.1 d.2.2.1 d.2.2.2 (fun P O K J=>E (P,O,K,J)) V U) ((0:Int),x,w,q) =
  match sn n least L x w q with
  |(true,r)=>U r
  |(false,r)=>V (false,r):=by
 have Y:=G.len
 refine WD L (fun i (s:CK Int×CK Bool×CK Int) t=>match sn n least t s.1 s.2.1 s.2.2 with|(true,r)=>U r|(false,r)=>V (false,r))
  (fun i s=>s.1.length=N/\s.2.1.length=N/\gv s.1 n=gv x n/\s.2.2.length<=1000000+i) (fun s hs kn=>?_) (fun i l t s hd hi Z hI kn F=>?_) (s:=(x,w,q)) ⟨hx,hw,rfl,by simpa using hq⟩
 ·try dsimp only
  unfold j9;rw[Ô];rfl
 ·obtain⟨y,u,p⟩:=s;obtain⟨H,h2,I,h4⟩:=hI;dsimp only at H h2 I h4 F ⊢;have a:l∈L:=List.mem_of_getElem? Z;have z:=G.inr l a;have hm:=G.most l a;have hm1:=G.m1;have Q:=G.noloop l a;unfold j9;rw[Í hi,Ã Z];unfold sn
  by_cases c:l.1=n
  ·have T:ine l.1 n=false:=by simp[ine,c]
   rw[Ì T];have e1:∀(f:Bool->BY ρ) (g:BY ρ),Rh (k:=tI) (v:=.bool) (i:Int) [] f g=g:=fun f g=>rfl;rw[e1,if_neg (by simp[c])]
   have X:n.toNat<y.length:=by omega
   have D:l.2.1.toNat<y.length:=by omega
   have W:l.2.1.toNat<u.length:=by omega
   rw[ź R.1 (by omega),lD X,Ï (by omega) (by omega),ź z.2.1 (by omega),lD D,é]
   by_cases j:gv y l.2.1<=gv y n+l.2.2
   ·rw[if_pos (by simpa[ige] using j),if_pos j,È hi (by omega)];exact F (y,u,p) ⟨H,h2,I,by dsimp only; omega⟩
   ·rw[if_neg (by simpa[ige] using j),if_neg j]
    have o:gv (y.set l.2.1.toNat (gv y n+l.2.2)) n=gv x n:=by
     rw[qj z.2.1 R.1 D,if_neg (fun h=>Q (c.trans h)),I]
    have C:gv (y.set l.2.1.toNat (gv y n+l.2.2)) l.2.1=gv y n+l.2.2:=by
     rw[qj z.2.1 z.2.1 D,if_pos rfl]
    rw[ź R.1 (by omega),lD X,Ï (by omega) (by omega),ź z.2.1 (by omega),lD D];rw[show(î (List.set y l.2.1.toNat (gv y n+l.2.2)))=((y.length:Nat):Int) by simp[î]];rw[ź z.2.1 (by omega),lD (by simpa using D),C,é]
    by_cases e:gv y n+l.2.2<least
    ·rw[if_pos (by simpa[ilt] using e),if_pos e]
    ·rw[if_neg (by simpa[ilt] using e),if_neg e,ź z.2.1 (by omega),VO W,é]
     cases hwv:wv u l.2.1 with
     |true =>
      rw[if_neg (by simp),if_pos rfl,È hi (by omega)];exact F (y.set l.2.1.toNat (gv y n+l.2.2),u,p) ⟨by simpa using H,h2,o,by dsimp only; omega⟩
     |false =>
      rw[if_pos (by simp),if_neg (by simp),Ñ (by simp only[dO]; omega),Am.iff_true,ź z.2.1 (by omega),VO W,È hi (by omega)];exact F (y.set l.2.1.toNat (gv y n+l.2.2),u.set l.2.1.toNat true,p++[l.2.1]) ⟨by simpa using H,by simpa using h2,o,by simp only[cZ,dO]; omega⟩
  ·have T:ine l.1 n=true:=by simp[ine,c]
   rw[Ð T,if_pos c,È hi (by omega)];exact F (y,u,p) ⟨H,h2,I,by dsimp only; omega⟩
structure amD (N:Nat) (n least:Int) (L:CK Lk) (x:CK Int) (q:CK Int) (x':CK Int) (w':CK Bool) (q':CK Int):Prop where
 lx:x'.length=N
 lw:w'.length=N
 same:gv x' n=gv x n
 le:∀v:Int,0<=v->v<N->gv x' v<=gv x v
 link:∀v m,(n,v,m)∈L->gv x' v<=gv x n+m
 chg:∀v:Int,0<=v->v<N->gv x' v=gv x v\/(v∈q'/\gv x' v<gv x v/\∃m,(n,v,m)∈L/\gv x' v=gv x n+m/\least<=gv x' v)
 new:∃l,q'=q++l/\∀v∈l,(0<=v/\v<N)/\gv x' v<gv x v
 nodup:q'.Nodup
 waits:∀v:Int,0<=v->v<N->(wv w' v=true↔v∈q')
def mr {N:Nat} {n least:Int} (P:0<=n/\n<N):∀{L:CK Lk},InR L N->(∀l∈L,l.1≠l.2.1)->∀{x:CK Int} {w:CK Bool} {q:CK Int},x.length=N->w.length=N->q.Nodup->(∀v:Int,0<=v->v<N->(wv w v=true↔v∈q)) ->
 ∀{C:CK Int} {w':CK Bool} {G:CK Int},sn n least L x w q=(true,C,w',G)->amD N n least L x q C w' G
 |[],_,_,x,w,q,K,H,I,c,C,w',G,h=>by
  cases h;exact⟨K,H,rfl,fun _ _ _=>dQ _,fun _ _ h=>(by cases h),fun _ _ _=>.inl rfl,⟨[],by simp,fun _ h=>by cases h⟩,I,c⟩
 |l::t,hL,O,x,w,q,K,H,I,c,C,w',G,h=>by
  have s:InR t N:=fun l hl=>hL l (by simp[hl]);have r:∀l∈t,l.1≠l.2.1:=fun l hl=>O l (by simp[hl]);have d:=hL l (by simp);have hl0:=O l (by simp);unfold sn at h
  split at h
  ·rename_i F;have a:=mr P s r K H I c h
   exact⟨a.lx,a.lw,a.same,a.le,fun v m i=>by
    rcases df.1 i with rfl|i
    ·exact(F rfl).elim
    ·exact a.link v m i,fun v h0 u=>(a.chg v h0 u).imp id fun⟨z,j,m,T,J⟩=>⟨z,j,m,by simp[T],J⟩,a.new,a.nodup,a.waits⟩
  ·rename_i F
   have R:l.1=n:=by simpa using F
   split at h
   ·rename_i hle;have a:=mr P s r K H I c h
    exact⟨a.lx,a.lw,a.same,a.le,fun v m i=>by
     rcases df.1 i with rfl|i
     ·have:=a.le v d.2.1 d.2.2; simp only at hle; omega
     ·exact a.link v m i,fun v h0 u=>(a.chg v h0 u).imp id fun⟨z,j,m,T,J⟩=>⟨z,j,m,by simp[T],J⟩,a.new,a.nodup,a.waits⟩
   ·rename_i hgt
    split at h
    ·cases h
    ·rename_i hls
     have tt:l.2.1.toNat<x.length:=by omega
     have tw:l.2.1.toNat<w.length:=by omega
     have hy:(x.set l.2.1.toNat (gv x n+l.2.2)).length=N:=by simpa using K
     have D:gv (x.set l.2.1.toNat (gv x n+l.2.2)) n=gv x n:=by
      rw[qj d.2.1 P.1 tt,if_neg (fun h=>hl0 (R.trans h))]
     have f:∀v,0<=v->gv (x.set l.2.1.toNat (gv x n+l.2.2)) v=if v=l.2.1 then gv x n+l.2.2 else gv x v:=fun v h0=>qj d.2.1 h0 tt _
     have hlm:(n,l.2.1,l.2.2)∈l::t:=by rw[<-R]; simp
     -- what both ways have in common
     have fin:∀{w1:CK Bool} {U:CK Int},amD N n least t (x.set l.2.1.toNat (gv x n+l.2.2)) U C w' G->l.2.1∈U->(∃V,U=q++V/\∀v∈V,v=l.2.1)->amD N n least (l::t) x q C w' G:=by
      intro w1 U a Q X;obtain⟨new,y,Y⟩:=a.new;obtain⟨V,hl',hlv⟩:=X
      have W:gv C l.2.1<=gv x n+l.2.2:=by
       have:=a.le l.2.1 d.2.1 d.2.2;rw[f _ d.2.1,if_pos rfl] at this;exact this
      refine⟨a.lx,a.lw,a.same.trans D,fun v h0 u=>?_,fun v m i=>?_,fun v h0 u=>?_,⟨V++new,by rw[y,hl',dg],fun v o=>?_⟩,a.nodup,a.waits⟩
      ·have:=a.le v h0 u;rw[f v h0] at this
       split at this
       ·rename_i e; subst e; omega
       ·exact this
      ·rcases df.1 i with rfl|i
       ·exact W
       ·have:=a.link v m i
        rwa [D] at this
      ·rcases a.chg v h0 u with g|⟨z,j,m,T,J,g5⟩
       ·rw[f v h0] at g
        split at g
        ·rename_i e;subst e;exact .inr ⟨by rw[y]; exact dR _ Q,by omega,l.2.2,hlm,g,by omega⟩
        ·exact .inl g
       ·rw[f v h0] at j;rw[D] at J;refine .inr ⟨z,?_,m,by simp[T],J,g5⟩
        split at j
        ·rename_i e; subst e; omega
        ·exact j
      ·rcases de.1 o with o|o
       ·rw[hlv v o]; exact⟨d.2,by omega⟩
       ·obtain⟨z,j⟩:=Y v o;rw[f v z.1] at j;refine⟨z,?_⟩
        split at j
        ·rename_i e; subst e; omega
        ·exact j
     split at h
     ·rename_i E;exact fin (w1:=w) (mr P s r hy H I c h) ((c _ d.2.1 d.2.2).1 E) ⟨[],by simp,fun _ h=>by cases h⟩
     ·rename_i E;have Z:l.2.1∉q:=fun hc=>E ((c _ d.2.1 d.2.2).2 hc);refine fin (w1:=w.set l.2.1.toNat true) (mr P s r hy (by simpa using H) ?_ ?_ h) (by simp) ⟨[l.2.1],rfl,fun v o=>by simpa using o⟩
      ·rw[List.nodup_append];exact⟨I,by simp,fun a ha b hb=>by simp at hb; subst hb; exact fun e=>Z (e▸ha)⟩
      ·intro v h0 u;rw[acK d.2.1 h0 tw]
       by_cases o:v=l.2.1
       ·simp[o]
       ·simp only[o,if_false,de,dh,or_false];exact c v h0 u
def pI {n least:Int}:∀{L:CK Lk},(∀l∈L,l.1≠l.2.1)->(∀l∈L,0<=l.2.1)->0<=n->∀{x:CK Int} {w:CK Bool} {q:CK Int} {r},sn n least L x w q=(false,r)->∃v m,(n,v,m)∈L/\gv x n+m<least
 |[],_,_,_,x,w,q,r,h=>by cases h
 |l::t,e,h0,g,x,w,q,r,h=>by
  have a:∀l∈t,l.1≠l.2.1:=fun l s=>e l (by simp[s]);have c:∀l∈t,0<=l.2.1:=fun l s=>h0 l (by simp[s]);have f:(∃v m,(n,v,m)∈t/\gv x n+m<least)->∃v m,(n,v,m)∈l::t/\gv x n+m<least:=fun⟨v,m,y,u⟩=>⟨v,m,by simp[y],u⟩;unfold sn at h
  split at h
  ·exact f (pI a c g h)
  ·rename_i i
   have o:l.1=n:=by simpa using i
   split at h
   ·exact f (pI a c g h)
   ·split at h
    ·rename_i j;exact⟨l.2.1,l.2.2,by rw[<-o]; simp,j⟩
    ·have d:gv (x.set l.2.1.toNat (gv x n+l.2.2)) n=gv x n:=by
      unfold gv;rw[List.getElem?_set];have z:=e l (by simp);have h2:=h0 l (by simp)
      have:¬l.2.1.toNat=n.toNat:=by omega
      simp[this]
     split at h
     ·have:=pI a c g h;rw[d] at this;exact f this
     ·have:=pI a c g h;rw[d] at this;exact f this
def adv {ρ:Type} {L:CK Lk} {N:Nat} {M:Int} (i:jt L N M) {n least:Int} (c:0<=n/\n<N) {x:CK Int} {w:CK Bool} {t rest:CK Int} (l:x.length=N) (o:w.length=N) (E:t.length=N) (u:rest.length<=1000000)
 (hb : -2305843009213693952<=gv x n/\gv x n<=2305843009213693952) (s:0<=gv t n/\gv t n<=1000000) (h:CK Int->CK Bool->CK Int->CK Int->BY ρ) (k0:(Val (.pair .bool (.pair (.slice tI) (.pair (.slice .bool) (.pair (.slice tI) (.slice tI))))))->BY ρ) :
 ĭ [] least (N:Int) L x w t (n::rest) h k0 =
  if (N:Int)+1<gv t n+1 then k0 (false,x,w.set n.toNat false,t.set n.toNat (gv t n+1),rest) else
  match sn n least L x (w.set n.toNat false) rest with
  |(true,d,w',g)=>h d w' (t.set n.toNat (gv t n+1)) g
  |(false,d,w',g)=>k0 (false,d,w',t.set n.toNat (gv t n+1),g):=by
 have F:=i.nodes
 have D:n.toNat<x.length:=by omega
 have j:n.toNat<w.length:=by omega
 have e:n.toNat<t.length:=by omega
 unfold ĭ
 have C:ieq (Õ (n::rest)) 0=false:=by
  rw[Î];simp only[ieq,di,beq_eq_false_iff_ne,ne_eq];omega
 have z:ilt (0:Int) (î (n::rest))=true:=by simp[ilt,î]
 have y:ile (1:Int) (î (n::rest))=true:=by simp[ile,î]; omega
 have v:decide (1+(List.length (n::rest)-1)=List.length (n::rest))=true:=by simp; omega
 rw[Ì C,å z];rw[show Į (n::rest) 0=fun(f:Int->BY ρ)=>f n from rfl]
 try dsimp only
 rw[å y,å v,ź c.1 (by omega),VO j,ź c.1 (by omega),lD e,Ï (by omega) (by omega),ź c.1 (by omega),lD e];rw[show(î (List.set t n.toNat (gv t n+1)))=((t.length:Nat):Int) by simp[î]];rw[ź c.1 (by omega),lD (by simpa using e),qj c.1 c.1 e,if_pos rfl,Ï (by omega) (by omega),é];rw[show List.drop 1 (n::rest)=rest from rfl]
 by_cases a:(N:Int)+1<gv t n+1
 ·rw[if_pos (by simpa[igt] using a),if_pos a]
 ·rw[if_neg (by simpa[igt] using a),if_neg a];rw[alw i c l (w:=w.set n.toNat false) (by simpa using o) u hb];generalize sn n least L x (w.set n.toNat false) rest=r;obtain⟨b,d,w',g⟩:=r
  cases b<;>rfl
def ahH {ρ:Type} {L:CK Lk} {N:Int} {least:Int} {x:CK Int} {w:CK Bool} {t:CK Int} (a:CK Int->CK Bool->CK Int->CK Int->BY ρ) (k0:(Val (.pair .bool (.pair (.slice tI) (.pair (.slice .bool) (.pair (.slice tI) (.slice tI))))))->BY ρ) :
 ĭ [] least N L x w t [] a k0=k0 (true,x,w,t,[]):=by
 unfold ĭ
 have c:ieq (Õ ([]:CK Int)) 0=true:=by rw[Î]; rfl
 rw[Ð c]
def WF (N:Nat) (t:CK Int):Nat:=(t.map fun a=>((N:Int)+2-a).toNat).sum
def ad7 (N:Nat):∀(t:CK Int) (i:Nat) (a b:Int),t[i]?=some a->a<b->a<(N:Int)+2->WF N (t.set i b)<WF N t
 |a0::t,0,a,b,h,c,h2=>by
  simp at h; subst h;simp only[WF,List.set_cons_zero,eV,List.sum_cons];omega
 |a0::t,i+1,a,b,h,c,h2=>by
  have:=ad7 N t i a b (by simpa using h) c h2;simp only[WF] at this;simp only[WF,List.set_cons_succ,eV,List.sum_cons];omega
def Z6 {N:Nat} {t:CK Int} {n:Int} (a:n.toNat<t.length) (h:gv t n<=(N:Int)+1):WF N (t.set n.toNat (gv t n+1))<WF N t :=
 ad7 N t n.toNat (gv t n) _ (aac a) (by omega) (by omega)
structure agN (L:CK Lk) (S:Int->Prop) (N:Nat) (M:Int) (k:Nat) (A B:CK Int) (x:CK Int) (w:CK Bool) (t q:CK Int):Prop where
 q_eq:q=A++B
 lx:x.length=N
 lw:w.length=N
 lt:t.length=N
 nodup:q.Nodup
 rng:∀v∈q,0<=v/\v<N
 waits:∀v:Int,0<=v->v<N->(wv w v=true↔v∈q)
 t0:∀v:Int,0<=v->v<N->0<=gv t v/\gv t v<=(k:Int)+1
 tA:∀v∈A,gv t v<=k
 low:∀vs v d,Wl L S vs v d->vs.length<=k->gv x v<=d
 nxt:∀vs u d,Wl L S vs u d->vs.length<=k->u∉A->∀v m,(u,v,m)∈L->gv x v<=d+m
 rel:∀u:Int,0<=u->u<N->u∉q->gv x u≠Ś->∀v m,(u,v,m)∈L->gv x v<=gv x u+m
 att:∀v:Int,0<=v->v<N->gv x v≠Ś->∃vs,Wl L S vs v (gv x v)
 bd:∀v:Int,0<=v->v<N->gv x v=Ś\/gv x v<=((k:Int)+1)*M
 bA:∀v∈A,gv x v<=(k:Int)*M
 fin:∀v∈q,gv x v<Ś
 kN:k+1<=N
 last:k+1=N->B=[]
section
variable {L:CK Lk} {S:Int->Prop} {N:Nat} {M:Int} {p:Int->Int} {k:Nat} {A B x:CK Int} {w:CK Bool} {t q:CK Int}
def MB {a b:Nat} {M:Int} (h:a<=b) (c:0<=M):(a:Int)*M<=(b:Int)*M:=fN (by omega) c
def Wl.lt_free (a:jt L N M) (f:N*M<Ś) {vs:CK Int} {v d:Int} (c:Wl L S vs v d) (h:vs.length<=N):d<Ś:=by
 have g:=c.high fun l e=>(a.most l e).2;have h2:=MB h a.m0;omega
def agN.next (r:jt L N M) (o:N*M<Ś) (C:∀v,S v->0<=v/\v<N) (h:agN L S N M k [] B x w t q) (E:B≠[]):agN L S N M (k+1) B [] x w t q:=by
 have D:=r.m0
 have i:q=B:=by simpa using h.q_eq
 have F:k+1≠N:=fun e=>E (h.last e);have z:=h.kN
 have a:∀vs v d,Wl L S vs v d->vs.length<=k+1->gv x v<=d:=by
  intro vs v d f n
  cases f with
  |nil y=>exact h.low [] v 0 (.nil y) (by simp)
  | @step vs u _ m d f g=>exact h.nxt vs u d f (by simpa using n) (by simp) v m g
 refine⟨by simp[i],h.lx,h.lw,h.lt,h.nodup,h.rng,h.waits,fun v h0 c=>⟨(h.t0 v h0 c).1,by have:=(h.t0 v h0 c).2; push_cast; omega⟩,fun v l=>?_,a,fun vs u d f n s v m g=>?_,h.rel,h.att,fun v h0 c=>?_,fun v l=>?_,h.fin,by omega,fun _=>rfl⟩
 ·have:=h.rng v (by rw[i]; exact l);have:=(h.t0 v this.1 this.2).2;push_cast; omega
 ·have c:=a vs u d f n;have h2:=f.lt_free r o (by omega);have j:=(f.range r.inr C).1;have:=h.rel u j.1 j.2 (by rw[i]; exact s) (by omega) v m g;omega
 ·rcases h.bd v h0 c with h2|h2
  ·exact .inl h2
  ·refine .inr ?_;have:=MB (show k+1<=k+1+1 by omega) D;push_cast at this ⊢;omega
 ·have c:=h.rng v (by rw[i]; exact l);have h2:=h.fin v (by rw[i]; exact l);rcases h.bd v c.1 c.2 with j|j
  ·omega
  ·push_cast; exact j
def agN.step {n:Int} {K:CK Int} {least:Int} {H:CK Int} {w':CK Bool} {Z:CK Int} (F:jt L N M) (hNM:N*M<Ś) (hp:Pot L p) (hS:∀v,S v->0<=v/\v<N) (h:agN L S N M k (n::K) B x w t q)
 (ha:amD N n least L x (K++B) H w' Z):∃B',agN L S N M k K B' H w' (t.set n.toNat (gv t n+1)) Z:=by
 have hM:=F.m0
 have y:q=n::(K++B):=by simpa using h.q_eq
 have J:=h.kN;have r:=h.rng n (by rw[y]; simp);have hnf:=h.fin n (by rw[y]; simp)
 have U:n∉K++B:=by have:=h.nodup; rw[y,fq] at this; exact this.1
 have T:n.toNat<t.length:=by have:=h.lt; omega
 have z:∀v,0<=v->gv (t.set n.toNat (gv t n+1)) v=if v=n then gv t n+1 else gv t v:=fun v h0=>qj r.1 h0 T _
 have hkM:((k:Int)+1)*M<Ś:=by
  have:=MB J hM;push_cast at this;omega
 have G:∀v:Int,0<=v->v<N->gv x v<=Ś:=fun v h0 a=>by rcases h.bd v h0 a with h2|h2<;>omega
 obtain⟨l,P,D⟩:=ha.new
 have C:∀v:Int,0<=v->v<N->gv H v≠Ś->∃vs,Wl L S vs v (gv H v):=by
  intro v h0 a I;rcases ha.chg v h0 a with g|⟨_,_,m,Y,X,_⟩
  ·rw[g] at I ⊢; exact h.att v h0 a I
  ·obtain⟨vs,s⟩:=h.att n r.1 r.2 (by omega);rw[X]; exact⟨_,s.step Y⟩
 refine⟨B++l,by rw[P,dg],ha.lx,ha.lw,by rw[gR]; exact h.lt,ha.nodup,fun v c=>?_,ha.waits,fun v h0 a=>?_,fun v c=>?_,fun vs v d s i=>?_,fun vs u d s i O v m f=>?_,
  fun u h0 a O hf v m f=>?_,C,fun v h0 a=>?_,fun v c=>?_,fun v c=>?_,J,fun hk=>?_⟩
 ·rw[P] at c;rcases de.1 c with c|c
  ·exact h.rng v (by rw[y]; simp only[df]; exact .inr c)
  ·exact(D v c).1
 ·rw[z v h0];have h2:=h.t0 v h0 a
  split
  ·have h3:=h.tA n (by simp);have h4:=h.t0 n r.1 r.2;omega
  ·exact h2
 ·have a:=h.rng v (by rw[y]; simp[c]);rw[z v a.1,if_neg (fun e=>U (by rw[<-e]; simp[c]))];exact h.tA v (by simp[c])
 ·have a:=h.low vs v d s i;have h2:=(s.range F.inr hS).1;have:=ha.le v h2.1 h2.2;omega
 ·have j:=(F.inr _ f).2
  by_cases o:u=n
  ·subst o;have a:=ha.link v m f;have h2:=h.low vs u d s i;omega
  ·have a:=h.nxt vs u d s i (by simp[o,O]) v m f;have:=ha.le v j.1 j.2;omega
 ·have j:=(F.inr _ f).2
  have V:gv H u=gv x u:=by
   rcases ha.chg u h0 a with g|⟨g,_⟩
   ·exact g
   ·exact(O g).elim
  by_cases o:u=n
  ·subst o;have a:=ha.link v m f;omega
  ·have R:u∉q:=by
    rw[y];intro W;rcases df.1 W with e|W
    ·exact o e
    ·exact O (by rw[P]; exact dR _ W)
   have h2:=h.rel u h0 a R (by rw[<-V]; exact hf) v m f;have:=ha.le v j.1 j.2;omega
 ·rcases ha.chg v h0 a with g|⟨_,_,m,Y,X,_⟩
  ·rw[g]; exact h.bd v h0 a
  ·have h2:=h.bA n (by simp);have h3:=(F.most _ Y).2;simp only at h3;refine .inr ?_;rw[X,fZ,gd];omega
 ·have a:=h.rng v (by rw[y]; simp[c]);have h2:=h.bA v (by simp[c]);have:=ha.le v a.1 a.2;omega
 ·rw[P] at c;rcases de.1 c with c|c
  ·have a:=h.rng v (by rw[y]; simp only[df]; exact .inr c);have h2:=h.fin v (by rw[y]; simp only[df]; exact .inr c);have:=ha.le v a.1 a.2;omega
  ·obtain⟨E,g2⟩:=D v c;have:=G v E.1 E.2;omega
 ·rw[h.last hk]
  cases l with
  |nil=>rfl
  |cons v l =>
   exfalso;obtain⟨E,g2⟩:=D v (by simp);have:=G v E.1 E.2;obtain⟨vs,s⟩:=C v E.1 E.2 (by omega);obtain⟨Q,d',k1,k2,k3⟩:=s.simple hp;have k4:=k1.short F.inr hS k3;have:=h.low Q v d' k1 (by omega);omega
def agN.done (e:jt L N M) (j:N*M<Ś) (y:Pot L p) (l:∀v,S v->0<=v/\v<N) (h:agN L S N M k A B x w t []):agP L S N (gv x):=by
 have i:=h.kN;have C:=e.m0
 have z:((k:Int)+1)*M<Ś:=by
  have:=MB i C;push_cast at this;omega
 have key:∀vs v d,Wl L S vs v d->vs.length+1<=N->gv x v<=d:=by
  intro vs v d a
  induction a with
  |nil s=>intro _; exact h.low [] _ 0 (.nil s) (by simp)
  | @step vs u v m d a g ih =>
   intro c;simp only[di] at c;have o:=ih (by omega);have h2:=a.lt_free e j (by omega);have n:=(a.range e.inr l).1;have:=h.rel u n.1 n.2 (by simp) (by omega) v m g;omega
 refine⟨h.att,fun v vs d a=>?_,fun v h0 o=>?_⟩
 ·obtain⟨f,D,k1,E,r⟩:=a.simple y;have:=key f v D k1 (k1.short e.inr l r);omega
 ·rcases h.bd v h0 o with h2|h2<;>omega
def XV {ρ:Type} {r:BY ρ} (d:jt L N M) (i:N*M<Ś) (z:Pot L p) (O:∀v,S v->0<=v/\v<N) (k0:(Val (.pair .bool (.pair (.slice tI) (.pair (.slice .bool) (.pair (.slice tI) (.slice tI))))))->BY ρ)
 (hK:∀x w t q,x.length=N->agP L S N (gv x)->k0 (true,x,w,t,q)=r) (h:agN L S N M k A B x w t q) :
 Ë (fun(e:(Val (.pair (.slice tI) (.pair (.slice .bool) (.pair (.slice tI) (.slice tI)))))) o=>ĭ [] (mB L) (N:Int) L e.1 e.2.1 e.2.2.1 e.2.2.2 (fun F E D C=>o (F,E,D,C)) k0) (x,w,t,q)=r:=by
 refine ï (fun s:CK Int×CK Bool×CK Int×CK Int=>∃k A B,agN L S N M k A B s.1 s.2.1 s.2.2.1 s.2.2.2) (fun s=>WF N s.2.2.1) ?_ ⟨k,A,B,h⟩;rintro⟨x,w,t,q⟩ ⟨k,A,B,h⟩;dsimp only at h ⊢;have hN:=d.nodes
 cases q with
 |nil=>exact .inl fun Z=>by rw[ahH]; exact hK x w t [] h.lx (h.done d i z O)
 |cons n rest =>
  -- the phase in which the first one is
  have K:∃k j B,agN L S N M k (n::j) B x w t (n::rest):=by
   cases A with
   |nil =>
    have hB:B=n::rest:=by simpa using h.q_eq.symm
    subst hB;exact⟨k+1,rest,[],h.next d i O (by simp)⟩
   |cons a j =>
    have:=h.q_eq;simp only[fe,List.cons.injEq] at this;obtain⟨rfl,_⟩:=this;exact⟨k,j,B,h⟩
  clear h k A B;obtain⟨k,j,B,h⟩:=K
  have f:rest=j++B:=by have:=h.q_eq; simpa using this
  have c:=h.rng n (by simp);have hnf:=h.fin n (by simp);have hkN:=h.kN;have V:=h.tA n (by simp);have h2:=h.t0 n c.1 c.2;obtain⟨vs,Q⟩:=h.att n c.1 c.2 (by omega);have T:=Q.low' z
  have R : -(400*4503599627370496)<=mB L:=by
   have:∀y:CK Lk,(∀l∈y,-M<=l.2.2)->-((y.length:Int)*M)<=mB y:=by
    intro y
    induction y with
    |nil=>intro _; simp[mB,CQ]
    |cons l t ih =>
     intro U;have i1:=ih fun l u=>U l (by simp[u]);have i2:=U l (by simp);have i3:=d.m0;unfold mB at i1 ⊢;simp only[CQ,if_true,List.length_cons,Int.natCast_succ,Int.add_mul,Int.one_mul];omega
   have h3:=this L fun l u=>(d.most l u).1;have h4:(L.length:Int)*M<=400*4503599627370496:=fG (by have:=d.len; omega) d.m1 d.m0 (by omega);omega
  have I:rest.length<=1000000:=by
   have:=ada N (n::rest) h.nodup h.rng;simp only[di] at this;omega
  refine .inr ?_
  have G:(w.set n.toNat false).length=N:=by rw[gR]; exact h.lw
  cases J:sn n (mB L) L x (w.set n.toNat false) rest with
  |mk b X =>
  obtain⟨W,w',Y⟩:=X
  cases b with
  |false =>
   exfalso;obtain⟨v,m,g1,g2⟩:=pI d.noloop (fun l u=>(d.inr l u).2.1) c.1 J;have:=(Q.step g1).low' z;omega
  |true =>
   have g:=h.nodup;rw[fq] at g
   have ha:=mr c d.inr d.noloop h.lx G g.2 (fun v h0 V=>by
    rw[acK c.1 h0 (by have:=h.lw; omega)]
    by_cases H:v=n
    ·subst H; simp[g.1]
    ·rw[if_neg H,h.waits v h0 V]
     simp[H]) J
   rw[f] at ha;obtain⟨B',P⟩:=h.step d i z O ha;refine⟨(W,w',t.set n.toNat (gv t n+1),Y),⟨k,j,B',P⟩,Z6 (by have:=h.lt; omega) (by omega),fun Z=>?_⟩;have hF:Ś=1152921504606846976:=rfl
   rw[adv d c h.lx h.lw h.lt I (by constructor<;>omega) (by constructor<;>omega),if_neg (by omega),J]
end
def NW (f:Lk->Bool):∀(L a:CK Lk),CQ f (L++a)=CQ f L+CQ f a
 |[],a=>by simp[CQ]
 |l::t,a=>by
  simp only[fe,CQ,NW f t a];omega
def YO {L:CK Lk} {i:Nat} {l:Lk} (h:L[i]?=some l):mB (L.take (i+1))=mB (L.take i)+min l.2.2 0:=by
 rw[take_succ h,mB,mB,NW];simp[CQ]
def imin0 (e:Int):abZ e 0=min e 0:=by
 unfold abZ
 split<;>omega
def aby {L:CK Lk} {M:Int} (h:∀l∈L,-M<=l.2.2) (f:0<=M) : -((L.length:Int)*M)<=mB L:=by
 induction L with
 |nil=>simp[mB,CQ]
 |cons l t a =>
  have c:=a fun l d=>h l (by simp[d]);have e:=h l (by simp);unfold mB at c ⊢;simp only[CQ,if_true,List.length_cons,Int.natCast_succ,Int.add_mul,Int.one_mul];omega
def anG (L:CK Lk):mB L<=0:=nY _ L
section
variable {ρ:Type} {L:CK Lk} {N:Nat} {M:Int}
def ad9 (e:jt L N M) (k0:Int->BY ρ):Ë (fun(a:bx) c=>iP L (Õ L) a.1 a.2 (fun g f=>c (g,f)) k0) ((0:Int),(0:Int))=k0 (mB L):=by
 refine ï (fun x:Int×Int=>∃i:Nat,i<=L.length/\x=(mB (L.take i),(i:Int))) (fun x=>L.length-x.2.toNat) ?_ ⟨0,by omega,rfl⟩;rintro x ⟨i,hi,rfl⟩;have n:=e.len;rcases dl i L.length with h|h
 ·have d:L[i]?=some L[i]:=cV h;refine .inr ⟨(mB (L.take (i+1)),(i:Int)+1),⟨i+1,h,by simp⟩,by simp; omega,fun o=>?_⟩
  try dsimp only
  unfold iP
  have hb:∀j,j<=L.length->-(400*4503599627370496)<=mB (L.take j):=by
   intro j s;have r:=aby (L:=L.take j) (fun l d=>(e.most l (fM d)).1) e.m0;have h2:((L.take j).length:Int)*M<=400*4503599627370496:=fG (by rw[dk]; omega) e.m1 e.m0 (by omega);omega
  have r:=hb i hi;have h2:=hb (i+1) h;have u:=anG (L.take i);rw[YO d] at h2;rw[Í h,Ã d,imin0,Ï (by omega) (by omega),È h (by omega),YO d]
 ·refine .inl fun o=>?_
  have:i=L.length:=by omega
  subst this
  try dsimp only
  unfold iP;rw[Ô,List.take_length]
def ahg {x:CK Int} (P:x.length=N) (Q:N<=1000) {r:BY ρ} (k0:(Val (.pair (.slice .bool) (.slice tI)))->BY ρ)
 (K:∀(w:CK Bool) (q:CK Int),w.length=N->q.Nodup->(∀v∈q,0<=v/\v<N)->(∀v:Int,0<=v->v<N->(wv w v=true↔v∈q))->(∀v:Int,0<=v->v<N->(v∈q↔gv x v≠Ś))->k0 (w,q)=r) :
 Ë (fun(g:(Val (.pair tI (.pair (.slice .bool) (.slice tI))))) n=>ş (N:Int) x g.1 g.2.1 g.2.2 (fun G F E=>n (G,F,E)) k0) ((0:Int),(List.replicate N false),([]:CK Int))=r:=by
 refine ï (fun s:Int×CK Bool×CK Int=>∃i:Nat,i<=N/\s.1=i/\s.2.1.length=N/\s.2.2.Nodup/\s.2.2.length<=i/\(∀v∈s.2.2,0<=v/\v<i)/\(∀v:Int,0<=v->v<N->(wv s.2.1 v=true↔v∈s.2.2))/\(∀v:Int,0<=v->v<i->(v∈s.2.2↔gv x v≠Ś))) (fun s=>N-s.1.toNat) ?_
  ⟨0,by omega,rfl,by simp,by simp,by simp,by simp,fun v h0 d=>?_,fun v h0 d=>by omega⟩
 ·rintro⟨s,w,q⟩ ⟨i,hi,d,h2,D,O,l,C,z⟩;simp only at d h2 D O l C z;subst d;rcases dl i N with h|h
  ·refine .inr ?_
   have f:i<x.length:=by omega
   have j:i<w.length:=by omega
   have o:((i:Int))∉q:=fun J=>by have:=(l _ J).2; omega
   by_cases y:gv x i=Ś
   ·refine⟨((i:Int)+1,w,q),⟨i+1,h,by simp,h2,D,by simp only; omega,fun v c=>⟨(l v c).1,by have:=(l v c).2; push_cast; omega⟩,C,fun v h0 d=>?_⟩,by simp; omega,fun I=>?_⟩
    ·by_cases c:v=i
     ·subst c; simp[y,o]
     ·exact z v h0 (by push_cast at d; omega)
    ·try dsimp only
     unfold ş
     have e:ilt (i:Int) (N:Int)=true:=by simp[ilt,h]
     rw[Ð e,Š f,lD (by simpa using f)]
     have H:ine (gv x i) 1152921504606846976=false:=by simp[ine,y]
     rw[Ì H,È h (by omega)]
   ·refine⟨((i:Int)+1,w.set i true,q++[(i:Int)]),⟨i+1,h,by simp,by simpa using h2,?_,by simp; omega,fun v c=>?_,fun v h0 d=>?_,fun v h0 d=>?_⟩,by simp; omega,fun I=>?_⟩
    ·rw[List.nodup_append];exact⟨D,by simp,fun a ha b hb=>by simp at hb; subst hb; exact fun e=>o (e▸ha)⟩
    ·rcases de.1 c with c|c
     ·exact⟨(l v c).1,by have:=(l v c).2; push_cast; omega⟩
     ·simp at c; subst c; push_cast; omega
    ·have:=acK (w:=w) (u:=(i:Int)) (by omega) h0 (by simpa using j) true;rw[dj] at this;show wv (w.set i true) v=true↔v∈q++[(i:Int)];rw[this]
     by_cases c:v=i
     ·simp[c]
     ·simp only[c,if_false,de,dh,or_false];exact C v h0 d
    ·show v∈q++[(i:Int)]↔_
     by_cases c:v=i
     ·subst c; simp[y]
     ·simp only[de,dh,c,or_false];exact z v h0 (by push_cast at d; omega)
    ·try dsimp only
     unfold ş
     have e:ilt (i:Int) (N:Int)=true:=by simp[ilt,h]
     rw[Ð e,Š f,lD (by simpa using f)]
     have H:ine (gv x i) 1152921504606846976=true:=by simp[ine,y]
     rw[Ð H,Ñ (by simp only[dO]; omega),Am.iff_true,Š j,VO (by simpa using j),È h (by omega),dj]
  ·refine .inl fun I=>?_
   have:i=N:=by omega
   subst this
   try dsimp only
   unfold ş
   have e:ilt (i:Int) (i:Int)=false:=by simp[ilt]
   rw[Ì e];exact K w q h2 D l C z
 ·have:wv (List.replicate N false) v=false:=by
   unfold wv;rw[List.getElem?_replicate]
   split<;>rfl
  simp[this]
def Tb (D:jt L N M) (E:1<=N) {S:Int->Bool} (y:∀v,S v=true->0<=v/\v<N) {w:CK Bool} {q:CK Int} (g:w.length=N) (z:q.Nodup) (h:∀v∈q,0<=v/\v<N) (j:∀v:Int,0<=v->v<N->(wv w v=true↔v∈q)) (n:∀v:Int,0<=v->v<N->(v∈q↔gv (iZ S N) v≠Ś)) :
 agN L (fun v=>S v=true) N M 0 q [] (iZ S N) w (List.replicate N 0) q:=by
 have s:∀v:Int,0<=v->v<N->gv (List.replicate N (0:Int)) v=0:=by
  intro v h0 a;unfold gv;rw[List.getElem?_replicate]
  split<;>rfl
 have i:∀v:Int,0<=v->v<N->(v∈q↔S v=true):=by
  intro v h0 a;rw[n v h0 a,Μ S h0 a]
  cases S v<;>simp[Ś]
 have C:=D.m0;refine⟨by simp,ý S N,g,by simp,z,h,j,fun v h0 a=>?_,fun v e=>?_,fun vs v d g r=>?_,fun vs u d g r l v m o=>?_,fun u h0 a l f v m o=>?_,fun v h0 a f=>?_,fun v h0 a=>?_,fun v e=>?_,fun v e=>?_,by omega,fun _=>rfl⟩
 ·rw[s v h0 a]; omega
 ·have:=h v e;rw[s v this.1 this.2]; omega
 ·cases g with
  |nil c =>
   have:=y v c;rw[Μ S this.1 this.2,if_pos c]; omega
  |step=>simp at r
 ·cases g with
  |nil c =>
   have:=y u c;exact(l ((i u this.1 this.2).2 c)).elim
  |step=>simp at r
 ·rw[Μ S h0 a] at f;have:=mt (i u h0 a).2 l;rw[if_neg this] at f;exact(f rfl).elim
 ·rw[Μ S h0 a] at f ⊢
  split at f
  ·rename_i c;rw[if_pos c]; exact⟨[],.nil c⟩
  ·exact(f rfl).elim
 ·rw[Μ S h0 a]
  split
  ·exact .inr (by simp[C])
  ·exact .inl rfl
 ·have a:=h v e;rw[Μ S a.1 a.2,if_pos ((i v a.1 a.2).1 e)]; simp
 ·have a:=h v e;rw[Μ S a.1 a.2,if_pos ((i v a.1 a.2).1 e)]; simp[Ś]
structure Bad (L:CK Lk) (N:Nat) (x:CK Int) (w:CK Bool) (t q:CK Int):Prop where
 lx:x.length=N
 lw:w.length=N
 lt:t.length=N
 nodup:q.Nodup
 rng:∀v∈q,0<=v/\v<N
 waits:∀v:Int,0<=v->v<N->(wv w v=true↔v∈q)
 t0:∀v:Int,0<=v->v<N->0<=gv t v/\gv t v<=(N:Int)+1
 bd:∀v:Int,0<=v->v<N->-2305843009213693952<=gv x v/\gv x v<=0
 rel:∀u:Int,0<=u->u<N->u∉q->∀v m,(u,v,m)∈L->gv x v<=gv x u+m
def akS {r:BY ρ} {x:CK Int} {w:CK Bool} {t q:CK Int} (c:jt L N M) (hp:¬∃p,Pot L p) (k0:(Val (.pair .bool (.pair (.slice tI) (.pair (.slice .bool) (.pair (.slice tI) (.slice tI))))))->BY ρ)
 (Y:∀x w t q,k0 (false,x,w,t,q)=r) (h:Bad L N x w t q) :
 Ë (fun(j:(Val (.pair (.slice tI) (.pair (.slice .bool) (.pair (.slice tI) (.slice tI)))))) D=>ĭ [] (mB L) (N:Int) L j.1 j.2.1 j.2.2.1 j.2.2.2 (fun O K J I=>D (O,K,J,I)) k0) (x,w,t,q)=r:=by
 refine ï (fun s:CK Int×CK Bool×CK Int×CK Int=>Bad L N s.1 s.2.1 s.2.2.1 s.2.2.2) (fun s=>WF N s.2.2.1) ?_ h;rintro⟨x,w,t,q⟩ h;dsimp only at h ⊢;have hN:=c.nodes
 cases q with
 |nil =>
  exfalso;exact hp ⟨gv x,fun u v m o=>h.rel u (c.inr _ o).1.1 (c.inr _ o).1.2 (by simp) v m o⟩
 |cons n rest =>
  have a:=h.rng n (by simp);have hb:=h.bd n a.1 a.2;have ht:=h.t0 n a.1 a.2
  have T:rest.length<=1000000:=by
   have:=ada N (n::rest) h.nodup h.rng;simp only[di] at this;omega
  have f:=fun(H:CK Int->CK Bool->CK Int->CK Int->BY ρ)=>adv (ρ:=ρ) c (least:=mB L) a h.lx h.lw h.lt T ⟨hb.1,by omega⟩ ⟨ht.1,by omega⟩ H k0
  by_cases z:(N:Int)+1<gv t n+1
  ·exact .inl fun H=>by rw[f,if_pos z]; exact Y _ _ _ _
  ·have P:(w.set n.toNat false).length=N:=by rw[gR]; exact h.lw
   cases U:sn n (mB L) L x (w.set n.toNat false) rest with
   |mk b Z =>
   obtain⟨X,w',q'⟩:=Z
   cases b with
   |false=>exact .inl fun H=>by rw[f,if_neg z,U]; exact Y _ _ _ _
   |true =>
    have y:=h.nodup;rw[fq] at y
    have G:n.toNat<t.length:=by have:=h.lt; omega
    have ha:=mr a c.inr c.noloop h.lx P y.2 (fun v h0 i=>by
     rw[acK a.1 h0 (by have:=h.lw; omega)]
     by_cases d:v=n
     ·subst d; simp[y.1]
     ·rw[if_neg d,h.waits v h0 i]
      simp[d]) U
    obtain⟨l,o,V⟩:=ha.new;refine .inr ⟨(X,w',t.set n.toNat (gv t n+1),q'),⟨ha.lx,ha.lw,by rw[gR]; exact h.lt,ha.nodup,fun v d=>?_,ha.waits,fun v h0 i=>?_,fun v h0 i=>?_,fun u h0 i R v m C=>?_⟩,Z6 G (by omega),fun H=>by rw[f,if_neg z,U]⟩
    ·dsimp only at d;rw[o] at d;rcases List.mem_append.1 d with d|d
     ·exact h.rng v (by simp[d])
     ·exact(V v d).1
    ·try dsimp only
     rw[qj a.1 h0 G];have:=h.t0 v h0 i
     split<;>omega
    ·try dsimp only
     have h2:=h.bd v h0 i;rcases ha.chg v h0 i with g|⟨_,g2,m,g3,g4,g5⟩
     ·rw[g]; exact h2
     ·have h3:=aby (L:=L) (fun l o=>(c.most l o).1) c.m0;have h4:(L.length:Int)*M<=400*4503599627370496:=fG (by have:=c.len; omega) c.m1 c.m0 (by omega);omega
    ·dsimp only at R ⊢;have E:=(c.inr _ C).2
     have heq:gv X u=gv x u:=by
      rcases ha.chg u h0 i with g|⟨g,_⟩
      ·exact g
      ·exact(R g).elim
     by_cases F:u=n
     ·subst F;have i:=ha.link v m C;omega
     ·have Q:u∉n::rest:=by
       intro W;rcases df.1 W with e|W
       ·exact F e
       ·exact R (by rw[o]; exact dR _ W)
      have h2:=h.rel u h0 i Q v m C;have:=ha.le v E.1 E.2;omega
end
def zu (N:Nat) (v:Int):Bool:=decide (0<=v)&&decide (v<(N:Int))
def akH (s:Int) (v:Int):Bool:=v==s
def XU (N:Nat):iZ (zu N) N=List.replicate N 0:=by
 refine aad (by simp[ý]) fun v h0 a=>?_;rw[ý] at a;rw[Μ _ h0 a]
 have:zu N v=true:=by simp[zu,h0,a]
 rw[if_pos this];unfold gv;rw[List.getElem?_replicate]
 split<;>rfl
def i7 (L:CK Lk) (N:Nat):CK Int:=Ķ L N (iZ (zu N) N)
def lC (L:CK Lk) (N:Nat):Bool:=decide (i5 L (i7 L N)=i7 L N)
def BP (L:CK Lk) (N:Nat) (s:Int):CK Int:=Ķ L N (iZ (akH s) N)
section
variable {L:CK Lk} {N:Nat} {M:Int}
def alg (a:jt L N M) (c:N<=200):N*M<Ś:=by
 have:(N:Int)*M<=200*4503599627370496:=Int.mul_le_mul (by omega) a.m1 a.m0 (by omega);unfold Ś;omega
def Jf {p:Int->Int} (a:jt L N M) (e:N<=200) (c:Pot L p):agP L (fun v=>zu N v=true) N (gv (i7 L N)) :=
 Nz c a.inr (fun v h=>by simpa[zu] using h) (fun l d=>(a.most l d).2) a.m0 (alg a e) N (by omega)
def FM {p:Int->Int} (a:jt L N M) (f:N<=200) (d:Pot L p) {s:Int} (c:0<=s/\s<N):agP L (fun v=>akH s v=true) N (gv (BP L N s)) :=
 Nz d a.inr (fun v h=>by simp[akH] at h; subst h; exact c) (fun l e=>(a.most l e).2) a.m0 (alg a f) N (by omega)
def Yi:∀{L:CK Lk} {x:CK Int},(∀u v m,(u,v,m)∈L->gv x u<Ś->gv x v<=gv x u+m)->i5 L x=x
 |[],x,_=>rfl
 |l::t,x,h=>by
  have d:iF x l=x:=by
   unfold iF
   split
   ·rename_i c;have:=h l.1 l.2.1 l.2.2 (by simp) c.1;omega
   ·rfl
  show i5 t (iF x l)=x;rw[d];exact Yi fun u v m a=>h u v m (by simp[a])
def mJ (a:jt L N M) (i:N<=200):lC L N=true↔∃p,Pot L p:=by
 unfold lC;rw[decide_eq_true_eq]
 have d:∀v:Int,0<=v->v<N->gv (i7 L N) v<=0:=by
  intro v h0 f;have:=F6 a.inr N (ý (zu N) N) v h0;rw[Μ _ h0 f,if_pos (by simp[zu,h0,f])] at this;exact this
 constructor
 ·intro h;refine⟨gv (i7 L N),fun u v m c=>?_⟩;have e:=(a.inr _ c).1;have:=Jm a.inr (x:=i7 L N) (by unfold i7; rw[Ń,ý]) u v m c (by have:=d u e.1 e.2; unfold Ś; omega)
  rwa [h] at this
 ·rintro⟨p,g⟩;have hd:=Jf a i g;exact Yi fun u v m c j=>hd.pot a.inr c (by omega)
end
section
variable {ρ:Type} {L:CK Lk} {N:Nat} {M:Int}
def Cm (a:N<=1000) (x:BY ρ):à ((ile (0:Int) (N:Int))&&(ä (Int.toNat (N:Int)))) x=x:=by
 rw[dj,Ñ (by omega)]
 have:((ile (0:Int) (N:Int))&&true)=true:=by simp[ile]
 rw[this,Am.iff_true]
def abl (e:jt L N M) (U:1<=N) (o:N<=200) (k0:(Val (.pair .bool (.pair (.slice tI) (.pair (.slice .bool) (.pair (.slice tI) (.slice tI))))))->BY ρ) {rT rF:BY ρ}
 (R:lC L N=true->∀w t q,k0 (true,i7 L N,w,t,q)=rT) (T:∀x w t q,k0 (false,x,w,t,q)=rF) :
 (Ë (fun(d:(Val (.pair tI (.pair (.slice .bool) (.slice tI))))) f=>ş (N:Int) (List.replicate N (0:Int)) d.1 d.2.1 d.2.2 (fun y s r=>f (y,s,r)) (fun G=>Ë (fun(c:(Val (.pair (.slice tI) (.pair (.slice .bool) (.pair (.slice tI) (.slice tI)))))) g=>ĭ [] (mB L) (N:Int) L c.1 c.2.1 c.2.2.1 c.2.2.2 (fun E D C z=>g (E,D,C,z)) k0) ((List.replicate N (0:Int)),G.1,(List.replicate N (0:Int)),G.2))) ((0:Int),(List.replicate N false),([]:CK Int)))=if lC L N then rT else rF:=by
 refine ahg (by simp) (by omega) _ fun w q H K J i j=>?_
 try dsimp only
 have O:∀v,zu N v=true->0<=v/\v<N:=fun v h=>by simpa[zu] using h
 by_cases l:lC L N=true
 ·rw[if_pos l];obtain⟨p,n⟩:=(mJ e o).1 l;have I:=Tb e U O H K J i (fun v a b=>by rw[XU]; exact j v a b);rw[XU] at I;refine XV e (alg e o) n O k0 (fun x w t q P hd=>?_) I
  have:x=i7 L N:=by
   refine aad (by rw[P]; unfold i7; rw[Ń,ý]) fun v a b=>?_;exact hd.uniq (Jf e o n) a (by omega)
  rw[this]; exact R l w t q
 ·rw[if_neg l];refine akS e (fun n=>l ((mJ e o).2 n)) k0 T ?_
  have F:∀v,gv (List.replicate N (0:Int)) v=0:=by
   intro v;unfold gv;rw[List.getElem?_replicate]
   split<;>rfl
  refine⟨by simp,H,by simp,K,J,i,fun v a b=>?_,fun v a b=>?_,fun u a b Q v m V=>?_⟩
  ·rw[F]; omega
  ·rw[F]; omega
  ·exact(Q ((j u a b).2 (by rw[F]; unfold Ś; omega))).elim
end
def shift_ok {ρ:Type} {x:CK Int} (f:Int) (s:x.length<=1000) (u : -2305843009213693952<=f/\f<=2305843009213693952) (hb:∀a∈x,-2305843009213693952<=a/\a<=2305843009213693952) (k0:CK Int->BY ρ) :
 Ë (fun(d:nn) e=>j8 f (Õ x) d.1 d.2 (fun j h=>e (j,h)) k0) ((0:Int),x)=k0 (x.map fun a=>a-f):=by
 refine ð x (fun i=>(x.take i).map (fun a=>a-f)++x.drop i) _ (by simp) (fun i a hi ha n=>?_) (fun n=>?_)
 ·try dsimp only
  unfold j8
  have l:((x.take i).map (fun a=>a-f)++x.drop i).length=x.length:=by simp; omega
  have c:((x.take i).map (fun a=>a-f)++x.drop i)[i]?=some a:=by
   rw[gb (by simp; omega)];simp only[dF,dk,eR];rw[<-ha]; congr 1; omega
  have g:i<((x.take i).map (fun a=>a-f)++x.drop i).length:=by omega
  have o:=hb a (dc ha);rw[Í hi,Š g,Ą c,Ï (by omega) (by omega),Š g,Ą c,È hi (by omega),dj,take_succ ha];congr 2;rw[dT hi,fj,dg,gF _ _ (by simp; omega)]
  have:i-(List.map (fun a=>a-f) (List.take i x)).length=0:=by simp; omega
  rw[this]
  have r:x[i]=a:=by rw[cV hi] at ha; simpa using ha
  simp[r]
 ·try dsimp only
  unfold j8;rw[Ô];simp
section
variable {L:CK Lk} {N:Nat} {M:Int}
def akT (c:jt L N M) (h:N<=200) (n:lC L N=true):∀a∈i7 L N,-2305843009213693952<=a/\a<=0:=by
 obtain⟨p,e⟩:=(mJ c h).1 n;have hd:=Jf c h e;intro a ha;obtain⟨i,hi,rfl⟩:=dm.1 ha
 have f:(i7 L N).length=N:=by unfold i7; rw[Ń,ý]
 have h0:gv (i7 L N) i=(i7 L N)[i]:=by unfold gv; simp[hi]
 have d:=F6 c.inr N (ý (zu N) N) (i:Int) (by omega);rw[Μ _ (by omega) (by omega),if_pos (by simp[zu]; omega)] at d;have g:gv (i7 L N) i<=0:=d;obtain⟨vs,j⟩:=hd.att i (by omega) (by omega) (by unfold Ś; omega);have u:=j.low' e;have s:=aby (L:=L) (fun l o=>(c.most l o).1) c.m0;have r:(L.length:Int)*M<=400*4503599627370496:=Int.mul_le_mul (by have:=c.len; omega) c.m1 c.m0 (by omega);omega
def solP (L:CK Lk) (N:Nat):CK Int:=(i7 L N).map fun a=>a-gv (i7 L N) 0
def xu (c:jt L N M) (i:1<=N) (f:N<=200):mu ((N:Int),L) []=some (if lC L N then(solP L N,true) else([],false)):=by
 unfold mu A7
 try dsimp only
 rw[Cm (by omega),Cm (by omega),Cm (by omega),dj];refine dJ (ad9 c _) ?_;refine dJ (abl c i f _ (rT:=some (solP L N,true)) (rF:=some ([],false)) (fun g w t q=>?_) (fun x w t q=>?_)) ?_
 ·try dsimp only
  have d:(i7 L N).length=N:=by unfold i7; rw[Ń,ý]
  have hb:=akT c f g;have h0:ilt (0:Int) (î (i7 L N))=true:=decide_eq_true (show(0:Int)<((i7 L N).length:Int) by omega);have e:(i7 L N)[0]?=some (gv (i7 L N) 0):=aac (v:=0) (show 0<_ by omega);have h:=hb _ (dc e);rw[show(!true)=false from rfl,æ,å h0,ž e];exact shift_ok _ (by omega) ⟨h.1,by omega⟩ (fun a ha=>⟨(hb a ha).1,by have:=(hb a ha).2; omega⟩) _
 ·rfl
 ·cases lC L N<;>rfl
structure jz (L:CK Lk) (N:Nat):Prop where
 n1:1<=N
 n60:N<=60
 len:L.length<=300
 inr:InR L N
 noloop:∀l∈L,l.1≠l.2.1
 most:∀l∈L,-4503599627370496<=l.2.2/\l.2.2<=4503599627370496
def jz.links (h:jz L N):jt L N 4503599627370496 :=
 ⟨h.inr,h.noloop,h.most,by have:=h.len; omega,by have:=h.n60; omega,by omega,by omega⟩
def abx (n:Int) (L:CK Lk) (v:Int):Cz (n,L) v=some (decide (0<=v)&&decide (v<n)):=by
 unfold Cz adQ ige
 by_cases h:0<=v
 ·have:decide (v>=0)=true:=by simpa using h
  rw[Ð this]; simp[h]
 ·have:decide (v>=0)=false:=by simpa using h
  rw[Ì this]; simp[h]
def kY (h:jz L N):pL ((N:Int),L)=some (0,-1):=by
 have o:=h.n1;have h2:=h.n60;have n:=h.len;unfold pL ZJ
 try dsimp only
 rw[Ì (by simp[ilt]; omega),Ì (by simp[igt]; omega),Ì (by rw[Î]; simp[igt]; omega)];refine dJ (iR L (fun _=>false) (fun i=>some (1,i)) (some (0,-1)) (fun i l hi e f=>?_) (fun f=>?_)) ?_
 ·try dsimp only
  unfold uG;have d:=List.mem_of_getElem? e;have a:=h.inr l d;have b:=h.noloop l d;have c:=h.most l d
  have j:(decide (0<=l.1)&&decide (l.1<(N:Int)))=true:=by simp[a.1.1,a.1.2]
  have g:(decide (0<=l.2.1)&&decide (l.2.1<(N:Int)))=true:=by simp[a.2.1,a.2.2]
  rw[Í hi,Ã e,abx,À,j,abx,À,g];simp only[dP,æ,dp,if_false];rw[Ì (by simp[ieq,b]),Ì (by simp[ilt]; omega),Ì (by simp[igt]; omega),È hi (by omega)]
 ·try dsimp only
  unfold uG;rw[Ô]
 ·rw[dX.2 (by simp)]
def lG {ρ:Type} {x:CK Int} {v:Int} (h0:0<=v) (h:v.toNat<x.length) (f:Int->BY ρ):â x v f=f (gv x v):=by
 obtain⟨i,rfl⟩:=hZ h0;exact Ã (aac h) f
def WZ (L:CK Lk) (x:CK Int):Bool:=L.all fun l=>decide (gv x l.2.1<=gv x l.1+l.2.2)
def aa3 (h:jz L N) {x:CK Int} (D:x.length=N) (hb:∀a∈x,-Ś<=a/\a<=Ś):MS ((N:Int),L) x=some (WZ L x&&gv x 0==0,0):=by
 have F:=h.n1;have h2:=h.n60;have E:=h.len;unfold MS adR;rw[kY h,À]
 try dsimp only
 rw[Ì (by rfl),Ì (by rw[Î,D]; simp[ine])]
 have d:Ë (fun(n:Int) f=>oh x L (Õ L) n (fun o=>f o) (fun e=>some (e.1,e.2)) (fun _=>â x (0:Int) fun u=>some (ieq u (0:Int),(0:Int)))) (0:Int)=some (WZ L x&&gv x 0==0,0):=by
  refine dJ (ù L (fun l=>!decide (gv x l.2.1<=gv x l.1+l.2.2)) (fun _=>some (false,0)) (some (false,0)) (some (gv x 0==0,0)) (fun _=>rfl) (fun i l hi y r=>?_) (fun r=>?_)) ?_
  ·try dsimp only
   unfold oh;have v:=List.mem_of_getElem? y;have a:=h.inr l v;have c:=h.most l v
   have z:l.1.toNat<x.length:=by omega
   have s:=hb _ (List.mem_of_getElem? (aac z));unfold Ś at s;rw[Í hi,Ã y,lG a.2.1 (by omega),lG a.1.1 z,Ï (by omega) (by omega),È hi (by omega),é]
   by_cases g:gv x l.2.1<=gv x l.1+l.2.2
   ·rw[if_neg (by simp[igt]; omega),if_neg (by simp[g])]
   ·rw[if_pos (by simp[igt]; omega),if_pos (by simp[g])]
  ·try dsimp only
   unfold oh;rw[Ô,lG (by omega) (by rw[Int.toNat_zero]; omega)]
  ·unfold WZ;rw[show(L.any fun l=>!decide (gv x l.2.1<=gv x l.1+l.2.2))=!(L.all fun l=>decide (gv x l.2.1<=gv x l.1+l.2.2)) from by rw[List.all_eq_not_any_not]; simp]
   cases(L.all fun l=>decide (gv x l.2.1<=gv x l.1+l.2.2))<;>rfl
 refine dJ (ù x (fun _=>false) (fun C=>ifb (ige C (0:Int)) (some (false,(1:Int))) (some (WZ L x&&gv x 0==0,0))) (some (false,1)) (some (WZ L x&&gv x 0==0,0)) (fun j=>?_) (fun i a hi ha r=>?_) (fun r=>?_)) ?_
 ·rw[Ð (by simp[ige])]
 ·try dsimp only
  unfold xY;have s:=hb a (List.mem_of_getElem? ha);unfold Ś at s;rw[Í hi,Ã ha,Ì (by simp[ilt]; omega),Ì (by simp[igt]; omega),È hi (by omega)];simp
 ·try dsimp only
  unfold xY;rw[Ô];exact d
 ·simp
end
section
variable {b:ò}
def oy (b:ò) (g:è):(Û b g).Pairwise (·<·):=EI _
def xd (h:ţ b) {g:è} (i:g∈b.2.1):∃t,Û b g=g.2.1::t:=by
 have c:=oy b g;have h2:=nr (b:=b) g;have f:∀d∈Û b g,g.2.1<=d:=fun d hd=>(h.day i hd).1
 cases hd:Û b g with
 |nil=>rw[hd] at h2; cases h2
 |cons a t =>
  rw[hd] at c h2 f;rw[dG] at c;rcases df.1 h2 with e|e
  ·exact⟨t,by rw[e]⟩
  ·have:=c.1 _ e;have:=f a (by simp);omega
def off (b:ò) (i:Nat):Nat:=((b.2.1.take i).flatMap fun g=>(Û b g).map fun d=>((g.1,d):Int×Int)).length
def EP {i:Nat} {g:è} (a:b.2.1[i]?=some g):Ò b=((b.2.1.take i).flatMap fun g=>(Û b g).map fun d=>((g.1,d):Int×Int))++(((Û b g).map fun d=>((g.1,d):Int×Int))++((b.2.1.drop (i+1)).flatMap fun g=>(Û b g).map fun d=>((g.1,d):Int×Int))):=by
 obtain⟨hi,rfl⟩:=cY.1 a
 have c:b.2.1=b.2.1.take i++(b.2.1[i]::b.2.1.drop (i+1)):=by
  rw[<-dT hi,ew]
 unfold Ò
 conv=>lhs; rw[c]
 rw[eO,dz]
def VN (h:ţ b) {i:Nat} {g:è} (r:b.2.1[i]?=some g) {k:Nat} {d:Int} (s:(Û b g)[k]?=some d):iG (Ò b) g.1 d=some (off b i+k):=by
 obtain⟨hi,l⟩:=List.getElem?_eq_some_iff.1 r;obtain⟨a,c⟩:=List.getElem?_eq_some_iff.1 s;unfold iG;rw[EP r,List.findIdx?_append,List.findIdx?_append]
 have u:List.findIdx? (fun n:Int×Int=>decide (g.1=n.1)&&decide (d=n.2)) ((b.2.1.take i).flatMap fun g=>(Û b g).map fun d=>((g.1,d):Int×Int))=none:=by
  rw[dX];intro x e;obtain⟨g',o,e⟩:=dA.1 e;obtain⟨v,_,rfl⟩:=dw.1 e;obtain⟨j,f,rfl⟩:=dm.1 o;rw[dk] at f;rw[fg];have:=(dL.1 h.ids) j i (by omega) hi (by omega);rw[l] at this;simp only[Bool.and_eq_false_iff,decide_eq_false_iff_not];exact .inl (by omega)
 have h2:List.findIdx? (fun n:Int×Int=>decide (g.1=n.1)&&decide (d=n.2)) ((Û b g).map fun d=>((g.1,d):Int×Int))=some k:=by
  rw[dM];refine⟨by simpa using a,by simp[c],fun j f=>?_⟩;have:=(dL.1 (oy b g)) j k (by omega) a f;rw[c] at this;simp only[List.getElem_map,cW,decide_eq_true_eq,not_and];intro _;omega
 rw[u,h2];simp only[Option.map_some,Option.some_or,Option.none_or];unfold off;congr 1;omega
def xC {i:Nat} {g:è} (f:b.2.1[i]?=some g) {k:Nat} {d:Int} (a:(Û b g)[k]?=some d):(Ò b)[off b i+k]?=some (g.1,d):=by
 obtain⟨c,e⟩:=List.getElem?_eq_some_iff.1 a;rw[EP f,List.getElem?_append_right (by unfold off; omega),List.getElem?_append_left (by unfold off; simp; omega)];unfold off;simp[a]
def aeK (h:ţ b) {i:Nat} {g:è} (a:b.2.1[i]?=some g):atP (Ò b) [g.1] g.2.1=(off b i:Int)+1:=by
 obtain⟨t,c⟩:=xd h (List.mem_of_getElem? a);have:=VN h a (k:=0) (d:=g.2.1) (by rw[c]; rfl);unfold atP;simp only[this];rfl
def ahQ (h:ţ b) {i:Nat} {g:è} (a:b.2.1[i]?=some g):off b i+(Û b g).length<=(Ò b).length:=by
 rw[EP a];unfold off;simp only[List.length_append,List.length_map];omega
def ald {i:Nat} {g:è} (a:b.2.1[i]?=some g):off b (i+1)=off b i+(Û b g).length:=by
 unfold off;rw[take_succ a,List.flatMap_append];simp
def YM (h:ţ b) {c:Cmp} (u:c∈b.2.2.2.2.1) {x:Int} (s:(x∈c.2.2.1/\x∉c.2.2.2.1)\/(x∈c.2.2.2.1/\x∉c.2.2.1)):∃j,iG (Ò b) x c.2.1=some j:=by
 have v:x∈c.2.2.1++c.2.2.2.1:=by rw[de]; exact s.imp (·.1) (·.1)
 obtain⟨⟨g,z,_⟩,_⟩:=h.pile u v;obtain⟨f,a⟩:=i9 z;obtain⟨i,hi,l⟩:=dm.1 f
 have hd:c.2.1∈Û b g:=Ž.2 (.inr (.inl ⟨c,u,by
  rw[a];rcases s with⟨n,h2⟩|⟨n,h2⟩
  ·have r:c.2.2.1.contains x=true:=by simpa using n
   have o:c.2.2.2.1.contains x=false:=by simpa using h2
   rw[r,o]; simp
  ·have r:c.2.2.2.1.contains x=true:=by simpa using n
   have o:c.2.2.1.contains x=false:=by simpa using h2
   rw[r,o]; simp,rfl⟩))
 obtain⟨k,y,e⟩:=dm.1 hd;have:=VN h (g:=g) (i:=i) (by rw[cV hi,l]) (k:=k) (d:=c.2.1) (by rw[cV y,e]);rw[a] at this;exact⟨_,this⟩
inductive agG (b:ò) (p:List Int) (d:Int) (n:Int):Prop
 |none:p=[]->n=0->agG b p d n
 |one (x:Int) (j:Nat):p=[x]->iG (Ò b) x d=some j->n=(j:Int)+1->agG b p d n
def ajm (h:ţ b) {c:Cmp} (f:c∈b.2.2.2.2.1):agG b (Þ c.2.2.1 c.2.2.2.1) c.2.1 (cx b c):=by
 have d:=(h.lefts f).1
 cases a:Þ c.2.2.1 c.2.2.2.1 with
 |nil=>exact .none rfl (by unfold cx atP; rw[a])
 |cons x t =>
  rw[a] at d
  have:t=[]:=by cases t with|nil=>rfl|cons=>simp at d
  subst this;obtain⟨j,e⟩:=YM h f (x:=x) (.inl (lM.1 (by rw[a]; simp)));exact .one x j rfl e (by unfold cx atP; rw[a]; simp only[e])
def acg (h:ţ b) {c:Cmp} (f:c∈b.2.2.2.2.1):agG b (Þ c.2.2.2.1 c.2.2.1) c.2.1 (cy b c):=by
 have d:=(h.lefts f).2.1
 cases a:Þ c.2.2.2.1 c.2.2.1 with
 |nil=>exact .none rfl (by unfold cy atP; rw[a])
 |cons x t =>
  rw[a] at d
  have:t=[]:=by cases t with|nil=>rfl|cons=>simp at d
  subst this;obtain⟨j,e⟩:=YM h f (x:=x) (.inr (lM.1 (by rw[a]; simp)));exact .one x j rfl e (by unfold cy atP; rw[a]; simp only[e])
def agG.rng {p:CK Int} {d n:Int} (h:agG b p d n):0<=n/\n<((Ò b).length+1:Nat):=by
 rcases h with⟨_,h⟩|⟨x,j,_,a,h2⟩
 ·omega
 ·have:=(ky a).1;omega
def alP (h:ţ b) {c:Cmp} (d:c∈b.2.2.2.2.1):cx b c≠cy b c:=by
 have l:=(h.lefts d).2.2;rcases ajm h d with⟨g,h2⟩|⟨x,j,g,h2,s⟩
 ·rcases acg h d with⟨a,f⟩|⟨y,k,a,f,o⟩
  ·rw[g,a] at l; simp at l
  ·omega
 ·rcases acg h d with⟨a,f⟩|⟨y,k,a,f,o⟩
  ·omega
  ·intro e
   have:j=k:=by omega
   subst this;have r:=(ky h2).2;have i:=(ky f).2;rw[r] at i;simp only[Option.some.injEq,Prod.mk.injEq] at i
   have m1:x∈Þ c.2.2.1 c.2.2.2.1:=by rw[g]; simp
   have n:y∈Þ c.2.2.2.1 c.2.2.1:=by rw[a]; simp
   rw[i.1] at m1;exact(lM.1 m1).2 (lM.1 n).1
def Z4 (h:ţ b):(ů b).length=2*(Ò b).length+2*b.2.2.2.2.1.length:=by
 have i:∀l:CK è,(∀g∈l,g∈b.2.1)->(l.flatMap (ö b)).length=2*(l.flatMap fun g=>(Û b g).map fun d=>((g.1,d):Int×Int)).length:=by
  intro l
  induction l with
  |nil=>intro _; rfl
  |cons g t a =>
   intro e;have:=a fun g f=>e g (by simp[f]);have j:=List.length_pos_of_mem (nr (b:=b) g);simp only[List.flatMap_cons,List.length_append,List.length_map,this];unfold ö;rw[List.length_append,jc _ _ (fun _=>rfl)];simp only[List.length_cons,List.length_nil];omega
 have h2:∀l:CK Cmp,(l.flatMap (Ľ b)).length=2*l.length:=by
  intro l
  induction l with
  |nil=>rfl
  |cons c t a =>
   simp only[dz,cZ,a,Ľ,di,dK];omega
 unfold ů;rw[List.length_append,i _ fun _ h=>h,h2];rfl
def Ĉ (h:ţ b) {i:Nat} {g:è} (n:b.2.1[i]?=some g) {l:Lk}:l∈ö b g ↔
 l=(0,(off b i:Int)+1,g.2.2.1+g.2.2.2.1.2)\/l=((off b i:Int)+1,0,-(g.2.2.1+g.2.2.2.1.1)) \/
 ∃(k:Nat) (d e:Int),(Û b g)[k]?=some d/\(Û b g)[k+1]?=some e/\(l=((off b i:Int)+k+1,(off b i:Int)+k+2,0)\/l=((off b i:Int)+k+2,(off b i:Int)+k+1,υ b g d e)):=by
 unfold ö;rw[aeK h n];simp only[List.mem_append,List.mem_cons,List.not_mem_nil,or_false,List.mem_flatMap,List.mem_range];constructor
 ·rintro((a|a)|⟨k,o,a⟩)
  ·exact .inl a
  ·exact .inr (.inl a)
  ·refine .inr (.inr ⟨k,(Û b g)[k],(Û b g)[k+1],cV (by omega),cV (by omega),?_⟩);rw[cV (show k<(Û b g).length by omega),cV (show k+1<(Û b g).length by omega)] at a;simp only[fc] at a
   have f:(off b i:Int)+1+k=(off b i:Int)+k+1:=by omega
   have c:(off b i:Int)+k+1+1=(off b i:Int)+k+2:=by omega
   rw[f,c] at a;exact a
 ·rintro(a|a|⟨k,d,e,hd,j,a⟩)
  ·exact .inl (.inl a)
  ·exact .inl (.inr a)
  ·obtain⟨h2,rfl⟩:=cY.1 hd;obtain⟨r,rfl⟩:=cY.1 j;refine .inr ⟨k,by omega,?_⟩;rw[hd,j];simp only[fc]
   have f:(off b i:Int)+1+k=(off b i:Int)+k+1:=by omega
   have c:(off b i:Int)+k+1+1=(off b i:Int)+k+2:=by omega
   rw[f,c];exact a
def jD {l:Lk}:l∈ů b↔(∃(i:Nat) (g:è),b.2.1[i]?=some g/\l∈ö b g)\/∃c∈b.2.2.2.2.1,l=(cy b c,cx b c,(ql b c).2)\/l=(cx b c,cy b c,-(ql b c).1):=by
 unfold ů;simp only[List.mem_append,List.mem_flatMap,Ľ,List.mem_cons,List.not_mem_nil,or_false];constructor
 ·rintro(⟨g,a,h⟩|h)
  ·obtain⟨i,hi,rfl⟩:=dm.1 a;exact .inl ⟨i,_,cV hi,h⟩
  ·exact .inr h
 ·rintro(⟨i,g,a,h⟩|h)
  ·exact .inl ⟨g,dc a,h⟩
  ·exact .inr h
def ţ.sys (h:ţ b):jz (ů b) ((Ò b).length+1):=by
 have F:=h.nodes;have G:=h.links
 have key:∀l∈ů b,((0<=l.1/\l.1<((Ò b).length+1:Nat))/\(0<=l.2.1/\l.2.1<((Ò b).length+1:Nat)))/\l.1≠l.2.1/\(-4503599627370496<=l.2.2/\l.2.2<=4503599627370496):=by
  intro l f;rcases jD.1 f with⟨i,g,o,f⟩|⟨c,n,f⟩
  ·have j:=dc o;have r:=h.gaugeR j;have E:=ahQ h o;have D:=fw (nr (b:=b) g);have r1:=r.2.2.2.2.2.1;have r2:=r.2.2.2.2.2.2.1;rcases(Ĉ h o).1 f with rfl|rfl|⟨k,d,e,hd,s,u⟩
   ·dsimp only; omega
   ·dsimp only; omega
   ·obtain⟨h2,_⟩:=cY.1 s;have v:=h.day j (dc hd);have C:=kd h j (t:=e) v.2.1;rcases u with rfl|rfl
    ·dsimp only; omega
    ·dsimp only; omega
  ·have a:=(ajm h n).rng;have H:=(acg h n).rng;have z:=alP h n;have y:=xx h n;rcases f with rfl|rfl
   ·dsimp only; omega
   ·dsimp only; omega
 exact⟨by omega,by omega,by rw[Z4 h]; omega,fun l f=>(key l f).1,fun l f=>(key l f).2.1,fun l f=>(key l f).2.2⟩
end
def Ů (b:ò) (x:CK Int):Bool:=decide (x.length=(Ò b).length)&&x.all fun n=>inP n (-4503599627370496) 4503599627370496
def afL {m:Maker} {x:CK Int} (e:m.2.1.length<=1000000):kX m x=some (if decide (x.length=m.2.1.length)&&x.all fun n=>inP n (-4503599627370496) 4503599627370496 then 0 else 1):=by
 unfold kX wE
 by_cases c:x.length=m.2.1.length
 ·rw[Ì (by rw[Î,Î,c]; simp[ine])];refine dJ (ù x (fun n=>!inP n (-4503599627370496) 4503599627370496) (fun z=>ifb (ige z 0) (some 1) (some 0)) (some 1) (some 0) (fun j=>?_) (fun i a hi ha d=>?_) (fun d=>?_)) ?_
  ·rw[Ð (by simp[ige])]
  ·try dsimp only
   unfold ω;rw[Í hi,Ã ha,Λ,À,È hi (by omega),é]
  ·try dsimp only
   unfold ω;rw[Ô]
  ·rw[show(x.any fun n=>!inP n (-4503599627370496) 4503599627370496)=!(x.all fun n=>inP n (-4503599627370496) 4503599627370496) from by rw[gy]; simp]
   cases(x.all fun n=>inP n (-4503599627370496) 4503599627370496)<;>simp[c]
 ·rw[Ð (by rw[Î,Î]; simp[ine]; omega)];simp[c]
def ab5 (b:ò) (x:CK Int):Bool:=WZ (ů b) (0::x)
def aa1 (b:ò) (x:CK Int):Bool×Int:=if ō b≠0 then(false,ō b) else if Ů b x then(ab5 b x,0) else(false,1)
def YX {b:ò} (h:ţ b) {x:CK Int} (d:Ů b x=true) (c:CK (Int×Int)):oP (b,Ò b,(((Ò b).length:Int)+1,ů b),c) x=some (ab5 b x):=by
 simp only[Ů,Bool.and_eq_true,decide_eq_true_eq,List.all_eq_true,inP] at d;have f:=h.nodes;unfold oP Ey;rw[å (Ñ (by simp only[List.length_singleton]; omega))]
 have:=aa3 h.sys (x:=[0]++x) (by simp; omega) (fun a ha=>by
  unfold Ś;rcases List.mem_append.1 ha with ha|ha
  ·simp at ha; omega
  ·have:=d.2 a ha; omega)
 rw[show(((Ò b).length:Int)+1)=(((Ò b).length+1:Nat):Int) by push_cast; rfl]
 try dsimp only
 rw[this,À];unfold ab5;have e:gv ([0]++x) 0=0:=rfl;rw[e];simp
def aot {b:ò} (c:iX b) (d:∀g∈b.2.1,I64 g.2.2.2.2.1.1) (x:CK Int):MV b x=some (aa1 b x):=by
 unfold MV ad1 aa1;rw[yO c d,À]
 by_cases a:ō b=0
 ·have h:=(ť b).1 a;have f:=h.nodes;rw[Ì (by simp[ine,a]),adA h,À,afL (by dsimp only; omega),À,if_neg (show ¬(ō b≠0) from fun h=>h a)];rw[show(decide (x.length=(b,Ò b,(((Ò b).length:Int)+1,ů b),FZ b).2.1.length)&&x.all fun n=>inP n (-4503599627370496) 4503599627370496)=Ů b x from rfl]
  cases e:Ů b x with
  |false=>rfl
  |true =>
   rw[if_pos rfl,Ì (by rfl),YX h e,À,if_pos rfl]
 ·rw[Ð (by simp[ine,a]),if_pos a]
def Lh (b:ò) (id day:Int):Bool:=b.2.2.1.any fun u=>u.1==id&&u.2==day
def acf (b:ò) (g:è) (d:Int):Int:=match ŗ b g.1 d with|some l=>l.2.2|none=>if Lh b g.1 d then g.2.2.2.2.2 else 0
def aiy (l:Jb) (id:Int) {f t:Int} (n:f<=t):(if l.1=id/\0<ğ l f (t+1) then ğ l f (t+1)*l.2.2 else 0)=(if l.1=id/\0<ğ l f t then ğ l f t*l.2.2 else 0)+(if l.1=id/\l.2.1.1<=t/\t<=l.2.1.2 then l.2.2 else 0):=by
 by_cases a:l.1=id
 ·by_cases d:l.2.1.1<=t/\t<=l.2.1.2
  ·have e:ğ l f (t+1)=ğ l f t+1:=by unfold ğ; omega
   have p:0<=ğ l f t:=by unfold ğ; omega
   rw[e,if_pos ⟨a,by omega⟩,if_pos (show l.1=id/\l.2.1.1<=t/\t<=l.2.1.2 from⟨a,d⟩),fZ,gd]
   by_cases c:0<ğ l f t
   ·rw[if_pos ⟨a,c⟩]
   ·rw[if_neg (fun h=>c h.2)]
    have:ğ l f t=0:=by omega
    rw[this];omega
  ·rw[if_neg (show ¬(l.1=id/\l.2.1.1<=t/\t<=l.2.1.2) from fun h=>d h.2),gH]
   by_cases j:l.2.1.1<=t
   ·have e:ğ l f (t+1)=ğ l f t:=by unfold ğ; omega
    rw[e]
   ·have i:¬0<ğ l f (t+1):=by unfold ğ; omega
    have g:¬0<ğ l f t:=by unfold ğ; omega
    rw[if_neg (fun h=>i h.2),if_neg (fun h=>g h.2)]
 ·rw[if_neg (fun h=>a h.1),if_neg (fun h=>a h.1),if_neg (fun h=>a h.1)];rfl
def Uv (id:Int) {f t:Int} (g:f<=t):∀{x:CK Jb},x.Pairwise (fun a c=>¬(a.1=c.1/\a.2.1.1<=c.2.1.2/\c.2.1.1<=a.2.1.2)) ->
 Ł id f (t+1) x=Ł id f t x+(match x.find? (fun l=>l.1==id&&inP t l.2.1.1 l.2.1.2) with|some l=>l.2.2|none=>0)
 |[],_=>rfl
 |l::r,j=>by
  rw[dG] at j;have n:=Uv id g j.2;simp only[Ł];rw[n,aiy l id g,f9]
  by_cases d:l.1=id/\l.2.1.1<=t/\t<=l.2.1.2
  ·have e:(l.1==id&&inP t l.2.1.1 l.2.1.2)=true:=by simp[inP,d.1,d.2.1,d.2.2]
   have o:r.find? (fun l=>l.1==id&&inP t l.2.1.1 l.2.1.2)=none:=by
    rw[ee];intro c s i;simp only[inP,cW,beq_iff_eq,decide_eq_true_eq] at i;exact j.1 c s ⟨by rw[d.1,i.1],by omega,by omega⟩
   rw[if_pos d,e,o];simp only;omega
  ·have e:(l.1==id&&inP t l.2.1.1 l.2.1.2)=false:=by
    rw[eE];intro h;simp only[inP,cW,beq_iff_eq,decide_eq_true_eq] at h;exact d h
   rw[if_neg d,e];simp only;omega
section
variable {b:ò}
def ţ.apart (h:ţ b):b.2.2.2.1.Pairwise (fun a c=>¬(a.1=c.1/\a.2.1.1<=c.2.1.2/\c.2.1.1<=a.2.1.2)):=by
 rw[List.pairwise_iff_getElem];intro i j hi f g ⟨n,h2,l⟩;have e:=h.loans j _ (List.getElem?_eq_getElem f);unfold Mh at e
 have d:(b.2.2.2.1.take j).any (fun x=>x.1==b.2.2.2.1[j].1&&(decide (x.2.1.1<=b.2.2.2.1[j].2.1.2)&&decide (b.2.2.2.1[j].2.1.1<=x.2.1.2)))=true:=by
  rw[dv];exact⟨b.2.2.2.1[i],dm.2 ⟨i,by rw[dk]; omega,by rw[fg]⟩,by simp[n,h2,l]⟩
 rw[d] at e
 (repeat' split at e)<;>first|omega|simp_all
def ţ.notUsed (h:ţ b) {id d:Int} {l:Jb} (i:ŗ b id d=some l):Lh b id d=false:=by
 have n:=fJ i;have g:=fK i;simp only[inP,cW,beq_iff_eq,decide_eq_true_eq] at g;obtain⟨j,o,rfl⟩:=dm.1 n;have e:=h.loans j _ (cV o);rw[eE];intro f;obtain⟨u,f,a⟩:=dv.1 f;simp only[cW,beq_iff_eq] at a
 have c:b.2.2.1.any (fun u=>u.1==b.2.2.2.1[j].1&&inP u.2 b.2.2.2.1[j].2.1.1 b.2.2.2.1[j].2.1.2)=true:=by
  rw[dv];exact⟨u,f,by simp only[inP,cW,beq_iff_eq,decide_eq_true_eq]; exact⟨by rw[a.1,g.1],by omega,by omega⟩⟩
 unfold Mh at e;rw[c] at e
 (repeat' split at e)<;>first|omega|simp_all
def XM {id f t:Int} (j:f<=t):X3 (jK b id f (t+1))=X3 (jK b id f t)++if Lh b id t then[t] else[]:=by
 have i:∀t x,x∈jK b id f t↔Lh b id x=true/\f<=x/\x<t:=by
  intro t x;unfold jK Lh;simp only[List.mem_map,List.mem_filter,List.any_eq_true,inP,Bool.and_eq_true,beq_iff_eq,decide_eq_true_eq];constructor
  ·rintro⟨u,⟨d,h2,e,o⟩,rfl⟩;exact⟨⟨u,d,h2,rfl⟩,e,by omega⟩
  ·rintro⟨⟨u,d,h2,rfl⟩,e,o⟩;exact⟨u,⟨d,h2,e,by omega⟩,rfl⟩
 refine Xs (EI _) ?_ fun x=>?_
 ·rw[gJ]
  refine⟨EI _,by split<;>simp,fun a ha c n=>?_⟩
  rw[xw,i] at ha
  split at n
  ·rw[dh] at n; omega
  ·cases n
 ·rw[xw,i,de,xw,i]
  by_cases g:Lh b id t=true
  ·rw[if_pos g,dh];constructor
   ·rintro⟨d,h2,e⟩
    by_cases l:x=t
    ·exact .inr l
    ·exact .inl ⟨d,h2,by omega⟩
   ·rintro(⟨d,h2,e⟩|rfl)
    ·exact⟨d,h2,by omega⟩
    ·exact⟨g,j,by omega⟩
  ·rw[if_neg g];constructor
   ·rintro⟨d,h2,e⟩;refine .inl ⟨d,h2,?_⟩
    by_cases l:x=t
    ·rw[l] at d; exact absurd d g
    ·omega
   ·rintro(⟨d,h2,e⟩|h)
    ·exact⟨d,h2,by omega⟩
    ·cases h
def P6 (h:ţ b) (g:è) {f t:Int} (a:f<=t):υ b g f (t+1)=υ b g f t+acf b g t:=by
 unfold υ acf;rw[Uv g.1 a h.apart,XM a];show Ł g.1 f t b.2.2.2.1+(match ŗ b g.1 t with|some l=>l.2.2|none=>0)+_=_
 cases ha:ŗ b g.1 t with
 |some l =>
  rw[h.notUsed ha];simp only[dp,if_false,dt];omega
 |none =>
  simp only
  cases Lh b g.1 t with
  |true=>simp only[if_true,cZ,dO,Int.natCast_add,fZ]; omega
  |false=>simp only[dp,if_false,dt]; omega
def Bn (g:è) {f t:Int} (c:t<=f):υ b g f t=0:=by
 unfold υ
 have h:∀x:CK Jb,Ł g.1 f t x=0:=by
  intro x
  induction x with
  |nil=>rfl
  |cons l r a =>
   simp only[Ł];rw[a,if_neg (by unfold ğ; omega)];rfl
 have h2:jK b g.1 f t=[]:=by
  unfold jK
  rw[ij.2 fun u i d=>by
   simp only[inP,cW,beq_iff_eq,decide_eq_true_eq] at d
   omega]
  rfl
 rw[h,h2];have e:X3 ([]:CK Int)=[]:=rfl;rw[e];simp
end
def aj7 {ρ:Type}:@xX ρ=@iP ρ:=rfl
def aj6 {ρ:Type}:@xW ρ=@ş ρ:=rfl
def aj5 {ρ:Type}:@xV ρ=@ĭ ρ:=rfl
def aaa {ρ:Type} {N:Nat} (a:N<=1000) (x:BY ρ):à ((ile (0:Int) (N:Int))&&(ä N)) x=x:=by
 have:=Cm a x
 rwa [dj] at this
section
variable {L:CK Lk} {N:Nat} {M:Int}
def ahd {s:Int} (c:0<=s/\s<N):(List.replicate N Ś).set s.toNat 0=iZ (akH s) N:=by
 refine aad (by simp[ý]) fun v h0 d=>?_
 have a:v<N:=by simpa using d
 rw[Μ _ h0 a,qj c.1 h0 (by simp; omega)];unfold akH
 by_cases h:v=s
 ·simp[h]
 ·simp only[h,if_false,beq_iff_eq];unfold gv;rw[List.getElem?_replicate]
  have:v.toNat<N:=by omega
  simp[this]
def aaK (c:jt L N M) (G:1<=N) (n:N<=200) (F:lC L N=true) {s:Int} (d:0<=s/\s<N):wW ((N:Int),L) [] s=some (BP L N s):=by
 obtain⟨p,o⟩:=(mJ c n).1 F;unfold wW JP;rw[aj7,aj6,aj5];dsimp only;rw[Cm (by omega),Int.toNat_natCast];refine ð (List.replicate N (0:Int)) (fun i=>List.replicate i Ś++List.replicate (N-i) 0) _ (by simp) (fun i a hi ha y=>?_) (fun y=>?_)
 ·dsimp only;unfold qJ
  have l:i<N:=by simpa using hi
  have r:i<(List.replicate i Ś++List.replicate (N-i) (0:Int)).length:=by simp; omega
  rw[Í hi,Š r,Ą (cV r),È l (by omega),dj];congr 2;rw[gF _ _ (by simp)]
  have:N-i=(N-(i+1))+1:=by omega
  rw[this,fH,Nat.sub_self,gk,List.set_cons_zero,List.replicate_succ'];simp
 ·try dsimp only
  unfold qJ;rw[Ô];dsimp only
  have H:List.replicate (List.replicate N (0:Int)).length Ś++List.replicate (N-(List.replicate N (0:Int)).length) 0=List.replicate N Ś:=by simp
  rw[H]
  have e:s.toNat<(List.replicate N Ś).length:=by simp; omega
  rw[show î (List.replicate N Ś)=((N:Nat):Int) by simp[î],ź d.1 d.2,lD e,aaa (by omega),aaa (by omega),ahd d];refine dJ (ad9 c _) ?_
  have u:∀v,akH s v=true->0<=v/\v<N:=fun v h=>by simp[akH] at h; subst h; exact d
  refine ahg (ý _ _) (by omega) _ fun w q C E D f j=>?_;have g:=Tb c G u C E D f j;refine XV c (alg c n) o u _ (fun x w t q z hd=>?_) g
  have:x=BP L N s:=by
   refine aad (by rw[z]; unfold BP; rw[Ń,ý]) fun v a b=>?_;exact hd.uniq (FM c n o d) a (by omega)
  dsimp only;rw[this]
def amj (h:jz L N) {c:CK Int} (g:∀n∈c,0<=n/\n<N) (j:c.length<=1000):IP ((N:Int),L) c=some (if lC L N then 0 else 9):=by
 have h2:=h.n60;unfold IP ZH;rw[kY h,À];dsimp only;rw[Ì (by rfl)];refine Eq.trans (iR c (fun _=>false) (fun _=>some 1) (some (if lC L N then 0 else 9)) (fun i n hi d f=>?_) (fun f=>?_)) ?_
 ·try dsimp only
  unfold uC;have a:=g n (List.mem_of_getElem? d)
  have e:(decide (0<=n)&&decide (n<(N:Int)))=true:=by simp[a.1,a.2]
  rw[Í hi,Ã d,abx,À,e,È hi (by omega)];simp
 ·try dsimp only
  unfold uC;rw[Ô,xu h.links h.n1 (by omega),À]
  cases lC L N<;>rfl
 ·rw[dX.2 (by simp)]
end
def ame:ò:=((0,0),[],[],[],[],[])
def agK (b:ò) (c:Cmp):Int:=Kj (ń b c).1+(lr b c).1-c.2.2.2.2.2.1
def Mk (b:ò) (c:Cmp):Int:=(ń b c).2.1 / (ń b c).2.2+(lr b c).2+c.2.2.2.2.2.1
structure akD (b:ò) (c:Cmp):Prop where
 nums:Jt c=true
 r1:tf (F5 (ś b) (Þ c.2.2.1 c.2.2.2.1)) 1000 100
 r2:tf (F5 (ś b) (Þ c.2.2.2.1 c.2.2.1)) 1000 100
def ţ.cmp {b:ò} (h:ţ b) {c:Cmp} (a:c∈b.2.2.2.2.1):akD b c:=⟨h.nums a,(h.rates a).1,(h.rates a).2⟩
def Kz {b:ò} (i:0<=b.1.1/\b.1.1<=b.1.2/\b.1.2<=1000000) {c:Cmp} (h:akD b c):tf (ń b c).1 2000000000 10000/\tf (ń b c).2 2000000000 10000/\(-3000000000<=Kj (ń b c).1+(lr b c).1/\Kj (ń b c).1+(lr b c).1<=3000000000) /\
 (-3000000000<=(ń b c).2.1 / (ń b c).2.2+(lr b c).2/\(ń b c).2.1 / (ń b c).2.2+(lr b c).2<=3000000000)/\(0<=c.2.2.2.2.2.1/\c.2.2.2.2.2.1<=1073741824):=by
 have a:=(Ŝ c).1 h.nums;have ha:=Ī a.2.2.2.2.2.1;have hb:=Ī a.2.2.2.2.2.2;obtain⟨g,f⟩:=VF (Ng h.r1 h.r2) a.2.2.2.2.1;have j:=sH (b:=b) (c:=c) (by omega) (by omega) (by omega) (by omega) (by omega) (by omega);have e:tf (ń b c).1 2000000000 10000:=g;have d:tf (ń b c).2 2000000000 10000:=f;have n:=xf e;have l:=sF d;exact⟨e,d,by omega,by omega,a.2.2.2.1⟩
structure In (b:ò):Prop where
 size:iX b
 num:∀g∈b.2.1,I64 g.2.2.2.2.1.1
def XA (b:ò):Sys×CK (Int×Int)×Int:=if ō b≠0 then((0,[]),[],ō b) else((((Ò b).length:Int)+1,ů b),FZ b,0)
def aaT {b:ò} (h:In b):jJ b=some (XA b):=by
 unfold jJ Us XA;rw[yO h.size h.num,À]
 by_cases a:ō b=0
 ·rw[Ì (by simp[ine,a]),adA ((ť b).1 a),À,if_neg (show ¬(ō b≠0) from fun h=>h a)]
 ·rw[Ð (by simp[ine,a]),if_pos a]
def Q5 (b:ò) (g:Int) (a:CK Int):Int:=if ō b≠0 then ō b else if a.any (fun d=>!Da d) then 1 else if (tv (k:=tI) (v:=Ú) g (ś b)).isNone then 5 else 0
def akf {b:ò} (h:In b) (g:Int) {a:CK Int} (hd:a.length<=1000):IU b g a=some (Q5 b g a):=by
 unfold IU ZX Q5;rw[yO h.size h.num,À]
 by_cases c:ō b=0
 ·rw[Ì (by simp[ine,c]),if_neg (show ¬(ō b≠0) from fun h=>h c)]
  have last:(Å (Ņ b) fun n=>Rh (k:=tI) (v:=Ú) g n (fun l=>some (0:Int)) (some (5:Int)))=some (if (tv (k:=tI) (v:=Ú) g (ś b)).isNone then 5 else 0):=by
   rw[Ji h.size.gauges,À];unfold Rh
   cases tv (k:=tI) (v:=Ú) g (ś b)<;>rfl
  refine dJ (ù a (fun d=>!Da d) (fun f=>ifb (ige f (0:Int)) (some (1:Int)) (Å (Ņ b) fun o=>Rh (k:=tI) (v:=Ú) g o (fun s=>some (0:Int)) (some (5:Int)))) (some 1) (some (if (tv (k:=tI) (v:=Ú) g (ś b)).isNone then 5 else 0)) (fun j=>?_) (fun i d hi e r=>?_) (fun r=>?_)) ?_
  ·rw[Ð (by simp[ige])]
  ·try dsimp only
   unfold uM;rw[Í hi,Ã e,MH,À,È hi (by omega),é]
  ·try dsimp only
   unfold uM;rw[Ô,last]
  ·cases a.any (fun d=>!Da d)<;>rfl
 ·rw[Ð (by simp[ine,c]),if_pos c]
def uN {b:ò} {x:CK Int}:Ů b x=true↔x.length=(Ò b).length/\∀n∈x,-4503599627370496<=n/\n<=4503599627370496:=by
 simp[Ů,inP]
def ai2 {L:CK Lk} {x:CK Int}:WZ L x=true↔Pot L (gv x):=by
 simp only[WZ,dC,decide_eq_true_eq,Pot];exact⟨fun h u v m a=>h (u,v,m) a,fun h l a=>h l.1 l.2.1 l.2.2 a⟩
def WS (a:Int) (x:CK Int) {v:Int} (c:0<=v):gv (a::x) v=if v=0 then a else gv x (v-1):=by
 unfold gv
 by_cases h:v=0
 ·subst h; rfl
 ·obtain⟨n,rfl⟩:=hZ c
  cases n with
  |zero=>simp at h
  |succ n =>
   have e:(((n+1:Nat):Int)-1).toNat=n:=by omega
   rw[if_neg h,e];simp
end Go.Proofs.ZzM
end
