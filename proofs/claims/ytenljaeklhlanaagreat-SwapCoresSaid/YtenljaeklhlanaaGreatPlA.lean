/- lemmas -/
import Derived.Test.YtenljaeklhlanaaGreatMdPA
import Derived.Test.YtenljaeklhlanaaGreatMdTA
set_option linter.all false
noncomputable section
namespace Go.Proofs.ZzM
open Go Go.Am
abbrev Lk:Type:=Int×Int×Int
inductive Wl (L:List Lk) (S:Int->Prop):List Int->Int->Int->Prop
 |nil {v:Int}:S v->Wl L S [] v 0
 |step {vs:List Int} {u v m d:Int}:Wl L S vs u d->(u,v,m)∈L->Wl L S (u::vs) v (d+m)
def Pot (L:CK Lk) (p:Int->Int):Prop:=∀u v m,(u,v,m)∈L->p v<=p u+m
def InR (L:CK Lk) (N:Nat):Prop:=∀l∈L,(0<=l.1/\l.1<N)/\(0<=l.2.1/\l.2.1<N)
section
variable {L:CK Lk} {S:Int->Prop} {N:Nat} {p:Int->Int}
def Wl.cut (g:Pot L p) {vs:CK Int} {v d:Int} (h:Wl L S vs v d):∀x∈vs,∃a e,Wl L S a x e/\(x::a) <:+ vs/\e+(p v-p x)<=d:=by
 induction h with
 |nil h=>intro x c; cases c
 | @step vs u v m d f i ih =>
  intro x c;have n:=g u v m i;rcases dg.1 c with rfl|c
  ·exact⟨vs,d,f,List.suffix_refl _,by omega⟩
  ·obtain⟨a,e,l,j,o⟩:=ih x c;exact⟨a,e,l,j.trans (List.suffix_cons _ _),by omega⟩
def Wl.simple (n:Pot L p) {vs:CK Int} {v d:Int} (h:Wl L S vs v d):∃c j,Wl L S c v j/\j<=d/\(v::c).Nodup:=by
 induction h with
 |nil h=>exact⟨[],0,.nil h,dT _,by simp⟩
 | @step vs u v m d C o ih =>
  obtain⟨a,y,r,D,i⟩:=ih;have e:=Wl.step r o
  by_cases g:v∈u::a
  ·obtain⟨f,s,k1,l,z⟩:=e.cut n v g;exact⟨f,s,k1,by omega,i.sublist l.sublist⟩
  ·exact⟨u::a,y+m,e,by omega,fB.2 ⟨g,i⟩⟩
def Wl.range (g:InR L N) (f:∀v,S v->0<=v/\v<N) {vs:CK Int} {v d:Int} (h:Wl L S vs v d):(0<=v/\v<N)/\∀u∈vs,0<=u/\u<N:=by
 induction h with
 |nil h=>exact⟨f _ h,fun u c=>by cases c⟩
 | @step vs u v m d i e ih =>
  refine⟨(g _ e).2,fun w a=>?_⟩;rcases dg.1 a with rfl|h
  ·exact ih.1
  ·exact ih.2 w h
def acp:∀(N:Nat) (l:CK Int),l.Nodup->(∀x∈l,0<=x/\x<N)->l.length<=N
 |0,l,_,h=>by
  cases l with
  |nil=>simp
  |cons a l=>have:=h a (by simp); omega
 |N+1,l,c,h=>by
  have e:(l.erase (N:Int)).length<=N:=acp N _ (c.erase _) fun x d=>by
   have h2:=(c.mem_erase_iff).1 d;have:=h x h2.2;have:=h2.1;omega
  have:=List.length_erase (a:=(N:Int)) (l:=l)
  split at this<;>omega
def Wl.short (f:InR L N) (e:∀v,S v->0<=v/\v<N) {vs:CK Int} {v d:Int} (h:Wl L S vs v d) (c:(v::vs).Nodup):vs.length+1<=N:=by
 have:=h.range f e
 exact acp N (v::vs) c fun x a=>by
  rcases dg.1 a with rfl|a
  ·exact this.1
  ·exact this.2 x a
def Ch (f:Lk->Bool):CK Lk->Int
 |[]=>0
 |l::t=>(if f l then min l.2.2 0 else 0)+Ch f t
def ahc (f:Lk->Bool):∀L:CK Lk,Ch (fun _=>true) L<=Ch f L
 |[]=>dT _
 |l::t=>by
  have:=ahc f t;simp only[Ch,if_true]
  split<;>omega
def nF (f:Lk->Bool):∀L:CK Lk,Ch f L<=0
 |[]=>dT _
 |l::t=>by
  have:=nF f t;simp only[Ch]
  split<;>omega
def acJ {f:Lk->Bool} {l:Lk} (c:f l=true):∀{L:CK Lk},l∈L->Ch f L<=l.2.2
 |a::t,h=>by
  simp only[Ch];rcases dg.1 h with rfl|h
  ·have:=nF f t;rw[if_pos c]; omega
  ·have:=acJ c h
   split<;>omega
def ahb {f g:Lk->Bool} (h:∀l,f l=true->g l=false):∀L:CK Lk,Ch (fun l=>f l||g l) L=Ch f L+Ch g L
 |[]=>rfl
 |l::t=>by
  have e:=ahb h t;simp only[Ch,e]
  by_cases c:f l=true
  ·simp[c,h l c]; omega
  ·have a:f l=false:=by simpa using c
   by_cases d:g l=true
   ·simp[a,d]; omega
   ·simp[a,d]
def Wl.low {vs:CK Int} {v d:Int} (h:Wl L S vs v d):vs.Nodup->Ch (fun l=>vs.contains l.1) L<=d:=by
 induction h with
 |nil h=>intro _; exact nF _ _
 | @step vs u v m d n e ih =>
  intro a;rw[fB] at a;have o:=ih a.2;have h2:Ch (fun l=>l.1==u) L<=m:=acJ (f:=fun l=>l.1==u) (l:=(u,v,m)) (by simp) e
  have j:=ahb (f:=fun l:Lk=>l.1==u) (g:=fun l=>vs.contains l.1) (fun l c=>by
   simp only[beq_iff_eq] at c;rw[c]
   simpa using a.1) L
  have i:(fun l:Lk=>(u::vs).contains l.1)=fun l=>(l.1==u)||vs.contains l.1:=by funext l; rw[List.contains_cons]
  rw[i,j];omega
def mn (L:CK Lk):Int:=Ch (fun _=>true) L
def Wl.low' (c:Pot L p) {vs:CK Int} {v d:Int} (h:Wl L S vs v d):mn L<=d:=by
 obtain⟨a,g,f,h2,e⟩:=h.simple c;have:=f.low (List.nodup_cons.1 e).2;have:=ahc (fun l=>a.contains l.1) L;unfold mn;omega
def Wl.high {M:Int} (c:∀l∈L,l.2.2<=M) {vs:CK Int} {v d:Int} (h:Wl L S vs v d):d<=vs.length*M:=by
 induction h with
 |nil h=>simp
 | @step vs u v m d e a ih =>
  have:=c _ a;simp only[dh,fV,fZ,f9];simp only at this;omega
def Wl.lowM {M:Int} (c:∀l∈L,-M<=l.2.2) {vs:CK Int} {v d:Int} (h:Wl L S vs v d) : -(vs.length*M)<=d:=by
 induction h with
 |nil h=>simp
 | @step vs u v m d e a ih =>
  have:=c _ a;simp only[dh,fV,fZ,f9];simp only at this;omega
def Wl.mono {a:Int->Prop} (f:∀v,S v->a v) {vs:CK Int} {v d:Int} (h:Wl L S vs v d):Wl L a vs v d:=by
 induction h with
 |nil h=>exact .nil (f _ h)
 |step g e c=>exact .step c e
def Wl.pot (a:Pot L p) {vs:CK Int} {v d:Int} (h:Wl L S vs v d):∃s,S s/\p v-p s<=d:=by
 induction h with
 | @nil v h=>exact⟨v,h,by omega⟩
 | @step vs u v m d f c ih =>
  obtain⟨s,e,h2⟩:=ih;have:=a u v m c;exact⟨s,e,by omega⟩
end
abbrev Ť:Int:=1152921504606846976
structure afW (L:CK Lk) (S:Int->Prop) (N:Nat) (x:Int->Int):Prop where
 att:∀v:Int,0<=v->v<N->x v≠Ť->∃vs,Wl L S vs v (x v)
 low:∀v vs d,Wl L S vs v d->x v<=d
 bd:∀v:Int,0<=v->v<N->x v<=Ť
def afW.uniq {L:CK Lk} {S:Int->Prop} {N:Nat} {x y:Int->Int} (a:afW L S N x) (c:afW L S N y) {v:Int} (h0:0<=v) (d:v<N):x v=y v:=by
 have key:∀{x y:Int->Int},afW L S N x->afW L S N y->x v<=y v:=by
  intro x y a c
  by_cases h:y v=Ť
  ·rw[h]; exact a.bd v h0 d
  ·obtain⟨vs,e⟩:=c.att v h0 d h;exact a.low v vs _ e
 exact Int.le_antisymm (key a c) (key c a)
def gv (x:CK Int) (v:Int):Int:=x[v.toNat]?.getD 0
def ado {x:CK Int} {v:Int} (h:v.toNat<x.length):x[v.toNat]?=some (gv x v):=by
 unfold gv; rw[List.getElem?_eq_getElem h]; rfl
def pN {x:CK Int} {u v:Int} (d:0<=u) (c:0<=v) (h:u.toNat<x.length) (y:Int):gv (x.set u.toNat y) v=if v=u then y else gv x v:=by
 unfold gv;rw[List.getElem?_set]
 by_cases a:v=u
 ·subst a; simp[h]
 ·have:¬u.toNat=v.toNat:=by omega
  simp[a,this]
def ZB {x y:CK Int} (a:x.length=y.length) (h:∀v:Int,0<=v->v<x.length->gv x v=gv y v):x=y:=by
 refine List.ext_getElem a fun i c h2=>?_;have:=h i (by omega) (by omega);unfold gv at this;simpa[c,h2] using this
def iF (x:CK Int) (l:Lk):CK Int:=if gv x l.1<Ť/\gv x l.1+l.2.2<gv x l.2.1 then x.set l.2.1.toNat (gv x l.1+l.2.2) else x
def iU (L:CK Lk) (x:CK Int):CK Int:=L.foldl iF x
def Ķ (L:CK Lk):Nat->CK Int->CK Int
 |0,x=>x
 |n+1,x=>Ķ L n (iU L x)
def mw (x:CK Int) (l:Lk):(iF x l).length=x.length:=by unfold iF; split<;>simp
def sM (L:CK Lk):∀x:CK Int,(iU L x).length=x.length:=by
 induction L with
 |nil=>intro x; rfl
 |cons l t a=>intro x; show(iU t (iF x l)).length=_; rw[a,mw]
def ņ (L:CK Lk):∀(n:Nat) (x:CK Int),(Ķ L n x).length=x.length
 |0,x=>rfl
 |n+1,x=>by rw[Ķ,ņ L n,sM]
def ja (L:CK Lk):∀(n:Nat) (x:CK Int),Ķ L (n+1) x=iU L (Ķ L n x)
 |0,x=>rfl
 |n+1,x=>by rw[Ķ,ja L n]; rfl
section
variable {L0:CK Lk} {S:Int->Prop} {N:Nat}
def Xs {x:CK Int} {l:Lk} (c:(0<=l.1/\l.1<N)/\(0<=l.2.1/\l.2.1<N)) (d:x.length=N) (v:Int) (a:0<=v):gv (iF x l) v<=gv x v:=by
 unfold iF
 split
 ·rename_i h;rw[pN c.2.1 a (by omega)]
  split
  ·rename_i h2; subst h2; omega
  ·exact dT _
 ·exact dT _
def wR:∀{L:CK Lk},InR L N->∀{x:CK Int},x.length=N->∀v,0<=v->gv (iU L x) v<=gv x v
 |[],_,x,_,v,_=>dT _
 |l::t,d,x,a,v,c=>by
  have f:=Xs (d l (by simp)) a v c;have h2:=wR (L:=t) (fun l e=>d l (by simp[e])) (x:=iF x l) (by rw[mw,a]) v c;show gv (iU t (iF x l)) v<=_;omega
def Jb:∀{L:CK Lk},InR L N->∀{x:CK Int},x.length=N->∀u v m,(u,v,m)∈L->gv x u<Ť->gv (iU L x) v<=gv x u+m
 |l::t,e,x,f,u,v,m,d,i=>by
  have g:InR t N:=fun l a=>e l (by simp[a])
  have c:(iF x l).length=N:=by rw[mw,f]
  show gv (iU t (iF x l)) v<=_;rcases dg.1 d with rfl|d
  ·have a:=e (u,v,m) (by simp);have h2:=wR g c v a.2.1
   have j:gv (iF x (u,v,m)) v<=gv x u+m:=by
    unfold iF
    split
    ·rw[pN a.2.1 a.2.1 (by simp only at a; simp only; omega),if_pos rfl]; exact dT _
    ·rename_i h; simp only[not_and,Int.not_lt] at h; exact h i
   omega
  ·have a:=e (u,v,m) (by simp[d]);have n:=Xs (e l (by simp)) f u a.1.1;have:=Jb g c u v m d (by omega);omega
def Att (L0:CK Lk) (S:Int->Prop) (N:Nat) (x:CK Int):Prop:=∀v:Int,0<=v->v<N->gv x v<Ť->∃vs,Wl L0 S vs v (gv x v)
def aet {x:CK Int} {l:Lk} (a:(0<=l.1/\l.1<N)/\(0<=l.2.1/\l.2.1<N)) (e:l∈L0) (i:x.length=N) (h:Att L0 S N x):Att L0 S N (iF x l):=by
 unfold iF
 split
 ·rename_i f;intro v h0 g c;rw[pN a.2.1 h0 (by omega)] at c ⊢
  split
  ·rename_i h2;obtain⟨vs,d⟩:=h l.1 a.1.1 a.1.2 f.1;exact⟨_,h2▸Wl.step d e⟩
  ·rename_i h2;rw[if_neg h2] at c;exact h v h0 g c
 ·exact h
def XB:∀{L:CK Lk},InR L N->(∀l∈L,l∈L0)->∀{x:CK Int},x.length=N->Att L0 S N x->Att L0 S N (iU L x)
 |[],_,_,_,_,h=>h
 |l::t,d,hsub,x,c,h=>XB (L:=t) (fun l a=>d l (by simp[a])) (fun l a=>hsub l (by simp[a])) (x:=iF x l) (by rw[mw,c]) (aet (d l (by simp)) (hsub l (by simp)) c h)
def SF (c:InR L0 N):∀(n:Nat) {x:CK Int},x.length=N->Att L0 S N x->Att L0 S N (Ķ L0 n x)
 |0,_,_,h=>h
 |n+1,x,a,h=>SF c n (by rw[sM,a]) (XB c (fun _ h=>h) a h)
def FE (d:InR L0 N):∀(n:Nat) {x:CK Int},x.length=N->∀v,0<=v->gv (Ķ L0 n x) v<=gv x v
 |0,_,_,_,_=>dT _
 |n+1,x,a,v,c=>Int.le_trans (FE d n (by rw[sM,a]) v c) (wR d a v c)
def iT (S:Int->Bool) (N:Nat):CK Int:=(List.range N).map fun(i:Nat)=>if S i then 0 else Ť
def Ν (S:Int->Bool) {N:Nat} {v:Int} (h0:0<=v) (a:v<N):gv (iT S N) v=if S v then 0 else Ť:=by
 unfold gv iT
 have:v.toNat<N:=by omega
 rw[eW,gk this];simp only[ee,fU];rw[Int.toNat_of_nonneg h0]
def ü (S:Int->Bool) (N:Nat):(iT S N).length=N:=by simp[iT]
end
def Ja {L:CK Lk} {S:Int->Bool} {N:Nat} {M:Int} (j:InR L N) (i:∀v,S v=true->0<=v/\v<N) (r:∀l∈L,l.2.2<=M):∀(n:Nat),n*M<Ť->0<=M->∀vs v d,Wl L (fun v=>S v=true) vs v d->vs.length<=n->gv (Ķ L n (iT S N)) v<=d
 |0,_,_,vs,v,d,e,g=>by
  cases e with
  |nil h =>
   have:=i v h;rw[Ķ,Ν S this.1 this.2,if_pos h]; exact dT _
  |step=>simp at g
 |n+1,s,c,vs,v,d,e,g=>by
  have f:n*M<Ť:=by rw[fV,fZ,f9] at s; omega
  have a:(Ķ L n (iT S N)).length=N:=by rw[ņ,ü]
  rw[ja]
  cases e with
  |nil h =>
   have C:=wR j a v (i v h).1;have h2:=Ja j i r n f c [] v 0 (.nil h) (by simp);omega
  | @step vs u _ m d e o =>
   have h2:=Ja j i r n f c vs u d e (by simpa using g);have z:=e.high r;have y:(vs.length:Int)*M<=n*M:=fN (by simp at g; omega) c;have:=Jb j a u v m o (by omega);omega
def M7 {L:CK Lk} {S:Int->Bool} {N:Nat} {M:Int} {p:Int->Int} (C:Pot L p) (c:InR L N) (o:∀v,S v=true->0<=v/\v<N) (G:∀l∈L,l.2.2<=M) (r:0<=M) (F:N*M<Ť) (n:Nat) (u:N<=n+1):afW L (fun v=>S v=true) N (gv (Ķ L n (iT S N))):=by
 have g:Att L (fun v=>S v=true) N (iT S N):=fun v h0 a y=>by
  rw[Ν S h0 a] at y ⊢
  split
  ·rename_i h; exact⟨[],.nil h⟩
  ·rename_i h; rw[if_neg h] at y; omega
 have f:∀v:Int,0<=v->v<N->gv (Ķ L n (iT S N)) v<=Ť:=fun v h0 a=>by
  have:=FE c n (ü S N) v h0;rw[Ν S h0 a] at this
  have O:(0:Int)<=Ť:=by decide
  split at this<;>omega
 have e:∀(n:Nat),N<=n+1->∀v vs d,Wl L (fun v=>S v=true) vs v d->gv (Ķ L n (iT S N)) v<=d:=by
  intro n u v vs d z;obtain⟨i,J,a,h2,I⟩:=z.simple C;have Q:=a.short c o I
  have s:0<N:=by omega
  obtain⟨k,rfl⟩:∃k,N=k+1:=⟨N-1,by omega⟩
  have E:(k:Int)*M<Ť:=by rw[fV,fZ,f9] at F; omega
  have P:=Ja c o G k E r i v J a (by omega);obtain⟨j,rfl⟩:∃j,n=k+j:=⟨n-k,by omega⟩
  have H:∀(j:Nat),gv (Ķ L (k+j) (iT S (k+1))) v<=gv (Ķ L k (iT S (k+1))) v:=by
   intro j
   induction j with
   |zero=>exact dT _
   |succ j K =>
    rw[<-Nat.add_assoc,ja];have:=wR c (x:=Ķ L (k+j) (iT S (k+1))) (by rw[ņ,ü]) v (a.range c o).1.1;omega
  have:=H j;omega
 exact⟨fun v h0 a D=>SF c n (ü S N) g v h0 a (by have:=f v h0 a; omega),e n u,f⟩
def afW.pot {L:CK Lk} {S:Int->Prop} {N:Nat} {x:Int->Int} (h:afW L S N x) (c:InR L N) {u v m:Int} (a:(u,v,m)∈L) (e:x u≠Ť):x v<=x u+m:=by
 obtain⟨vs,d⟩:=h.att u (c _ a).1.1 (c _ a).1.2 e;exact h.low v _ _ (.step d a)
section
variable {α:Type} (key:α->Int)
def Srt (l:CK α):Prop:=l.Pairwise fun x y=>key x<=key y
def Stb (l s:CK α):Prop:=∀k:Int,s.filter (fun x=>key x==k)=l.filter (fun x=>key x==k)
variable {key}
def Stb.refl (l:CK α):Stb key l l:=fun _=>rfl
def Stb.symm {l s:CK α} (h:Stb key l s):Stb key s l:=fun k=>(h k).symm
def Stb.trans {l s t:CK α} (h:Stb key l s) (h2:Stb key s t):Stb key l t:=fun k=>(h2 k).trans (h k)
def Stb.append {l s c a:CK α} (h:Stb key l s) (h2:Stb key c a):Stb key (l++c) (s++a):=fun k=>by
 rw[fc,fc,h k,h2 k]
def Stb.mem {l s:CK α} (h:Stb key l s) {x:α}:x∈s↔x∈l:=by
 have:=h (key x);constructor
 ·intro a;have:x∈s.filter fun y=>key y==key x:=dK.2 ⟨a,by simp⟩;rw[h] at this;exact(dK.1 this).1
 ·intro a;have:x∈l.filter fun y=>key y==key x:=dK.2 ⟨a,by simp⟩;rw[<-h] at this;exact(dK.1 this).1
def Stb.swap {u v:CK α} (h:∀x∈u,∀y∈v,key x≠key y):Stb key (u++v) (v++u):=fun k=>by
 rw[fc,fc]
 by_cases c:∃x∈u,key x=k
 ·obtain⟨x,d,rfl⟩:=c
  have:v.filter (fun y=>key y==key x)=[]:=il.2 fun y a=>by
   have:=h x d y a;simp; omega
  rw[this]; simp
 ·have:u.filter (fun y=>key y==k)=[]:=il.2 fun y a=>by
   simp;exact fun e=>c ⟨y,a,e⟩
  rw[this]; simp
def Stb.uniq:∀{s t:CK α},Srt key s->Srt key t->Stb key s t->s=t
 |[],[],_,_,_=>rfl
 |[],y::t,_,_,h=>absurd ((h.mem (x:=y)).1 (by simp)) (by simp)
 |x::s,[],_,_,h=>absurd ((h.mem (x:=x)).2 (by simp)) (by simp)
 |x::s,y::t,l,j,h=>by
  have g:=dI.1 l;have h2:=dI.1 j
  have a:key x=key y:=by
   have o:key x<=key y:=by
    rcases dg.1 ((h.mem (x:=y)).1 (by simp)) with e|c
    ·rw[e]; exact dT _
    ·exact g.1 y c
   have n:key y<=key x:=by
    rcases dg.1 ((h.mem (x:=x)).2 (by simp)) with e|c
    ·rw[e]; exact dT _
    ·exact h2.1 x c
   omega
  have i:x=y:=by
   have:=h (key x);have d:(key y==key x)=true:=beq_iff_eq.2 a.symm;have f:(key x==key x)=true:=beq_iff_eq.2 rfl;simp only[eP,d,f,if_true] at this;exact(List.cons.inj this).1.symm
  subst i;congr 1;refine Stb.uniq g.2 h2.2 fun k=>?_;have:=h k
  by_cases a:key x=k
  ·rw[fe (by simp[a]),fe (by simp[a])] at this;exact(List.cons.inj this).2
  ·rw[ff (by simp[a]),ff (by simp[a])] at this;exact this
variable (key)
def VW (x:α):CK α->CK α
 |[]=>[x]
 |y::l=>if key x<=key y then x::y::l else y::VW x l
def ĺ (l:CK α):CK α:=l.foldr (VW key) []
variable {key}
def VV (x:α):∀l:CK α,Stb key (x::l) (VW key x l)
 |[]=>Stb.refl _
 |y::l=>by
  unfold VW
  split
  ·exact Stb.refl _
  ·rename_i h;refine Stb.trans (s:=y::x::l) ?_ fun k=>?_
   ·have:=Stb.swap (key:=key) (u:=[x]) (v:=[y]) (fun a ha b hb=>by simp at ha hb; subst ha hb; omega);exact(this.append (Stb.refl l))
   ·have:=VV x l k;simp only[eP];rw[this];simp only[eP]
def akO {x z:α} {l:CK α}:z∈VW key x l↔z=x\/z∈l:=by
 rw[(VV x l).mem,dg]
def adm (x:α):∀{l:CK α},Srt key l->Srt key (VW key x l)
 |[],_=>ii _ _
 |y::l,h=>by
  have d:=List.pairwise_cons.1 h;unfold VW
  split
  ·rename_i c;refine List.Pairwise.cons (fun z a=>?_) h;rcases dg.1 a with rfl|a
   ·exact c
   ·exact Int.le_trans c (d.1 z a)
  ·rename_i c;refine List.Pairwise.cons (fun z a=>?_) (adm x d.2);rcases akO.1 a with rfl|a
   ·omega
   ·exact d.1 z a
def lB:∀l:CK α,Srt key (ĺ key l)
 |[]=>List.Pairwise.nil
 |x::l=>adm x (lB l)
def Œ:∀l:CK α,Stb key l (ĺ key l)
 |[]=>Stb.refl _
 |x::l=>by
  have:Stb key (x::l) (x::ĺ key l):=(Stb.refl [x]).append (Œ l);exact this.trans (VV x _)
def xG {l s:CK α} (h:Srt key s) (h2:Stb key l s):ĺ key l=s:=Stb.uniq (lB l) h ((Œ l).symm.trans h2)
def Stb.perm {l s:CK α} [DecidableEq α] (h:Stb key l s):s.Perm l:=by
 rw[List.perm_iff_count];intro x
 have e:∀l:CK α,l.count x=(l.filter fun y=>key y==key x).count x:=fun l=>by
  rw[List.count_filter];simp
 rw[e s,e l,h]
def Stb.length {l s:CK α} (h:Stb key l s):s.length=l.length:=by
 classical
 exact h.perm.length_eq
def Srt.append {l s:CK α} (h:Srt key l) (h2:Srt key s) (a:∀x∈l,∀y∈s,key x<=key y):Srt key (l++s):=fO.2 ⟨h,h2,a⟩
def Srt.parts {l s:CK α} (h:Srt key (l++s)):Srt key l/\Srt key s/\∀x∈l,∀y∈s,key x<=key y:=fO.1 h
end
abbrev Way:=CK (CK Int)
abbrev Ĭ:=a8
def Ę (m:Ĭ) (x:Way):Int:=(Ļ m x).getD 0
def WOk (m:Ĭ) (l:CK Way):Prop:=∀x∈l,Ļ m x=some (Ę m x)
section
variable {ρ:Type} {m:Ĭ}
def aiE (a b:Int):iQ a b=some (if a<b then -1 else if b<a then 1 else 0):=by
 unfold iQ vX mZ AD
 have e:∀x:Int,ine x x=false:=fun x=>by simp[ine]
 rw[e,e,À,À,ç,ç]
 by_cases h:a<b
 ·rw[Ð (decide_eq_true h),if_pos h]
 ·rw[Ì (decide_eq_false h),if_neg h]
  by_cases h2:b<a
  ·rw[Ð (decide_eq_true h2),if_pos h2]
  ·rw[Ì (decide_eq_false h2),if_neg h2]
def WW {x y:Way} (c:Ļ m x=some (Ę m x)) (a:Ļ m y=some (Ę m y)):kI x y m=some (if Ę m x<Ę m y then -1 else if Ę m y<Ę m x then 1 else 0):=by
 unfold kI Th;rw[c,À,a,À,aiE,À]
def adh {x y:Way} (c:Ļ m x=some (Ę m x)) (a:Ļ m y=some (Ę m y)) (X Y:BY ρ):(Ã (kI x y m) fun r=>ifb (ilt r (0:Int)) X Y)=if Ę m x<Ę m y then X else Y:=by
 rw[WW c a,À]
 by_cases h:Ę m x<Ę m y
 ·rw[if_pos h,if_pos h]; rfl
 ·rw[if_neg h,if_neg h]
  by_cases h2:Ę m y<Ę m x
  ·rw[if_pos h2]; rfl
  ·rw[if_neg h2]; rfl
def anc {α:Type} (A:CK α) (x:α) (B:CK α):(A++x::B)[A.length]?=some x:=by simp
def amI {α:Type} (A:CK α) (x y:α) (B:CK α):(A++x::B).set A.length y=A++y::B:=by simp
def jI {α:Type} {l A B:CK α} {x:α} {i:Int} (h:l=A++x::B) (hi:i=A.length) (K:α->BY ρ):(à ((ile (0:Int) i)&&(ilt i (ì l))) (Į l (Int.toNat i) K))=K x:=by
 subst h hi;rw[á (by simp[ile,ilt,ì]; omega),dm,ž (anc A x B)]
def Kh {α:Type} {l A B:CK α} {x:α} {i:Int} (h:l=A++x::B) (hi:i=A.length) (y:α):List.set l (Int.toNat i) y=A++y::B:=by
 subst h hi;rw[dm,amI]
def ins_L1 {c0:Int} {A C:CK Way} {x y:Way} (g:Ļ m x=some (Ę m x)) (f:Ļ m y=some (Ę m y)) (j:c0<=A.length) (i:A.length<=1000000) (d:Int->CK Way->BY ρ) (k0:CK Way->BY ρ) :
 ë c0 m.1.1.1 m.1.1.2 m.1.2.1 m.1.2.2.1 m.1.2.2.2.1 m.1.2.2.2.2.1 m.1.2.2.2.2.2 m.2 ((A.length:Int)+1) (A++y::x::C) d k0 =
  if Ę m x<Ę m y then d A.length (A++x::y::C) else k0 (A++y::x::C):=by
 have h:((A.length:Int)+1-1)=A.length:=by omega
 have a:A++y::x::C=(A++[y])++x::C:=by simp
 have c:((A.length:Int)+1)=(A++[y]).length:=by simp
 unfold ë;rw[Ð (decide_eq_true (by omega)),jI a c,h,Î (by omega) (by omega),jI (A:=A) (x:=y) (B:=x::C) rfl rfl];refine(adh g f _ _).trans ?_
 split
 ·rw[Î (by omega) (by omega),Î (by omega) (by omega),jI (A:=A) (x:=y) (B:=x::C) rfl rfl,jI a c,jI a c,Kh a c]
  have e:A++[y]++y::C=A++y::y::C:=by simp
  rw[e,jI (A:=A) (x:=y) (B:=y::C) rfl rfl,Kh (A:=A) (x:=y) (B:=y::C) rfl rfl,Î (by omega) (by omega)]
 ·rfl
def akN {c0:Int} {P S Q:CK Way} {x:Way} (G:c0=P.length) (C:Srt (Ę m) S) (z:WOk m (x::S)) (J:P.length+S.length<=1000000) (K:CK Way->BY ρ) :
 Ê (fun(v:Int×CK Way) F=>ë c0 m.1.1.1 m.1.1.2 m.1.2.1 m.1.2.2.1 m.1.2.2.2.1 m.1.2.2.2.2.1 m.1.2.2.2.2.2 m.2 v.1 v.2 (fun a b=>F (a,b)) K) (((P.length+S.length:Nat):Int),P++(S++x::Q))=K (P++(ĺ (Ę m) (S++[x])++Q)):=by
 subst G;have n:=z x (by simp)
 -- when it stops
 have stop:∀A B:CK Way,S=A++B->(∀t∈B,Ę m x<Ę m t)->(∀t∈A,Ę m t<=Ę m x)->ĺ (Ę m) (S++[x])=A++x::B:=fun A B c i j=>by
  subst c;obtain⟨r,h2,o⟩:=C.parts;refine xG ?_ ?_
  ·refine r.append (List.Pairwise.cons (fun t d=>by have:=i t d; omega) h2) fun a ha b hb=>?_;rcases dg.1 hb with rfl|hb
   ·exact j a ha
   ·exact o a ha b hb
  ·have:=Stb.swap (key:=Ę m) (u:=B) (v:=[x]) (fun a ha b hb=>by simp at hb; subst hb; have:=i a ha; omega);have D:=(Stb.refl (key:=Ę m) A).append this;rw[<-dj] at D;exact D
 refine è (fun v:Int×CK Way=>∃A B:CK Way,S=A++B/\(∀t∈B,Ę m x<Ę m t)/\v=(((P.length+A.length:Nat):Int),P++(A++x::(B++Q)))) (fun v=>v.1.toNat) ?_ ⟨S,[],by simp,by simp,by simp⟩;rintro v ⟨A,B,c,i,rfl⟩
 cases j:A.reverse with
 |nil =>
  have f:A=[]:=by simpa using j
  subst f;refine .inl fun g=>?_;dsimp only;unfold ë;rw[Ì (decide_eq_false (by simp)),stop [] B c i (by simp)];simp
 |cons y E =>
  have f:A=E.reverse++[y]:=by
   have:=congrArg List.reverse j;simpa using this
  generalize E.reverse=A1 at f;subst f;have l:Ļ m y=some (Ę m y):=z y (by rw[c]; simp)
  have e:∀g:Int×CK Way->BY ρ,ë (P.length:Int) m.1.1.1 m.1.1.2 m.1.2.1 m.1.2.2.1 m.1.2.2.2.1 m.1.2.2.2.2.1 m.1.2.2.2.2.2 m.2 ((P.length+(A1++[y]).length:Nat):Int) (P++(A1++[y]++x::(B++Q))) (fun a b=>g (a,b)) K =
   if Ę m x<Ę m y then g (((P.length+A1.length:Nat):Int),P++(A1++x::(y::B++Q))) else K (P++(A1++[y]++x::(B++Q))):=fun g=>by
   have I:((P.length+(A1++[y]).length:Nat):Int)=((P++A1).length:Int)+1:=by simp; omega
   have H:P++(A1++[y]++x::(B++Q))=(P++A1)++y::x::(B++Q):=by simp
   have s:A1.length<=S.length:=by rw[c]; simp
   rw[I,H,ins_L1 n l (by simp; omega) (by simp; omega)];simp
  by_cases h:Ę m x<Ę m y
  ·refine .inr ⟨(((P.length+A1.length:Nat):Int),P++(A1++x::(y::B++Q))),⟨A1,y::B,by rw[c]; simp,fun t d=>?_,rfl⟩,by simp; omega,fun g=>(e g).trans (if_pos h)⟩;rcases dg.1 d with rfl|d
   ·exact h
   ·exact i t d
  ·refine .inl fun g=>(e g).trans ?_;rw[if_neg h,stop (A1++[y]) B c i fun t d=>?_]
   ·simp
   ·obtain⟨r,_,_⟩:=Srt.parts (c▸C);obtain⟨_,_,o⟩:=Srt.parts r;rcases df.1 d with d|d
    ·have:=o t d y (by simp); omega
    ·simp at d; subst d; omega
def WOk.sub {l s:CK Way} (h:WOk m l) (c:∀x∈s,x∈l):WOk m s:=fun x a=>h x (c x a)
def KH {P M Q:CK Way} (r:WOk m M) (u:P.length+M.length<=1000000):ê (P++(M++Q)) P.length ((P.length+M.length:Nat):Int) m=some (P++(ĺ (Ę m) M++Q),m):=by
 unfold ê ŭ;rw[Î (by omega) (by omega)];refine è (fun v:Int×CK Way=>(M.length=0/\v=((P.length:Int)+1,P++(M++Q)))\/∃k:Nat,1<=k/\k<=M.length/\v=(((P.length+k:Nat):Int),P++(ĺ (Ę m) (M.take k)++(M.drop k++Q)))) (fun v=>(P.length+M.length+1)-v.1.toNat) ?_ ?_
 ·rintro v (⟨h0,rfl⟩|⟨k,s,l,rfl⟩)
  ·refine .inl fun g=>?_;have:M=[]:=List.length_eq_zero_iff.1 h0;subst this;dsimp only;unfold Đ;rw[Ì (decide_eq_false (by simp; omega))];rfl
  ·rcases gz l with h|rfl
   ·have o:M[k]?=some M[k]:=cW h;have hd:M.drop k=M[k]::M.drop (k+1):=dV h;have n:M.take (k+1)=M.take k++[M[k]]:=take_succ o;have c:M[k]∈M:=fE h;generalize M[k]=x at o hd n c
    have j:(ĺ (Ę m) (M.take k)).length=k:=by rw[(Œ _).length]; simp; omega
    refine .inr ⟨(((P.length+(k+1):Nat):Int),P++(ĺ (Ę m) (M.take (k+1))++(M.drop (k+1)++Q))),.inr ⟨k+1,by omega,h,rfl⟩,by dsimp only; omega,fun g=>?_⟩;dsimp only;unfold Đ;rw[Ð (decide_eq_true (by omega)),hd]
    have:=akN (m:=m) (c0:=(P.length:Int)) (P:=P) (S:=ĺ (Ę m) (M.take k)) (Q:=M.drop (k+1)++Q) (x:=x) rfl (lB _) (fun y i=>by
     rcases dg.1 i with rfl|i
     ·exact r _ c
     ·exact r _ (ft ((Œ _).mem.1 i))) (by omega) (fun d=>ck (((P.length+k:Nat):Int)+(1:Int)) fun f=>g (f,d))
    rw[j] at this;refine this.trans ?_;rw[Î (by omega) (by omega)];congr 1;refine Prod.ext (by dsimp only; omega) ?_;dsimp only
    have e:ĺ (Ę m) (ĺ (Ę m) (M.take k)++[x])=ĺ (Ę m) (M.take (k+1)):=by
     rw[n];exact xG (lB _) (((Œ (M.take k)).append (Stb.refl [x])).symm.trans (Œ _))
    rw[e]
   ·refine .inl fun g=>?_;dsimp only;unfold Đ;rw[Ì (decide_eq_false (by omega))];simp
 ·cases M with
  |nil=>exact .inl ⟨rfl,rfl⟩
  |cons a M =>
   refine .inr ⟨1,cX _,by simp,?_⟩;refine Prod.ext (by simp) ?_;simp[ĺ,VW]
end
section
variable {ρ:Type} {m:Ĭ}
def rot_L2:@iN ρ=@ď ρ:=rfl
def rot_L3:@iM ρ=@ď ρ:=rfl
def wL {A U B V C:CK Way} (J:V.length=U.length) {a b n:Int} (ha:a=A.length) (hb:b=((A.length+U.length+B.length:Nat):Int)) (g:n=U.length) (O:A.length+U.length+B.length+V.length<=1000000) (K:CK Way->BY ρ) :
 Ê (fun(v:Int×CK Way) F=>ď a b n v.1 v.2 (fun x y=>F (x,y)) K) ((0:Int),A++(U++(B++(V++C))))=K (A++(V++(B++(U++C)))):=by
 subst ha hb g;refine î (List.replicate U.length ()) (fun i=>A++(V.take i++(U.drop i++(B++(U.take i++(V.drop i++C)))))) _ (by simp) (fun i x hi I E=>?_) (fun E=>?_)
 ·try dsimp only
  rw[fL] at hi;have r:U.drop i=U[i]::U.drop (i+1):=dV hi;have o:V.drop i=V[i]::V.drop (i+1):=dV (by omega);have d:U.take (i+1)=U.take i++[U[i]]:=take_succ (cW hi);have c:V.take (i+1)=V.take i++[V[i]]:=take_succ (cW (by omega));generalize U[i]=u at r d;generalize V[i]=v at o c
  have H:(U.take i).length=i:=by simp; omega
  have G:(V.take i).length=i:=by simp; omega
  have D:(U.drop (i+1)).length=U.length-(i+1):=by simp
  rw[r,o,d,c];generalize U.drop (i+1)=U2 at *;generalize V.drop (i+1)=V2 at *;generalize U.take i=U1 at *;generalize V.take i=V1 at *;unfold ď
  -- the places
  have e:A++(V1++(u::U2++(B++(U1++(v::V2++C)))))=(A++V1)++u::(U2++(B++(U1++(v::V2++C)))):=by simp
  have s:A++(V1++(u::U2++(B++(U1++(v::V2++C)))))=(A++(V1++(u::U2++(B++U1))))++v::(V2++C):=by simp
  have f:(A.length:Int)+i=(A++V1).length:=by simp; omega
  have z:((A.length+U.length+B.length:Nat):Int)+i=(A++(V1++(u::U2++(B++U1)))).length:=by simp; omega
  have h:(A++V1)++v::(U2++(B++(U1++(v::V2++C))))=(A++(V1++(v::U2++(B++U1))))++v::(V2++C):=by simp
  have j:((A.length+U.length+B.length:Nat):Int)+i=(A++(V1++(v::U2++(B++U1)))).length:=by simp; omega
  rw[Ð (decide_eq_true (by omega)),Î (by omega) (by omega),Î (by omega) (by omega),Î (by omega) (by omega),jI s z,Î (by omega) (by omega),jI e f,jI e f,Kh e f,jI h j,Kh h j,Î (by omega) (by omega)];simp
 ·try dsimp only
  unfold ď;rw[List.length_replicate,Ì (decide_eq_false (by omega))];rw[List.take_of_length_le (l:=V) (by omega),List.drop_of_length_le (l:=U) (by omega),List.take_of_length_le (l:=U) (by omega),List.drop_of_length_le (l:=V) (by omega)];simp
def agy {A U V C:CK Way} (E:1<=U.length) (D:1<=V.length) (G:A.length+U.length+V.length<=1000000) :
 Ľ (A++(U++(V++C))) A.length ((A.length+U.length:Nat):Int) ((A.length+U.length+V.length:Nat):Int) m=some (A++(V++(U++C)),m):=by
 unfold Ľ jS;rw[Î (by omega) (by omega),Î (by omega) (by omega)];refine è (fun v:Int×Int×CK Way=>∃L X Y R:CK Way,1<=X.length/\1<=Y.length/\L.length+X.length=U.length/\Y.length+R.length=V.length/\L++(Y++(X++R))=V++U/\v=((X.length:Int),(Y.length:Int),A++(L++(X++(Y++(R++C)))))) (fun v=>v.1.toNat+v.2.1.toNat) ?_ ⟨[],U,V,[],E,D,by simp,by simp,by simp,?_⟩
 rotate_left
 ·rw[Prod.mk.injEq,Prod.mk.injEq];refine⟨?_,?_,by simp⟩
  ·show((A.length+U.length:Nat):Int)-(A.length:Int)=(U.length:Int);omega
  ·show((A.length+U.length+V.length:Nat):Int)-((A.length+U.length:Nat):Int)=(V.length:Int);omega
 rintro v ⟨L,X,Y,R,I,H,f,h2,y,rfl⟩
 by_cases d:X.length=Y.length
 ·refine .inl fun j=>?_;dsimp only;unfold Ĺ;rw[Ì (by simp[ine,d])];dsimp only;rw[rot_L3,Î (by omega) (by omega)];have:=wL (A:=A++L) (U:=X) (B:=[]) (V:=Y) (C:=R++C) d.symm (a:=((A.length+U.length:Nat):Int)-X.length) (b:=((A.length+U.length:Nat):Int)) (n:=X.length) (by simp; omega) (by simp; omega) rfl (by simp; omega) (fun l=>some (l,m))
  have i:(A++L)++(X++([]++(Y++(R++C))))=A++(L++(X++(Y++(R++C)))):=by simp
  rw[i] at this;refine this.trans ?_
  have F:A++L++(Y++([]++(X++(R++C))))=A++((L++(Y++(X++R)))++C):=by simp
  rw[F,y];simp
 ·by_cases h:Y.length<X.length
  ·-- the first part of X and Y change places
   have g:(X.take Y.length).length=Y.length:=by simp; omega
   have c:(X.drop Y.length).length=X.length-Y.length:=by simp
   have ex:X=X.take Y.length++X.drop Y.length:=(eA _ _).symm;generalize X.take Y.length=X1 at g ex;generalize X.drop Y.length=X2 at c ex;subst ex;refine .inr ⟨((X2.length:Int),(X1.length:Int),A++((L++Y)++(X2++(X1++(R++C))))),⟨L++Y,X2,X1,R,by simp at c h; omega,by omega,by simp at f ⊢; omega,by omega,?_,rfl⟩,by simp at c ⊢; omega,fun j=>?_⟩
   ·rw[<-y]; simp
   ·dsimp only;unfold Ĺ;have e:ine ((X1++X2).length:Int) (Y.length:Int)=true:=bne_iff_ne.2 (by omega);rw[Ð e,Ð (decide_eq_true (by omega)),Î (by simp at f ⊢; omega) (by simp at f ⊢; omega)];have:=wL (A:=A++L) (U:=X1) (B:=X2) (V:=Y) (C:=R++C) g.symm (a:=((A.length+U.length:Nat):Int)-(X1++X2).length) (b:=((A.length+U.length:Nat):Int)) (n:=Y.length) (by simp at f ⊢; omega) (by simp at f ⊢; omega) (by omega) (by simp at f ⊢; omega) (fun r=>ck (((X1++X2).length:Int)-(Y.length:Int)) fun u=>j (u,((Y.length:Int),r)))
    have i:(A++L)++(X1++(X2++(Y++(R++C))))=A++(L++(X1++X2++(Y++(R++C)))):=by simp
    rw[i] at this;refine this.trans ?_;rw[Î (by simp; omega) (by simp; omega)];congr 1;rw[Prod.mk.injEq,Prod.mk.injEq];exact⟨by simp; omega,by omega,by simp⟩
  ·have g:(Y.drop (Y.length-X.length)).length=X.length:=by simp; omega
   have c:(Y.take (Y.length-X.length)).length=Y.length-X.length:=by simp
   have z:Y=Y.take (Y.length-X.length)++Y.drop (Y.length-X.length):=(eA _ _).symm;generalize Y.take (Y.length-X.length)=Y1 at c z;generalize Y.drop (Y.length-X.length)=Y2 at g z;subst z;refine .inr ⟨((Y2.length:Int),(Y1.length:Int),A++(L++(Y2++(Y1++((X++R)++C))))),⟨L,Y2,Y1,X++R,by omega,by simp at c d h; omega,by omega,by simp at h2 ⊢; omega,?_,rfl⟩,by simp at c ⊢; omega,fun j=>?_⟩
   ·rw[<-y]; simp
   ·dsimp only;unfold Ĺ;have e:ine (X.length:Int) ((Y1++Y2).length:Int)=true:=bne_iff_ne.2 (by omega);rw[Ð e,Ì (decide_eq_false (by omega)),rot_L2,Î (by omega) (by omega),Î (by simp at h2 ⊢; omega) (by simp at h2 ⊢; omega),Î (by simp at h2 ⊢; omega) (by simp at h2 ⊢; omega)];have:=wL (A:=A++L) (U:=X) (B:=Y1) (V:=Y2) (C:=R++C) g (a:=((A.length+U.length:Nat):Int)-X.length) (b:=((A.length+U.length:Nat):Int)+((Y1++Y2).length:Int)-X.length) (n:=X.length) (by simp; omega) (by simp; omega) rfl (by simp at h2 ⊢; omega) (fun o=>ck (((Y1++Y2).length:Int)-(X.length:Int)) fun s=>j ((X.length:Int),(s,o)))
    have i:(A++L)++(X++(Y1++(Y2++(R++C))))=A++(L++(X++(Y1++Y2++(R++C)))):=by simp
    rw[i] at this;refine this.trans ?_;rw[Î (by simp; omega) (by simp; omega)];congr 1;rw[Prod.mk.injEq,Prod.mk.injEq];exact⟨by omega,by simp; omega,by simp⟩
end
def anb {n:Nat} (h:n<=10000000):IntKind.wrap .i64 (iX .u64 (IntKind.wrap .u64 (n:Int)) (1:Int))=((n / 2:Nat):Int):=by
 have c:IntKind.wrap .u64 (n:Int)=n:=by
  simp[IntKind.wrap,IntKind.bits,IntKind.signed];omega
 rw[c]
 have a:iX .u64 (n:Int) 1=((n / 2:Nat):Int):=by
  unfold iX
  have:(2:Int) ^ (min (Int.toNat 1) IntKind.u64.bits)=2:=by decide
  rw[this,Int.fdiv_eq_ediv_of_nonneg _ (by omega)];omega
 rw[a];simp[IntKind.wrap,IntKind.bits,IntKind.signed];omega
section
variable {ρ:Type} {m:Ĭ}
abbrev ajE:=CK Way->Int->Int->Int->Ĭ->BY (CK Way×Ĭ)
def adU (p:Nat->Prop) [DecidablePred p] {lo:Nat}:∀(n:Nat),(∀c c',lo<=c->c<=c'->c'<lo+n->p c'->p c)->∃s,lo<=s/\s<=lo+n/\(∀c,lo<=c->c<s->p c)/\∀c,s<=c->c<lo+n->¬p c
 |0,_=>⟨lo,cX _,cX _,fun c d h2=>by omega,fun c d h2=>by omega⟩
 |n+1,h=>by
  obtain⟨s,d,h2,j,i⟩:=adU p (lo:=lo) n fun c c' o l a3=>h c c' o l (by omega)
  by_cases g:p (lo+n)
  ·exact⟨lo+n+1,by omega,by omega,fun c a f=>h c (lo+n) a (by omega) (by omega) g,fun c a f=>by omega⟩
  ·refine⟨s,d,by omega,j,fun c a f=>?_⟩
   by_cases e:c=lo+n
   ·rw[e]; exact g
   ·exact i c a (by omega)
def abL {f:Int×Int->(Int×Int->BY ρ)->BY ρ} {K:Int->BY ρ} {lo hi:Nat} (C:lo<=hi) (p:Nat->Prop) [DecidablePred p] (g:∀c c',lo<=c->c<=c'->c'<hi->p c'->p c)
 (step:∀i j:Nat,lo<=i->i<j->j<=hi->∀a,f ((i:Int),(j:Int)) a=if p ((i+j) / 2) then a ((((i+j) / 2+1:Nat):Int),(j:Int)) else a ((i:Int),(((i+j) / 2:Nat):Int)))
 (stop:∀i:Nat,lo<=i->i<=hi->∀a,f ((i:Int),(i:Int)) a=K i) :
 ∃s,lo<=s/\s<=hi/\(∀c,lo<=c->c<s->p c)/\(∀c,s<=c->c<hi->¬p c)/\Ê f ((lo:Int),(hi:Int))=K (s:Nat):=by
 obtain⟨s,y,h2,u,r⟩:=adU p (lo:=lo) (hi-lo) fun c c' E D a3=>g c c' E D (by omega);refine⟨s,y,by omega,u,fun c d o=>r c d (by omega),?_⟩;refine è (fun v:Int×Int=>∃i j:Nat,lo<=i/\i<=s/\s<=j/\j<=hi/\v=((i:Int),(j:Int))) (fun v=>v.2.toNat-v.1.toNat) ?_ ⟨lo,hi,cX _,y,by omega,cX _,rfl⟩;rintro v ⟨i,j,d,o,z,l,rfl⟩;rcases dk i j with h|h
 ·by_cases n:p ((i+j) / 2)
  ·refine .inr ⟨_,⟨(i+j) / 2+1,j,by omega,?_,z,l,rfl⟩,by dsimp only; omega,fun a=>by rw[step i j d h l,if_pos n]⟩;rcases Nat.lt_or_ge ((i+j) / 2) s with e|e
   ·omega
   ·exact absurd n (r _ e (by omega))
  ·refine .inr ⟨_,⟨i,(i+j) / 2,d,o,?_,by omega,rfl⟩,by dsimp only; omega,fun a=>by rw[step i j d h l,if_neg n]⟩;rcases Nat.lt_or_ge ((i+j) / 2) s with e|e
   ·exact absurd (u _ (by omega) e) n
   ·exact e
 ·obtain rfl:i=j:=by omega
  obtain rfl:i=s:=by omega
  exact .inl fun a=>stop i d l a
def aeF (g:ajE) {P B C:CK Way} {x:Way} {c0:Int} (u:c0=((P.length+B.length+1:Nat):Int)) (z:P.length+B.length<=1000000) (K:CK Way->BY ρ) :
 Ê (fun(v:Int×CK Way) s=>ó g c0 v.1 v.2 (fun a b=>s (a,b)) K) ((P.length:Int),P++(x::(B++C)))=K (P++(B++x::C)):=by
 subst u;refine è (fun v:Int×CK Way=>∃c d:CK Way,B=c++d/\v=(((P.length+c.length:Nat):Int),P++(c++x::(d++C)))) (fun v=>(P.length+B.length+1)-v.1.toNat) ?_ ⟨[],B,rfl,rfl⟩;rintro v ⟨c,d,e,rfl⟩
 cases d with
 |nil =>
  refine .inl fun r=>?_;rw[List.append_nil] at e;subst e;dsimp only;unfold ó;rw[Î (by omega) (by omega),Ì (decide_eq_false (by omega))];rfl
 |cons y d =>
  have l:B.length=c.length+d.length+1:=by rw[e]; simp; omega
  refine .inr ⟨(((P.length+(c++[y]).length:Nat):Int),P++((c++[y])++x::(d++C))),⟨c++[y],d,by rw[e]; simp,rfl⟩,by simp; omega,fun r=>?_⟩;dsimp only;unfold ó
  have f:P++(c++x::(y::d++C))=(P++c)++x::(y::(d++C)):=by simp
  have h:((P.length+c.length:Nat):Int)=(P++c).length:=by simp
  have n:P++(c++x::(y::d++C))=(P++c++[x])++y::(d++C):=by simp
  have o:((P.length+c.length:Nat):Int)+1=(P++c++[x]).length:=by simp; omega
  have i:(P++c)++y::(y::(d++C))=(P++c++[y])++y::(d++C):=by simp
  have j:((P.length+c.length:Nat):Int)+1=(P++c++[y]).length:=by simp; omega
  rw[Î (by omega) (by omega),Ð (decide_eq_true (by omega)),Î (by omega) (by omega),Î (by omega) (by omega),jI n o,jI f h,jI f h,Kh f h,jI i j,Kh i j,Î (by omega) (by omega)];congr 1
  ·simp; omega
  ·simp
def ahe (h:ajE) {P B C:CK Way} {x:Way} {c0:Int} (D:c0=(P.length:Int)) (F:P.length+B.length<=1000000) (K:CK Way->BY ρ) :
 Ê (fun(v:Int×CK Way) z=>ò h c0 v.1 v.2 (fun a b=>z (a,b)) K) (((P.length+B.length:Nat):Int),P++(B++x::C))=K (P++(x::(B++C))):=by
 subst D;refine è (fun v:Int×CK Way=>∃d c:CK Way,B=d++c/\v=(((P.length+d.length:Nat):Int),P++(d++x::(c++C)))) (fun v=>v.1.toNat) ?_ ⟨B,[],by simp,by simp⟩;rintro v ⟨d,c,l,rfl⟩
 cases e:d.reverse with
 |nil =>
  have:d=[]:=by simpa using e
  subst this;refine .inl fun u=>?_;dsimp only;unfold ò;rw[Ì (decide_eq_false (by simp)),l];simp
 |cons y r =>
  have f:d=r.reverse++[y]:=by
   have:=congrArg List.reverse e;simpa using this
  generalize r.reverse=A1 at f;subst f
  have o:B.length=A1.length+1+c.length:=by rw[l]; simp; omega
  refine .inr ⟨(((P.length+A1.length:Nat):Int),P++(A1++x::(y::c++C))),⟨A1,y::c,by rw[l]; simp,rfl⟩,by simp; omega,fun u=>?_⟩;dsimp only;unfold ò
  have E:((P.length+(A1++[y]).length:Nat):Int)-1=((P.length+A1.length:Nat):Int):=by simp; omega
  have s:P++(A1++[y]++x::(c++C))=(P++A1)++y::(x::(c++C)):=by simp
  have j:((P.length+A1.length:Nat):Int)=(P++A1).length:=by simp
  have g:P++(A1++[y]++x::(c++C))=(P++A1++[y])++x::(c++C):=by simp
  have i:((P.length+(A1++[y]).length:Nat):Int)=(P++A1++[y]).length:=by simp
  have n:(P++A1++[y])++y::(c++C)=(P++A1)++y::(y::(c++C)):=by simp
  rw[Ð (decide_eq_true (by simp; omega)),E,Î (by omega) (by omega),Î (by omega) (by omega),jI s j,jI g i,jI g i,Kh g i,jI n j,Kh n j,Î (by omega) (by omega)];congr 1;simp
end
section
variable {ρ:Type} {m:Ĭ}
def symS (a:ajE) (mid e b:Int) (k:CK Way×Ĭ->BY ρ) (l:CK Way) (c:Ĭ):BY ρ :=
 ifb (ilt mid e) (ifb (ilt e b) (Ã (a l mid e b c) fun r=>k (r.1,r.2)) (k (l,c))) (k (l,c))
def symR (c:ajE) (a z mid e b:Int) (k:CK Way×Ĭ->BY ρ) (l:CK Way) (d:Ĭ):BY ρ :=
 ifb (ilt a z) (ifb (ilt z mid) (Ã (c l a z mid d) fun r=>symS c mid e b k r.1 r.2) (symS c mid e b k l d)) (symS c mid e b k l d)
def amE (d:ajE) (l:CK Way) (a c b mid n:Int) (f:Ĭ) (k:CK Way×Ĭ->BY ρ) (z:Int):BY ρ :=
 ck (n-z) fun e=>ifb (ilt z c) (ifb (ilt c e) (Ã (Ľ l z c e f) fun r=>symR d a z mid e b k r.1 r.2) (symR d a z mid e b k l f)) (symR d a z mid e b k l f)
def ae5 (n:Int):Int:=IntKind.wrap .i64 (iX .u64 (IntKind.wrap .u64 n) (1:Int))
def sym_eq (e:ajE) (l:CK Way) (a c b:Int) (d:Ĭ) (k:CK Way×Ĭ->BY ρ):ħ e l a c b d k =
 ck (c-a) fun n1=>ifb (ieq n1 (1:Int)) (Ê (fun(v:Int×Int) h=>Ā e a l d.1.1.1 d.1.1.2 d.1.2.1 d.1.2.2.1 d.1.2.2.2.1 d.1.2.2.2.2.1 d.1.2.2.2.2.2 d.2 v.1 v.2 (fun x y=>h (x,y)) (fun z=>Ê (fun(v:Int×CK Way) h=>ó e z v.1 v.2 (fun x y=>h (x,y)) (fun n=>k (n,d))) (a,l))) (c,b))
  (ck (b-c) fun u=>ifb (ieq u (1:Int)) (Ê (fun(v:Int×Int) h=>ÿ e c l d.1.1.1 d.1.1.2 d.1.2.1 d.1.2.2.1 d.1.2.2.2.1 d.1.2.2.2.2.1 d.1.2.2.2.2.2 d.2 v.1 v.2 (fun x y=>h (x,y)) (fun j=>Ê (fun(v:Int×CK Way) h=>ò e j v.1 v.2 (fun x y=>h (x,y)) (fun i=>k (i,d))) (c,l))) (a,c))
   (ck (a+b) fun g=>ck (ae5 g+c) fun f=>ifb (igt c (ae5 g))
    (ck (f-b) fun s=>ck (f-(1:Int)) fun r=>Ê (fun(v:Int×Int) h=>å e r l d.1.1.1 d.1.1.2 d.1.2.1 d.1.2.2.1 d.1.2.2.2.1 d.1.2.2.2.2.1 d.1.2.2.2.2.2 d.2 v.1 v.2 (fun x y=>h (x,y)) (amE e l a c b (ae5 g) f d k)) (s,ae5 g))
    (ck (f-(1:Int)) fun o=>Ê (fun(v:Int×Int) h=>å e o l d.1.1.1 d.1.1.2 d.1.2.1 d.1.2.2.1 d.1.2.2.2.1 d.1.2.2.2.2.1 d.1.2.2.2.2.2 d.2 v.1 v.2 (fun x y=>h (x,y)) (amE e l a c b (ae5 g) f d k)) (a,c)))):=rfl
def RecOk (a:ajE) (m:Ĭ) (N:Nat):Prop:=∀P U V Q:CK Way,1<=U.length->1<=V.length->U.length+V.length<=N->Srt (Ę m) U->Srt (Ę m) V->WOk m (U++V)->P.length+U.length+V.length<=1000000 ->
 a (P++(U++(V++Q))) P.length ((P.length+U.length:Nat):Int) ((P.length+U.length+V.length:Nat):Int) m=some (P++(ĺ (Ę m) (U++V)++Q),m)
def ur {l:CK Way} (h:Srt (Ę m) l):ĺ (Ę m) l=l:=xG h (Stb.refl l)
def rW (l:CK Way):(ĺ (Ę m) l).length=l.length:=(Œ l).length
def aj5 {h:ajE} {N:Nat} (i:RecOk h m N) {P u1 u2 v1 v2 Q:CK Way} (T:u1.length+v1.length<=N) (R:u2.length+v2.length<=N) (X:Srt (Ę m) (u1++u2)) (W:Srt (Ę m) (v1++v2))
 (O:∀x∈u2,∀y∈v1,Ę m y<Ę m x) (F2:∀x∈u1,∀y∈v2,Ę m x<=Ę m y) (K:WOk m ((u1++u2)++(v1++v2))) (hl:P.length+u1.length+u2.length+v1.length+v2.length<=1000000)
 {a c b mid n z:Int} (ea:a=P.length) (ec:c=((P.length+u1.length+u2.length:Nat):Int)) (eb:b=((P.length+u1.length+u2.length+v1.length+v2.length:Nat):Int)) (v:mid=((P.length+u1.length+v1.length:Nat):Int)) (Y:z=((P.length+u1.length:Nat):Int)) (Z:n-z=((P.length+u1.length+u2.length+v1.length:Nat):Int)) :
 amE h (P++((u1++u2)++((v1++v2)++Q))) a c b mid n m some z=some (P++(ĺ (Ę m) ((u1++u2)++(v1++v2))++Q),m):=by
 obtain⟨s,r,G⟩:=X.parts;obtain⟨o,l,F⟩:=W.parts;subst ea ec eb v Y
 have fin:ĺ (Ę m) ((u1++u2)++(v1++v2))=ĺ (Ę m) (u1++v1)++ĺ (Ę m) (u2++v2):=by
  refine xG ?_ ?_
  ·refine(lB _).append (lB _) fun x d y f=>?_;have d:=(Œ _).mem.1 d;have f:=(Œ _).mem.1 f
   rcases df.1 d with d|d<;>rcases df.1 f with f|f
   ·exact G x d y f
   ·exact F2 x d y f
   ·have:=O y f x d; omega
   ·exact F x d y f
  ·have q:Stb (Ę m) (u2++v1) (v1++u2):=Stb.swap fun x d y f=>by have:=O x d y f; omega
   have J:=((Stb.refl (key:=Ę m) u1).append (q.append (Stb.refl v2)))
   have D:u1++(u2++v1++v2)=u1++u2++(v1++v2):=by simp
   have I:u1++(v1++u2++v2)=(u1++v1)++(u2++v2):=by simp
   rw[D,I] at J;exact J.trans ((Œ _).append (Œ _))
 have E:(ĺ (Ę m) (u1++v1)).length=u1.length+v1.length:=by rw[rW]; simp
 have u:symS h ((P.length+u1.length+v1.length:Nat):Int) ((P.length+u1.length+u2.length+v1.length:Nat):Int) ((P.length+u1.length+u2.length+v1.length+v2.length:Nat):Int) some (P++(ĺ (Ę m) (u1++v1)++(u2++(v2++Q)))) m=some (P++(ĺ (Ę m) ((u1++u2)++(v1++v2))++Q),m):=by
  rw[fin];unfold symS
  by_cases g:u2=[]
  ·subst g;rw[Ì (decide_eq_false (by simp))];simp only[dH,dj];rw[ur l]
  by_cases h2:v2=[]
  ·subst h2;have q:ilt ((P.length+u1.length+u2.length+v1.length:Nat):Int) ((P.length+u1.length+u2.length+v1.length+([]:CK Way).length:Nat):Int)=false:=decide_eq_false (by simp);rw[q,ç];simp only[dH,dv,dj];rw[ur r]
   cases ilt ((P.length+u1.length+v1.length:Nat):Int) ((P.length+u1.length+u2.length+v1.length:Nat):Int)<;>rfl
  have k1:1<=u2.length:=eV.2 g;have j:1<=v2.length:=eV.2 h2
  have:=i (P++ĺ (Ę m) (u1++v1)) u2 v2 Q k1 j R r l (K.sub fun x d=>by
   rcases df.1 d with d|d<;>simp[d]) (by rw[cZ,E]; omega)
  rw[Ð (decide_eq_true (by omega)),Ð (decide_eq_true (by omega))]
  have D:P++(ĺ (Ę m) (u1++v1)++(u2++(v2++Q)))=(P++ĺ (Ę m) (u1++v1))++(u2++(v2++Q)):=by simp
  rw[D,show((P.length+u1.length+v1.length:Nat):Int)=((P++ĺ (Ę m) (u1++v1)).length:Int) by rw[cZ,E]; omega,
   show((P.length+u1.length+u2.length+v1.length:Nat):Int)=(((P++ĺ (Ę m) (u1++v1)).length+u2.length:Nat):Int) by rw[cZ,E]; omega,
   show((P.length+u1.length+u2.length+v1.length+v2.length:Nat):Int)=(((P++ĺ (Ę m) (u1++v1)).length+u2.length+v2.length:Nat):Int) by rw[cZ,E]; omega,this,À]
  simp
 have H:symR h (P.length:Int) ((P.length+u1.length:Nat):Int) ((P.length+u1.length+v1.length:Nat):Int) ((P.length+u1.length+u2.length+v1.length:Nat):Int) ((P.length+u1.length+u2.length+v1.length+v2.length:Nat):Int) some (P++(u1++(v1++(u2++(v2++Q))))) m=some (P++(ĺ (Ę m) ((u1++u2)++(v1++v2))++Q),m):=by
  unfold symR
  by_cases g:u1=[]
  ·have q:ilt (P.length:Int) ((P.length+u1.length:Nat):Int)=false:=decide_eq_false (by rw[g]; simp)
   have e:P++(ĺ (Ę m) (u1++v1)++(u2++(v2++Q)))=P++(u1++(v1++(u2++(v2++Q)))):=by
    subst g;simp only[dH];rw[ur o]
   rw[e] at u;rw[q,ç,u]
  by_cases h2:v1=[]
  ·have e:P++(ĺ (Ę m) (u1++v1)++(u2++(v2++Q)))=P++(u1++(v1++(u2++(v2++Q)))):=by
    subst h2;simp only[dv,dH];rw[ur s]
   rw[e] at u;have q:ilt ((P.length+u1.length:Nat):Int) ((P.length+u1.length+v1.length:Nat):Int)=false:=decide_eq_false (by rw[h2]; simp);rw[q,ç,u]
   cases ilt (P.length:Int) ((P.length+u1.length:Nat):Int)<;>rfl
  have k1:1<=u1.length:=eV.2 g;have j:1<=v1.length:=eV.2 h2;rw[Ð (decide_eq_true (by omega)),Ð (decide_eq_true (by omega))]
  rw[i P u1 v1 (u2++(v2++Q)) k1 j T s o (K.sub fun x d=>by
   rcases df.1 d with d|d<;>simp[d]) (by omega),À]
  exact u
 unfold amE;rw[Z,Î (by omega) (by omega)]
 by_cases g:u2=[]
 ·have q:ilt ((P.length+u1.length:Nat):Int) ((P.length+u1.length+u2.length:Nat):Int)=false:=decide_eq_false (by rw[g]; simp)
  have e:P++((u1++u2)++((v1++v2)++Q))=P++(u1++(v1++(u2++(v2++Q)))):=by rw[g]; simp
  rw[q,ç,e,H]
 by_cases h2:v1=[]
 ·have e:P++((u1++u2)++((v1++v2)++Q))=P++(u1++(v1++(u2++(v2++Q)))):=by rw[h2]; simp
  have q:ilt ((P.length+u1.length+u2.length:Nat):Int) ((P.length+u1.length+u2.length+v1.length:Nat):Int)=false:=decide_eq_false (by rw[h2]; simp);rw[q,ç,e,H]
  cases ilt ((P.length+u1.length:Nat):Int) ((P.length+u1.length+u2.length:Nat):Int)<;>rfl
 have k1:1<=u2.length:=eV.2 g;have j:1<=v1.length:=eV.2 h2;rw[Ð (decide_eq_true (by omega)),Ð (decide_eq_true (by omega))];have:=agy (m:=m) (A:=P++u1) (U:=u2) (V:=v1) (C:=v2++Q) k1 j (by simp; omega);rw[cZ] at this
 have D:P++((u1++u2)++((v1++v2)++Q))=(P++u1)++(u2++(v1++(v2++Q))):=by simp
 rw[D,this,À]
 have I:(P++u1)++(v1++(u2++(v2++Q)))=P++(u1++(v1++(u2++(v2++Q)))):=by simp
 rw[I];exact H
end
section
variable {ρ:Type} {m:Ĭ}
def giW (l:CK Way) (i:Nat):Way:=(l[i]?).getD []
def Jh {l:CK Way} {i:Nat} (h:i<l.length) (K:Way->BY ρ):(à ((ile (0:Int) (i:Int))&&(ilt (i:Int) (ì l))) (Į l (Int.toNat (i:Int)) K))=K (giW l i):=by
 rw[á (by simp[ile,ilt,ì]; omega),dm,ž (cW h)];simp[giW,cW h]
def Mj {i j:Nat} (h:i+j<=10000000):IntKind.wrap .i64 (iX .u64 (IntKind.wrap .u64 ((i:Int)+(j:Int))) (1:Int))=(((i+j) / 2:Nat):Int):=by
 rw[<-anb h]; push_cast; rfl
def KOk (m:Ĭ) (x:Way):Prop:=Ļ m x=some (Ę m x)
def Yb {x y:Way} (c:KOk m x) (a:KOk m y) (X Y:BY ρ):(Ã (kI x y m) fun r=>ifb (!(ilt r (0:Int))) X Y)=if Ę m x>=Ę m y then X else Y:=by
 rw[WW c a,À]
 by_cases h:Ę m x<Ę m y
 ·rw[if_pos h,if_neg (show ¬Ę m x>=Ę m y by omega)]; rfl
 ·rw[if_neg h,if_pos (show Ę m x>=Ę m y by omega)]
  by_cases h2:Ę m y<Ę m x
  ·rw[if_pos h2]; rfl
  ·rw[if_neg h2]; rfl
def amL (c:ajE) {l:CK Way} {a i j:Nat} (g:i<j) (n:j<=l.length) (ha:a<l.length) (h:j<=2000000) (f:KOk m (giW l a)) (e:KOk m (giW l ((i+j) / 2))) (d:Int->Int->BY ρ) (k0:Int->BY ρ) :
 Ā c (a:Int) l m.1.1.1 m.1.1.2 m.1.2.1 m.1.2.2.1 m.1.2.2.2.1 m.1.2.2.2.2.1 m.1.2.2.2.2.2 m.2 (i:Int) (j:Int) d k0=if Ę m (giW l ((i+j) / 2))<Ę m (giW l a) then d (((i+j) / 2+1:Nat):Int) j else d i (((i+j) / 2:Nat):Int):=by
 unfold Ā;rw[Ð (decide_eq_true (by omega)),Î (by omega) (by omega),Mj (by omega),Jh (by omega),Jh ha];refine(adh e f _ _).trans ?_;rw[Î (by omega) (by omega)];rfl
def amK (a:ajE) {l:CK Way} {c i j:Nat} (g:i<j) (o:j<=l.length) (h:c<l.length) (n:j<=2000000) (f:KOk m (giW l c)) (e:KOk m (giW l ((i+j) / 2))) (d:Int->Int->BY ρ) (k0:Int->BY ρ) :
 ÿ a (c:Int) l m.1.1.1 m.1.1.2 m.1.2.1 m.1.2.2.1 m.1.2.2.2.1 m.1.2.2.2.2.1 m.1.2.2.2.2.2 m.2 (i:Int) (j:Int) d k0=if Ę m (giW l c)>=Ę m (giW l ((i+j) / 2)) then d (((i+j) / 2+1:Nat):Int) j else d i (((i+j) / 2:Nat):Int):=by
 unfold ÿ;rw[Ð (decide_eq_true (by omega)),Î (by omega) (by omega),Mj (by omega),Jh h,Jh (by omega)];refine(Yb f e _ _).trans ?_;rw[Î (by omega) (by omega)];rfl
def amJ (a:ajE) {l:CK Way} {p i j:Nat} (h:i<j) (r:j<=l.length) (n:(i+j) / 2<=p) (d:p-(i+j) / 2<l.length) (o:j<=2000000) (g:p<=4000000) (f:KOk m (giW l (p-(i+j) / 2))) (e:KOk m (giW l ((i+j) / 2))) (c:Int->Int->BY ρ) (k0:Int->BY ρ) :
 å a (p:Int) l m.1.1.1 m.1.1.2 m.1.2.1 m.1.2.2.1 m.1.2.2.2.1 m.1.2.2.2.2.1 m.1.2.2.2.2.2 m.2 (i:Int) (j:Int) c k0=if Ę m (giW l (p-(i+j) / 2))>=Ę m (giW l ((i+j) / 2)) then c (((i+j) / 2+1:Nat):Int) j else c i (((i+j) / 2:Nat):Int):=by
 unfold å;rw[Ð (decide_eq_true (by omega)),Î (by omega) (by omega),Mj (by omega),show(p:Int)-(((i+j) / 2:Nat):Int)=((p-(i+j) / 2:Nat):Int) by omega,Î (by omega) (by omega),Jh d,Jh (by omega)];refine(Yb f e _ _).trans ?_;rw[Î (by omega) (by omega)];rfl
def sS {α:Type} {l:CK α} {n:Nat} {y:α} (h:y∈l.take n):∃j,j<n/\j<l.length/\l[j]?=some y:=by
 obtain⟨j,a,e⟩:=dp.1 h;simp only[dl] at a;refine⟨j,by omega,by omega,?_⟩;rw[fh] at e;rw[cW (by omega),e]
def sW {α:Type} {l:CK α} {n:Nat} {y:α} (h:y∈l.drop n):∃j,n<=j/\j<l.length/\l[j]?=some y:=by
 obtain⟨j,a,e⟩:=dp.1 h;simp only[gL] at a;refine⟨n+j,by omega,by omega,?_⟩;rw[List.getElem_drop] at e;rw[cW (by omega),e]
def agn {l:CK Way} (h:Srt (Ę m) l) {i j:Nat} {x y:Way} (hi:l[i]?=some x) (d:l[j]?=some y) (c:i<=j):Ę m x<=Ę m y:=by
 obtain⟨e,rfl⟩:=dc.1 hi;obtain⟨h2,rfl⟩:=dc.1 d;rcases gz c with a|rfl
 ·exact dM.1 h i j e h2 a
 ·exact dT _
def Kc:∀(f N:Nat),N<=2 ^ f->RecOk (ĥ (f+1)) m N
 |0,N,hN=>fun P U V Q hU hV hn=>by simp at hN; omega
 |f+1,N,hN=>fun P U V Q hU hV hn sU sV hW hl=>by
  have T:=Kc f (2 ^ f) (cX _)
  have hpow:2 ^ (f+1)=2*2 ^ f:=by rw[gh]; omega
  show ħ (ĥ (f+1)) _ _ _ _ m some=_;generalize ĥ (f+1)=rec at T;obtain⟨l,F⟩:∃l,l=P++(U++(V++Q)):=⟨_,rfl⟩
  have hll:P.length+U.length+V.length<=l.length:=by rw[F]; simp; omega
  rw[sym_eq]
  -- what lies where
  have X:∀i x,U[i]?=some x->giW l (P.length+i)=x:=fun i x D=>by
   have hi:=(List.getElem?_eq_some_iff.1 D).1;unfold giW;rw[F,List.getElem?_append_right (by omega),List.getElem?_append_left (by omega),show P.length+i-P.length=i by omega,D];rfl
  have W:∀i x,V[i]?=some x->giW l (P.length+U.length+i)=x:=fun i x D=>by
   have hi:=(List.getElem?_eq_some_iff.1 D).1;unfold giW;rw[F,List.getElem?_append_right (by omega),List.getElem?_append_right (by omega),List.getElem?_append_left (by omega),show P.length+U.length+i-P.length-U.length=i by omega,D];rfl
  have kU:∀c c',P.length<=c->c<=c'->c'<P.length+U.length->Ę m (giW l c)<=Ę m (giW l c'):=fun c c' h1 h2 h3=>by
   have o:U[c-P.length]?=some U[c-P.length]:=cW (by omega);have g:U[c'-P.length]?=some U[c'-P.length]:=cW (by omega);have G:=X _ _ o;have R:=X _ _ g;rw[show P.length+(c-P.length)=c by omega] at G;rw[show P.length+(c'-P.length)=c' by omega] at R;rw[G,R];exact agn sU o g (by omega)
  have kV:∀c c',P.length+U.length<=c->c<=c'->c'<P.length+U.length+V.length->Ę m (giW l c)<=Ę m (giW l c'):=fun c c' h1 h2 h3=>by
   have o:V[c-(P.length+U.length)]?=some V[c-(P.length+U.length)]:=cW (by omega);have g:V[c'-(P.length+U.length)]?=some V[c'-(P.length+U.length)]:=cW (by omega);have G:=W _ _ o;have R:=W _ _ g;rw[show P.length+U.length+(c-(P.length+U.length))=c by omega] at G;rw[show P.length+U.length+(c'-(P.length+U.length))=c' by omega] at R;rw[G,R];exact agn sV o g (by omega)
  have kW:∀c,P.length<=c->c<P.length+U.length+V.length->KOk m (giW l c):=fun c h1 h2=>by
   rcases dk c (P.length+U.length) with h3|h3
   ·have o:U[c-P.length]?=some U[c-P.length]:=cW (by omega);have G:=X _ _ o;rw[show P.length+(c-P.length)=c by omega] at G;rw[G];exact hW _ (dU _ (fE _))
   ·have o:V[c-(P.length+U.length)]?=some V[c-(P.length+U.length)]:=cW (by omega);have G:=W _ _ o;rw[show P.length+U.length+(c-(P.length+U.length))=c by omega] at G;rw[G];exact hW _ (dR _ (fE _))
  have e0:((P.length+U.length:Nat):Int)-(P.length:Int)=U.length:=by omega
  have G:((P.length+U.length+V.length:Nat):Int)-((P.length+U.length:Nat):Int)=V.length:=by omega
  rw[e0,G,Î (by omega) (by omega),Î (by omega) (by omega),<-F];have half:ae5 ((P.length:Int)+((P.length+U.length+V.length:Nat):Int))=(((P.length+(P.length+U.length+V.length)) / 2:Nat):Int):=Mj (by omega)
  by_cases O:U.length=1
  ·rw[Ð (beq_iff_eq.2 (by rw[O]; rfl))]
   obtain⟨x,D⟩:∃x,U=[x]:=by
    cases U with
    |nil=>simp at O
    |cons x t=>cases t with
     |nil=>exact⟨x,rfl⟩
     |cons y t=>simp at O
   have gx:giW l P.length=x:=by
    have:=X 0 x (by rw[D]; rfl);exact this
   obtain⟨s,s1,s2,s3,s4,s5⟩:=abL (f:=fun(v:Int×Int) E=>Ā rec (P.length:Int) l m.1.1.1 m.1.1.2 m.1.2.1 m.1.2.2.1 m.1.2.2.2.1 m.1.2.2.2.2.1 m.1.2.2.2.2.2 m.2 v.1 v.2 (fun x y=>E (x,y)) (fun Y=>Ê (fun(v:Int×CK Way) E=>ó rec Y v.1 v.2 (fun x y=>E (x,y)) (fun d=>some (d,m))) ((P.length:Int),l)))
    (K:=fun Y=>Ê (fun(v:Int×CK Way) E=>ó rec Y v.1 v.2 (fun x y=>E (x,y)) (fun d=>some (d,m))) ((P.length:Int),l)) (lo:=P.length+U.length) (hi:=P.length+U.length+V.length) (by omega)
    (fun h=>Ę m (giW l h)<Ę m (giW l P.length)) (fun c c' o g Z q4=>by have:=kV c c' o g Z; omega)
    (fun i j o g Z kn=>amL rec g (by omega) (by omega) (by omega) (kW _ (cX _) (by omega)) (kW _ (by omega) (by omega)) _ _)
    (fun i o g kn=>by
     dsimp only;unfold Ā
     rw[Ì (decide_eq_false (by omega))])
   refine s5.trans ?_
   have hk:s-(P.length+U.length)<=V.length:=by omega
   obtain⟨k,hkk⟩:∃k,k=s-(P.length+U.length):=⟨_,rfl⟩;rw[<-hkk] at hk
   have lt:(V.take k).length=k:=by simp; omega
   have hB:∀y∈V.take k,Ę m y<Ę m x:=fun y r=>by
    obtain⟨j,j1,j2,H⟩:=sS r;have:=s3 (P.length+U.length+j) (by omega) (by omega);rw[W j y H,gx] at this;exact this
   have hD:∀y∈V.drop k,Ę m x<=Ę m y:=fun y r=>by
    obtain⟨j,j1,j2,H⟩:=sW r;have:=s4 (P.length+U.length+j) (by omega) (by omega);rw[W j y H,gx] at this;omega
   have I:V=V.take k++V.drop k:=(eA _ _).symm
   have fin:ĺ (Ę m) (U++V)=V.take k++x::V.drop k:=by
    rw[I] at sV;obtain⟨v1,v2,v3⟩:=sV.parts;refine xG ?_ ?_
    ·refine v1.append (List.Pairwise.cons hD v2) fun y r z hz=>?_;rcases dg.1 hz with rfl|hz
     ·have:=hB y r; omega
     ·exact v3 y r z hz
    ·have:=(Stb.swap (key:=Ę m) (u:=[x]) (v:=V.take k) (fun a ha b hb=>by simp at ha; subst ha; have:=hB b hb; omega)).append (Stb.refl (V.drop k));rw[D]
     have e:[x]++V.take k++V.drop k=[x]++V:=by rw[dj,<-I]
     rw[e] at this;simpa using this
   have hs:(s:Int)=((P.length+(V.take k).length+1:Nat):Int):=by rw[lt]; omega
   have:=aeF rec (P:=P) (B:=V.take k) (C:=V.drop k++Q) (x:=x) hs (by rw[lt]; omega) (fun d=>some (d,m))
   have R:l=P++(x::(V.take k++(V.drop k++Q))):=by
    rw[F,D,<-dj (V.take k),<-I];rfl
   rw[<-R] at this;refine this.trans ?_;rw[fin];simp
  rw[Ì (beq_eq_false_iff_ne.2 (fun h=>O (by exact_mod_cast h)))]
  by_cases J:V.length=1
  ·rw[Ð (beq_iff_eq.2 (by rw[J]; rfl))]
   obtain⟨x,D⟩:∃x,V=[x]:=by
    cases V with
    |nil=>simp at J
    |cons x t=>cases t with
     |nil=>exact⟨x,rfl⟩
     |cons y t=>simp at J
   have gx:giW l (P.length+U.length)=x:=by
    have:=W 0 x (by rw[D]; rfl);exact this
   obtain⟨s,s1,s2,s3,s4,s5⟩:=abL (f:=fun(v:Int×Int) E=>ÿ rec ((P.length+U.length:Nat):Int) l m.1.1.1 m.1.1.2 m.1.2.1 m.1.2.2.1 m.1.2.2.2.1 m.1.2.2.2.2.1 m.1.2.2.2.2.2 m.2 v.1 v.2 (fun x y=>E (x,y)) (fun Y=>Ê (fun(v:Int×CK Way) E=>ò rec Y v.1 v.2 (fun x y=>E (x,y)) (fun d=>some (d,m))) (((P.length+U.length:Nat):Int),l)))
    (K:=fun Y=>Ê (fun(v:Int×CK Way) E=>ò rec Y v.1 v.2 (fun x y=>E (x,y)) (fun d=>some (d,m))) (((P.length+U.length:Nat):Int),l)) (lo:=P.length) (hi:=P.length+U.length) (by omega)
    (fun h=>Ę m (giW l (P.length+U.length))>=Ę m (giW l h)) (fun c c' o g Z q4=>by have:=kU c c' o g Z; omega)
    (fun i j o g Z kn=>amK rec g (by omega) (by omega) (by omega) (kW _ (by omega) (by omega)) (kW _ (by omega) (by omega)) _ _)
    (fun i o g kn=>by
     dsimp only;unfold ÿ
     rw[Ì (decide_eq_false (by omega))])
   refine s5.trans ?_;obtain⟨k,hkk⟩:∃k,k=s-P.length:=⟨_,rfl⟩
   have hk:k<=U.length:=by omega
   have lt:(U.take k).length=k:=by simp; omega
   have hB:∀y∈U.take k,Ę m y<=Ę m x:=fun y r=>by
    obtain⟨j,j1,j2,H⟩:=sS r;have:=s3 (P.length+j) (by omega) (by omega);rw[X j y H,gx] at this;exact this
   have hD:∀y∈U.drop k,Ę m x<Ę m y:=fun y r=>by
    obtain⟨j,j1,j2,H⟩:=sW r;have:=s4 (P.length+j) (by omega) (by omega);rw[X j y H,gx] at this;omega
   have I:U=U.take k++U.drop k:=(eA _ _).symm
   have fin:ĺ (Ę m) (U++V)=U.take k++x::U.drop k:=by
    rw[I] at sU;obtain⟨v1,v2,v3⟩:=sU.parts;refine xG ?_ ?_
    ·refine v1.append (List.Pairwise.cons (fun y r=>by have:=hD y r; omega) v2) fun y r z hz=>?_;rcases dg.1 hz with rfl|hz
     ·exact hB y r
     ·exact v3 y r z hz
    ·have:=(Stb.refl (key:=Ę m) (U.take k)).append (Stb.swap (key:=Ę m) (u:=U.drop k) (v:=[x]) (fun a ha b hb=>by simp at hb; subst hb; have:=hD a ha; omega));rw[D]
     have e:U.take k++(U.drop k++[x])=U++[x]:=by rw[<-dj,<-I]
     rw[e] at this;simpa using this
   have hs:(s:Int)=((P++U.take k).length:Int):=by rw[cZ,lt]; omega
   have ld:(U.drop k).length=U.length-k:=by simp
   have:=ahe rec (P:=P++U.take k) (B:=U.drop k) (C:=Q) (x:=x) hs (by rw[cZ,lt,ld]; omega) (fun d=>some (d,m))
   have R:l=(P++U.take k)++(U.drop k++x::Q):=by
    rw[F,D,dj,<-dj (U.take k),<-I];rfl
   rw[<-R,show(((P++U.take k).length+(U.drop k).length:Nat):Int)=((P.length+U.length:Nat):Int) by rw[cZ,lt,ld]; omega] at this;refine this.trans ?_;rw[fin];simp
  rw[Ì (beq_eq_false_iff_ne.2 (fun h=>J (by exact_mod_cast h))),Î (by omega) (by omega),half];obtain⟨mid,hmid⟩:∃mid,mid=(P.length+(P.length+U.length+V.length)) / 2:=⟨_,rfl⟩;rw[<-hmid,Î (by omega) (by omega)]
  have hm1:P.length<=mid:=by omega
  have hm2:mid<=P.length+U.length+V.length:=by omega
  -- the search, and what is behind it
  have gen:∀lo hi:Nat,P.length<=lo->lo<=hi->hi<=P.length+U.length->hi<=mid->mid+(P.length+U.length)<=lo+(P.length+U.length+V.length)->(hi=P.length+U.length\/hi=mid)->(lo=P.length\/lo+(P.length+U.length+V.length)=mid+(P.length+U.length)) ->
   Ê (fun(v:Int×Int) E=>å rec (((mid+(P.length+U.length)-1:Nat)):Int) l m.1.1.1 m.1.1.2 m.1.2.1 m.1.2.2.1 m.1.2.2.2.1 m.1.2.2.2.2.1 m.1.2.2.2.2.2 m.2 v.1 v.2 (fun x y=>E (x,y)) (amE rec l (P.length:Int) ((P.length+U.length:Nat):Int) ((P.length+U.length+V.length:Nat):Int) (mid:Int) ((mid:Int)+((P.length+U.length:Nat):Int)) m some)) ((lo:Int),(hi:Int))=some (P++(ĺ (Ę m) (U++V)++Q),m):=by
   intro lo hi h1 h2 h3 h4 h5 h6 h7
   have hmu:mid<P.length+U.length+V.length:=by omega
   obtain⟨s,s1,s2,s3,s4,s5⟩:=abL (f:=fun(v:Int×Int) E=>å rec (((mid+(P.length+U.length)-1:Nat)):Int) l m.1.1.1 m.1.1.2 m.1.2.1 m.1.2.2.1 m.1.2.2.2.1 m.1.2.2.2.2.1 m.1.2.2.2.2.2 m.2 v.1 v.2 (fun x y=>E (x,y)) (amE rec l (P.length:Int) ((P.length+U.length:Nat):Int) ((P.length+U.length+V.length:Nat):Int) (mid:Int) ((mid:Int)+((P.length+U.length:Nat):Int)) m some))
    (K:=amE rec l (P.length:Int) ((P.length+U.length:Nat):Int) ((P.length+U.length+V.length:Nat):Int) (mid:Int) ((mid:Int)+((P.length+U.length:Nat):Int)) m some) (lo:=lo) (hi:=hi) h2
    (fun h=>Ę m (giW l (mid+(P.length+U.length)-1-h))>=Ę m (giW l h)) (fun c c' o g Z q4=>by
     have a1:=kU c c' (by omega) g (by omega);have a2:=kV (mid+(P.length+U.length)-1-c') (mid+(P.length+U.length)-1-c) (by omega) (by omega) (by omega)
     omega)
    (fun i j o g Z kn=>amJ rec g (by omega) (by omega) (by omega) (by omega) (by omega) (kW _ (by omega) (by omega)) (kW _ (by omega) (by omega)) _ _)
    (fun i o g kn=>by
     dsimp only;unfold å
     rw[Ì (decide_eq_false (by omega))])
   refine s5.trans ?_;obtain⟨e,he⟩:∃e,e=mid+(P.length+U.length)-s:=⟨_,rfl⟩
   have lu1:(U.take (s-P.length)).length=s-P.length:=by simp; omega
   have lu2:(U.drop (s-P.length)).length=P.length+U.length-s:=by simp; omega
   have lv1:(V.take (e-(P.length+U.length))).length=e-(P.length+U.length):=by simp; omega
   have lv2:(V.drop (e-(P.length+U.length))).length=P.length+U.length+V.length-e:=by simp; omega
   have hu:U=U.take (s-P.length)++U.drop (s-P.length):=(eA _ _).symm;have I:V=V.take (e-(P.length+U.length))++V.drop (e-(P.length+U.length)):=(eA _ _).symm
   have F1:∀x∈U.drop (s-P.length),∀y∈V.take (e-(P.length+U.length)),Ę m y<Ę m x:=fun x D y r=>by
    obtain⟨i,i1,i2,i3⟩:=sW D;obtain⟨j,j1,j2,H⟩:=sS r;have q:=s4 s (cX _) (by omega);rw[show mid+(P.length+U.length)-1-s=e-1 by omega] at q;have a1:=kV (P.length+U.length+j) (e-1) (by omega) (by omega) (by omega);have a2:=kU s (P.length+i) (by omega) (by omega) (by omega);rw[W j y H] at a1;rw[X i x i3] at a2;omega
   have F2:∀x∈U.take (s-P.length),∀y∈V.drop (e-(P.length+U.length)),Ę m x<=Ę m y:=fun x D y r=>by
    obtain⟨i,i1,i2,i3⟩:=sS D;obtain⟨j,j1,j2,H⟩:=sW r;have q:=s3 (s-1) (by omega) (by omega);rw[show mid+(P.length+U.length)-1-(s-1)=e by omega] at q;have a1:=kV e (P.length+U.length+j) (by omega) (by omega) (by omega);have a2:=kU (P.length+i) (s-1) (by omega) (by omega) (by omega);rw[W j y H] at a1;rw[X i x i3] at a2;omega
   have hW':WOk m ((U.take (s-P.length)++U.drop (s-P.length))++(V.take (e-(P.length+U.length))++V.drop (e-(P.length+U.length)))):=by rw[<-hu,<-I]; exact hW
   have:=aj5 T (P:=P) (u1:=U.take (s-P.length)) (u2:=U.drop (s-P.length)) (v1:=V.take (e-(P.length+U.length))) (v2:=V.drop (e-(P.length+U.length))) (Q:=Q) (by omega) (by omega) (by rw[<-hu]; exact sU) (by rw[<-I]; exact sV) F1 F2 hW' (by omega)
    (a:=(P.length:Int)) (c:=((P.length+U.length:Nat):Int)) (b:=((P.length+U.length+V.length:Nat):Int)) (mid:=(mid:Int)) (n:=(mid:Int)+((P.length+U.length:Nat):Int)) (z:=(s:Int)) rfl (by omega) (by omega) (by omega) (by omega) (by omega)
   rw[<-hu,<-I,<-F] at this;exact this
  by_cases hgt:mid<P.length+U.length
  ·rw[Ð (decide_eq_true (by omega)),Î (by omega) (by omega),Î (by omega) (by omega)];have:=gen (mid+(P.length+U.length)-(P.length+U.length+V.length)) mid (by omega) (by omega) (by omega) (cX _) (by omega) (.inr rfl) (.inr (by omega));rw[show((mid+(P.length+U.length)-1:Nat):Int)=(mid:Int)+((P.length+U.length:Nat):Int)-1 by omega,show((mid+(P.length+U.length)-(P.length+U.length+V.length):Nat):Int)=(mid:Int)+((P.length+U.length:Nat):Int)-((P.length+U.length+V.length:Nat):Int) by omega] at this;exact this
  ·rw[Ì (decide_eq_false (by omega)),Î (by omega) (by omega)];have:=gen P.length (P.length+U.length) (cX _) (by omega) (cX _) (by omega) (by omega) (.inl rfl) (.inl rfl);rw[show((mid+(P.length+U.length)-1:Nat):Int)=(mid:Int)+((P.length+U.length:Nat):Int)-1 by omega] at this;exact this
def ML {P U V Q:CK Way} (g:1<=U.length) (f:1<=V.length) (c:Srt (Ę m) U) (a:Srt (Ę m) V) (e:WOk m (U++V)) (d:P.length+U.length+V.length<=1000000) :
 Ė (P++(U++(V++Q))) P.length ((P.length+U.length:Nat):Int) ((P.length+U.length+V.length:Nat):Int) m=some (P++(ĺ (Ę m) (U++V)++Q),m) :=
 Kc 99 1000000 (by decide) P U V Q g f (by omega) c a e d
end
section
variable {ρ:Type} {m:Ĭ}
inductive Chs (m:Ĭ) (bs:Nat):List Way->Prop
 |last {l:List Way}:l.length<=bs->Srt (Ę m) l->Chs m bs l
 |cons {u r:List Way}:u.length=bs->Srt (Ę m) u->Chs m bs r->Chs m bs (u++r)
def Chs.split {bs:Nat} {l:CK Way} (h:Chs m bs l) (d:bs<l.length):∃u r,l=u++r/\u.length=bs/\Srt (Ę m) u/\Chs m bs r:=by
 cases h with
 |last a h2=>omega
 | @cons u r a h2 c=>exact⟨u,r,rfl,a,h2,c⟩
def Chs.srt {bs:Nat} {l:CK Way} (h:Chs m bs l) (a:l.length<=bs):Srt (Ę m) l:=by
 cases h with
 |last c h2=>exact h2
 | @cons u r c h2 d =>
  have:r=[]:=by
   rw[cZ] at a;exact dE.1 (by omega)
  rw[this,dv];exact h2
def csR (m:Ĭ) (bs:Nat):Nat->CK Way->CK Way
 |0,l=>l
 |f+1,l=>if bs<=l.length then ĺ (Ę m) (l.take bs)++csR m bs f (l.drop bs) else ĺ (Ę m) l
def mpR (m:Ĭ) (bs:Nat):Nat->CK Way->CK Way
 |0,l=>l
 |f+1,l=>if 2*bs<=l.length then ĺ (Ę m) (l.take (2*bs))++mpR m bs f (l.drop (2*bs)) else if bs<l.length then ĺ (Ę m) l else l
def amk {bs:Nat} (hb:1<=bs):∀(f:Nat) (l:CK Way),l.length<f->Chs m bs (csR m bs f l)/\Stb (Ę m) l (csR m bs f l)
 |0,_,h=>by omega
 |f+1,l,h=>by
  unfold csR
  by_cases a:bs<=l.length
  ·rw[if_pos a];obtain⟨c,h2⟩:=amk hb f (l.drop bs) (by simp; omega);refine⟨.cons (by rw[rW]; simp; omega) (lB _) c,?_⟩;have:=(Œ (key:=Ę m) (l.take bs)).append h2
   rwa [eA] at this
  ·rw[if_neg a];exact⟨.last (by rw[rW]; omega) (lB _),Œ _⟩
def ama {bs:Nat} (hb:1<=bs):∀(f:Nat) (l:CK Way),l.length<f->Chs m bs l->Chs m (2*bs) (mpR m bs f l)/\Stb (Ę m) l (mpR m bs f l)
 |0,_,h,_=>by omega
 |f+1,l,h,c=>by
  unfold mpR
  by_cases a:2*bs<=l.length
  ·rw[if_pos a]
   have hd:Chs m bs (l.drop (2*bs)):=by
    obtain⟨u,r,rfl,g,_,h2⟩:=c.split (by omega)
    have i:bs<=r.length:=by rw[cZ] at a; omega
    have e:(u++r).drop (2*bs)=r.drop bs:=by
     rw[List.drop_append,gB (by omega),dH];congr 1; omega
    rw[e];rcases gz i with d|d
    ·obtain⟨u2,r2,rfl,n,_,j⟩:=h2.split d;rw[List.drop_append,gB (by omega),dH,n,iA,ic];exact j
    ·rw[gB (by omega)];exact .last (by simp) List.Pairwise.nil
   obtain⟨g,h2⟩:=ama hb f (l.drop (2*bs)) (by simp; omega) hd;refine⟨.cons (by rw[rW]; simp; omega) (lB _) g,?_⟩;have:=(Œ (key:=Ę m) (l.take (2*bs))).append h2
   rwa [eA] at this
  ·rw[if_neg a]
   by_cases h2:bs<l.length
   ·rw[if_pos h2];exact⟨.last (by rw[rW]; omega) (lB _),Œ _⟩
   ·rw[if_neg h2];exact⟨.last (by omega) (c.srt (by omega)),Stb.refl _⟩
abbrev StT:=Int×Int×CK Way×Int×Int×CK pi×CK bl×CK u6×CK i4×CK bl×CK f4
def stM (a b:Int) (l:CK Way) (m:Ĭ):StT:=(a,b,l,m.1.1.1,m.1.1.2,m.1.2.1,m.1.2.2.1,m.1.2.2.2.1,m.1.2.2.2.2.1,m.1.2.2.2.2.2,m.2)
def WOk.stb {l s:CK Way} (h:WOk m l) (c:Stb (Ę m) l s):WOk m s:=fun x a=>h x (c.mem.1 a)
def amG {xs:CK Way} (J:WOk m xs) (T:xs.length<=100000) (K:CK Way×Ĭ->BY ρ) :
 Ê (fun(v:StT) H=>iL (xs.length:Int) (20:Int) v.1 v.2.1 v.2.2.1 v.2.2.2.1 v.2.2.2.2.1 v.2.2.2.2.2.1 v.2.2.2.2.2.2.1 v.2.2.2.2.2.2.2.1 v.2.2.2.2.2.2.2.2.1 v.2.2.2.2.2.2.2.2.2.1 v.2.2.2.2.2.2.2.2.2.2 (fun z y u s r o n l j i e=>H (z,y,u,s,r,o,n,l,j,i,e))
  (fun a=>Ã (ê a.2.1 a.1 (xs.length:Int) (((a.2.2.1,a.2.2.2.1),a.2.2.2.2.1,a.2.2.2.2.2.1,a.2.2.2.2.2.2.1,a.2.2.2.2.2.2.2.1,a.2.2.2.2.2.2.2.2.1),a.2.2.2.2.2.2.2.2.2)) fun C=>K C)) (stM 0 20 xs m)=K (csR m 20 (xs.length+1) xs,m):=by
 refine è (fun v:StT=>∃(A R:CK Way) (f:Nat),v=stM (A.length:Int) ((A.length+20:Nat):Int) (A++R) m/\A++csR m 20 f R=csR m 20 (xs.length+1) xs/\R.length<f/\A.length+R.length=xs.length/\WOk m R) (fun v=>(xs.length+100)-v.1.toNat) ?_ ⟨[],xs,xs.length+1,rfl,rfl,by omega,by simp,J⟩;rintro v ⟨A,R,f,rfl,d,U,I,c⟩;obtain⟨f,rfl⟩:∃g,f=g+1:=⟨f-1,by omega⟩
 have O:csR m 20 (f+1) R=if 20<=R.length then ĺ (Ę m) (R.take 20)++csR m 20 f (R.drop 20) else ĺ (Ę m) R:=rfl
 rw[O] at d
 by_cases h:20<=R.length
 ·have lt:(R.take 20).length=20:=by simp; omega
  have D:(ĺ (Ę m) (R.take 20)).length=20:=by rw[rW,lt]
  refine .inr ⟨stM (((A++ĺ (Ę m) (R.take 20)).length:Nat):Int) (((A++ĺ (Ę m) (R.take 20)).length+20:Nat):Int) ((A++ĺ (Ę m) (R.take 20))++R.drop 20) m,⟨_,_,f,rfl,?_,by simp; omega,by rw[cZ,D]; simp; omega,c.sub fun x E=>List.mem_of_mem_drop E⟩,by simp only[stM,cZ,D]; omega,fun F=>?_⟩
  ·rw[if_pos h] at d;rw[dj];exact d
  ·show ifb (ile ((A.length+20:Nat):Int) (xs.length:Int)) (Ã (ê (A++R) (A.length:Int) ((A.length+20:Nat):Int) m) fun r1=>ck (((A.length+20:Nat):Int)+(20:Int)) fun G=>F (stM ((A.length+20:Nat):Int) G r1.1 r1.2)) _=_;have:=KH (m:=m) (P:=A) (M:=R.take 20) (Q:=R.drop 20) (c.sub fun x E=>ft E) (by omega);rw[eA,lt] at this;rw[Ð (decide_eq_true (by omega)),this,À,Î (by omega) (by omega)];congr 1;rw[cZ,D,dj];rfl
 ·refine .inl fun F=>?_;show ifb (ile ((A.length+20:Nat):Int) (xs.length:Int)) _ (Ã (ê (A++R) (A.length:Int) (xs.length:Int) m) fun C=>K C)=_;have:=KH (m:=m) (P:=A) (M:=R) (Q:=[]) c (by omega);rw[dv,I] at this;rw[Ì (decide_eq_false (by omega)),this,À];rw[if_neg h] at d;rw[<-d,dv]
def amF {xs:CK Way} {bs:Nat} (hb:1<=bs) (hb2:bs<=200000) (hc:Chs m bs xs) (hW:WOk m xs) (hn:xs.length<=100000) (K:CK Way×Ĭ->BY ρ) :
 Ê (fun(v:StT) kk=>iJ (xs.length:Int) (bs:Int) v.1 v.2.1 v.2.2.1 v.2.2.2.1 v.2.2.2.2.1 v.2.2.2.2.2.1 v.2.2.2.2.2.2.1 v.2.2.2.2.2.2.2.1 v.2.2.2.2.2.2.2.2.1 v.2.2.2.2.2.2.2.2.2.1 v.2.2.2.2.2.2.2.2.2.2 (fun J I H G F E D C z y s=>kk (J,I,H,G,F,E,D,C,z,y,s))
  (fun a=>ck (a.1+(bs:Int)) fun c=>ifb (ilt c (xs.length:Int)) (Ã (Ė a.2.1 a.1 c (xs.length:Int) (((a.2.2.1,a.2.2.2.1),a.2.2.2.2.1,a.2.2.2.2.2.1,a.2.2.2.2.2.2.1,a.2.2.2.2.2.2.2.1,a.2.2.2.2.2.2.2.2.1),a.2.2.2.2.2.2.2.2.2)) fun e=>K e) (K (a.2.1,(((a.2.2.1,a.2.2.2.1),a.2.2.2.2.1,a.2.2.2.2.2.1,a.2.2.2.2.2.2.1,a.2.2.2.2.2.2.2.1,a.2.2.2.2.2.2.2.2.1),a.2.2.2.2.2.2.2.2.2))))) (stM 0 ((2*bs:Nat):Int) xs m)=K (mpR m bs (xs.length+1) xs,m):=by
 refine è (fun v:StT=>∃(A R:CK Way) (f:Nat),v=stM (A.length:Int) ((A.length+2*bs:Nat):Int) (A++R) m/\A++mpR m bs f R=mpR m bs (xs.length+1) xs/\R.length<f/\A.length+R.length=xs.length/\WOk m R/\Chs m bs R) (fun v=>(xs.length+1000000)-v.1.toNat) ?_ ⟨[],xs,xs.length+1,by simp[stM],rfl,by omega,by simp,hW,hc⟩;rintro v ⟨A,R,f,rfl,d,hf,n,i,l⟩;obtain⟨f,rfl⟩:∃g,f=g+1:=⟨f-1,by omega⟩
 have e0:mpR m bs (f+1) R=if 2*bs<=R.length then ĺ (Ę m) (R.take (2*bs))++mpR m bs f (R.drop (2*bs)) else if bs<R.length then ĺ (Ę m) R else R:=rfl
 rw[e0] at d
 by_cases h:2*bs<=R.length
 ·obtain⟨u,r,rfl,Y,h2,o⟩:=l.split (by omega)
  have hr:bs<=r.length:=by rw[cZ] at h; omega
  -- the second block
  obtain⟨u2,r2,rfl,T,h5,h6⟩:∃u2 r2,r=u2++r2/\u2.length=bs/\Srt (Ę m) u2/\Chs m bs r2:=by
   rcases gz hr with q|q
   ·exact o.split q
   ·exact⟨r,[],by simp,q.symm,o.srt (by omega),.last (by simp) List.Pairwise.nil⟩
  have e1:(u++(u2++r2)).take (2*bs)=u++u2:=by
   rw[<-dj,fR (by simp; omega),dY (by simp; omega)]
  have e2:(u++(u2++r2)).drop (2*bs)=r2:=by
   rw[<-dj,List.drop_append,gB (by simp; omega),dH];rw[show 2*bs-(u++u2).length=0 by simp; omega];rfl
  have O:(ĺ (Ę m) (u++u2)).length=2*bs:=by rw[rW]; simp; omega
  rw[if_pos h,e1,e2] at d;refine .inr ⟨stM (((A++ĺ (Ę m) (u++u2)).length:Nat):Int) (((A++ĺ (Ę m) (u++u2)).length+2*bs:Nat):Int) ((A++ĺ (Ę m) (u++u2))++r2) m,⟨_,_,f,rfl,by rw[dj]; exact d,by simp at hf; omega,by rw[cZ,O]; simp at n; omega,i.sub fun x j=>by simp[j],h6⟩,by simp only[stM,cZ,O]; omega,fun X=>?_⟩;show ifb (ile ((A.length+2*bs:Nat):Int) (xs.length:Int)) (ck ((A.length:Int)+(bs:Int)) fun n6=>Ã (Ė (A++(u++(u2++r2))) (A.length:Int) n6 ((A.length+2*bs:Nat):Int) m) fun W=>ck ((2:Int)*(bs:Int)) fun n8=>ck (((A.length+2*bs:Nat):Int)+n8) fun Z=>X (stM ((A.length+2*bs:Nat):Int) Z W.1 W.2)) _=_
  have:=ML (m:=m) (P:=A) (U:=u) (V:=u2) (Q:=r2) (by omega) (by omega) h2 h5 (i.sub fun x j=>by rcases df.1 j with j|j<;>simp[j]) (by omega)
  rw[Y,T] at this;rw[List.length_append,List.length_append] at n;rw[Ð (decide_eq_true (by omega)),Î (by omega) (by omega),show(A.length:Int)+(bs:Int)=((A.length+bs:Nat):Int) by omega,show((A.length+2*bs:Nat):Int)=((A.length+bs+bs:Nat):Int) by omega,this,À,Î (by omega) (by omega),Î (by omega) (by omega)];congr 1;unfold stM;rw[List.length_append,O,List.append_assoc];refine Prod.ext (by dsimp only; omega) (Prod.ext (by dsimp only; omega) rfl)
 ·refine .inl fun X=>?_;rw[if_neg h] at d;show ifb (ile ((A.length+2*bs:Nat):Int) (xs.length:Int)) _ (ck ((A.length:Int)+(bs:Int)) fun c=>ifb (ilt c (xs.length:Int)) (Ã (Ė (A++R) (A.length:Int) c (xs.length:Int) m) fun e=>K e) (K (A++R,m)))=_;rw[Ì (decide_eq_false (by omega)),Î (by omega) (by omega)]
  by_cases h2:bs<R.length
  ·rw[if_pos h2] at d;obtain⟨u,r,rfl,Y,o,T⟩:=l.split h2;have:=ML (m:=m) (P:=A) (U:=u) (V:=r) (Q:=[]) (by omega) (by rw[cZ] at h2; omega) o (T.srt (by rw[cZ] at h; omega)) i (by rw[cZ] at n; omega);rw[dv,dv,show A.length+u.length+r.length=xs.length by rw[cZ] at n; omega] at this;rw[Ð (decide_eq_true (by omega)),show(A.length:Int)+(bs:Int)=((A.length+u.length:Nat):Int) by omega,this,À,d]
  ·rw[if_neg h2] at d;rw[Ì (decide_eq_false (by omega)),d]
abbrev StQ:=Int×CK Way×Int×Int×CK pi×CK bl×CK u6×CK i4×CK bl×CK f4
def stQ (b:Int) (l:CK Way) (m:Ĭ):StQ:=(b,l,m.1.1.1,m.1.1.2,m.1.2.1,m.1.2.2.1,m.1.2.2.2.1,m.1.2.2.2.2.1,m.1.2.2.2.2.2,m.2)
def agm {xs:CK Way} (I:WOk m xs) (J:xs.length<=100000):ļ xs (xs.length:Int) m=some (ĺ (Ę m) xs,m):=by
 unfold ļ jR;refine(amG I J (fun F=>Ê (fun(a:StQ) d=>iK (xs.length:Int) a.1 a.2.1 a.2.2.1 a.2.2.2.1 a.2.2.2.2.1 a.2.2.2.2.2.1 a.2.2.2.2.2.2.1 a.2.2.2.2.2.2.2.1 a.2.2.2.2.2.2.2.2.1 a.2.2.2.2.2.2.2.2.2 (fun z y u s o n j i g f=>d (z,y,u,s,o,n,j,i,g,f)) (fun c=>some (c.1,(((c.2.1,c.2.2.1),c.2.2.2.1,c.2.2.2.2.1,c.2.2.2.2.2.1,c.2.2.2.2.2.2.1,c.2.2.2.2.2.2.2.1),c.2.2.2.2.2.2.2.2)))) (stQ (20:Int) F.1 F.2))).trans ?_;obtain⟨Q,P⟩:=amk (m:=m) (bs:=20) (by omega) (xs.length+1) xs (by omega);refine è (fun v:StQ=>∃(bs:Nat) (l:CK Way),1<=bs/\bs<=200000/\v=stQ (bs:Int) l m/\Chs m bs l/\Stb (Ę m) xs l) (fun v=>400000-v.1.toNat) ?_ ⟨20,_,by omega,by omega,rfl,Q,P⟩;rintro v ⟨bs,l,hb,E,rfl,D,e⟩;have H:=e.length
 by_cases h:bs<xs.length
 ·obtain⟨O,K⟩:=ama hb (l.length+1) l (by omega) D;refine .inr ⟨stQ ((2*bs:Nat):Int) (mpR m bs (l.length+1) l) m,⟨2*bs,_,by omega,by omega,rfl,O,e.trans K⟩,by simp only[stQ]; omega,fun G=>?_⟩;have:=amF (m:=m) (xs:=l) hb E D (I.stb e) (by omega) (fun r=>ck ((bs:Int)*(2:Int)) fun C=>G (stQ C r.1 r.2));rw[H] at this;show ifb (ilt (bs:Int) (xs.length:Int)) (ck ((2:Int)*(bs:Int)) fun R=>_) _=_;rw[Ð (decide_eq_true (by omega)),Î (by omega) (by omega),show(2:Int)*(bs:Int)=((2*bs:Nat):Int) by push_cast; rfl];rw[H];refine d9 ?_ (this.trans ?_)
  ·rfl
  ·rw[Î (by omega) (by omega)];congr 2;omega
 ·refine .inl fun G=>?_;show ifb (ilt (bs:Int) (xs.length:Int)) _ (some (l,m))=_;rw[Ì (decide_eq_false (by omega)),xG (D.srt (by omega)) e]
end
abbrev Mx:=Int×CK Int
def į:CK Mx->Way->Prop
 |[],[]=>True
 |m::ms,l::ls=>l.Perm m.2/\į ms ls
 |_,_=>False
def į.len:∀{ms:CK Mx} {w:Way},į ms w->w.length=ms.length
 |[],[],_=>rfl
 |m::ms,l::ls,h=>by simp[h.2.len]
def į.at:∀{ms:CK Mx} {w:Way} {i:Nat} {m:Mx},į ms w->ms[i]?=some m->∃l,w[i]?=some l/\l.Perm m.2
 |[],_,i,_,_,h=>by simp at h
 |m::ms,l::ls,0,x,h,a=>by
  simp at a; subst a;exact⟨l,rfl,h.1⟩
 |m::ms,l::ls,i+1,x,h,a=>by
  simp only[fw] at a ⊢;exact h.2.at a
def stp (d:Int) (m:Mx) (l:CK Int) (x:Int):Int :=
 if m.1<d then match l.findIdx? (·==x) with|some k=>m.2.getD k 0|none=>x else x
def iS:CK Mx->Way->Int->Int->Int
 |m::ms,l::ls,x,d=>stp d m l (iS ms ls x d)
 |_,_,x,_=>x
def abZ {ms:CK Mx} {w:Way} {i:Nat} {m:Mx} {l:CK Int} (a:ms[i]?=some m) (c:w[i]?=some l) (x d:Int):iS (ms.drop i) (w.drop i) x d=stp d m l (iS (ms.drop (i+1)) (w.drop (i+1)) x d):=by
 obtain⟨e,rfl⟩:=dc.1 a;obtain⟨h2,rfl⟩:=dc.1 c;rw[dV e,dV h2,iS]
def who_ok {m:Ĭ} {w:Way} (h:į m.2 w) (C:m.2.length<=1000) (r:∀x∈m.2,x.2.length<=1000) (x d:Int):uQ m w x d=some (iS m.2 w x d):=by
 unfold uQ ahj;rw[Ï,Î (by omega) (by omega)];refine è (fun s:Int×Int=>∃i:Nat,i<=m.2.length/\s.2=(i:Int)-1/\s.1=iS (m.2.drop i) (w.drop i) x d) (fun s=>(s.2+1).toNat) ?_ ⟨m.2.length,Nat.le_refl _,rfl,?_⟩
 ·rintro⟨z,v⟩ ⟨i,hi,g,h2⟩;simp only at g h2;subst g h2
  cases i with
  |zero =>
   refine .inl fun n=>?_
   try dsimp only
   unfold Bl;rw[Ì (by simp[ige])]; rfl
  |succ i =>
   obtain⟨y,a⟩:∃y,m.2[i]?=some y:=⟨_,cW hi⟩;obtain⟨l,c,e⟩:=h.at a
   have o:l.length<=1000:=by rw[e.length_eq]; exact r y (de a)
   have j:((i+1:Nat):Int)-1=i:=by omega
   refine .inr ⟨(iS (m.2.drop i) (w.drop i) x d,(i:Int)-1),⟨i,by omega,rfl,rfl⟩,by simp only[j]; omega,fun n=>?_⟩
   try dsimp only
   unfold Bl;rw[j,Ð (by simp[ige]),Æ c,aah (by omega),À,abZ a c];unfold stp
   cases u:l.findIdx? (·==iS (m.2.drop (i+1)) (w.drop (i+1)) x d) with
   |none =>
    dsimp only;rw[Ì (by simp[ige]),Î (by omega) (by omega)]
    split<;>rfl
   |some k =>
    dsimp only;rw[Ð (by simp[ige]),Æ a]
    have f:k<y.2.length:=by rw[<-e.length_eq]; exact(dQ.1 u).1
    by_cases hd:y.1<d
    ·rw[Ð (by simp[ilt,hd]),Æ a,Æ (cW f),Î (by omega) (by omega),if_pos hd];rw[ej,cW f]; rfl
    ·rw[Ì (by simp[ilt,hd]),Î (by omega) (by omega),if_neg hd]
 ·simp only[List.drop_length];rw[<-h.len,List.drop_length];unfold iS;rfl
def WT:CK Int->CK Int->Int
 |x::l,y::m=>(if y=x then 0 else 1)+WT l m
 |_,_=>0
def uT:CK Mx->Way->Int
 |m::ms,l::ls=>WT l m.2+uT ms ls
 |_,_=>0
def MG:∀{l m:CK Int} {k:Nat} {x y:Int},l[k]?=some x->m[k]?=some y->WT (l.take (k+1)) (m.take (k+1))=WT (l.take k) (m.take k)+if y=x then 0 else 1
 |[],_,_,_,_,h,_=>by simp at h
 |_::_,[],_,_,_,_,h=>by simp at h
 |a::l,b::m,0,x,y,c,h2=>by
  simp at c h2; subst c h2;simp[WT]
 |a::l,b::m,k+1,x,y,c,h2=>by
  simp only[fw] at c h2;have:=MG c h2;simp only[gn,WT,this]; omega
def MF:∀{ms:CK Mx} {w:Way} {k:Nat} {m:Mx} {l:CK Int},ms[k]?=some m->w[k]?=some l->uT (ms.take (k+1)) (w.take (k+1))=uT (ms.take k) (w.take k)+WT l m.2
 |[],_,_,_,_,h,_=>by simp at h
 |_::_,[],_,_,_,_,h=>by simp at h
 |a::l,b::m,0,x,y,c,h2=>by
  simp at c h2; subst c h2;simp[uT]
 |a::l,b::m,k+1,x,y,c,h2=>by
  simp only[fw] at c h2;have:=MF c h2;simp only[gn,uT,this]; omega
def MH:∀l m:CK Int,0<=WT l m/\WT l m<=m.length
 |[],m=>by simp[WT]
 |_::_,[]=>by simp[WT]
 |a::l,b::m=>by
  have:=MH l m;unfold WT;simp only[List.length_cons]
  split<;>omega
def af5 {n:Nat}:∀{ms:CK Mx} {w:Way},(∀m∈ms,m.2.length<=n)->0<=uT ms w/\uT ms w<=(ms.length*n:Nat)
 |[],w,_=>by simp[uT]
 |m::ms,[],_=>by
  unfold uT; exact⟨Int.le_refl _,Int.natCast_nonneg _⟩
 |m::ms,l::ls,h=>by
  have d:=MH l m.2;have h2:=h m (by simp);have c:=af5 (w:=ls) fun x a=>h x (List.mem_cons_of_mem _ a);unfold uT
  have:(m::ms).length*n=ms.length*n+n:=by rw[dh,Nat.succ_mul]
  omega
def af4 {n:Nat} {ms:CK Mx} (d:ms.length<=1000) (c:∀x∈ms,x.2.length<=1000) (w:Way) (i:Nat):0<=uT (ms.take i) w/\uT (ms.take i) w<=1000000:=by
 have e:=af5 (n:=1000) (ms:=ms.take i) (w:=w) fun m a=>c m (ft a);have h2:(ms.take i).length*1000<=1000*1000:=dC _ (by rw[dl]; omega);omega
def af6 {m:Ĭ} {w:Way} (h:į m.2 w) (G:m.2.length<=1000) (E:∀x∈m.2,x.2.length<=1000):Ļ m w=some (uT m.2 w):=by
 unfold Ļ Tg;have f:=h.len;refine è (fun s:Int×Int=>∃i:Nat,i<=w.length/\s.2=(i:Int)/\s.1=uT (m.2.take i) (w.take i)) (fun s=>w.length-s.2.toNat) ?_ ⟨0,Nat.zero_le _,rfl,by simp[uT]⟩;rintro⟨R,Q⟩ ⟨i,hi,g,h2⟩;simp only at g h2;subst g h2;rcases Nat.lt_or_ge i w.length with e|J
 ·obtain⟨y,j⟩:∃y,m.2[i]?=some y:=⟨_,cW (by omega)⟩;obtain⟨l,z,o⟩:=h.at j
  have H:l.length<=1000:=by rw[o.length_eq]; exact E y (de j)
  refine .inr ⟨(uT (m.2.take (i+1)) (w.take (i+1)),(i:Int)+1),⟨i+1,e,by simp,rfl⟩,by simp only[dm]; omega,fun r=>?_⟩
  try dsimp only
  unfold pT;rw[Í e,Æ z];have hb:=af4 (n:=0) G E (w.take i) i;refine è (fun s:Int×Int=>∃k:Nat,k<=l.length/\s.2=(k:Int)/\s.1=uT (m.2.take i) (w.take i)+WT (l.take k) (y.2.take k)) (fun s=>l.length-s.2.toNat) ?_ ⟨0,Nat.zero_le _,rfl,by simp[WT]⟩;rintro⟨P,t2⟩ ⟨k,T,g,h2⟩;simp only at g h2;subst g h2;have O:=MH (l.take k) (y.2.take k)
  have K:(y.2.take k).length<=1000:=by rw[dl]; omega
  rcases dk k l.length with c|I
  ·obtain⟨u,D⟩:∃u,l[k]?=some u:=⟨_,cW c⟩;obtain⟨v,C⟩:∃v,y.2[k]?=some v:=⟨_,cW (by rw[<-o.length_eq]; exact c)⟩;refine .inr ⟨(uT (m.2.take i) (w.take i)+WT (l.take (k+1)) (y.2.take (k+1)),(k:Int)+1),⟨k+1,c,by simp,rfl⟩,by simp only[dm]; omega,fun r=>?_⟩
   try dsimp only
   unfold pS;rw[Í c,Æ D,Æ j,Æ C,MG D C]
   by_cases a:v=u
   ·rw[Ì (by simp[ine,a]),Î (by omega) (by omega),if_pos a]; simp
   ·rw[Ð (by simp[ine,a]),Î (by omega) (by omega),Î (by omega) (by omega),if_neg a,Int.add_assoc]
  ·refine .inl fun F=>?_
   have d:k=l.length:=by omega
   subst d
   try dsimp only
   unfold pS;rw[Ò];dsimp only;rw[Î (by omega) (by omega),MF j z,List.take_length,o.length_eq,List.take_length]
 ·refine .inl fun r=>?_
  have d:i=w.length:=by omega
  subst d
  try dsimp only
  unfold pT;rw[Ò,List.take_length,f,List.take_length]
def ae3 (a:Int):CK Int->CK Int
 |[]=>[a]
 |b::t=>if a<=b then a::b::t else b::ae3 a t
def lC:CK Int->CK Int
 |[]=>[]
 |a::t=>ae3 a (lC t)
def yQ (p:BY Int):CK Int->CK Int
 |[]=>[]
 |a::t=>if p=some a then yQ (some a) t else a::yQ (some a) t
def Xl (l:CK Int):CK Int:=yQ none (lC l)
def HW (a:Int):∀l,(ae3 a l).Perm (a::l)
 |[]=>List.Perm.refl _
 |b::t=>by
  unfold ae3
  split
  ·exact List.Perm.refl _
  ·exact((HW a t).cons b).trans (List.Perm.swap a b t)
def ĵ:∀l,(lC l).Perm l
 |[]=>List.Perm.refl _
 |a::t=>(HW a _).trans ((ĵ t).cons a)
def E7 (a:Int):∀{l:CK Int},l.Pairwise (·<=·)->(ae3 a l).Pairwise (·<=·)
 |[],_=>by simp[ae3]
 |b::t,h=>by
  rw[List.pairwise_cons] at h;unfold ae3
  split
  ·rename_i d;refine dI.2 ⟨fun x c=>?_,dI.2 h⟩;rcases dg.1 c with rfl|c
   ·exact d
   ·have:=h.1 x c; omega
  ·rename_i d;refine dI.2 ⟨fun x c=>?_,E7 a h.2⟩;rcases dg.1 ((HW a t).mem_iff.1 c) with rfl|c
   ·omega
   ·exact h.1 x c
def Φ:∀l:CK Int,(lC l).Pairwise (·<=·)
 |[]=>List.Pairwise.nil
 |a::t=>E7 a (Φ t)
def UA (l:CK Int):yT l=lC l:=by
 have d:(yT l).Pairwise (·<=·):=by
  have:=List.pairwise_mergeSort (le:=fun a b:Int=>decide (a<=b)) (fun a b c d h2=>by simp at *; omega) (fun a b=>by simp; omega) l
  exact this.imp fun h=>by simpa using h
 exact g8 (le:=(·<=·)) (fun a b _ _ d h2=>by omega) d (Φ l) ((List.mergeSort_perm l _).trans (ĵ l).symm)
def Sn (a:Int):∀(l:CK Int) (p:BY Int),yQ p (l++[a])=yQ p l++(if (match l.getLast? with|some b=>some b|none=>p)=some a then[] else[a])
 |[],p=>by simp only[dH,yQ,List.getLast?_nil]; rfl
 |b::t,p=>by
  have d:=Sn a t (some b)
  have e:(match (b::t).getLast? with|some c=>some c|none=>p)=(match t.getLast? with|some c=>some c|none=>some b):=by
   cases t with
   |nil=>rfl
   |cons c t =>
    rw[List.getLast?_cons_cons]
    cases h:(c::t).getLast? with
    |none=>simp at h
    |some x=>rfl
  rw[e];simp only[eJ,yQ,d]
  split<;>simp
def D3 (l:CK Int):∀m,m<=l.length->Lib.compactUpTo l.toArray m=yQ none (l.take m)
 |0,_=>by simp[Lib.compactUpTo,yQ]
 |m+1,h=>by
  have d:m<l.length:=h;rw[Lib.compactUpTo_succ,D3 l m (by omega),take_succ (cW d),Sn];congr 1
  have e:l.toArray[m]! = l[m]:=by simp[getElem!_pos,d]
  rw[e];unfold Lib.keeps;rw[e]
  cases m with
  |zero=>simp
  |succ m =>
   have c:m<l.length:=by omega
   have g:l.toArray[m+1-1]! = l[m]:=by simp[getElem!_pos,c]
   rw[g]
   have f:(l.take (m+1)).getLast?=some l[m]:=by rw[take_succ (cW c),List.getLast?_append]; rfl
   rw[f]
   by_cases a:l[m+1]=l[m]
   ·simp[a]
   ·have:¬l[m]=l[m+1]:=fun h=>a h.symm;simp[a,this]
def abw (l:CK Int):BZ l=yQ none l:=by
 unfold BZ Lib.compact;rw[D3 l l.length (Nat.le_refl _),List.take_length]
def agv (l:CK Int):BZ (yT l)=Xl l:=by rw[UA,abw]; rfl
def W8:∀{l:CK Int} {p:BY Int} {x:Int},p≠some x->(x∈yQ p l↔x∈l)
 |[],_,_,_=>Iff.rfl
 |a::t,p,x,f=>by
  unfold yQ
  by_cases c:x=a
  ·subst c;rw[if_neg f]; simp
  ·have d:=W8 (l:=t) (p:=some a) (x:=x) (fun e=>c (by cases e; rfl))
   split<;>simp[d,c]
def ab4:∀{l:CK Int} {p:BY Int},l.Pairwise (·<=·)->(∀q,p=some q->∀x∈l,q<=x)->(yQ p l).Pairwise (·<·)/\∀q,p=some q->∀x∈yQ p l,q<x
 |[],p,_,_=>⟨List.Pairwise.nil,fun _ _ _ h=>by cases h⟩
 |a::t,p,h,i=>by
  rw[List.pairwise_cons] at h;obtain⟨g,f⟩:=ab4 (l:=t) (p:=some a) h.2 (fun q d x c=>by cases d; exact h.1 x c);unfold yQ
  split
  ·rename_i e;exact⟨g,fun q d x c=>by rw[e] at d; cases d; exact f _ rfl x c⟩
  ·rename_i e;refine⟨dI.2 ⟨fun x c=>f _ rfl x c,g⟩,fun q d x c=>?_⟩;have:=i q d a (by simp);have j:q≠a:=fun h=>e (by rw[d,h]);rcases dg.1 c with rfl|c
   ·omega
   ·have:=f _ rfl x c; omega
def wP {l:CK Int} {x:Int}:x∈Xl l↔x∈l:=by
 unfold Xl;rw[W8 (by simp),(ĵ l).mem_iff]
def Ed (l:CK Int):(Xl l).Pairwise (·<·):=(ab4 (Φ l) (fun q a=>by cases a)).1
def W9:∀(l:CK Int) (p:BY Int),(yQ p l).length<=l.length
 |[],_=>cX _
 |a::t,p=>by
  have:=W9 t (some a);unfold yQ
  split<;>simp<;>omega
def FC (l:CK Int):(Xl l).length<=l.length:=by
 unfold Xl;have:=W9 (lC l) none
 rwa [(ĵ l).length_eq] at this
def abP {l m:CK Int} (f:l.Pairwise (·<·)) (e:m.Pairwise (·<·)) (h:∀x,x∈l↔x∈m):l=m:=by
 induction l generalizing m with
 |nil =>
  cases m with
  |nil=>rfl
  |cons a t=>have:=(h a).2 (by simp); cases this
 |cons a t i =>
  rw[dI] at f
  cases m with
  |nil=>have:=(h a).1 (by simp); cases this
  |cons b u =>
   rw[dI] at e
   have g:a=b:=by
    rcases dg.1 ((h a).1 (by simp)) with c|c
    ·exact c
    ·rcases dg.1 ((h b).2 (by simp)) with h2|h2
     ·exact h2.symm
     ·have:=e.1 a c; have:=f.1 b h2; omega
   subst g;rw[i f.2 e.2 fun x=>?_];constructor
   ·intro d;rcases dg.1 ((h x).1 (by simp[d])) with c|c
    ·have:=f.1 x d; omega
    ·exact c
   ·intro d;rcases dg.1 ((h x).2 (by simp[d])) with c|c
    ·have:=e.1 x d; omega
    ·exact c
def vc (b:ø) (s:CK (Int×é)) (c:Cmp):Int :=
 if (c.2.2.1++c.2.2.2.1).any (fun id=>mE s id c.2.1==5) then 5 else
 if (c.2.2.1++c.2.2.2.1).any (fun id=>mE s id c.2.1==4) then 4 else
 if (c.2.2.1++c.2.2.2.1).any (fun id=>(Ř b id c.2.1).isSome) then 9 else
 if 1<(Ü c.2.2.1 c.2.2.2.1).length then 1 else if 1<(Ü c.2.2.2.1 c.2.2.1).length then 1 else
 if (Ü c.2.2.1 c.2.2.2.1).length+(Ü c.2.2.2.1 c.2.2.1).length=0 then 1 else 0
def Jf (c:Cmp):Bool :=
 inP c.1 1 1099511627776&&(BW c.2.1&&(inP c.2.2.2.2.1 (-1125899906842624) 1125899906842624&&(inP c.2.2.2.2.2.1 0 1073741824&&(kp c.2.2.2.2.2.2 (-10000) 10000&&(uE c.2.2.1&&uE c.2.2.2.1)))))
def kM (b:ø) (s:CK (Int×é)) (i:Nat) (c:Cmp):Int :=
 if !Jf c then 1 else if (b.2.2.2.2.1.take i).any (fun x=>x.1==c.1) then 6 else vc b s c
def rS (a b:CK Int):(Ü a b).length<=a.length:=dW _ _
set_option maxHeartbeats 1000000 in
def Qe {b:ø} (W:b.2.2.2.2.1.length<=1000) (R:b.2.2.2.1.length<=1000) (s:CK (Int×é)) {i:Nat} {c:Cmp} (Y:c.2.2.1.length<=1000) (X:c.2.2.2.1.length<=1000)
 (I:b.2.2.2.2.1[i]?=some c):ō b s i=some (kM b s i c):=by
 have hi:i<b.2.2.2.2.1.length:=(List.getElem?_eq_some_iff.1 I).1;unfold ō pF kM Jf;rw[Æ I,iD,À]
 cases inP c.1 1 1099511627776 with
 |false=>rfl
 |true =>
 rw[Mh,À]
 cases BW c.2.1 with
 |false=>rfl
 |true =>
 rw[iD,À]
 cases inP c.2.2.2.2.1 (-1125899906842624) 1125899906842624 with
 |false=>rfl
 |true =>
 rw[iD,À]
 cases inP c.2.2.2.2.2.1 0 1073741824 with
 |false=>rfl
 |true =>
 rw[HV,À]
 cases kp c.2.2.2.2.2.2 (-10000) 10000 with
 |false=>rfl
 |true =>
 rw[HT (by omega),À]
 cases uE c.2.2.1 with
 |false=>rfl
 |true =>
 rw[HT (by omega),À]
 cases uE c.2.2.2.1 with
 |false=>rfl
 |true =>
 have T:((ile (0:Int) (i:Int))&&(ile (i:Int) (ì b.2.2.2.2.1)))=true:=by simp[ile,ì]; omega
 simp only[dP,ç,Bool.and_self,dq,if_false];rw[á T,dm]
 -- what comes behind the IDs
 have rest:(Ã (Ī ([c.2.2.1,c.2.2.2.1])) fun g=>Ê (fun(D:Int) o=>Ŗ s g (Ó ([(5:Int),(4:Int)])) c.2.1 ([(5:Int),(4:Int)]) D (fun F=>o F) (fun z=>some z) (fun _=>Ê (fun(E:Int) r=>ŕ g (Ó g) b.1.1 b.1.2 b.2.1 b.2.2.1 b.2.2.2.1 b.2.2.2.2.1 b.2.2.2.2.2 c.2.1 E (fun G=>r G) (fun y=>some y) (fun _=>Ã (δ c.2.2.1 c.2.2.2.1) fun f=>Ã (δ c.2.2.2.1 c.2.2.1) fun e=>ifb (igt (Ó f) (1:Int)) (some (1:Int)) (ifb (igt (Ó e) (1:Int)) (some (1:Int)) (ck ((Ó f)+(Ó e)) fun h=>ifb (ieq h (0:Int)) (some (1:Int)) (some (0:Int)))))) (0:Int))) (0:Int))=some (vc b s c):=by
  rw[QG (by omega) (by omega),À]
  have J:(c.2.2.1++c.2.2.2.1).length<=2000:=by simp; omega
  have last:(Ã (δ c.2.2.1 c.2.2.2.1) fun f=>Ã (δ c.2.2.2.1 c.2.2.1) fun e=>ifb (igt (Ó f) (1:Int)) (some (1:Int)) (ifb (igt (Ó e) (1:Int)) (some (1:Int)) (ck ((Ó f)+(Ó e)) fun h=>ifb (ieq h (0:Int)) (some (1:Int)) (some (0:Int))))) =
   some (if 1<(Ü c.2.2.1 c.2.2.2.1).length then 1 else if 1<(Ü c.2.2.2.1 c.2.2.1).length then 1 else if (Ü c.2.2.1 c.2.2.2.1).length+(Ü c.2.2.2.1 c.2.2.1).length=0 then 1 else 0):=by
   rw[AK (by omega) (by omega),À,AK (by omega) (by omega),À];have V:=rS c.2.2.1 c.2.2.2.1;have U:=rS c.2.2.2.1 c.2.2.1;rw[Ï,Ï,Î (by omega) (by omega)]
   by_cases P:1<(Ü c.2.2.1 c.2.2.2.1).length
   ·rw[Ð (by simp[igt]; omega),if_pos P]
   rw[Ì (by simp[igt]; omega),if_neg P]
   by_cases O:1<(Ü c.2.2.2.1 c.2.2.1).length
   ·rw[Ð (by simp[igt]; omega),if_pos O]
   rw[Ì (by simp[igt]; omega),if_neg O]
   by_cases K:(Ü c.2.2.1 c.2.2.2.1).length+(Ü c.2.2.2.1 c.2.2.1).length=0
   ·rw[Ð (by simp[ieq]; omega),if_pos K]
   rw[Ì (by simp[ieq]; omega),if_neg K]
  refine d9 (jC [(5:Int),4] (fun _ d=>if (c.2.2.1++c.2.2.2.1).any (fun id=>mE s id c.2.1==d) then some d else none) some (some (if (c.2.2.1++c.2.2.2.1).any (fun id=>(Ř b id c.2.1).isSome) then 9 else if 1<(Ü c.2.2.1 c.2.2.2.1).length then 1 else if 1<(Ü c.2.2.2.1 c.2.2.1).length then 1 else if (Ü c.2.2.1 c.2.2.2.1).length+(Ü c.2.2.2.1 c.2.2.1).length=0 then 1 else 0)) (fun j d n Q v=>?_) (fun v=>?_)) ?_
  ·try dsimp only
   unfold Ŗ;rw[Í n,Ş n,ă Q];refine Eq.trans (đ (c.2.2.1++c.2.2.2.1) (fun id=>mE s id c.2.1==d) (fun _=>some d) (some d) (v ((j:Int)+1)) (fun _=>rfl) (fun k a u ha l=>?_) (fun l=>?_)) ?_
   ·try dsimp only
    unfold ji;rw[Í u,Æ ha,aaP,À,È u (by omega),õ]
   ·try dsimp only
    unfold ji;rw[Ò,È n (by simp)]
   ·cases List.any (c.2.2.1++c.2.2.2.1) (fun id=>mE s id c.2.1==d)<;>rfl
  ·try dsimp only
   unfold Ŗ;rw[Ò];refine Eq.trans (đ (c.2.2.1++c.2.2.2.1) (fun id=>(Ř b id c.2.1).isSome) (fun _=>some 9) (some 9) (some (if 1<(Ü c.2.2.1 c.2.2.2.1).length then 1 else if 1<(Ü c.2.2.2.1 c.2.2.1).length then 1 else if (Ü c.2.2.1 c.2.2.2.1).length+(Ü c.2.2.2.1 c.2.2.1).length=0 then 1 else 0)) (fun _=>rfl) (fun k a u ha l=>?_) (fun l=>?_)) ?_
   ·try dsimp only
    unfold ŕ;have H:=ajr R a c.2.1;rw[Í u,Æ ha,È u (by omega)];rw[show yc ((b.1.1,b.1.2),b.2.1,b.2.2.1,b.2.2.2.1,b.2.2.2.2.1,b.2.2.2.2.2) a c.2.1=yc b a c.2.1 from rfl,H,À]
    cases Ř b a c.2.1<;>rfl
   ·try dsimp only
    unfold ŕ;rw[Ò,last]
   ·cases List.any (c.2.2.1++c.2.2.2.1) (fun id=>(Ř b id c.2.1).isSome)<;>rfl
  ·unfold vc Ě Ě Ě
   try dsimp only
   cases List.any (c.2.2.1++c.2.2.2.1) (fun id=>mE s id c.2.1==5) with
   |true=>rfl
   |false =>
   cases List.any (c.2.2.1++c.2.2.2.1) (fun id=>mE s id c.2.1==4)<;>rfl
 refine d9 (đ (b.2.2.2.2.1.take i) (fun x=>x.1==c.1) (fun C=>ifb (ige C (0:Int)) (some 6) (some (vc b s c))) (some 6) (some (vc b s c)) (fun j=>?_) (fun j a n ha v=>?_) (fun v=>?_)) ?_
 ·have:ige (j:Int) 0=true:=by simp[ige]
  rw[Ð this]
 ·try dsimp only
  unfold jj;rw[rest,Í n,Æ ha,È n (by rw[List.length_take]; omega),õ]
 ·try dsimp only
  unfold jj;rw[Ò,rest]
 ·cases List.any (b.2.2.2.2.1.take i) (fun x=>x.1==c.1)<;>rfl
def ZN (b:ø) (g:é):CK Int :=
 [g.2.1]++(b.2.2.2.2.1.filter fun c=>!(c.2.2.1.contains g.1==c.2.2.2.1.contains g.1)).map (fun c=>c.2.1)++(b.2.2.2.2.2.filter fun n=>n.1==g.1).map (fun n=>n.2)
def Ý (b:ø) (g:é):CK Int:=Xl (ZN b g)
structure jz (b:ø):Prop where
 gauges:b.2.1.length<=1000
 uses:b.2.2.1.length<=1000
 loans:b.2.2.2.1.length<=1000
 compares:b.2.2.2.2.1.length<=1000
 looks:b.2.2.2.2.2.length<=1000
 piles:∀c∈b.2.2.2.2.1,c.2.2.1.length<=1000/\c.2.2.2.1.length<=1000
def Xf (l:CK Int):(yT l).length=l.length:=List.length_mergeSort l
def ZM {b:ø} (a:jz b) (g:é):(ZN b g).length<=2001:=by
 have f:=a.compares;have h2:=a.looks;have e:=dW (fun c:Cmp=>!(c.2.2.1.contains g.1==c.2.2.2.1.contains g.1)) b.2.2.2.2.1;have d:=dW (fun n:Int×Int=>n.1==g.1) b.2.2.2.2.2;simp only[ZN,cZ,dD,dS];omega
def ait {b:ø} (d:jz b) (g:é):qu b g=some (Ý b g):=by
 unfold qu ac8;have y:=ZM d g
 have hd:(Ý b g).length<=2001:=by
  unfold Ý;have:=FC (ZN b g);omega
 have r:=d.compares;have o:=d.looks;refine î b.2.2.2.2.1 (fun i=>[g.2.1]++((b.2.2.2.2.1.take i).filter fun c=>!(c.2.2.1.contains g.1==c.2.2.2.1.contains g.1)).map (fun c=>c.2.1)) _ rfl (fun i c hi f e=>?_) (fun e=>?_)
 ·try dsimp only
  unfold xB;obtain⟨v,u⟩:=d.piles c (List.mem_of_getElem? f);rw[Í hi,Æ f,Š (by omega),À,Š (by omega),À,È hi (by omega),È hi (by omega),take_succ f,List.filter_append,List.map_append]
  have a:([g.2.1]++((b.2.2.2.2.1.take i).filter fun c=>!(c.2.2.1.contains g.1==c.2.2.2.1.contains g.1)).map (fun c=>c.2.1)).length<=1001:=by
   have l:=dW (fun c:Cmp=>!(c.2.2.1.contains g.1==c.2.2.2.1.contains g.1)) (b.2.2.2.2.1.take i);rw[dl] at l;simp only[cZ,dD,dS];omega
  rw[Ñ (by simp only[dS]; omega),Am.iff_true]
  cases h:(c.2.2.1.contains g.1==c.2.2.2.1.contains g.1) with
  |true=>simp only[dP,ç,eP,h,dq,if_false,d8,fo,dv]
  |false=>simp only[fJ,kG,eP,h,if_true,d8,eX,fo,dj]
 ·try dsimp only
  unfold xB;rw[Ò,List.take_length];refine î b.2.2.2.2.2 (fun i=>[g.2.1]++(b.2.2.2.2.1.filter fun c=>!(c.2.2.1.contains g.1==c.2.2.2.1.contains g.1)).map (fun c=>c.2.1)++((b.2.2.2.2.2.take i).filter fun n=>n.1==g.1).map (fun n=>n.2)) _ (by simp) (fun i n hi j e=>?_) (fun e=>?_)
  ·try dsimp only
   unfold xA;rw[Í hi,Æ j,È hi (by omega),È hi (by omega),take_succ j,List.filter_append,List.map_append]
   have a:([g.2.1]++(b.2.2.2.2.1.filter fun c=>!(c.2.2.1.contains g.1==c.2.2.2.1.contains g.1)).map (fun c=>c.2.1)++((b.2.2.2.2.2.take i).filter fun n=>n.1==g.1).map (fun n=>n.2)).length<=2001:=by
    have l:=dW (fun c:Cmp=>!(c.2.2.1.contains g.1==c.2.2.2.1.contains g.1)) b.2.2.2.2.1;have s:=dW (fun n:Int×Int=>n.1==g.1) (b.2.2.2.2.2.take i);rw[dl] at s;simp only[cZ,dD,dS];omega
   rw[Ñ (by simp only[dS]; omega),Am.iff_true]
   cases h:(n.1==g.1) with
   |true =>
    have:ieq n.1 g.1=true:=h;simp[h,this]
   |false =>
    have:ieq n.1 g.1=false:=h;simp[h,this]
  ·try dsimp only
   unfold xA;rw[Ò,List.take_length];rw[show([g.2.1]++(b.2.2.2.2.1.filter fun c=>!(c.2.2.1.contains g.1==c.2.2.2.1.contains g.1)).map (fun c=>c.2.1)++(b.2.2.2.2.2.filter fun n=>n.1==g.1).map (fun n=>n.2))=ZN b g from rfl];dsimp only;rw[Ñ (by omega),Am.iff_true,Ñ (by rw[Xf]; omega),Am.iff_true,agv];rfl
def Ô (b:ø):CK (Int×Int):=b.2.1.flatMap fun g=>(Ý b g).map fun d=>((g.1,d):Int×Int)
def IB {b:ø} (a:jz b) (g:é):(Ý b g).length<=2001:=by
 unfold Ý;have:=FC (ZN b g);have:=ZM a g;omega
def xN {α β:Type} (f:α->CK β) (n:Nat) (h:∀a,(f a).length<=n):∀l:CK α,(l.flatMap f).length<=l.length*n
 |[]=>by simp
 |a::l=>by
  have:=xN f n h l;have:=h a;simp only[dA,cZ,dh,dF,fp];omega
def U7 {b:ø} (f:jz b):sg b=some (Ô b):=by
 unfold sg Zg;have u:=f.gauges
 have a:∀l:CK é,(l.flatMap fun g=>(Ý b g).map fun d=>((g.1,d):Int×Int)).length<=l.length*2001:=fun l =>
  xN _ 2001 (fun g=>by rw[dD]; exact IB f g) l
 refine î b.2.1 (fun i=>(b.2.1.take i).flatMap fun g=>(Ý b g).map fun d=>((g.1,d):Int×Int)) _ rfl (fun i g hi c o=>?_) (fun o=>?_)
 ·try dsimp only
  unfold uh;rw[Í hi,Æ c];rw[show qu ((b.1.1,b.1.2),b.2.1,b.2.2.1,b.2.2.2.1,b.2.2.2.2.1,b.2.2.2.2.2) g=qu b g from rfl,ait f,À];have hd:=IB f g;have s:=a (b.2.1.take i)
  have r:(b.2.1.take i).length<=1000:=by rw[dl]; omega
  refine î (Ý b g) (fun j=>((b.2.1.take i).flatMap fun g=>(Ý b g).map fun d=>((g.1,d):Int×Int))++((Ý b g).take j).map fun d=>((g.1,d):Int×Int)) _ (by simp) (fun j d n e h=>?_) (fun h=>?_)
  ·try dsimp only
   unfold ug;rw[Í n,Æ e,È n (by omega),take_succ e,List.map_append];rw[Ñ (by simp only[List.length_append,List.length_map,List.length_take,List.length_singleton]; omega),Am.iff_true];simp
  ·try dsimp only
   unfold ug;rw[Ò,List.take_length];dsimp only;rw[È hi (by omega),take_succ c,List.flatMap_append];simp
 ·try dsimp only
  unfold uh;rw[Ò,List.take_length];rfl
def za (b:ø) (s:CK (Int×é)):CK Int :=
 b.2.2.1.map (fun u=>aar s u.1 u.2)++(b.2.2.2.1.mapIdx (fun i l=>LL b s i l)++(b.2.2.2.2.1.mapIdx (fun i c=>kM b s i c)++b.2.2.2.2.2.map (fun u=>aar s u.1 u.2)))
def Yk {α:Type} {f:Int->BY Int} {g:Nat->α->Int} (l:CK α) (h:∀(i:Nat) (a:α),l[i]?=some a->f i=some (g i a)):Nw f (yP l.length)=some (l.mapIdx g):=by
 have j:∀i,i<l.length->f (i:Int)=some ((l.mapIdx g)[i]?.getD 0):=by
  intro i hi;rw[h i l[i] (cW hi)];simp[hi]
 have h2:∀x∈yP l.length,f x=some ((l.mapIdx g)[x.toNat]?.getD 0):=by
  intro x c;unfold yP at c;obtain⟨i,hi,rfl⟩:=List.mem_map.1 c;rw[j i (by simpa using hi)];rfl
 rw[F6 h2];congr 1;refine iu (by simp[yP]) fun i n e=>?_
 have d:i<l.length:=by simpa using e
 simp[yP,d]
def akr {b:ø} (a:jz b) (s:CK (Int×é)):pl b s=some (za b s):=by
 unfold pl za
 rw[F6 (fun u _=>XC s u.1 u.2),À,Yk b.2.2.2.1 (fun i l e=>ZV a.loans a.uses s e),À,
  Yk b.2.2.2.2.1 (fun i c d=>Qe a.compares a.loans s (a.piles c (de d)).1 (a.piles c (de d)).2 d),À,F6 (fun u _=>XC s u.1 u.2),À]
def Ţ (b:ø):Int :=
 if !kp b.1 0 1000000 then 1 else
 if 12<b.2.1.length then 2 else if 40<b.2.2.1.length then 2 else if 12<b.2.2.2.1.length then 2 else if 40<b.2.2.2.2.1.length then 2 else if 10<b.2.2.2.2.2.length then 2 else
 if j6 b != 0 then j6 b else
 match (za b (ř b)).find? (fun e=>e != 0) with
 |some e=>e
 |none=>if 59<(Ô b).length then 2 else if 300<2*b.2.1.length+2*((Ô b).length-b.2.1.length:Int)+2*b.2.2.2.2.1.length then 2 else 0
def Jg {b:ø} (a:jz b):(Ô b).length<=2001000:=by
 have:=xN (fun g:é=>(Ý b g).map fun d=>((g.1,d):Int×Int)) 2001 (fun g=>by rw[List.length_map]; exact IB a g) b.2.1;have h2:=a.gauges;unfold Ô;omega
def Ce {b:ø} (a:jz b) (o:∀g∈b.2.1,I64 g.2.2.2.2.1.1):ζ b=some (Ţ b):=by
 unfold ζ Pu Ţ;rw[HV,À]
 cases kp b.1 0 1000000 with
 |false=>rfl
 |true =>
 have d:=a.gauges;have h2:=a.compares;have r:=Jg a;rw[Ì (show(!true)=false from rfl),if_neg (by simp)];simp only[Ï]
 by_cases c0:12<b.2.1.length
 ·rw[Ð (by simp[igt]; omega),if_pos c0]
 rw[Ì (by simp[igt]; omega),if_neg c0]
 by_cases n:40<b.2.2.1.length
 ·rw[Ð (by simp[igt]; omega),if_pos n]
 rw[Ì (by simp[igt]; omega),if_neg n]
 by_cases l:12<b.2.2.2.1.length
 ·rw[Ð (by simp[igt]; omega),if_pos l]
 rw[Ì (by simp[igt]; omega),if_neg l]
 by_cases j:40<b.2.2.2.2.1.length
 ·rw[Ð (by simp[igt]; omega),if_pos j]
 rw[Ì (by simp[igt]; omega),if_neg j]
 by_cases i:10<b.2.2.2.2.2.length
 ·rw[Ð (by simp[igt]; omega),if_pos i]
 rw[Ì (by simp[igt]; omega),if_neg i];rw[Sd o d,À]
 cases c:(j6 b != 0) with
 |true =>
  have:ine (j6 b) 0=true:=c;rw[Ð this,if_pos rfl]
 |false =>
 have:ine (j6 b) 0=false:=c;rw[Ì this,if_neg (by simp)];rw[I7 d,À];unfold Xu;rw[akr a,À]
 cases(za b (ř b)).find? (fun e=>e != 0) with
 |some e=>rfl
 |none =>
 dsimp only;rw[U7 a,À]
 by_cases h:59<(Ô b).length
 ·rw[Ð (by simp[igt]; omega),if_pos h]
 rw[Ì (by simp[igt]; omega),if_neg h];rw[Î (by omega) (by omega),Î (by omega) (by omega),Î (by omega) (by omega),Î (by omega) (by omega),Î (by omega) (by omega),Î (by omega) (by omega)]
 by_cases f:300<2*b.2.1.length+2*((Ô b).length-b.2.1.length:Int)+2*b.2.2.2.2.1.length
 ·rw[Ð (by simp[igt]; omega),if_pos f]
 rw[Ì (by simp[igt]; omega),if_neg f]
def wrapU {n:Nat} (h:n<18446744073709551616):IntKind.wrap .u64 (n:Int)=n:=by
 simp only[IntKind.wrap,IntKind.bits,IntKind.signed];simp;omega
def af0 {n:Nat} (h:n<9223372036854775808):IntKind.wrap .i64 (n:Int)=n:=by
 simp only[IntKind.wrap,IntKind.bits,IntKind.signed];simp;omega
def jb (l:CK (Int×Int)) (x d:Int):BY Nat:=l.findIdx? fun n=>decide (x=n.1)&&decide (d=n.2)
def aag {l:CK (Int×Int)} (e:l.length<=100000000) (x d:Int):ú l (x,d)=some (match jb l x d with|some j=>(j:Int)|none=>-1):=by
 unfold ú jT;refine Eq.trans (jw l (fun n=>decide (x=n.1)&&decide (d=n.2)) some (some (-1)) (fun i a hi ha c=>?_) (fun c=>?_)) ?_
 ·try dsimp only
  unfold ĩ;rw[Í hi,Æ ha,È hi (by omega),õ,Bool.and_true]
 ·try dsimp only
  unfold ĩ;rw[Ò]
 ·unfold jb
  cases List.findIdx? (fun n=>decide (x=n.1)&&decide (d=n.2)) l<;>rfl
def atP (l:CK (Int×Int)) (p:CK Int) (d:Int):Int :=
 match p with
 |[]=>0
 |x::_=>match jb l x d with|some j=>(j:Int)+1|none=>0
def l8 {l:CK (Int×Int)} {x d:Int} {j:Nat} (h:jb l x d=some j):j<l.length/\l[j]?=some (x,d):=by
 unfold jb at h;obtain⟨c,a,_⟩:=List.findIdx?_eq_some_iff_getElem.1 h;refine⟨c,?_⟩;rw[List.getElem?_eq_getElem c];simp only[Bool.and_eq_true,decide_eq_true_eq] at a;congr 1;exact Prod.ext a.1.symm a.2.symm
def anG (m:Maker) (p:CK Int) (d:Int) (e:m.2.1.length<=100000000):mh m p d=some (atP m.2.1 p d):=by
 unfold mh KC atP
 cases p with
 |nil=>simp[Ï,ieq]
 |cons x p =>
  have h:ieq (Ó (x::p)) 0=false:=by
   rw[Ï];simp only[ieq,dh,beq_eq_false_iff_ne,ne_eq];omega
  rw[h,ç,show(0:Int)=((0:Nat):Int) from rfl,Æ (a:=x) rfl,aag e,À]
  cases c:jb m.2.1 x d with
  |none=>dsimp only; rw[Î (by omega) (by omega)]; simp only[c]; rfl
  |some j =>
   have:=(l8 c).1;dsimp only;rw[Î (by omega) (by omega)];simp only[c]
def FD (s:CK (Int×é)) (p:CK Int):Int×Int :=
 match p with
 |[]=>(0,1)
 |x::_=>match sR (k:=tI) (v:=Ú) x s with
  |some g=>g.2.2.2.2.1
  |none=>(0,0)
def Xt (s:CK (Int×é)) (p:CK Int):jy s p=some (FD s p):=by
 unfold jy yA FD
 cases p with
 |nil=>simp[Ï,ieq]
 |cons x p =>
  have h:ieq (Ó (x::p)) 0=false:=by
   rw[Ï];simp only[ieq,dh,beq_eq_false_iff_ne,ne_eq];omega
  rw[h,ç,show(0:Int)=((0:Nat):Int) from rfl,Æ (a:=x) rfl]
  cases c:sR (k:=tI) (v:=Ú) x s with
  |none=>simp only[QH,c]
  |some g=>simp only[QH,c]
def ab1 {l:CK (Int×Int)} (d:∀r∈l,I64 r.1) (e:l.length<=1000):lE l=some (if l.any (fun r=>!Kj r) then 1 else 0):=by
 unfold lE Y9;refine Eq.trans (đ l (fun r=>!Kj r) (fun _=>some 1) (some 1) (some 0) (fun _=>rfl) (fun i a hi ha c=>?_) (fun c=>?_)) ?_
 ·try dsimp only
  unfold ue;rw[Í hi,Æ ha,WO (d a (List.mem_of_getElem? ha)),À,È hi (by omega),õ]
 ·try dsimp only
  unfold ue;rw[Ò]
 ·cases l.any (fun r=>!Kj r)<;>rfl
def pv (n d:Int):Int×Int:=(n / (Nat.gcd n.natAbs d.natAbs:Nat),d / (Nat.gcd n.natAbs d.natAbs:Nat))
def lH (r:Int×Int):Kj r=true↔1<=r.2/\r.2<=2147483647/\(r.1.natAbs:Int)<=2147483647/\Nat.gcd r.1.natAbs r.2.natAbs=1:=by
 simp[Kj]
def Bi {n d:Int} (hd:0<d):∃g:Nat,0<g/\g=Nat.gcd n.natAbs d.natAbs/\n=(pv n d).1*g/\d=(pv n d).2*g:=by
 have a:0<Nat.gcd n.natAbs d.natAbs:=Nat.gcd_pos_of_pos_right _ (by omega);refine⟨_,a,rfl,?_,?_⟩
 ·exact(Int.ediv_mul_cancel (Int.ofNat_dvd_left.2 (Nat.gcd_dvd_left _ _))).symm
 ·exact(Int.ediv_mul_cancel (Int.ofNat_dvd_left.2 (Nat.gcd_dvd_right _ _))).symm
def UH {n d:Int} (hd:0<d) (o:n.natAbs<=2147483647) (f:d<=2147483647):Kj (pv n d)=true:=by
 obtain⟨g,h0,e,j,h2⟩:=Bi (n:=n) hd;rw[lH]
 have c:n.natAbs=(pv n d).1.natAbs*g:=by conv=>lhs; rw[j]; rw[fX,f0]
 have a:d.natAbs=(pv n d).2.natAbs*g:=by conv=>lhs; rw[h2]; rw[fX,f0]
 have l:0<(pv n d).2:=by
  rcases Int.lt_trichotomy (pv n d).2 0 with h|h|h
  ·have:=Int.mul_neg_of_neg_of_pos h (show(0:Int)<g by omega); omega
  ·rw[h] at h2; simp at h2; omega
  ·exact h
 have s:(pv n d).1.natAbs<=n.natAbs:=by rw[c]; exact gu _ h0
 have r:(pv n d).2.natAbs<=d.natAbs:=by rw[a]; exact gu _ h0
 refine⟨by omega,by omega,by omega,?_⟩;have:=Nat.gcd_mul_right (pv n d).1.natAbs g (pv n d).2.natAbs;rw[<-c,<-a,<-e] at this
 have i:(Nat.gcd (pv n d).1.natAbs (pv n d).2.natAbs)*g=1*g:=by omega
 exact Nat.eq_of_mul_eq_mul_right h0 i
def SB {n d:Int} (hd:0<d) (l:n.natAbs<=2147483647) (e:d<=2147483647):sf n d=some (pv n d,0):=by
 obtain⟨g,h0,o,r,h2⟩:=Bi (n:=n) hd;have D:=(lH _).1 (UH hd l e);unfold sf Pf;rw[UC ⟨by omega,by omega⟩,À,UC ⟨by omega,by omega⟩,À,amh,À,<-o]
 have C:n.natAbs=(pv n d).1.natAbs*g:=by conv=>lhs; rw[r]; rw[fX,f0]
 have y:d.natAbs=(pv n d).2.natAbs*g:=by conv=>lhs; rw[h2]; rw[fX,f0]
 have j:Int.tdiv (n.natAbs:Int) (g:Int)=((pv n d).1.natAbs:Int):=by
  rw[C,iz]; exact gN _ (by omega)
 have i:Int.tdiv (d.natAbs:Int) (g:Int)=((pv n d).2.natAbs:Int):=by
  rw[y,iz]; exact gN _ (by omega)
 have z:oy (g:Int) 0=false:=by simp[oy]; omega
 have u:igt ((pv n d).1.natAbs:Int) 2147483647=false:=by simp[igt]; omega
 have s:igt ((pv n d).2.natAbs:Int) 2147483647=false:=by simp[igt]; omega
 rw[Ì z,Ì z,j,i,wrapU (by omega),wrapU (by omega),af0 (by omega),af0 (by omega),Ì u,Ì s]
 have f:ilt d 0=false:=by simp[ilt]; omega
 rw[f]
 have v:((pv n d).2.natAbs:Int)=(pv n d).2:=by omega
 rw[v]
 by_cases c:n<0
 ·have a:ilt n 0=true:=by simp[ilt,c]
  have:(pv n d).1<=0:=by
   rcases gD 0 (pv n d).1 with h|h
   ·have:=Int.mul_pos h (show(0:Int)<g by omega); omega
   ·exact h
  rw[a];rw[show(!true==false)=true from rfl,kG,Î (by omega) (by omega)]
  have:0-((pv n d).1.natAbs:Int)=(pv n d).1:=by omega
  rw[this]
 ·have a:ilt n 0=false:=by simp[ilt]; omega
  have:0<=(pv n d).1:=by
   rcases gD (pv n d).1 0 with h|h
   ·have:=Int.mul_neg_of_neg_of_pos h (show(0:Int)<g by omega); omega
   ·exact h
  rw[a];rw[show(!false==false)=false from rfl,ç]
  have:((pv n d).1.natAbs:Int)=(pv n d).1:=by omega
  rw[this]
structure sH (r:Int×Int) (n d:Int):Prop where
 rat:Kj r=true
 num : -n<=r.1/\r.1<=n
 den:r.2<=d
def sH.pos {r:Int×Int} {n d:Int} (h:sH r n d):1<=r.2:=((lH r).1 h.rat).1
def sH.i64 {r:Int×Int} {n d:Int} (h:sH r n d):I64 r.1:=by
 have:=((lH r).1 h.rat).2.2.1;exact⟨by omega,by omega⟩
def af9 {x y:Int×Int} (d:Kj x=true) (c:Kj y=true):lE [x,y]=some 0:=by
 rw[ab1]
 ·simp[d,c]
 ·intro r a
  have:Kj r=true:=by simp at a; rcases a with rfl|rfl<;>assumption
  have:=((lH r).1 this).2.2.1;exact⟨by omega,by omega⟩
 ·simp
def oh {a b m n:Int} (g : -m<=a/\a<=m) (h2 : -n<=b/\b<=n) : -(m*n)<=a*b/\a*b<=m*n:=by
 have d:0<=m:=by omega
 have c:0<=n:=by omega
 have f:(a*b).natAbs<=(m*n).natAbs:=by
  rw[fX,fX];exact fH (by omega) (by omega)
 have e:0<=m*n:=fY d c;omega
def subP (x y:Int×Int):Int×Int:=pv (x.1*y.2-y.1*x.2) (x.2*y.2)
def I3 {x y:Int×Int} (c:sH x 1000 100) (a:sH y 1000 100):(x.1*y.2-y.1*x.2).natAbs<=200000/\0<x.2*y.2/\x.2*y.2<=10000:=by
 have f:=oh c.num (show -100<=y.2/\y.2<=100 from⟨by have:=a.pos; omega,a.den⟩);have h2:=oh a.num (show -100<=x.2/\x.2<=100 from⟨by have:=c.pos; omega,c.den⟩);have e:=oh (show -100<=x.2/\x.2<=100 from⟨by have:=c.pos; omega,c.den⟩) (show -100<=y.2/\y.2<=100 from⟨by have:=a.pos; omega,a.den⟩);have d:=Int.mul_pos (show 0<x.2 by have:=c.pos; omega) (show 0<y.2 by have:=a.pos; omega);refine⟨by omega,d,by omega⟩
def Sub_ok {x y:Int×Int} (c:sH x 1000 100) (a:sH y 1000 100):Wi x y=some (subP x y,0):=by
 obtain⟨f,d,b3⟩:=I3 c a;have e:=oh c.num (show -100<=y.2/\y.2<=100 from⟨by have:=a.pos; omega,a.den⟩);have h2:=oh a.num (show -100<=x.2/\x.2<=100 from⟨by have:=c.pos; omega,c.den⟩);unfold Wi ahy;rw[af9 c.rat a.rat,À];rw[show ine (0:Int) 0=false from rfl,ç,Î (by omega) (by omega),Î (by omega) (by omega),Î (by omega) (by omega),Î (by omega) (by omega),SB d (by omega) (by omega),À];rfl
def agB {n d:Int} (hd:0<d):(pv n d).1.natAbs<=n.natAbs/\(pv n d).2<=d:=by
 obtain⟨g,h0,h,a,h2⟩:=Bi (n:=n) hd
 have f:n.natAbs=(pv n d).1.natAbs*g:=by conv=>lhs; rw[a]; rw[fX,f0]
 have e:d.natAbs=(pv n d).2.natAbs*g:=by conv=>lhs; rw[h2]; rw[fX,f0]
 have c:(pv n d).1.natAbs<=n.natAbs:=by rw[f]; exact gu _ h0
 have i:(pv n d).2.natAbs<=d.natAbs:=by rw[e]; exact gu _ h0
 exact⟨c,by omega⟩
def MM {x y:Int×Int} (d:sH x 1000 100) (c:sH y 1000 100):sH (subP x y) 200000 10000:=by
 obtain⟨g,a,b3⟩:=I3 d c;obtain⟨f,e⟩:=agB (n:=x.1*y.2-y.1*x.2) a;exact⟨UH a (by omega) (by omega),by unfold subP; omega,by unfold subP; omega⟩
def F3 (k:Int×Int) (n:Int):Int×Int:=pv (k.1*n) k.2
def Ji {k:Int×Int} (c:sH k 200000 10000) {n:Int} (a : -10000<=n/\n<=10000):(k.1*n).natAbs<=2000000000:=by
 have:=oh c.num a;omega
def abc {n:Int} (a : -10000<=n/\n<=10000):Kj (n,1)=true:=by
 rw[lH];exact⟨by simp,by simp,by simp; omega,by simp⟩
def ams {k:Int×Int} (a:sH k 200000 10000) {n:Int} (c : -10000<=n/\n<=10000):P4 k (n,1)=some (F3 k n,0):=by
 have b:=Ji a c;have p:=a.pos;have q:=a.den;unfold P4 ahA;rw[af9 a.rat (abc c),À];rw[show ine (0:Int) 0=false from rfl,ç,Î (by simp only; omega) (by simp only; omega),Int.mul_one,Î (by omega) (by omega),SB (by omega) (by simp only; omega) (by omega),À];rfl
def Vb {k:Int×Int} (a:sH k 200000 10000) {n:Int} (c : -10000<=n/\n<=10000):sH (F3 k n) 2000000000 10000:=by
 have b:=Ji a c;have p:=a.pos;have q:=a.den;obtain⟨e,d⟩:=agB (n:=k.1*n) (show 0<k.2 by omega);exact⟨UH (by omega) (by omega) (by omega),by unfold F3; omega,by unfold F3; omega⟩
def amm (x y:Int×Int):Int:=if x=y then 0 else if x.1*y.2<y.1*x.2 then -1 else if y.1*x.2<x.1*y.2 then 1 else 0
def aml {x y:Int×Int} {m d:Int} (a:sH x m d) (c:sH y m d) (e:m<=2000000000) (hd:d<=10000):P2 x y=some (amm x y):=by
 have g:=oh a.num (show -d<=y.2/\y.2<=d from⟨by have:=c.pos; have:=c.den; omega,c.den⟩);have h2:=oh c.num (show -d<=x.2/\x.2<=d from⟨by have:=a.pos; have:=a.den; omega,a.den⟩);have h0:0<=m/\0<=d:=⟨by have:=a.num; omega,by have:=a.pos; have:=a.den; omega⟩;have f:m*d<=2000000000*10000:=Int.mul_le_mul e hd h0.2 (by omega);unfold P2 ahw amm;rw[Î (by omega) (by omega),Î (by omega) (by omega)];simp only[õ,Bool.and_true,Bool.and_eq_true,decide_eq_true_eq,oy,ilt,igt,gt_iff_lt];have:(x.1=y.1/\x.2=y.2)↔x=y:=⟨fun h=>Prod.ext h.1 h.2,fun h=>by rw[h]; exact⟨rfl,rfl⟩⟩;simp only[this]
 (repeat' split)<;>rfl
def UZ (k:Int×Int) (heat:Int×Int):(Int×Int)×(Int×Int) :=
 if 0<amm (F3 k heat.1) (F3 k heat.2) then(F3 k heat.2,F3 k heat.1) else(F3 k heat.1,F3 k heat.2)
def amW {k heat:Int×Int} (a:sH k 200000 10000) (d:kp heat (-10000) 10000=true):qt k heat=some (UZ k heat):=by
 simp only[kp,Bool.and_eq_true,decide_eq_true_eq] at d;obtain⟨g,h2,f⟩:=d;have n1 : -10000<=heat.1/\heat.1<=10000:=⟨by omega,by omega⟩;have c : -10000<=heat.2/\heat.2<=10000:=⟨by omega,by omega⟩;have r1:sH (heat.1,1) 10000 10000:=⟨abc n1,n1,by simp⟩;have r2:sH (heat.2,1) 10000 10000:=⟨abc c,c,by simp⟩;unfold qt Ho P3 Ph uR DS;rw[af9 r1.rat r2.rat,À];have:ieq 0 0=true:=rfl;rw[Ð this,aml r1 r2 (by omega) (by omega),À]
 have e:ile (amm (heat.1,1) (heat.2,1)) 0=true:=by
  unfold amm;simp only[ile,decide_eq_true_eq,Int.mul_one]
  split
  ·omega
  ·split
   ·omega
   ·rw[if_neg (by omega)]; omega
 rw[e,À];simp only[Bool.not_true,ç];rw[WO a.i64,a.rat,À];simp only[Bool.not_true,ç];rw[ams a n1,À,ams a c,À];simp only[show ine (0:Int) 0=false from rfl,ç];rw[aml (Vb a n1) (Vb a c) (by omega) (by omega),À];unfold UZ;rw[õ]
 by_cases h:0<amm (F3 k heat.1) (F3 k heat.2)
 ·rw[if_pos h,if_pos (by simpa[igt] using h)]; rfl
 ·rw[if_neg h,if_neg (by simpa[igt] using h)]; rfl
def rateK (s:CK (Int×é)) (c:Cmp):Int×Int:=subP (FD s (Ü c.2.2.1 c.2.2.2.1)) (FD s (Ü c.2.2.2.1 c.2.2.1))
def ο (b:ø) (c:Cmp):(Int×Int)×(Int×Int):=UZ (rateK (ř b) c) c.2.2.2.2.2.2
def ah6 {b:ø} (d:jz b) {c:Cmp} (g:c.2.2.1.length<=1000) (f:c.2.2.2.1.length<=1000)
 (a:sH (FD (ř b) (Ü c.2.2.1 c.2.2.2.1)) 1000 100) (h2:sH (FD (ř b) (Ü c.2.2.2.1 c.2.2.1)) 1000 100) (e:kp c.2.2.2.2.2.2 (-10000) 10000=true):wB b c=some (ο b c):=by
 unfold wB TO;rw[I7 d.gauges,À,AK (by omega) (by omega),À,Xt,À,AK (by omega) (by omega),À,Xt,À];unfold ya Hr;rw[Sub_ok a h2,À,À]
 try dsimp only
 rw[amW (MM a h2) e,À];rfl
def pn (b:ø) (c:Cmp):Int×Int :=
 (((c.2.2.1.length-1:Nat):Int)*b.1.1-((c.2.2.2.1.length-1:Nat):Int)*b.1.2,((c.2.2.1.length-1:Nat):Int)*b.1.2-((c.2.2.2.1.length-1:Nat):Int)*b.1.1)
def akY {b:ø} {c:Cmp} (d:c.2.2.1.length<=1000) (a:c.2.2.2.1.length<=1000) (h:0<=b.1.1) (h2:b.1.1<=1000000) (g:0<=b.1.2) (f:b.1.2<=1000000):AR b c=some (pn b c):=by
 unfold AR Zk pn
 have e:∀n:Nat,R0 0 ((n:Int)-1)=((n-1:Nat):Int):=by
  intro n;unfold R0
  split<;>omega
 have bd:∀(n:Nat) (x:Int),n<=1000->0<=x->x<=1000000->0<=((n-1:Nat):Int)*x/\((n-1:Nat):Int)*x<=1000000000:=by
  intro n x j h0 i;refine⟨fY (by omega) h0,?_⟩;have:=fI (show((n-1:Nat):Int)<=1000 by omega) i h0 (by omega);omega
 have r:=bd _ _ d h h2;have o:=bd _ _ d g f;have b3:=bd _ _ a h h2;have l:=bd _ _ a g f;simp only[Ï];rw[Î (by omega) (by omega),Î (by omega) (by omega)];simp only[e];rw[Î (by omega) (by omega),Î (by omega) (by omega),Î (by omega) (by omega),Î (by omega) (by omega),Î (by omega) (by omega),Î (by omega) (by omega)]
def V9 {n d:Int} (hd:1<=d) (f : -4000000000<=n/\n<=4000000000):wz n d=some (n / d):=by
 unfold wz Pg
 have z:oy d 0=false:=by simp[oy]; omega
 rw[Ì z];have t:=Int.mul_tdiv_add_tmod n d
 have g : -4000000000<=Int.tdiv n d/\Int.tdiv n d<=4000000000:=by
  have:=Int.natAbs_tdiv_le_natAbs n d;omega
 rw[Î (by omega) (by omega),Ì z,õ]
 by_cases h:Int.tmod n d<0
 ·rw[if_pos (by simpa[ilt] using h),Î (by omega) (by omega)];congr 1
  have e : -d<Int.tmod n d:=by
   have c:=ix n d;have a:=hZ n.natAbs (show 0<d.natAbs by omega);omega
  refine(gA (by omega)).2 ⟨?_,?_⟩ |>.symm
  ·rw[Int.sub_mul,f5]; omega
  ·rw[Int.sub_mul,f5 (Int.tdiv n d)]; omega
 ·rw[if_neg (by simpa[ilt] using h)];congr 1
  have e:Int.tmod n d<d:=by
   have c:=ix n d;have a:=hZ n.natAbs (show 0<d.natAbs by omega);omega
  refine(gA (by omega)).2 ⟨?_,?_⟩ |>.symm
  ·rw[f5]; omega
  ·rw[f5 (Int.tdiv n d)]; omega
def al2 {x:Int×Int} (c:Kj x=true):lE [x]=some 0:=by
 rw[ab1]
 ·simp[c]
 ·intro r a
  have:Kj r=true:=by simp at a; subst a; assumption
  have:=((lH r).1 this).2.2.1;exact⟨by omega,by omega⟩
 ·simp
def Sf (r:Int×Int):Int:=-(-r.1 / r.2)
def alY {r:Int×Int} (h:Kj r=true):Ix r=some (r.1 / r.2,0):=by
 unfold Ix Ze;have:=(lH r).1 h;rw[al2 h,À];rw[show ine (0:Int) 0=false from rfl,ç,V9 (by omega) (by omega),À]
def JX {n d:Int} (hd:1<=d):(n / d).natAbs<=n.natAbs:=by
 exact Int.natAbs_ediv_le_natAbs n d
def anT {r:Int×Int} (h:Kj r=true):Mr r=some (Sf r,0):=by
 unfold Mr ac3 Sf;have:=(lH r).1 h;rw[al2 h,À];rw[show ine (0:Int) 0=false from rfl,ç,Î (by omega) (by omega),V9 (by omega) (by omega),À];have hb:=JX (n:=0-r.1) (show 1<=r.2 by omega);rw[Î (by omega) (by omega),Int.zero_sub,Int.zero_sub]
def sl (b:ø) (c:Cmp):Int×Int :=
 (c.2.2.2.2.1-c.2.2.2.2.2.1-(pn b c).2-(ο b c).2.1 / (ο b c).2.2,c.2.2.2.2.1+c.2.2.2.2.2.1-(pn b c).1-Sf (ο b c).1)
structure ţ (b:ø):Prop where
 film:0<=b.1.1/\b.1.1<=b.1.2/\b.1.2<=1000000
 nG:b.2.1.length<=12
 nU:b.2.2.1.length<=40
 nL:b.2.2.2.1.length<=12
 nC:b.2.2.2.2.1.length<=40
 nK:b.2.2.2.2.2.length<=10
 gauge:∀g∈b.2.1,rX g=true
 ids:b.2.1.Pairwise fun a b=>a.1<b.1
 uses:∀u∈b.2.2.1,aar (ř b) u.1 u.2=0
 loans:∀i l,b.2.2.2.1[i]?=some l->LL b (ř b) i l=0
 compares:∀i c,b.2.2.2.2.1[i]?=some c->kM b (ř b) i c=0
 looks:∀u∈b.2.2.2.2.2,aar (ř b) u.1 u.2=0
 nodes:(Ô b).length<=59
 links:2*(Ô b).length+2*b.2.2.2.2.1.length<=300
def xL (b:ø):j6 b=0↔(∀g∈b.2.1,rX g=true)/\b.2.1.Pairwise fun a b=>a.1<b.1:=by
 have h0:Ě (pO b.2.1) 0 b.2.1=none↔(∀g∈b.2.1,rX g=true)/\b.2.1.Pairwise fun a b=>a.1<b.1:=by
  rw[Ż,<-IL (fun g:é=>g.1) b.2.1];constructor
  ·intro h
   have d:∀(j:Nat) (a:é),b.2.1[j]?=some a->rX a=true/\lZ (fun g:é=>g.1) b.2.1 j a=false:=by
    intro j a ha;have:=h j a ha;rw[Nat.zero_add] at this;unfold pO at this
    split at this
    ·cases this
    ·split at this
     ·cases this
     ·rename_i d h2;exact⟨by simpa using d,by simpa using h2⟩
   refine⟨fun x l=>?_,fun i a ha=>(d i a ha).2⟩;obtain⟨j,n,rfl⟩:=dp.1 l;exact(d j _ (cW n)).1
  ·rintro⟨d,h2⟩ j a ha;rw[dO];simp[pO,d a (de ha),h2 j a ha]
 rw[<-h0];unfold j6
 cases h:Ě (pO b.2.1) 0 b.2.1 with
 |none=>simp
 |some e =>
  have:∀(m:CK é) (j:Nat) (x:Int),Ě (pO b.2.1) j m=some x->x≠0:=by
   intro m
   induction m with
   |nil=>intro j x h; cases h
   |cons a m f =>
    intro j x h;unfold Ě at h
    cases c:pO b.2.1 j a with
    |none=>rw[c] at h; exact f _ _ h
    |some y =>
     rw[c] at h;cases h;unfold pO at c
     split at c
     ·cases c; omega
     ·split at c
      ·cases c; omega
      ·cases c
  simp[this _ _ _ h]
def Μ (b:ø):Ţ b=0↔ţ b:=by
 unfold Ţ;constructor
 ·intro h
  split at h
  ·omega
  rename_i H
  (repeat' split at h)<;>try omega
  ·rename_i g
   have o:j6 b≠0:=by simpa using g
   exact(o h).elim
  ·rename_i r;have:=fP r;rename_i e;simp at this;exact(this h).elim
  ·rename_i E D C z y g e r v s
   have n:j6 b=0:=by simpa using g
   obtain⟨J,I⟩:=(xL b).1 n
   have a:∀x∈za b (ř b),x=0:=fun x j=>by
    have:=eo.1 r x j;simpa using this
   simp only[za,df] at a
   have f:kp b.1 0 1000000=true:=by simpa using H
   simp only[kp,cY,decide_eq_true_eq] at f;refine⟨⟨f.1,f.2.1,f.2.2⟩,by omega,by omega,by omega,by omega,by omega,J,I,fun u d=>a _ (.inl (dz.2 ⟨u,d,rfl⟩)),fun i l F=>?_,fun i c G=>?_,fun u d=>a _ (.inr (.inr (.inr (dz.2 ⟨u,d,rfl⟩)))),by omega,by omega⟩
   ·obtain⟨hi,rfl⟩:=dc.1 F;exact a _ (.inr (.inl (iy.2 ⟨i,hi,rfl⟩)))
   ·obtain⟨hi,rfl⟩:=dc.1 G;exact a _ (.inr (.inr (.inl (iy.2 ⟨i,hi,rfl⟩))))
 ·intro h
  have f:kp b.1 0 1000000=true:=by simp[kp,h.film.1,h.film.2.1,h.film.2.2]
  have g:j6 b=0:=(xL b).2 ⟨h.gauge,h.ids⟩
  have a:(za b (ř b)).find? (fun e=>e != 0)=none:=by
   rw[eo];intro x j;simp only[za,df,dz,iy] at j
   have:x=0:=by
    rcases j with⟨u,d,rfl⟩|⟨i,hi,rfl⟩|⟨i,hi,rfl⟩|⟨u,d,rfl⟩
    ·exact h.uses u d
    ·exact h.loans i _ (cW hi)
    ·exact h.compares i _ (cW hi)
    ·exact h.looks u d
   simp[this]
  have:=h.nG; have:=h.nU; have:=h.nL; have:=h.nC; have:=h.nK; have:=h.nodes; have:=h.links;rw[f,g,a];simp only[dP,dq,if_false,bne_self_eq_false];rw[if_neg (by omega),if_neg (by omega),if_neg (by omega),if_neg (by omega),if_neg (by omega),if_neg (by omega),if_neg (by omega)]
section
variable {b:ø}
def ő {l:CK Int} (h:uE l=true):l.length<=6:=((y0 l).1 h).2.2
def ţ.nums (h:ţ b) {c:Cmp} (a:c∈b.2.2.2.2.1):Jf c=true:=by
 obtain⟨i,hi,rfl⟩:=List.mem_iff_getElem.1 a;have:=h.compares i _ (List.getElem?_eq_getElem hi);unfold kM at this
 split at this
 ·omega
 ·rename_i h; simpa using h
def ţ.pilesOf (h:ţ b) {c:Cmp} (a:c∈b.2.2.2.2.1):vc b (ř b) c=0:=by
 obtain⟨i,hi,rfl⟩:=List.mem_iff_getElem.1 a;have:=h.compares i _ (List.getElem?_eq_getElem hi);unfold kM at this
 split at this
 ·omega
 ·split at this
  ·omega
  ·exact this
def ų (c:Cmp):Jf c=true↔(1<=c.1/\c.1<=1099511627776)/\(0<=c.2.1/\c.2.1<=20000)/\(-1125899906842624<=c.2.2.2.2.1/\c.2.2.2.2.1<=1125899906842624)/\(0<=c.2.2.2.2.2.1/\c.2.2.2.2.2.1<=1073741824)/\kp c.2.2.2.2.2.2 (-10000) 10000=true/\uE c.2.2.1=true/\uE c.2.2.2.1=true:=by
 simp[Jf,inP,BW,and_assoc]
def ţ.size (h:ţ b):jz b:=by
 have i:=h.nG; have h2:=h.nU; have g:=h.nL; have f:=h.nC; have e:=h.nK;refine⟨by omega,by omega,by omega,by omega,by omega,fun c d=>?_⟩;have:=(ų c).1 (h.nums d);have a:=ő this.2.2.2.2.2.1;have b:=ő this.2.2.2.2.2.2;omega
def wo (g:é):rX g=true↔Kj g.2.2.2.2.1=true/\(-1000<=g.2.2.2.2.1.1/\g.2.2.2.2.1.1<=1000)/\g.2.2.2.2.1.2<=100/\(1<=g.1/\g.1<=1099511627776)/\(0<=g.2.1/\g.2.1<=20000)/\(1<=g.2.2.1/\g.2.2.1<=1125899906842624)/\(-1073741824<=g.2.2.2.1.1/\g.2.2.2.1.1<=g.2.2.2.1.2/\g.2.2.2.1.2<=1073741824)/\(0<=g.2.2.2.2.2/\g.2.2.2.2.2<=1048576):=by
 simp[rX,inP,BW,kp,and_assoc]
def iZ {id:Int} {g:é} (h:ï b id=some g):g∈b.2.1/\g.1=id:=by
 unfold ï at h;exact⟨List.mem_of_find?_eq_some h,by simpa using List.find?_some h⟩
def rY (hi:b.2.1.Pairwise fun a b=>a.1<b.1) {g:é} (c:g∈b.2.1):ï b g.1=some g:=by
 unfold ï
 induction d:b.2.1 generalizing b with
 |nil=>rw[d] at c; cases c
 |cons a t e =>
  rw[d] at c hi;rw[dI] at hi;rw[f6];rcases dg.1 c with rfl|c
  ·simp
  ·have f:=hi.1 g c
   have:(a.1==g.1)=false:=by simp; omega
   rw[this];have:=e (b:=(b.1,t,b.2.2)) hi.2 c rfl;exact this
def Jj (h:ţ b) {id day:Int} (a:mE (ř b) id day=0):∃g,ï b id=some g/\g.2.1<=day:=by
 unfold mE at a;rw[vn h.ids] at a
 split at a
 ·rename_i g c
  split at a
  ·omega
  ·exact⟨g,c,by omega⟩
 ·omega
def Ep (s:CK (Int×é)) (id day:Int):mE s id day=0\/mE s id day=4\/mE s id day=5:=by
 unfold mE
 split
 ·split<;>simp
 ·simp
def ţ.pile (h:ţ b) {c:Cmp} (j:c∈b.2.2.2.2.1) {x:Int} (d:x∈c.2.2.1++c.2.2.2.1):(∃g,ï b x=some g/\g.2.1<=c.2.1)/\Ř b x c.2.1=none:=by
 have a:=h.pilesOf j;unfold vc at a
 split at a
 ·omega
 rename_i n
 split at a
 ·omega
 rename_i o
 split at a
 ·omega
 rename_i l;have f:=(eh.1 (eM.2 n)) x d;have i:=(eh.1 (eM.2 o)) x d;have e:=(eh.1 (eM.2 l)) x d;simp at f i e;refine⟨Jj h ?_,e⟩;rcases Ep (ř b) x c.2.1 with h0|h0|h0
 ·exact h0
 ·exact(i h0).elim
 ·exact(f h0).elim
def ţ.lefts (h:ţ b) {c:Cmp} (d:c∈b.2.2.2.2.1):(Ü c.2.2.1 c.2.2.2.1).length<=1/\(Ü c.2.2.2.1 c.2.2.1).length<=1/\(Ü c.2.2.1 c.2.2.2.1).length+(Ü c.2.2.2.1 c.2.2.1).length≠0:=by
 have a:=h.pilesOf d;unfold vc at a
 (repeat' split at a)<;>first|omega|exact⟨by omega,by omega,by omega⟩
def lz {a c:CK Int} {x:Int}:x∈Ü a c↔x∈a/\x∉c:=by
 simp[Ü]
def ţ.rate (h:ţ b) {p:CK Int} (c:∀x∈p,∃g,ï b x=some g):sH (FD (ř b) p) 1000 100:=by
 unfold FD
 cases p with
 |nil =>
  have:sH (0,1) 1000 100:=⟨by decide,by decide,by decide⟩;exact this
 |cons x t =>
  obtain⟨g,a⟩:=c x (by simp)
  try dsimp only
  rw[vn h.ids,a];have:=(wo g).1 (h.gauge g (iZ a).1);exact⟨this.1,this.2.1,this.2.2.1⟩
def ţ.rates (h:ţ b) {c:Cmp} (e:c∈b.2.2.2.2.1):sH (FD (ř b) (Ü c.2.2.1 c.2.2.2.1)) 1000 100/\sH (FD (ř b) (Ü c.2.2.2.1 c.2.2.1)) 1000 100:=by
 constructor
 ·exact h.rate fun x a=>by
   obtain⟨⟨g,d,_⟩,_⟩:=h.pile e (dU _ (lz.1 a).1);exact⟨g,d⟩
 ·exact h.rate fun x a=>by
   obtain⟨⟨g,d,_⟩,_⟩:=h.pile e (dR _ (lz.1 a).1);exact⟨g,d⟩
def ţ.growth (h:ţ b) {c:Cmp} (e:c∈b.2.2.2.2.1):wB b c=some (ο b c):=by
 obtain⟨r1,r2⟩:=h.rates e;have d:=(ų c).1 (h.nums e);have a:=ő d.2.2.2.2.2.1;have b:=ő d.2.2.2.2.2.2;exact ah6 h.size (by omega) (by omega) r1 r2 d.2.2.2.2.1
def ţ.films (h:ţ b) {c:Cmp} (d:c.2.2.1.length<=1000) (a:c.2.2.2.1.length<=1000):AR b c=some (pn b c):=by
 have:=h.film;exact akY d a (by omega) (by omega) (by omega) (by omega)
def UY {k heat:Int×Int} (a:sH k 200000 10000) (c:kp heat (-10000) 10000=true):sH (UZ k heat).1 2000000000 10000/\sH (UZ k heat).2 2000000000 10000:=by
 simp only[kp,Bool.and_eq_true,decide_eq_true_eq] at c;have r1:=Vb a (n:=heat.1) ⟨by omega,by omega⟩;have r2:=Vb a (n:=heat.2) ⟨by omega,by omega⟩;unfold UZ
 split
 ·exact⟨r2,r1⟩
 ·exact⟨r1,r2⟩
def xO {c:Cmp} (d:c.2.2.1.length<=1000) (a:c.2.2.2.1.length<=1000) (g:0<=b.1.1) (h2:b.1.1<=1000000) (f:0<=b.1.2) (e:b.1.2<=1000000) :
 (-1000000000<=(pn b c).1/\(pn b c).1<=1000000000)/\(-1000000000<=(pn b c).2/\(pn b c).2<=1000000000):=by
 have bd:∀(n:Nat) (x:Int),n<=1000->0<=x->x<=1000000->0<=((n-1:Nat):Int)*x/\((n-1:Nat):Int)*x<=1000000000:=by
  intro n x i h0 h;refine⟨fY (by omega) h0,?_⟩;have:=fI (show((n-1:Nat):Int)<=1000 by omega) h h0 (by omega);omega
 have o:=bd _ _ d g h2;have l:=bd _ _ d f e;have b3:=bd _ _ a g h2;have j:=bd _ _ a f e;unfold pn
 try dsimp only
 omega
def xM {r:Int×Int} (h:sH r 2000000000 10000) : -2000000000<=r.1 / r.2/\r.1 / r.2<=2000000000:=by
 have:=JX (n:=r.1) h.pos;have:=h.num;omega
def B6 {r:Int×Int} (h:sH r 2000000000 10000) : -2000000000<=Sf r/\Sf r<=2000000000:=by
 have:=JX (n:=-r.1) h.pos;have:=h.num;unfold Sf;omega
def ţ.says (h:ţ b) {c:Cmp} (d:c∈b.2.2.2.2.1):BS b c=some (sl b c):=by
 obtain⟨r1,r2⟩:=h.rates d;have a:=(ų c).1 (h.nums d);have ha:=ő a.2.2.2.2.2.1;have hb:=ő a.2.2.2.2.2.2;have l:=h.film;obtain⟨i,g⟩:=UY (MM r1 r2) a.2.2.2.2.1;have n:=xO (b:=b) (c:=c) (by omega) (by omega) (by omega) (by omega) (by omega) (by omega);have f:sH (ο b c).1 2000000000 10000:=i;have e:sH (ο b c).2 2000000000 10000:=g;have r:=B6 f;have o:=xM e;unfold BS ac4 sl;rw[h.growth d,À,h.films (by omega) (by omega),À,alY e.rat,À,anT f.rat,À]
 try dsimp only
 have j:=a.2.2.1;have n4:=a.2.2.2.1;rw[Î (by omega) (by omega),Î (by omega) (by omega),Î (by omega) (by omega),Î (by omega) (by omega),Î (by omega) (by omega),Î (by omega) (by omega)]
end
def ě (l:I0) (f t:Int):Int:=min l.2.1.2 (t-1)-max l.2.1.1 f+1
def Ń (id f t:Int):CK I0->Int
 |[]=>0
 |l::r=>(if l.1=id/\0<ě l f t then ě l f t*l.2.2 else 0)+Ń id f t r
def AI (id f t:Int):∀(x y:CK I0),Ń id f t (x++y)=Ń id f t x+Ń id f t y
 |[],y=>by simp[Ń]
 |l::r,y=>by
  simp only[eJ,Ń,AI id f t r y];omega
def i7 (b:ø) (id f t:Int):CK Int:=(b.2.2.1.filter fun u=>u.1==id&&inP u.2 f (t-1)).map fun u=>u.2
def jk (b:ø) (g:é) (f t:Int):Int:=Ń g.1 f t b.2.2.2.1+(Xl (i7 b g.1 f t)).length*g.2.2.2.2.2
def VX (a c:Int):abf a c=min a c:=by unfold abf; split<;>omega
def ah2 (a c:Int):R0 a c=max a c:=by unfold R0; split<;>omega
def wd {b:ø} (h:ţ b) {l:I0} (c:l∈b.2.2.2.1):(0<=l.2.1.1/\l.2.1.1<=l.2.1.2/\l.2.1.2<=20000)/\(0<=l.2.2/\l.2.2<=1048576):=by
 obtain⟨i,hi,rfl⟩:=List.mem_iff_getElem.1 c;have:=h.loans i _ (List.getElem?_eq_getElem hi);unfold LL at this
 split at this
 ·omega
 rename_i a
 split at this
 ·omega
 rename_i h2;simp only[eR,Bool.not_eq_false,kp,inP,cY,decide_eq_true_eq] at a h2;exact⟨a,h2⟩
def TU {l:I0} (h:(0<=l.2.1.1/\l.2.1.1<=l.2.1.2/\l.2.1.2<=20000)/\(0<=l.2.2/\l.2.2<=1048576)) {f t:Int} (a:0<=f) (hd:0<ě l f t):0<=ě l f t*l.2.2/\ě l f t*l.2.2<=20001*1048576:=by
 refine⟨Int.mul_nonneg (by omega) h.2.1,Int.mul_le_mul ?_ h.2.2 h.2.1 (by omega)⟩;unfold ě;omega
def uN {id f t:Int} (a:0<=f):∀{x:CK I0},(∀l∈x,(0<=l.2.1.1/\l.2.1.1<=l.2.1.2/\l.2.1.2<=20000)/\(0<=l.2.2/\l.2.2<=1048576))->0<=Ń id f t x/\Ń id f t x<=x.length*(20001*1048576)
 |[],_=>by simp[Ń]
 |l::r,h=>by
  have e:=uN (id:=id) (t:=t) a (x:=r) fun l c=>h l (by simp[c]);simp only[Ń,dh,fV,fZ,f9]
  split
  ·rename_i d;have:=TU (h l (by simp)) a d.2;omega
  ·omega
def am6 {b:ø} (h:ţ b) {g:é} (s:0<=g.2.2.2.2.2/\g.2.2.2.2.2<=1048576) {f t:Int} (C:0<=f/\f<=100000) (O:0<=t/\t<=100000):BT b g f t=some (jk b g f t):=by
 have Q:=h.nL;have I:=h.nU
 have d:∀i,0<=Ń g.1 f t (b.2.2.2.1.take i)/\Ń g.1 f t (b.2.2.2.1.take i)<=12*(20001*1048576):=by
  intro i;have e:=uN (id:=g.1) (t:=t) C.1 (x:=b.2.2.2.1.take i) fun l o=>wd h (ft o);have h2:((b.2.2.2.1.take i).length:Int)*(20001*1048576)<=12*(20001*1048576):=fN (by rw[dl]; omega) (by omega);omega
 unfold BT ac6;refine è (fun x:Int×Int=>∃i:Nat,i<=b.2.2.2.1.length/\x=(Ń g.1 f t (b.2.2.2.1.take i),(i:Int))) (fun x=>b.2.2.2.1.length-x.2.toNat) ?_ ⟨0,by omega,rfl⟩;rintro x ⟨i,hi,rfl⟩;rcases Nat.lt_or_ge i b.2.2.2.1.length with a|H
 ·have o:b.2.2.2.1[i]?=some b.2.2.2.1[i]:=cW a;have G:=wd h (de o);refine .inr ⟨(Ń g.1 f t (b.2.2.2.1.take (i+1)),(i:Int)+1),⟨i+1,a,by simp⟩,by simp; omega,fun F=>?_⟩
  try dsimp only
  unfold xy;have E:=d i;have R:=d (i+1)
  have j:Ń g.1 f t (b.2.2.2.1.take (i+1))=Ń g.1 f t (b.2.2.2.1.take i)+(if b.2.2.2.1[i].1=g.1/\0<ě b.2.2.2.1[i] f t then ě b.2.2.2.1[i] f t*b.2.2.2.1[i].2.2 else 0):=by
   rw[take_succ o,AI]; simp[Ń]
  rw[Í a,Æ o,Î (by omega) (by omega),VX,ah2,Î (by omega) (by omega),Î (by omega) (by omega)];rw[show min b.2.2.2.1[i].2.1.2 (t-1)-max b.2.2.2.1[i].2.1.1 f+1=ě b.2.2.2.1[i] f t from rfl,õ]
  by_cases c:b.2.2.2.1[i].1=g.1
  ·rw[if_pos (by simpa[ieq] using c),õ]
   by_cases hd:0<ě b.2.2.2.1[i] f t
   ·have K:=TU G C.1 hd;rw[if_pos ⟨c,hd⟩] at j;rw[if_pos (by simpa[igt] using hd),Î (by omega) (by omega),Î (by omega) (by omega),È a (by omega),j]
   ·rw[if_neg (fun v=>hd v.2)] at j;rw[if_neg (by simpa[igt] using hd),È a (by omega),j,gJ]
  ·rw[if_neg (fun v=>c v.1)] at j;rw[if_neg (by simpa[ieq] using c),È a (by omega),j,gJ]
 ·refine .inl fun F=>?_
  have:i=b.2.2.2.1.length:=by omega
  subst this
  try dsimp only
  unfold xy;rw[Ò,List.take_length]
  have n:∀x:CK (Int×Int),x.length<=40->((x.filter fun u=>u.1==g.1&&inP u.2 f (t-1)).map fun u=>u.2).length<=40:=by
   intro x y;rw[dD];exact dr (dW _ _) y
  refine î b.2.2.1 (fun i=>((b.2.2.1.take i).filter fun u=>u.1==g.1&&inP u.2 f (t-1)).map fun u=>u.2) _ rfl (fun i u hi z r=>?_) (fun r=>?_)
  ·try dsimp only
   unfold xx;have y:=n (b.2.2.1.take i) (by rw[List.length_take]; omega);rw[Í hi,Æ z,Î (by omega) (by omega),iD,À,Ñ (by simp only[List.length_singleton]; omega),Am.iff_true,È hi (by omega),È hi (by omega),take_succ z,List.filter_append,List.map_append]
   cases e:(u.1==g.1) with
   |false =>
    have:ieq u.1 g.1=false:=e;simp only[this,ç,eP,e,Bool.false_and,dq,if_false,d8,fo,dv]
   |true =>
    have:ieq u.1 g.1=true:=e;rw[this]
    cases h2:inP u.2 f (t-1) with
    |false=>simp only[kG,ç,eP,e,h2,eI,dq,if_false,d8,fo,dv]
    |true=>simp only[kG,eP,e,h2,eI,if_true,d8,fo,eX]
  ·try dsimp only
   unfold xx;rw[Ò,List.take_length];rw[show((b.2.2.1.filter fun u=>u.1==g.1&&inP u.2 f (t-1)).map fun u=>u.2)=i7 b g.1 f t from rfl];have J:(i7 b g.1 f t).length<=40:=n _ I
   have D:(Xl (i7 b g.1 f t)).length<=40:=by
    have:=FC (i7 b g.1 f t);omega
   have P:0<=((Xl (i7 b g.1 f t)).length:Int)*g.2.2.2.2.2/\((Xl (i7 b g.1 f t)).length:Int)*g.2.2.2.2.2<=40*1048576 :=
    ⟨fY (by omega) s.1,fI (by omega) s.2 s.1 (by omega)⟩
   have E:=d b.2.2.2.1.length;rw[List.take_length] at E;dsimp only;rw[Ñ (by omega),Am.iff_true,Ñ (by rw[Xf]; omega),Am.iff_true,agv,Ï,Î (by omega) (by omega),Î (by omega) (by omega)];rfl
def ö (b:ø) (g:é):CK Lk :=
 [(0,atP (Ô b) [g.1] g.2.1,g.2.2.1+g.2.2.2.1.2),(atP (Ô b) [g.1] g.2.1,0,-(g.2.2.1+g.2.2.2.1.1))] ++
 (List.range ((Ý b g).length-1)).flatMap fun(k:Nat)=>[(atP (Ô b) [g.1] g.2.1+k,atP (Ô b) [g.1] g.2.1+k+1,0),(atP (Ô b) [g.1] g.2.1+k+1,atP (Ô b) [g.1] g.2.1+k,jk b g ((Ý b g)[k]?.getD 0) ((Ý b g)[k+1]?.getD 0))]
def cx (b:ø) (c:Cmp):Int:=atP (Ô b) (Ü c.2.2.1 c.2.2.2.1) c.2.1
def cy (b:ø) (c:Cmp):Int:=atP (Ô b) (Ü c.2.2.2.1 c.2.2.1) c.2.1
def ľ (b:ø) (c:Cmp):CK Lk:=[(cy b c,cx b c,(sl b c).2),(cx b c,cy b c,-(sl b c).1)]
def Υ (b:ø):CK Lk:=b.2.1.flatMap (ö b)++b.2.2.2.2.1.flatMap (ľ b)
def ē (b:ø) (i:Nat) (g:é):CK (Int×Int):=[(1,(i:Int)),(1,(i:Int))]++(List.range ((Ý b g).length-1)).flatMap fun _=>[(2,(i:Int)),(2,(i:Int))]
def L2 (b:ø):CK (Int×Int):=(b.2.1.mapIdx (ē b)).flatten++(b.2.2.2.2.1.mapIdx fun i _=>[(3,(i:Int)),(3,(i:Int))]).flatten
section
variable {b:ø}
def WZ (h:ţ b) {id day:Int} (a:aar (ř b) id day=0):(0<=day/\day<=20000)/\∃g,ï b id=some g/\g.2.1<=day:=by
 unfold aar at a
 split at a
 ·omega
 ·rename_i hd;simp only[eR,Bool.not_eq_false,BW,inP,cY,decide_eq_true_eq] at hd;exact⟨hd,Jj h a⟩
def Ž {g:é} {d:Int}:d∈Ý b g↔d=g.2.1\/(∃c∈b.2.2.2.2.1,(c.2.2.1.contains g.1)≠(c.2.2.2.1.contains g.1)/\c.2.1=d)\/(∃n∈b.2.2.2.2.2,n.1=g.1/\n.2=d):=by
 unfold Ý;rw[wP,ZN];simp only[List.mem_append,List.mem_singleton,List.mem_map,List.mem_filter];constructor
 ·rintro((h|⟨c,⟨e,h2⟩,a⟩)|⟨n,⟨e,h2⟩,a⟩)
  ·exact .inl h
  ·exact .inr (.inl ⟨c,e,by simpa using h2,a⟩)
  ·exact .inr (.inr ⟨n,e,by simpa using h2,a⟩)
 ·rintro(h|⟨c,e,h2,a⟩|⟨n,e,h2,a⟩)
  ·exact .inl (.inl h)
  ·exact .inl (.inr ⟨c,⟨e,by simpa using h2⟩,a⟩)
  ·exact .inr ⟨n,⟨e,by simpa using h2⟩,a⟩
def ţ.gaugeR (h:ţ b) {g:é} (a:g∈b.2.1):Kj g.2.2.2.2.1=true/\(-1000<=g.2.2.2.2.1.1/\g.2.2.2.2.1.1<=1000)/\g.2.2.2.2.1.2<=100/\(1<=g.1/\g.1<=1099511627776)/\(0<=g.2.1/\g.2.1<=20000)/\(1<=g.2.2.1/\g.2.2.1<=1125899906842624)/\(-1073741824<=g.2.2.2.1.1/\g.2.2.2.1.1<=g.2.2.2.1.2/\g.2.2.2.1.2<=1073741824)/\(0<=g.2.2.2.2.2/\g.2.2.2.2.2<=1048576):=(wo g).1 (h.gauge g a)
def ţ.day (h:ţ b) {g:é} (j:g∈b.2.1) {d:Int} (hd:d∈Ý b g):g.2.1<=d/\0<=d/\d<=20000:=by
 have r:=h.gaugeR j;have a:=rY h.ids j;rcases Ž.1 hd with rfl|⟨c,l,i,rfl⟩|⟨n,f,i,rfl⟩
 ·have:=r.2.2.2.2.1; omega
 ·have f:=(ų c).1 (h.nums l)
  have o:g.1∈c.2.2.1++c.2.2.2.1:=by
   rw[df]
   by_cases h2:g.1∈c.2.2.1
   ·exact .inl h2
   ·refine .inr ?_
    have u:c.2.2.1.contains g.1=false:=by simpa using h2
    rw[u] at i
    have:c.2.2.2.1.contains g.1=true:=by cases v:c.2.2.2.1.contains g.1<;>simp_all
    simpa using this
  obtain⟨⟨g',e,s⟩,_⟩:=h.pile l o;rw[a] at e; cases e;have:=f.2.1;omega
 ·obtain⟨h2,g',e,s⟩:=WZ h (h.looks n f);rw[i,a] at e; cases e;omega
def oz (g:é):g.2.1∈Ý b g:=Ž.2 (.inl rfl)
def IA (h:ţ b) {g:é} (c:g∈b.2.1):(Ý b g).length<=59:=by
 have f:∀l:CK é,g∈l->(Ý b g).length<=(l.flatMap fun g=>(Ý b g).map fun d=>((g.1,d):Int×Int)).length:=by
  intro l
  induction l with
  |nil=>intro c; cases c
  |cons a t e =>
   intro c;rw[dA,cZ,dD];rcases dg.1 c with rfl|c
   ·omega
   ·have:=e c; omega
 have:=f b.2.1 c;have:=h.nodes;unfold Ô at this;omega
def ajs {p:CK Int} {d:Int}:0<=atP (Ô b) p d/\atP (Ô b) p d<=(Ô b).length:=by
 unfold atP
 cases p with
 |nil=>simp
 |cons x t =>
  try dsimp only
  cases h:jb (Ô b) x d with
  |none=>simp
  |some j=>have:=(l8 h).1; dsimp only; omega
def wQ (h:ţ b) {c:Cmp} (d:c∈b.2.2.2.2.1):(-1125904000000000<=(sl b c).1/\(sl b c).1<=1125904000000000)/\(-1125904000000000<=(sl b c).2/\(sl b c).2<=1125904000000000):=by
 obtain⟨r1,r2⟩:=h.rates d;have a:=(ų c).1 (h.nums d);have ha:=ő a.2.2.2.2.2.1;have hb:=ő a.2.2.2.2.2.2;have l:=h.film;obtain⟨i,g⟩:=UY (MM r1 r2) a.2.2.2.2.1;have n:=xO (b:=b) (c:=c) (by omega) (by omega) (by omega) (by omega) (by omega) (by omega);have f:sH (ο b c).1 2000000000 10000:=i;have e:sH (ο b c).2 2000000000 10000:=g;have r:=B6 f;have o:=xM e;have j:=a.2.2.1;have n4:=a.2.2.2.1;unfold sl
 try dsimp only
 omega
def jZ (h:ţ b) {g:é} (d:g∈b.2.1) {f t:Int} (e:0<=f):0<=jk b g f t/\jk b g f t<=12*(20001*1048576)+40*1048576:=by
 have a:=(h.gaugeR d).2.2.2.2.2.2.2;have o:=uN (id:=g.1) (t:=t) e (x:=b.2.2.2.1) fun l c=>wd h c;have h2:(b.2.2.2.1.length:Int)*(20001*1048576)<=12*(20001*1048576):=fN (by have:=h.nL; omega) (by omega)
 have n:(i7 b g.1 f t).length<=40:=by
  unfold i7;rw[List.length_map];exact Nat.le_trans (List.length_filter_le _ _) h.nU
 have j:=FC (i7 b g.1 f t)
 have i:0<=((Xl (i7 b g.1 f t)).length:Int)*g.2.2.2.2.2/\((Xl (i7 b g.1 f t)).length:Int)*g.2.2.2.2.2<=40*1048576 :=
  ⟨fY (by omega) a.1,fI (by omega) a.2 a.1 (by omega)⟩
 unfold jk;omega
end
def jN {α β:Type} (f:Nat->α->β) {l:CK α} {i:Nat} {a:α} (h:l[i]?=some a):(l.take (i+1)).mapIdx f=(l.take i).mapIdx f++[f i a]:=by
 have hi:i<l.length:=(dc.1 h).1
 have:(l.take i).length=i:=by rw[dl]; omega
 rw[take_succ h,List.mapIdx_append];simp[this]
def uY {α:Type} (f:Nat->CK α) (j:Nat):(List.range (j+1)).flatMap f=(List.range j).flatMap f++f j:=by
 rw[fA,eQ]; simp
def i8 {α:Type} (f:Nat->CK α) (n:Nat) (h:∀k,(f k).length=2):((List.range n).flatMap f).length=2*n:=by
 induction n with
 |zero=>rfl
 |succ n a=>rw[uY,cZ,a,h]; omega
set_option maxHeartbeats 2000000 in
def akB {b:ø} (h:ţ b):Ms b=some (b,Ô b,(((Ô b).length:Int)+1,Υ b),L2 b):=by
 unfold Ms ac5;have hN:=h.nodes;have hG:=h.nG;have hC:=h.nC;rw[U7 h.size,À,Ï,Î (by omega) (by omega)]
 -- lengths of what comes
 have T:∀g∈b.2.1,(ö b g).length<=120/\∀i,(ē b i g).length<=120:=by
  intro g a;have:=IA h a;constructor
  ·unfold ö;rw[List.length_append,i8 _ _ (fun _=>rfl)];simp only[List.length_cons,List.length_nil]; omega
  ·intro i;unfold ē;rw[List.length_append,i8 _ _ (fun _=>rfl)];simp only[List.length_cons,List.length_nil]; omega
 have s:∀i,((b.2.1.take i).flatMap (ö b)).length<=1440/\(((b.2.1.take i).mapIdx (ē b)).flatten).length<=1440:=by
  intro i
  induction i with
  |zero=>simp
  |succ i o =>
   have key:∀i,i<=b.2.1.length->((b.2.1.take i).flatMap (ö b)).length<=i*120/\(((b.2.1.take i).mapIdx (ē b)).flatten).length<=i*120:=by
    intro i
    induction i with
    |zero=>intro _; simp
    |succ i o =>
     intro hi;have o:=o (by omega);have a:b.2.1[i]?=some b.2.1[i]:=cW hi;have h2:=T _ (de a);have h3:=h2.2 i;rw[jN _ a,take_succ a,eQ,gS,cZ,cZ];simp only[dA,gg,dv,ij,ir];omega
   rcases dk b.2.1.length (i+1) with G|G
   ·rw[dY (by omega)];have:=key b.2.1.length (cX _);rw[fF] at this;omega
   ·have:=key (i+1) G;omega
 refine î b.2.1 (fun i=>((b.2.1.take i).flatMap (ö b),((b.2.1.take i).mapIdx (ē b)).flatten)) _ rfl (fun i g hi a P=>?_) (fun P=>?_)
 ·try dsimp only
  unfold xw;have e:=List.mem_of_getElem? a;have z:=h.gaugeR e;have hd:=IA h e;have r:=s i;have R:=ajs (b:=b) (p:=[g.1]) (d:=g.2.1);rw[Í hi,Æ a];rw[show qu ((b.1.1,b.1.2),b.2.1,b.2.2.1,b.2.2.2.1,b.2.2.2.2.1,b.2.2.2.2.2) g=qu b g from rfl,ait h.size,À];rw[anG _ _ _ (by dsimp only; omega),À]
  try dsimp only
  have r1:=z.2.2.2.2.2.1;have r2:=z.2.2.2.2.2.2.1;rw[Î (by omega) (by omega),Î (by omega) (by omega),Î (by omega) (by omega),Ñ (by simp only[dh,dN]; omega),Am.iff_true,Ñ (by simp only[dh,dN]; omega),Am.iff_true]
  refine è (fun x:Int×CK Lk×CK (Int×Int)=>∃j:Nat,j+1<=(Ý b g).length/\x.1=(j:Int)+1 /\
   x.2.1=(b.2.1.take i).flatMap (ö b)++([(0,atP (Ô b) [g.1] g.2.1,g.2.2.1+g.2.2.2.1.2),(atP (Ô b) [g.1] g.2.1,0,-(g.2.2.1+g.2.2.2.1.1))] ++
    (List.range j).flatMap fun(k:Nat)=>[(atP (Ô b) [g.1] g.2.1+k,atP (Ô b) [g.1] g.2.1+k+1,0),(atP (Ô b) [g.1] g.2.1+k+1,atP (Ô b) [g.1] g.2.1+k,jk b g ((Ý b g)[k]?.getD 0) ((Ý b g)[k+1]?.getD 0))]) /\
   x.2.2=((b.2.1.take i).mapIdx (ē b)).flatten++([(1,(i:Int)),(1,(i:Int))]++(List.range j).flatMap fun _=>[(2,(i:Int)),(2,(i:Int))])) (fun x=>(Ý b g).length-x.1.toNat) ?_
   ⟨0,gC (oz g),rfl,by simp,by simp⟩
  rintro⟨Z,O,K⟩ ⟨j,hj,J,y,v⟩;dsimp only at J y v ⊢;subst J
  have F:O.length<=1562:=by
   rw[y,cZ,cZ,i8 _ _ (fun _=>rfl)];simp only[dh,dN]; omega
  have E:K.length<=1562:=by
   rw[v,cZ,cZ,i8 _ _ (fun _=>rfl)];simp only[dh,dN]; omega
  rcases dk (j+1) (Ý b g).length with f|Q
  ·refine .inr ⟨((j:Int)+1+1,_,_),⟨j+1,f,by push_cast; rfl,rfl,rfl⟩,by dsimp only; omega,fun l=>?_⟩
   try dsimp only
   unfold xv
   have I:(Ý b g)[j]?=some ((Ý b g)[j]?.getD 0):=by rw[cW (by omega)]; rfl
   have H:(Ý b g)[j+1]?=some ((Ý b g)[j+1]?.getD 0):=by rw[cW f]; rfl
   have V:=h.day e (de I);have d2:=h.day e (de H);have lb:=jZ h e (t:=(Ý b g)[j+1]?.getD 0) V.2.1
   have U:((j:Int)+1)=((j+1:Nat):Int):=by push_cast; rfl
   rw[U,Í f,Î (by omega) (by omega),Î (by omega) (by omega),Î (by omega) (by omega),Î (by omega) (by omega)];rw[show(((j+1:Nat):Int)-1)=((j:Nat):Int) by omega,Æ I,Æ H];rw[show BT ((b.1.1,b.1.2),b.2.1,b.2.2.1,b.2.2.2.1,b.2.2.2.2.1,b.2.2.2.2.2) (g.1,g.2.1,g.2.2.1,(g.2.2.2.1.1,g.2.2.2.1.2),(g.2.2.2.2.1.1,g.2.2.2.2.1.2),g.2.2.2.2.2) ((Ý b g)[j]?.getD 0) ((Ý b g)[j+1]?.getD 0)=BT b g ((Ý b g)[j]?.getD 0) ((Ý b g)[j+1]?.getD 0) from rfl];rw[am6 h z.2.2.2.2.2.2.2 ⟨by omega,by omega⟩ ⟨by omega,by omega⟩,À,Î (by omega) (by omega),Î (by omega) (by omega),Ñ (by simp only[dh,dN]; omega),Am.iff_true,Ñ (by simp only[dh,dN]; omega),Am.iff_true,È f (by omega)];rw[uY,uY,y,v]
   have Y:atP (Ô b) [g.1] g.2.1+((j+1:Nat):Int)-1=atP (Ô b) [g.1] g.2.1+(j:Int):=by push_cast; omega
   have X:atP (Ô b) [g.1] g.2.1+((j+1:Nat):Int)=atP (Ô b) [g.1] g.2.1+(j:Int)+1:=by push_cast; omega
   have a3:0-(0-jk b g ((Ý b g)[j]?.getD 0) ((Ý b g)[j+1]?.getD 0))=jk b g ((Ý b g)[j]?.getD 0) ((Ý b g)[j+1]?.getD 0):=by omega
   rw[Y,X,a3];simp only[dj]
  ·refine .inl fun l=>?_
   have C:j+1=(Ý b g).length:=by omega
   unfold xv;rw[show((j:Int)+1)=(((Ý b g).length:Nat):Int) by rw[<-C]; push_cast; rfl,Ò];dsimp only;rw[È hi (by omega)];rw[jN _ a,take_succ a,List.flatMap_append,List.flatten_append,y,v,show j=(Ý b g).length-1 by omega];simp only[List.flatMap_cons,List.flatMap_nil,List.append_nil,List.flatten_cons,List.flatten_nil];rfl
 ·try dsimp only
  unfold xw;rw[Ò,List.take_length];have r:=s b.2.1.length;rw[List.take_length] at r
  have W:∀i,i<=b.2.2.2.2.1.length->((b.2.2.2.2.1.take i).flatMap (ľ b)).length=2*i/\(((b.2.2.2.2.1.take i).mapIdx fun i _=>[((3:Int),(i:Int)),((3:Int),(i:Int))]).flatten).length=2*i:=by
   intro i
   induction i with
   |zero=>intro _; simp
   |succ i o =>
    intro hi;have o:=o (by omega);have a:b.2.2.2.2.1[i]?=some b.2.2.2.2.1[i]:=cW hi;rw[jN _ a,take_succ a,eQ,gS,cZ,cZ];simp only[dA,gg,dv,ij,ir,ľ,dh,dN];omega
  refine î b.2.2.2.2.1 (fun i=>(b.2.1.flatMap (ö b)++(b.2.2.2.2.1.take i).flatMap (ľ b),(b.2.1.mapIdx (ē b)).flatten++((b.2.2.2.2.1.take i).mapIdx fun i _=>[((3:Int),(i:Int)),((3:Int),(i:Int))]).flatten)) _ (by simp) (fun i c hi u l=>?_) (fun l=>?_)
  ·try dsimp only
   unfold xu;have n:=List.mem_of_getElem? u;have D:=(ų c).1 (h.nums n);have ha:=ő D.2.2.2.2.2.1;have hb:=ő D.2.2.2.2.2.2;have sb:=wQ h n;have c1:=W i (by omega);rw[Í hi,Æ u,AK (by omega) (by omega),À,anG _ _ _ (by dsimp only; omega),À,AK (by omega) (by omega),À,anG _ _ _ (by dsimp only; omega),À];rw[show BS ((b.1.1,b.1.2),b.2.1,b.2.2.1,b.2.2.2.1,b.2.2.2.2.1,b.2.2.2.2.2) c=BS b c from rfl,h.says n,À];rw[Î (by omega) (by omega),Ñ (by simp only[List.length_append,List.length_cons,List.length_nil]; omega),Am.iff_true,Ñ (by simp only[List.length_append,List.length_cons,List.length_nil]; omega),Am.iff_true,È hi (by omega),jN _ u,take_succ u,List.flatMap_append,List.flatten_append];simp only[List.flatMap_cons,List.flatMap_nil,List.append_nil,List.flatten_cons,List.flatten_nil,List.append_assoc,Int.zero_sub];rfl
  ·try dsimp only
   unfold xu;rw[Ò,List.take_length];rfl
section
variable {ρ:Type}
def wv (w:CK Bool) (v:Int):Bool:=w[v.toNat]?.getD false
def abX {w:CK Bool} {u v:Int} (d:0<=u) (c:0<=v) (h:u.toNat<w.length) (y:Bool):wv (w.set u.toNat y) v=if v=u then y else wv w v:=by
 unfold wv;rw[List.getElem?_set]
 by_cases a:v=u
 ·subst a; simp[h]
 ·have:¬u.toNat=v.toNat:=by omega
  simp[a,this]
def lf {x:CK Int} {v:Int} (h:v.toNat<x.length) (f:Int->BY ρ):Į x v.toNat f=f (gv x v):=ž (ado h) f
def U9 {w:CK Bool} {v:Int} (h:v.toNat<w.length) (f:Bool->BY ρ):Į w v.toNat f=f (wv w v):=by
 refine ž ?_ f;unfold wv; rw[List.getElem?_eq_getElem h]; rfl
def ź {v:Int} {n:Nat} (h0:0<=v) (a:v<n) (x:BY ρ):à ((ile 0 v)&&(ilt v (n:Int))) x=x:=by
 have:((ile 0 v)&&(ilt v (n:Int)))=true:=by simp[ile,ilt,h0,a]
 rw[this,Am.iff_true]
end
def rR (n least:Int):CK Lk->CK Int->CK Bool->CK Int->Bool×CK Int×CK Bool×CK Int
 |[],x,w,q=>(true,x,w,q)
 |l::t,x,w,q =>
  if l.1≠n then rR n least t x w q else
  if gv x l.2.1<=gv x n+l.2.2 then rR n least t x w q else
  if gv x n+l.2.2<least then(false,x.set l.2.1.toNat (gv x n+l.2.2),w,q) else
  if wv w l.2.1 then rR n least t (x.set l.2.1.toNat (gv x n+l.2.2)) w q else rR n least t (x.set l.2.1.toNat (gv x n+l.2.2)) (w.set l.2.1.toNat true) (q++[l.2.1])
structure jn (L:CK Lk) (N:Nat) (M:Int):Prop where
 inr:InR L N
 noloop:∀l∈L,l.1≠l.2.1
 most:∀l∈L,-M<=l.2.2/\l.2.2<=M
 len:L.length<=400
 nodes:N<=1000
 m0:0<=M
 m1:M<=4503599627370496
set_option maxHeartbeats 1000000 in
def akP {ρ:Type} {L:CK Lk} {N:Nat} {M:Int} (G:jn L N M) {n least:Int} (R:0<=n/\n<N) {x:CK Int} {w:CK Bool} {q:CK Int} (hx:x.length=N) (hw:w.length=N) (hq:q.length<=1000000)
 (hb : -2305843009213693952<=gv x n/\gv x n<=2305843009213693952) (V:(Val (.pair .bool (.pair (.slice tI) (.pair (.slice .bool) (.slice tI)))))->BY ρ) (U:(Val (.pair (.slice tI) (.pair (.slice .bool) (.slice tI))))->BY ρ) :
 Ê (fun(d:(Val (.pair tI (.pair (.slice tI) (.pair (.slice .bool) (.slice tI)))))) E=>jX [] least n L (Ó L) d.1 d.2.1 d.2.2.1 d.2.2.2 (fun P O K J=>E (P,O,K,J)) V U) ((0:Int),x,w,q) =
  match rR n least L x w q with
  |(true,r)=>U r
  |(false,r)=>V (false,r):=by
 have Y:=G.len
 refine Mg L (fun i (s:CK Int×CK Bool×CK Int) t=>match rR n least t s.1 s.2.1 s.2.2 with|(true,r)=>U r|(false,r)=>V (false,r))
  (fun i s=>s.1.length=N/\s.2.1.length=N/\gv s.1 n=gv x n/\s.2.2.length<=1000000+i) (fun s hs kn=>?_) (fun i l t s hd hi Z hI kn F=>?_) (s:=(x,w,q)) ⟨hx,hw,rfl,by simpa using hq⟩
 ·try dsimp only
  unfold jX;rw[Ò];rfl
 ·obtain⟨y,u,p⟩:=s;obtain⟨H,h2,I,h4⟩:=hI;dsimp only at H h2 I h4 F ⊢;have a:l∈L:=List.mem_of_getElem? Z;have z:=G.inr l a;have hm:=G.most l a;have hm1:=G.m1;have Q:=G.noloop l a;unfold jX;rw[Í hi,Æ Z];unfold rR
  by_cases c:l.1=n
  ·have T:ine l.1 n=false:=by simp[ine,c]
   rw[Ì T];have e1:∀(f:Bool->BY ρ) (g:BY ρ),QH (k:=tI) (v:=.bool) (i:Int) [] f g=g:=fun f g=>rfl;rw[e1,if_neg (by simp[c])]
   have X:n.toNat<y.length:=by omega
   have D:l.2.1.toNat<y.length:=by omega
   have W:l.2.1.toNat<u.length:=by omega
   rw[ź R.1 (by omega),lf X,Î (by omega) (by omega),ź z.2.1 (by omega),lf D,õ]
   by_cases j:gv y l.2.1<=gv y n+l.2.2
   ·rw[if_pos (by simpa[ige] using j),if_pos j,È hi (by omega)];exact F (y,u,p) ⟨H,h2,I,by dsimp only; omega⟩
   ·rw[if_neg (by simpa[ige] using j),if_neg j]
    have o:gv (y.set l.2.1.toNat (gv y n+l.2.2)) n=gv x n:=by
     rw[pN z.2.1 R.1 D,if_neg (fun h=>Q (c.trans h)),I]
    have C:gv (y.set l.2.1.toNat (gv y n+l.2.2)) l.2.1=gv y n+l.2.2:=by
     rw[pN z.2.1 z.2.1 D,if_pos rfl]
    rw[ź R.1 (by omega),lf X,Î (by omega) (by omega),ź z.2.1 (by omega),lf D];rw[show(ì (List.set y l.2.1.toNat (gv y n+l.2.2)))=((y.length:Nat):Int) by simp[ì]];rw[ź z.2.1 (by omega),lf (by simpa using D),C,õ]
    by_cases e:gv y n+l.2.2<least
    ·rw[if_pos (by simpa[ilt] using e),if_pos e]
    ·rw[if_neg (by simpa[ilt] using e),if_neg e,ź z.2.1 (by omega),U9 W,õ]
     cases hwv:wv u l.2.1 with
     |true =>
      rw[if_neg (by simp),if_pos rfl,È hi (by omega)];exact F (y.set l.2.1.toNat (gv y n+l.2.2),u,p) ⟨by simpa using H,h2,o,by dsimp only; omega⟩
     |false =>
      rw[if_pos (by simp),if_neg (by simp),Ñ (by simp only[dS]; omega),Am.iff_true,ź z.2.1 (by omega),U9 W,È hi (by omega)];exact F (y.set l.2.1.toNat (gv y n+l.2.2),u.set l.2.1.toNat true,p++[l.2.1]) ⟨by simpa using H,by simpa using h2,o,by simp only[cZ,dS]; omega⟩
  ·have T:ine l.1 n=true:=by simp[ine,c]
   rw[Ð T,if_pos c,È hi (by omega)];exact F (y,u,p) ⟨H,h2,I,by dsimp only; omega⟩
structure al1 (N:Nat) (n least:Int) (L:CK Lk) (x:CK Int) (q:CK Int) (x':CK Int) (w':CK Bool) (q':CK Int):Prop where
 lx:x'.length=N
 lw:w'.length=N
 same:gv x' n=gv x n
 le:∀v:Int,0<=v->v<N->gv x' v<=gv x v
 link:∀v m,(n,v,m)∈L->gv x' v<=gv x n+m
 chg:∀v:Int,0<=v->v<N->gv x' v=gv x v\/(v∈q'/\gv x' v<gv x v/\∃m,(n,v,m)∈L/\gv x' v=gv x n+m/\least<=gv x' v)
 new:∃l,q'=q++l/\∀v∈l,(0<=v/\v<N)/\gv x' v<gv x v
 nodup:q'.Nodup
 waits:∀v:Int,0<=v->v<N->(wv w' v=true↔v∈q')
def mf {N:Nat} {n least:Int} (P:0<=n/\n<N):∀{L:CK Lk},InR L N->(∀l∈L,l.1≠l.2.1)->∀{x:CK Int} {w:CK Bool} {q:CK Int},x.length=N->w.length=N->q.Nodup->(∀v:Int,0<=v->v<N->(wv w v=true↔v∈q)) ->
 ∀{C:CK Int} {w':CK Bool} {G:CK Int},rR n least L x w q=(true,C,w',G)->al1 N n least L x q C w' G
 |[],_,_,x,w,q,K,H,I,c,C,w',G,h=>by
  cases h;exact⟨K,H,rfl,fun _ _ _=>dT _,fun _ _ h=>(by cases h),fun _ _ _=>.inl rfl,⟨[],by simp,fun _ h=>by cases h⟩,I,c⟩
 |l::t,hL,O,x,w,q,K,H,I,c,C,w',G,h=>by
  have s:InR t N:=fun l hl=>hL l (by simp[hl]);have r:∀l∈t,l.1≠l.2.1:=fun l hl=>O l (by simp[hl]);have d:=hL l (by simp);have hl0:=O l (by simp);unfold rR at h
  split at h
  ·rename_i F;have a:=mf P s r K H I c h
   exact⟨a.lx,a.lw,a.same,a.le,fun v m i=>by
    rcases dg.1 i with rfl|i
    ·exact(F rfl).elim
    ·exact a.link v m i,fun v h0 u=>(a.chg v h0 u).imp id fun⟨z,j,m,T,J⟩=>⟨z,j,m,by simp[T],J⟩,a.new,a.nodup,a.waits⟩
  ·rename_i F
   have R:l.1=n:=by simpa using F
   split at h
   ·rename_i hle;have a:=mf P s r K H I c h
    exact⟨a.lx,a.lw,a.same,a.le,fun v m i=>by
     rcases dg.1 i with rfl|i
     ·have:=a.le v d.2.1 d.2.2; simp only at hle; omega
     ·exact a.link v m i,fun v h0 u=>(a.chg v h0 u).imp id fun⟨z,j,m,T,J⟩=>⟨z,j,m,by simp[T],J⟩,a.new,a.nodup,a.waits⟩
   ·rename_i hgt
    split at h
    ·cases h
    ·rename_i hls
     have tt:l.2.1.toNat<x.length:=by omega
     have tw:l.2.1.toNat<w.length:=by omega
     have hy:(x.set l.2.1.toNat (gv x n+l.2.2)).length=N:=by simpa using K
     have D:gv (x.set l.2.1.toNat (gv x n+l.2.2)) n=gv x n:=by
      rw[pN d.2.1 P.1 tt,if_neg (fun h=>hl0 (R.trans h))]
     have f:∀v,0<=v->gv (x.set l.2.1.toNat (gv x n+l.2.2)) v=if v=l.2.1 then gv x n+l.2.2 else gv x v:=fun v h0=>pN d.2.1 h0 tt _
     have hlm:(n,l.2.1,l.2.2)∈l::t:=by rw[<-R]; simp
     -- what both ways have in common
     have fin:∀{w1:CK Bool} {U:CK Int},al1 N n least t (x.set l.2.1.toNat (gv x n+l.2.2)) U C w' G->l.2.1∈U->(∃V,U=q++V/\∀v∈V,v=l.2.1)->al1 N n least (l::t) x q C w' G:=by
      intro w1 U a Q X;obtain⟨new,y,Y⟩:=a.new;obtain⟨V,hl',hlv⟩:=X
      have W:gv C l.2.1<=gv x n+l.2.2:=by
       have:=a.le l.2.1 d.2.1 d.2.2;rw[f _ d.2.1,if_pos rfl] at this;exact this
      refine⟨a.lx,a.lw,a.same.trans D,fun v h0 u=>?_,fun v m i=>?_,fun v h0 u=>?_,⟨V++new,by rw[y,hl',dj],fun v o=>?_⟩,a.nodup,a.waits⟩
      ·have:=a.le v h0 u;rw[f v h0] at this
       split at this
       ·rename_i e; subst e; omega
       ·exact this
      ·rcases dg.1 i with rfl|i
       ·exact W
       ·have:=a.link v m i
        rwa [D] at this
      ·rcases a.chg v h0 u with g|⟨z,j,m,T,J,g5⟩
       ·rw[f v h0] at g
        split at g
        ·rename_i e;subst e;exact .inr ⟨by rw[y]; exact dU _ Q,by omega,l.2.2,hlm,g,by omega⟩
        ·exact .inl g
       ·rw[f v h0] at j;rw[D] at J;refine .inr ⟨z,?_,m,by simp[T],J,g5⟩
        split at j
        ·rename_i e; subst e; omega
        ·exact j
      ·rcases df.1 o with o|o
       ·rw[hlv v o]; exact⟨d.2,by omega⟩
       ·obtain⟨z,j⟩:=Y v o;rw[f v z.1] at j;refine⟨z,?_⟩
        split at j
        ·rename_i e; subst e; omega
        ·exact j
     split at h
     ·rename_i E;exact fin (w1:=w) (mf P s r hy H I c h) ((c _ d.2.1 d.2.2).1 E) ⟨[],by simp,fun _ h=>by cases h⟩
     ·rename_i E;have Z:l.2.1∉q:=fun hc=>E ((c _ d.2.1 d.2.2).2 hc);refine fin (w1:=w.set l.2.1.toNat true) (mf P s r hy (by simpa using H) ?_ ?_ h) (by simp) ⟨[l.2.1],rfl,fun v o=>by simpa using o⟩
      ·rw[List.nodup_append];exact⟨I,by simp,fun a ha b hb=>by simp at hb; subst hb; exact fun e=>Z (e▸ha)⟩
      ·intro v h0 u;rw[abX d.2.1 h0 tw]
       by_cases o:v=l.2.1
       ·simp[o]
       ·simp only[o,if_false,df,di,or_false];exact c v h0 u
def pk {n least:Int}:∀{L:CK Lk},(∀l∈L,l.1≠l.2.1)->(∀l∈L,0<=l.2.1)->0<=n->∀{x:CK Int} {w:CK Bool} {q:CK Int} {r},rR n least L x w q=(false,r)->∃v m,(n,v,m)∈L/\gv x n+m<least
 |[],_,_,_,x,w,q,r,h=>by cases h
 |l::t,e,h0,g,x,w,q,r,h=>by
  have a:∀l∈t,l.1≠l.2.1:=fun l s=>e l (by simp[s]);have c:∀l∈t,0<=l.2.1:=fun l s=>h0 l (by simp[s]);have f:(∃v m,(n,v,m)∈t/\gv x n+m<least)->∃v m,(n,v,m)∈l::t/\gv x n+m<least:=fun⟨v,m,y,u⟩=>⟨v,m,by simp[y],u⟩;unfold rR at h
  split at h
  ·exact f (pk a c g h)
  ·rename_i i
   have o:l.1=n:=by simpa using i
   split at h
   ·exact f (pk a c g h)
   ·split at h
    ·rename_i j;exact⟨l.2.1,l.2.2,by rw[<-o]; simp,j⟩
    ·have d:gv (x.set l.2.1.toNat (gv x n+l.2.2)) n=gv x n:=by
      unfold gv;rw[List.getElem?_set];have z:=e l (by simp);have h2:=h0 l (by simp)
      have:¬l.2.1.toNat=n.toNat:=by omega
      simp[this]
     split at h
     ·have:=pk a c g h;rw[d] at this;exact f this
     ·have:=pk a c g h;rw[d] at this;exact f this
def acG {ρ:Type} {L:CK Lk} {N:Nat} {M:Int} (i:jn L N M) {n least:Int} (c:0<=n/\n<N) {x:CK Int} {w:CK Bool} {t rest:CK Int} (l:x.length=N) (o:w.length=N) (E:t.length=N) (u:rest.length<=1000000)
 (hb : -2305843009213693952<=gv x n/\gv x n<=2305843009213693952) (s:0<=gv t n/\gv t n<=1000000) (h:CK Int->CK Bool->CK Int->CK Int->BY ρ) (k0:(Val (.pair .bool (.pair (.slice tI) (.pair (.slice .bool) (.pair (.slice tI) (.slice tI))))))->BY ρ) :
 ĭ [] least (N:Int) L x w t (n::rest) h k0 =
  if (N:Int)+1<gv t n+1 then k0 (false,x,w.set n.toNat false,t.set n.toNat (gv t n+1),rest) else
  match rR n least L x (w.set n.toNat false) rest with
  |(true,d,w',g)=>h d w' (t.set n.toNat (gv t n+1)) g
  |(false,d,w',g)=>k0 (false,d,w',t.set n.toNat (gv t n+1),g):=by
 have F:=i.nodes
 have D:n.toNat<x.length:=by omega
 have j:n.toNat<w.length:=by omega
 have e:n.toNat<t.length:=by omega
 unfold ĭ
 have C:ieq (Ó (n::rest)) 0=false:=by
  rw[Ï];simp only[ieq,dh,beq_eq_false_iff_ne,ne_eq];omega
 have z:ilt (0:Int) (ì (n::rest))=true:=by simp[ilt,ì]
 have y:ile (1:Int) (ì (n::rest))=true:=by simp[ile,ì]; omega
 have v:decide (1+(List.length (n::rest)-1)=List.length (n::rest))=true:=by simp; omega
 rw[Ì C,á z];rw[show Į (n::rest) 0=fun(f:Int->BY ρ)=>f n from rfl]
 try dsimp only
 rw[á y,á v,ź c.1 (by omega),U9 j,ź c.1 (by omega),lf e,Î (by omega) (by omega),ź c.1 (by omega),lf e];rw[show(ì (List.set t n.toNat (gv t n+1)))=((t.length:Nat):Int) by simp[ì]];rw[ź c.1 (by omega),lf (by simpa using e),pN c.1 c.1 e,if_pos rfl,Î (by omega) (by omega),õ];rw[show List.drop 1 (n::rest)=rest from rfl]
 by_cases a:(N:Int)+1<gv t n+1
 ·rw[if_pos (by simpa[igt] using a),if_pos a]
 ·rw[if_neg (by simpa[igt] using a),if_neg a];rw[akP i c l (w:=w.set n.toNat false) (by simpa using o) u hb];generalize rR n least L x (w.set n.toNat false) rest=r;obtain⟨b,d,w',g⟩:=r
  cases b<;>rfl
def agS {ρ:Type} {L:CK Lk} {N:Int} {least:Int} {x:CK Int} {w:CK Bool} {t:CK Int} (a:CK Int->CK Bool->CK Int->CK Int->BY ρ) (k0:(Val (.pair .bool (.pair (.slice tI) (.pair (.slice .bool) (.pair (.slice tI) (.slice tI))))))->BY ρ) :
 ĭ [] least N L x w t [] a k0=k0 (true,x,w,t,[]):=by
 unfold ĭ
 have c:ieq (Ó ([]:CK Int)) 0=true:=by rw[Ï]; rfl
 rw[Ð c]
def VO (N:Nat) (t:CK Int):Nat:=(t.map fun a=>((N:Int)+2-a).toNat).sum
def adi (N:Nat):∀(t:CK Int) (i:Nat) (a b:Int),t[i]?=some a->a<b->a<(N:Int)+2->VO N (t.set i b)<VO N t
 |a0::t,0,a,b,h,c,h2=>by
  simp at h; subst h;simp only[VO,List.set_cons_zero,eX,List.sum_cons];omega
 |a0::t,i+1,a,b,h,c,h2=>by
  have:=adi N t i a b (by simpa using h) c h2;simp only[VO] at this;simp only[VO,List.set_cons_succ,eX,List.sum_cons];omega
def Zv {N:Nat} {t:CK Int} {n:Int} (a:n.toNat<t.length) (h:gv t n<=(N:Int)+1):VO N (t.set n.toNat (gv t n+1))<VO N t :=
 adi N t n.toNat (gv t n) _ (ado a) (by omega) (by omega)
structure afU (L:CK Lk) (S:Int->Prop) (N:Nat) (M:Int) (k:Nat) (A B:CK Int) (x:CK Int) (w:CK Bool) (t q:CK Int):Prop where
 q_eq:q=A++B
 lx:x.length=N
 lw:w.length=N
 lt:t.length=N
 nodup:q.Nodup
 rng:∀v∈q,0<=v/\v<N
 waits:∀v:Int,0<=v->v<N->(wv w v=true↔v∈q)
 t0:∀v:Int,0<=v->v<N->0<=gv t v/\gv t v<=(k:Int)+1
 tA:∀v∈A,gv t v<=k
 low:∀vs v d,Wl L S vs v d->vs.length<=k->gv x v<=d
 nxt:∀vs u d,Wl L S vs u d->vs.length<=k->u∉A->∀v m,(u,v,m)∈L->gv x v<=d+m
 rel:∀u:Int,0<=u->u<N->u∉q->gv x u≠Ť->∀v m,(u,v,m)∈L->gv x v<=gv x u+m
 att:∀v:Int,0<=v->v<N->gv x v≠Ť->∃vs,Wl L S vs v (gv x v)
 bd:∀v:Int,0<=v->v<N->gv x v=Ť\/gv x v<=((k:Int)+1)*M
 bA:∀v∈A,gv x v<=(k:Int)*M
 fin:∀v∈q,gv x v<Ť
 kN:k+1<=N
 last:k+1=N->B=[]
section
variable {L:CK Lk} {S:Int->Prop} {N:Nat} {M:Int} {p:Int->Int} {k:Nat} {A B x:CK Int} {w:CK Bool} {t q:CK Int}
def L9 {a b:Nat} {M:Int} (h:a<=b) (c:0<=M):(a:Int)*M<=(b:Int)*M:=fN (by omega) c
def Wl.lt_free (a:jn L N M) (f:N*M<Ť) {vs:CK Int} {v d:Int} (c:Wl L S vs v d) (h:vs.length<=N):d<Ť:=by
 have g:=c.high fun l e=>(a.most l e).2;have h2:=L9 h a.m0;omega
def afU.next (r:jn L N M) (o:N*M<Ť) (C:∀v,S v->0<=v/\v<N) (h:afU L S N M k [] B x w t q) (E:B≠[]):afU L S N M (k+1) B [] x w t q:=by
 have D:=r.m0
 have i:q=B:=by simpa using h.q_eq
 have F:k+1≠N:=fun e=>E (h.last e);have z:=h.kN
 have a:∀vs v d,Wl L S vs v d->vs.length<=k+1->gv x v<=d:=by
  intro vs v d f n
  cases f with
  |nil y=>exact h.low [] v 0 (.nil y) (by simp)
  | @step vs u _ m d f g=>exact h.nxt vs u d f (by simpa using n) (by simp) v m g
 refine⟨by simp[i],h.lx,h.lw,h.lt,h.nodup,h.rng,h.waits,fun v h0 c=>⟨(h.t0 v h0 c).1,by have:=(h.t0 v h0 c).2; push_cast; omega⟩,fun v l=>?_,a,fun vs u d f n s v m g=>?_,h.rel,h.att,fun v h0 c=>?_,fun v l=>?_,h.fin,by omega,fun _=>rfl⟩
 ·have:=h.rng v (by rw[i]; exact l);have:=(h.t0 v this.1 this.2).2;push_cast; omega
 ·have c:=a vs u d f n;have h2:=f.lt_free r o (by omega);have j:=(f.range r.inr C).1;have:=h.rel u j.1 j.2 (by rw[i]; exact s) (by omega) v m g;omega
 ·rcases h.bd v h0 c with h2|h2
  ·exact .inl h2
  ·refine .inr ?_;have:=L9 (show k+1<=k+1+1 by omega) D;push_cast at this ⊢;omega
 ·have c:=h.rng v (by rw[i]; exact l);have h2:=h.fin v (by rw[i]; exact l);rcases h.bd v c.1 c.2 with j|j
  ·omega
  ·push_cast; exact j
def afU.step {n:Int} {K:CK Int} {least:Int} {H:CK Int} {w':CK Bool} {Z:CK Int} (F:jn L N M) (hNM:N*M<Ť) (hp:Pot L p) (hS:∀v,S v->0<=v/\v<N) (h:afU L S N M k (n::K) B x w t q)
 (ha:al1 N n least L x (K++B) H w' Z):∃B',afU L S N M k K B' H w' (t.set n.toNat (gv t n+1)) Z:=by
 have hM:=F.m0
 have y:q=n::(K++B):=by simpa using h.q_eq
 have J:=h.kN;have r:=h.rng n (by rw[y]; simp);have hnf:=h.fin n (by rw[y]; simp)
 have U:n∉K++B:=by have:=h.nodup; rw[y,fB] at this; exact this.1
 have T:n.toNat<t.length:=by have:=h.lt; omega
 have z:∀v,0<=v->gv (t.set n.toNat (gv t n+1)) v=if v=n then gv t n+1 else gv t v:=fun v h0=>pN r.1 h0 T _
 have hkM:((k:Int)+1)*M<Ť:=by
  have:=L9 J hM;push_cast at this;omega
 have G:∀v:Int,0<=v->v<N->gv x v<=Ť:=fun v h0 a=>by rcases h.bd v h0 a with h2|h2<;>omega
 obtain⟨l,P,D⟩:=ha.new
 have C:∀v:Int,0<=v->v<N->gv H v≠Ť->∃vs,Wl L S vs v (gv H v):=by
  intro v h0 a I;rcases ha.chg v h0 a with g|⟨_,_,m,Y,X,_⟩
  ·rw[g] at I ⊢; exact h.att v h0 a I
  ·obtain⟨vs,s⟩:=h.att n r.1 r.2 (by omega);rw[X]; exact⟨_,s.step Y⟩
 refine⟨B++l,by rw[P,dj],ha.lx,ha.lw,by rw[gT]; exact h.lt,ha.nodup,fun v c=>?_,ha.waits,fun v h0 a=>?_,fun v c=>?_,fun vs v d s i=>?_,fun vs u d s i O v m f=>?_,
  fun u h0 a O hf v m f=>?_,C,fun v h0 a=>?_,fun v c=>?_,fun v c=>?_,J,fun hk=>?_⟩
 ·rw[P] at c;rcases df.1 c with c|c
  ·exact h.rng v (by rw[y]; simp only[dg]; exact .inr c)
  ·exact(D v c).1
 ·rw[z v h0];have h2:=h.t0 v h0 a
  split
  ·have h3:=h.tA n (by simp);have h4:=h.t0 n r.1 r.2;omega
  ·exact h2
 ·have a:=h.rng v (by rw[y]; simp[c]);rw[z v a.1,if_neg (fun e=>U (by rw[<-e]; simp[c]))];exact h.tA v (by simp[c])
 ·have a:=h.low vs v d s i;have h2:=(s.range F.inr hS).1;have:=ha.le v h2.1 h2.2;omega
 ·have j:=(F.inr _ f).2
  by_cases o:u=n
  ·subst o;have a:=ha.link v m f;have h2:=h.low vs u d s i;omega
  ·have a:=h.nxt vs u d s i (by simp[o,O]) v m f;have:=ha.le v j.1 j.2;omega
 ·have j:=(F.inr _ f).2
  have V:gv H u=gv x u:=by
   rcases ha.chg u h0 a with g|⟨g,_⟩
   ·exact g
   ·exact(O g).elim
  by_cases o:u=n
  ·subst o;have a:=ha.link v m f;omega
  ·have R:u∉q:=by
    rw[y];intro W;rcases dg.1 W with e|W
    ·exact o e
    ·exact O (by rw[P]; exact dU _ W)
   have h2:=h.rel u h0 a R (by rw[<-V]; exact hf) v m f;have:=ha.le v j.1 j.2;omega
 ·rcases ha.chg v h0 a with g|⟨_,_,m,Y,X,_⟩
  ·rw[g]; exact h.bd v h0 a
  ·have h2:=h.bA n (by simp);have h3:=(F.most _ Y).2;simp only at h3;refine .inr ?_;rw[X,fZ,f9];omega
 ·have a:=h.rng v (by rw[y]; simp[c]);have h2:=h.bA v (by simp[c]);have:=ha.le v a.1 a.2;omega
 ·rw[P] at c;rcases df.1 c with c|c
  ·have a:=h.rng v (by rw[y]; simp only[dg]; exact .inr c);have h2:=h.fin v (by rw[y]; simp only[dg]; exact .inr c);have:=ha.le v a.1 a.2;omega
  ·obtain⟨E,g2⟩:=D v c;have:=G v E.1 E.2;omega
 ·rw[h.last hk]
  cases l with
  |nil=>rfl
  |cons v l =>
   exfalso;obtain⟨E,g2⟩:=D v (by simp);have:=G v E.1 E.2;obtain⟨vs,s⟩:=C v E.1 E.2 (by omega);obtain⟨Q,d',k1,k2,k3⟩:=s.simple hp;have k4:=k1.short F.inr hS k3;have:=h.low Q v d' k1 (by omega);omega
def afU.done (e:jn L N M) (j:N*M<Ť) (y:Pot L p) (l:∀v,S v->0<=v/\v<N) (h:afU L S N M k A B x w t []):afW L S N (gv x):=by
 have i:=h.kN;have C:=e.m0
 have z:((k:Int)+1)*M<Ť:=by
  have:=L9 i C;push_cast at this;omega
 have key:∀vs v d,Wl L S vs v d->vs.length+1<=N->gv x v<=d:=by
  intro vs v d a
  induction a with
  |nil s=>intro _; exact h.low [] _ 0 (.nil s) (by simp)
  | @step vs u v m d a g ih =>
   intro c;simp only[dh] at c;have o:=ih (by omega);have h2:=a.lt_free e j (by omega);have n:=(a.range e.inr l).1;have:=h.rel u n.1 n.2 (by simp) (by omega) v m g;omega
 refine⟨h.att,fun v vs d a=>?_,fun v h0 o=>?_⟩
 ·obtain⟨f,D,k1,E,r⟩:=a.simple y;have:=key f v D k1 (k1.short e.inr l r);omega
 ·rcases h.bd v h0 o with h2|h2<;>omega
def Xd {ρ:Type} {r:BY ρ} (d:jn L N M) (i:N*M<Ť) (z:Pot L p) (O:∀v,S v->0<=v/\v<N) (k0:(Val (.pair .bool (.pair (.slice tI) (.pair (.slice .bool) (.pair (.slice tI) (.slice tI))))))->BY ρ)
 (hK:∀x w t q,x.length=N->afW L S N (gv x)->k0 (true,x,w,t,q)=r) (h:afU L S N M k A B x w t q) :
 Ê (fun(e:(Val (.pair (.slice tI) (.pair (.slice .bool) (.pair (.slice tI) (.slice tI)))))) o=>ĭ [] (mn L) (N:Int) L e.1 e.2.1 e.2.2.1 e.2.2.2 (fun F E D C=>o (F,E,D,C)) k0) (x,w,t,q)=r:=by
 refine è (fun s:CK Int×CK Bool×CK Int×CK Int=>∃k A B,afU L S N M k A B s.1 s.2.1 s.2.2.1 s.2.2.2) (fun s=>VO N s.2.2.1) ?_ ⟨k,A,B,h⟩;rintro⟨x,w,t,q⟩ ⟨k,A,B,h⟩;dsimp only at h ⊢;have hN:=d.nodes
 cases q with
 |nil=>exact .inl fun Z=>by rw[agS]; exact hK x w t [] h.lx (h.done d i z O)
 |cons n rest =>
  -- the phase in which the first one is
  have K:∃k j B,afU L S N M k (n::j) B x w t (n::rest):=by
   cases A with
   |nil =>
    have hB:B=n::rest:=by simpa using h.q_eq.symm
    subst hB;exact⟨k+1,rest,[],h.next d i O (by simp)⟩
   |cons a j =>
    have:=h.q_eq;simp only[eJ,List.cons.injEq] at this;obtain⟨rfl,_⟩:=this;exact⟨k,j,B,h⟩
  clear h k A B;obtain⟨k,j,B,h⟩:=K
  have f:rest=j++B:=by have:=h.q_eq; simpa using this
  have c:=h.rng n (by simp);have hnf:=h.fin n (by simp);have hkN:=h.kN;have V:=h.tA n (by simp);have h2:=h.t0 n c.1 c.2;obtain⟨vs,Q⟩:=h.att n c.1 c.2 (by omega);have T:=Q.low' z
  have R : -(400*4503599627370496)<=mn L:=by
   have:∀y:CK Lk,(∀l∈y,-M<=l.2.2)->-((y.length:Int)*M)<=mn y:=by
    intro y
    induction y with
    |nil=>intro _; simp[mn,Ch]
    |cons l t ih =>
     intro U;have i1:=ih fun l u=>U l (by simp[u]);have i2:=U l (by simp);have i3:=d.m0;unfold mn at i1 ⊢;simp only[Ch,if_true,List.length_cons,Int.natCast_succ,Int.add_mul,Int.one_mul];omega
   have h3:=this L fun l u=>(d.most l u).1;have h4:(L.length:Int)*M<=400*4503599627370496:=fI (by have:=d.len; omega) d.m1 d.m0 (by omega);omega
  have I:rest.length<=1000000:=by
   have:=acp N (n::rest) h.nodup h.rng;simp only[dh] at this;omega
  refine .inr ?_
  have G:(w.set n.toNat false).length=N:=by rw[gT]; exact h.lw
  cases J:rR n (mn L) L x (w.set n.toNat false) rest with
  |mk b X =>
  obtain⟨W,w',Y⟩:=X
  cases b with
  |false =>
   exfalso;obtain⟨v,m,g1,g2⟩:=pk d.noloop (fun l u=>(d.inr l u).2.1) c.1 J;have:=(Q.step g1).low' z;omega
  |true =>
   have g:=h.nodup;rw[fB] at g
   have ha:=mf c d.inr d.noloop h.lx G g.2 (fun v h0 V=>by
    rw[abX c.1 h0 (by have:=h.lw; omega)]
    by_cases H:v=n
    ·subst H; simp[g.1]
    ·rw[if_neg H,h.waits v h0 V]
     simp[H]) J
   rw[f] at ha;obtain⟨B',P⟩:=h.step d i z O ha;refine⟨(W,w',t.set n.toNat (gv t n+1),Y),⟨k,j,B',P⟩,Zv (by have:=h.lt; omega) (by omega),fun Z=>?_⟩;have hF:Ť=1152921504606846976:=rfl
   rw[acG d c h.lx h.lw h.lt I (by constructor<;>omega) (by constructor<;>omega),if_neg (by omega),J]
end
def Np (f:Lk->Bool):∀(L a:CK Lk),Ch f (L++a)=Ch f L+Ch f a
 |[],a=>by simp[Ch]
 |l::t,a=>by
  simp only[eJ,Ch,Np f t a];omega
def Yc {L:CK Lk} {i:Nat} {l:Lk} (h:L[i]?=some l):mn (L.take (i+1))=mn (L.take i)+min l.2.2 0:=by
 rw[take_succ h,mn,mn,Np];simp[Ch]
def imin0 (e:Int):abf e 0=min e 0:=by
 unfold abf
 split<;>omega
def aaN {L:CK Lk} {M:Int} (h:∀l∈L,-M<=l.2.2) (f:0<=M) : -((L.length:Int)*M)<=mn L:=by
 induction L with
 |nil=>simp[mn,Ch]
 |cons l t a =>
  have c:=a fun l d=>h l (by simp[d]);have e:=h l (by simp);unfold mn at c ⊢;simp only[Ch,if_true,List.length_cons,Int.natCast_succ,Int.add_mul,Int.one_mul];omega
def am2 (L:CK Lk):mn L<=0:=nF _ L
section
variable {ρ:Type} {L:CK Lk} {N:Nat} {M:Int}
def adk (e:jn L N M) (k0:Int->BY ρ):Ê (fun(a:bl) c=>iO L (Ó L) a.1 a.2 (fun g f=>c (g,f)) k0) ((0:Int),(0:Int))=k0 (mn L):=by
 refine è (fun x:Int×Int=>∃i:Nat,i<=L.length/\x=(mn (L.take i),(i:Int))) (fun x=>L.length-x.2.toNat) ?_ ⟨0,by omega,rfl⟩;rintro x ⟨i,hi,rfl⟩;have n:=e.len;rcases dk i L.length with h|h
 ·have d:L[i]?=some L[i]:=cW h;refine .inr ⟨(mn (L.take (i+1)),(i:Int)+1),⟨i+1,h,by simp⟩,by simp; omega,fun o=>?_⟩
  try dsimp only
  unfold iO
  have hb:∀j,j<=L.length->-(400*4503599627370496)<=mn (L.take j):=by
   intro j s;have r:=aaN (L:=L.take j) (fun l d=>(e.most l (ft d)).1) e.m0;have h2:((L.take j).length:Int)*M<=400*4503599627370496:=fI (by rw[dl]; omega) e.m1 e.m0 (by omega);omega
  have r:=hb i hi;have h2:=hb (i+1) h;have u:=am2 (L.take i);rw[Yc d] at h2;rw[Í h,Æ d,imin0,Î (by omega) (by omega),È h (by omega),Yc d]
 ·refine .inl fun o=>?_
  have:i=L.length:=by omega
  subst this
  try dsimp only
  unfold iO;rw[Ò,List.take_length]
def ago {x:CK Int} (P:x.length=N) (Q:N<=1000) {r:BY ρ} (k0:(Val (.pair (.slice .bool) (.slice tI)))->BY ρ)
 (K:∀(w:CK Bool) (q:CK Int),w.length=N->q.Nodup->(∀v∈q,0<=v/\v<N)->(∀v:Int,0<=v->v<N->(wv w v=true↔v∈q))->(∀v:Int,0<=v->v<N->(v∈q↔gv x v≠Ť))->k0 (w,q)=r) :
 Ê (fun(g:(Val (.pair tI (.pair (.slice .bool) (.slice tI))))) n=>ŝ (N:Int) x g.1 g.2.1 g.2.2 (fun G F E=>n (G,F,E)) k0) ((0:Int),(List.replicate N false),([]:CK Int))=r:=by
 refine è (fun s:Int×CK Bool×CK Int=>∃i:Nat,i<=N/\s.1=i/\s.2.1.length=N/\s.2.2.Nodup/\s.2.2.length<=i/\(∀v∈s.2.2,0<=v/\v<i)/\(∀v:Int,0<=v->v<N->(wv s.2.1 v=true↔v∈s.2.2))/\(∀v:Int,0<=v->v<i->(v∈s.2.2↔gv x v≠Ť))) (fun s=>N-s.1.toNat) ?_
  ⟨0,by omega,rfl,by simp,by simp,by simp,by simp,fun v h0 d=>?_,fun v h0 d=>by omega⟩
 ·rintro⟨s,w,q⟩ ⟨i,hi,d,h2,D,O,l,C,z⟩;simp only at d h2 D O l C z;subst d;rcases dk i N with h|h
  ·refine .inr ?_
   have f:i<x.length:=by omega
   have j:i<w.length:=by omega
   have o:((i:Int))∉q:=fun J=>by have:=(l _ J).2; omega
   by_cases y:gv x i=Ť
   ·refine⟨((i:Int)+1,w,q),⟨i+1,h,by simp,h2,D,by simp only; omega,fun v c=>⟨(l v c).1,by have:=(l v c).2; push_cast; omega⟩,C,fun v h0 d=>?_⟩,by simp; omega,fun I=>?_⟩
    ·by_cases c:v=i
     ·subst c; simp[y,o]
     ·exact z v h0 (by push_cast at d; omega)
    ·try dsimp only
     unfold ŝ
     have e:ilt (i:Int) (N:Int)=true:=by simp[ilt,h]
     rw[Ð e,Ş f,lf (by simpa using f)]
     have H:ine (gv x i) 1152921504606846976=false:=by simp[ine,y]
     rw[Ì H,È h (by omega)]
   ·refine⟨((i:Int)+1,w.set i true,q++[(i:Int)]),⟨i+1,h,by simp,by simpa using h2,?_,by simp; omega,fun v c=>?_,fun v h0 d=>?_,fun v h0 d=>?_⟩,by simp; omega,fun I=>?_⟩
    ·rw[List.nodup_append];exact⟨D,by simp,fun a ha b hb=>by simp at hb; subst hb; exact fun e=>o (e▸ha)⟩
    ·rcases df.1 c with c|c
     ·exact⟨(l v c).1,by have:=(l v c).2; push_cast; omega⟩
     ·simp at c; subst c; push_cast; omega
    ·have:=abX (w:=w) (u:=(i:Int)) (by omega) h0 (by simpa using j) true;rw[dm] at this;show wv (w.set i true) v=true↔v∈q++[(i:Int)];rw[this]
     by_cases c:v=i
     ·simp[c]
     ·simp only[c,if_false,df,di,or_false];exact C v h0 d
    ·show v∈q++[(i:Int)]↔_
     by_cases c:v=i
     ·subst c; simp[y]
     ·simp only[df,di,c,or_false];exact z v h0 (by push_cast at d; omega)
    ·try dsimp only
     unfold ŝ
     have e:ilt (i:Int) (N:Int)=true:=by simp[ilt,h]
     rw[Ð e,Ş f,lf (by simpa using f)]
     have H:ine (gv x i) 1152921504606846976=true:=by simp[ine,y]
     rw[Ð H,Ñ (by simp only[dS]; omega),Am.iff_true,Ş j,U9 (by simpa using j),È h (by omega),dm]
  ·refine .inl fun I=>?_
   have:i=N:=by omega
   subst this
   try dsimp only
   unfold ŝ
   have e:ilt (i:Int) (i:Int)=false:=by simp[ilt]
   rw[Ì e];exact K w q h2 D l C z
 ·have:wv (List.replicate N false) v=false:=by
   unfold wv;rw[List.getElem?_replicate]
   split<;>rfl
  simp[this]
def Sv (D:jn L N M) (E:1<=N) {S:Int->Bool} (y:∀v,S v=true->0<=v/\v<N) {w:CK Bool} {q:CK Int} (g:w.length=N) (z:q.Nodup) (h:∀v∈q,0<=v/\v<N) (j:∀v:Int,0<=v->v<N->(wv w v=true↔v∈q)) (n:∀v:Int,0<=v->v<N->(v∈q↔gv (iT S N) v≠Ť)) :
 afU L (fun v=>S v=true) N M 0 q [] (iT S N) w (List.replicate N 0) q:=by
 have s:∀v:Int,0<=v->v<N->gv (List.replicate N (0:Int)) v=0:=by
  intro v h0 a;unfold gv;rw[List.getElem?_replicate]
  split<;>rfl
 have i:∀v:Int,0<=v->v<N->(v∈q↔S v=true):=by
  intro v h0 a;rw[n v h0 a,Ν S h0 a]
  cases S v<;>simp[Ť]
 have C:=D.m0;refine⟨by simp,ü S N,g,by simp,z,h,j,fun v h0 a=>?_,fun v e=>?_,fun vs v d g r=>?_,fun vs u d g r l v m o=>?_,fun u h0 a l f v m o=>?_,fun v h0 a f=>?_,fun v h0 a=>?_,fun v e=>?_,fun v e=>?_,by omega,fun _=>rfl⟩
 ·rw[s v h0 a]; omega
 ·have:=h v e;rw[s v this.1 this.2]; omega
 ·cases g with
  |nil c =>
   have:=y v c;rw[Ν S this.1 this.2,if_pos c]; omega
  |step=>simp at r
 ·cases g with
  |nil c =>
   have:=y u c;exact(l ((i u this.1 this.2).2 c)).elim
  |step=>simp at r
 ·rw[Ν S h0 a] at f;have:=mt (i u h0 a).2 l;rw[if_neg this] at f;exact(f rfl).elim
 ·rw[Ν S h0 a] at f ⊢
  split at f
  ·rename_i c;rw[if_pos c]; exact⟨[],.nil c⟩
  ·exact(f rfl).elim
 ·rw[Ν S h0 a]
  split
  ·exact .inr (by simp[C])
  ·exact .inl rfl
 ·have a:=h v e;rw[Ν S a.1 a.2,if_pos ((i v a.1 a.2).1 e)]; simp
 ·have a:=h v e;rw[Ν S a.1 a.2,if_pos ((i v a.1 a.2).1 e)]; simp[Ť]
structure Bad (L:CK Lk) (N:Nat) (x:CK Int) (w:CK Bool) (t q:CK Int):Prop where
 lx:x.length=N
 lw:w.length=N
 lt:t.length=N
 nodup:q.Nodup
 rng:∀v∈q,0<=v/\v<N
 waits:∀v:Int,0<=v->v<N->(wv w v=true↔v∈q)
 t0:∀v:Int,0<=v->v<N->0<=gv t v/\gv t v<=(N:Int)+1
 bd:∀v:Int,0<=v->v<N->-2305843009213693952<=gv x v/\gv x v<=0
 rel:∀u:Int,0<=u->u<N->u∉q->∀v m,(u,v,m)∈L->gv x v<=gv x u+m
def aj8 {r:BY ρ} {x:CK Int} {w:CK Bool} {t q:CK Int} (c:jn L N M) (hp:¬∃p,Pot L p) (k0:(Val (.pair .bool (.pair (.slice tI) (.pair (.slice .bool) (.pair (.slice tI) (.slice tI))))))->BY ρ)
 (Y:∀x w t q,k0 (false,x,w,t,q)=r) (h:Bad L N x w t q) :
 Ê (fun(j:(Val (.pair (.slice tI) (.pair (.slice .bool) (.pair (.slice tI) (.slice tI)))))) D=>ĭ [] (mn L) (N:Int) L j.1 j.2.1 j.2.2.1 j.2.2.2 (fun O K J I=>D (O,K,J,I)) k0) (x,w,t,q)=r:=by
 refine è (fun s:CK Int×CK Bool×CK Int×CK Int=>Bad L N s.1 s.2.1 s.2.2.1 s.2.2.2) (fun s=>VO N s.2.2.1) ?_ h;rintro⟨x,w,t,q⟩ h;dsimp only at h ⊢;have hN:=c.nodes
 cases q with
 |nil =>
  exfalso;exact hp ⟨gv x,fun u v m o=>h.rel u (c.inr _ o).1.1 (c.inr _ o).1.2 (by simp) v m o⟩
 |cons n rest =>
  have a:=h.rng n (by simp);have hb:=h.bd n a.1 a.2;have ht:=h.t0 n a.1 a.2
  have T:rest.length<=1000000:=by
   have:=acp N (n::rest) h.nodup h.rng;simp only[dh] at this;omega
  have f:=fun(H:CK Int->CK Bool->CK Int->CK Int->BY ρ)=>acG (ρ:=ρ) c (least:=mn L) a h.lx h.lw h.lt T ⟨hb.1,by omega⟩ ⟨ht.1,by omega⟩ H k0
  by_cases z:(N:Int)+1<gv t n+1
  ·exact .inl fun H=>by rw[f,if_pos z]; exact Y _ _ _ _
  ·have P:(w.set n.toNat false).length=N:=by rw[gT]; exact h.lw
   cases U:rR n (mn L) L x (w.set n.toNat false) rest with
   |mk b Z =>
   obtain⟨X,w',q'⟩:=Z
   cases b with
   |false=>exact .inl fun H=>by rw[f,if_neg z,U]; exact Y _ _ _ _
   |true =>
    have y:=h.nodup;rw[fB] at y
    have G:n.toNat<t.length:=by have:=h.lt; omega
    have ha:=mf a c.inr c.noloop h.lx P y.2 (fun v h0 i=>by
     rw[abX a.1 h0 (by have:=h.lw; omega)]
     by_cases d:v=n
     ·subst d; simp[y.1]
     ·rw[if_neg d,h.waits v h0 i]
      simp[d]) U
    obtain⟨l,o,V⟩:=ha.new;refine .inr ⟨(X,w',t.set n.toNat (gv t n+1),q'),⟨ha.lx,ha.lw,by rw[gT]; exact h.lt,ha.nodup,fun v d=>?_,ha.waits,fun v h0 i=>?_,fun v h0 i=>?_,fun u h0 i R v m C=>?_⟩,Zv G (by omega),fun H=>by rw[f,if_neg z,U]⟩
    ·dsimp only at d;rw[o] at d;rcases List.mem_append.1 d with d|d
     ·exact h.rng v (by simp[d])
     ·exact(V v d).1
    ·try dsimp only
     rw[pN a.1 h0 G];have:=h.t0 v h0 i
     split<;>omega
    ·try dsimp only
     have h2:=h.bd v h0 i;rcases ha.chg v h0 i with g|⟨_,g2,m,g3,g4,g5⟩
     ·rw[g]; exact h2
     ·have h3:=aaN (L:=L) (fun l o=>(c.most l o).1) c.m0;have h4:(L.length:Int)*M<=400*4503599627370496:=fI (by have:=c.len; omega) c.m1 c.m0 (by omega);omega
    ·dsimp only at R ⊢;have E:=(c.inr _ C).2
     have heq:gv X u=gv x u:=by
      rcases ha.chg u h0 i with g|⟨g,_⟩
      ·exact g
      ·exact(R g).elim
     by_cases F:u=n
     ·subst F;have i:=ha.link v m C;omega
     ·have Q:u∉n::rest:=by
       intro W;rcases dg.1 W with e|W
       ·exact F e
       ·exact R (by rw[o]; exact dU _ W)
      have h2:=h.rel u h0 i Q v m C;have:=ha.le v E.1 E.2;omega
end
def yN (N:Nat) (v:Int):Bool:=decide (0<=v)&&decide (v<(N:Int))
def ajX (s:Int) (v:Int):Bool:=v==s
def Xc (N:Nat):iT (yN N) N=List.replicate N 0:=by
 refine ZB (by simp[ü]) fun v h0 a=>?_;rw[ü] at a;rw[Ν _ h0 a]
 have:yN N v=true:=by simp[yN,h0,a]
 rw[if_pos this];unfold gv;rw[List.getElem?_replicate]
 split<;>rfl
def iW (L:CK Lk) (N:Nat):CK Int:=Ķ L N (iT (yN N) N)
def la (L:CK Lk) (N:Nat):Bool:=decide (iU L (iW L N)=iW L N)
def A7 (L:CK Lk) (N:Nat) (s:Int):CK Int:=Ķ L N (iT (ajX s) N)
section
variable {L:CK Lk} {N:Nat} {M:Int}
def akz (a:jn L N M) (c:N<=200):N*M<Ť:=by
 have:(N:Int)*M<=200*4503599627370496:=Int.mul_le_mul (by omega) a.m1 a.m0 (by omega);unfold Ť;omega
def I4 {p:Int->Int} (a:jn L N M) (e:N<=200) (c:Pot L p):afW L (fun v=>yN N v=true) N (gv (iW L N)) :=
 M7 c a.inr (fun v h=>by simpa[yN] using h) (fun l d=>(a.most l d).2) a.m0 (akz a e) N (by omega)
def Ff {p:Int->Int} (a:jn L N M) (f:N<=200) (d:Pot L p) {s:Int} (c:0<=s/\s<N):afW L (fun v=>ajX s v=true) N (gv (A7 L N s)) :=
 M7 d a.inr (fun v h=>by simp[ajX] at h; subst h; exact c) (fun l e=>(a.most l e).2) a.m0 (akz a f) N (by omega)
def XA:∀{L:CK Lk} {x:CK Int},(∀u v m,(u,v,m)∈L->gv x u<Ť->gv x v<=gv x u+m)->iU L x=x
 |[],x,_=>rfl
 |l::t,x,h=>by
  have d:iF x l=x:=by
   unfold iF
   split
   ·rename_i c;have:=h l.1 l.2.1 l.2.2 (by simp) c.1;omega
   ·rfl
  show iU t (iF x l)=x;rw[d];exact XA fun u v m a=>h u v m (by simp[a])
def mB (a:jn L N M) (i:N<=200):la L N=true↔∃p,Pot L p:=by
 unfold la;rw[decide_eq_true_eq]
 have d:∀v:Int,0<=v->v<N->gv (iW L N) v<=0:=by
  intro v h0 f;have:=FE a.inr N (ü (yN N) N) v h0;rw[Ν _ h0 f,if_pos (by simp[yN,h0,f])] at this;exact this
 constructor
 ·intro h;refine⟨gv (iW L N),fun u v m c=>?_⟩;have e:=(a.inr _ c).1;have:=Jb a.inr (x:=iW L N) (by unfold iW; rw[ņ,ü]) u v m c (by have:=d u e.1 e.2; unfold Ť; omega)
  rwa [h] at this
 ·rintro⟨p,g⟩;have hd:=I4 a i g;exact XA fun u v m c j=>hd.pot a.inr c (by omega)
end
section
variable {ρ:Type} {L:CK Lk} {N:Nat} {M:Int}
def BA (a:N<=1000) (x:BY ρ):à ((ile (0:Int) (N:Int))&&(ã (Int.toNat (N:Int)))) x=x:=by
 rw[dm,Ñ (by omega)]
 have:((ile (0:Int) (N:Int))&&true)=true:=by simp[ile]
 rw[this,Am.iff_true]
def aaD (e:jn L N M) (U:1<=N) (o:N<=200) (k0:(Val (.pair .bool (.pair (.slice tI) (.pair (.slice .bool) (.pair (.slice tI) (.slice tI))))))->BY ρ) {rT rF:BY ρ}
 (R:la L N=true->∀w t q,k0 (true,iW L N,w,t,q)=rT) (T:∀x w t q,k0 (false,x,w,t,q)=rF) :
 (Ê (fun(d:(Val (.pair tI (.pair (.slice .bool) (.slice tI))))) f=>ŝ (N:Int) (List.replicate N (0:Int)) d.1 d.2.1 d.2.2 (fun y s r=>f (y,s,r)) (fun G=>Ê (fun(c:(Val (.pair (.slice tI) (.pair (.slice .bool) (.pair (.slice tI) (.slice tI)))))) g=>ĭ [] (mn L) (N:Int) L c.1 c.2.1 c.2.2.1 c.2.2.2 (fun E D C z=>g (E,D,C,z)) k0) ((List.replicate N (0:Int)),G.1,(List.replicate N (0:Int)),G.2))) ((0:Int),(List.replicate N false),([]:CK Int)))=if la L N then rT else rF:=by
 refine ago (by simp) (by omega) _ fun w q H K J i j=>?_
 try dsimp only
 have O:∀v,yN N v=true->0<=v/\v<N:=fun v h=>by simpa[yN] using h
 by_cases l:la L N=true
 ·rw[if_pos l];obtain⟨p,n⟩:=(mB e o).1 l;have I:=Sv e U O H K J i (fun v a b=>by rw[Xc]; exact j v a b);rw[Xc] at I;refine Xd e (akz e o) n O k0 (fun x w t q P hd=>?_) I
  have:x=iW L N:=by
   refine ZB (by rw[P]; unfold iW; rw[ņ,ü]) fun v a b=>?_;exact hd.uniq (I4 e o n) a (by omega)
  rw[this]; exact R l w t q
 ·rw[if_neg l];refine aj8 e (fun n=>l ((mB e o).2 n)) k0 T ?_
  have F:∀v,gv (List.replicate N (0:Int)) v=0:=by
   intro v;unfold gv;rw[List.getElem?_replicate]
   split<;>rfl
  refine⟨by simp,H,by simp,K,J,i,fun v a b=>?_,fun v a b=>?_,fun u a b Q v m V=>?_⟩
  ·rw[F]; omega
  ·rw[F]; omega
  ·exact(Q ((j u a b).2 (by rw[F]; unfold Ť; omega))).elim
end
def shift_ok {ρ:Type} {x:CK Int} (f:Int) (s:x.length<=1000) (u : -2305843009213693952<=f/\f<=2305843009213693952) (hb:∀a∈x,-2305843009213693952<=a/\a<=2305843009213693952) (k0:CK Int->BY ρ) :
 Ê (fun(d:pc) e=>jW f (Ó x) d.1 d.2 (fun j h=>e (j,h)) k0) ((0:Int),x)=k0 (x.map fun a=>a-f):=by
 refine î x (fun i=>(x.take i).map (fun a=>a-f)++x.drop i) _ (by simp) (fun i a hi ha n=>?_) (fun n=>?_)
 ·try dsimp only
  unfold jW
  have l:((x.take i).map (fun a=>a-f)++x.drop i).length=x.length:=by simp; omega
  have c:((x.take i).map (fun a=>a-f)++x.drop i)[i]?=some a:=by
   rw[f8 (by simp; omega)];simp only[dD,dl,eS];rw[<-ha]; congr 1; omega
  have g:i<((x.take i).map (fun a=>a-f)++x.drop i).length:=by omega
  have o:=hb a (de ha);rw[Í hi,Ş g,ă c,Î (by omega) (by omega),Ş g,ă c,È hi (by omega),dm,take_succ ha];congr 2;rw[dV hi,fk,dj,gH _ _ (by simp; omega)]
  have:i-(List.map (fun a=>a-f) (List.take i x)).length=0:=by simp; omega
  rw[this]
  have r:x[i]=a:=by rw[cW hi] at ha; simpa using ha
  simp[r]
 ·try dsimp only
  unfold jW;rw[Ò];simp
section
variable {L:CK Lk} {N:Nat} {M:Int}
def aka (c:jn L N M) (h:N<=200) (n:la L N=true):∀a∈iW L N,-2305843009213693952<=a/\a<=0:=by
 obtain⟨p,e⟩:=(mB c h).1 n;have hd:=I4 c h e;intro a ha;obtain⟨i,hi,rfl⟩:=dp.1 ha
 have f:(iW L N).length=N:=by unfold iW; rw[ņ,ü]
 have h0:gv (iW L N) i=(iW L N)[i]:=by unfold gv; simp[hi]
 have d:=FE c.inr N (ü (yN N) N) (i:Int) (by omega);rw[Ν _ (by omega) (by omega),if_pos (by simp[yN]; omega)] at d;have g:gv (iW L N) i<=0:=d;obtain⟨vs,j⟩:=hd.att i (by omega) (by omega) (by unfold Ť; omega);have u:=j.low' e;have s:=aaN (L:=L) (fun l o=>(c.most l o).1) c.m0;have r:(L.length:Int)*M<=400*4503599627370496:=Int.mul_le_mul (by have:=c.len; omega) c.m1 c.m0 (by omega);omega
def solP (L:CK Lk) (N:Nat):CK Int:=(iW L N).map fun a=>a-gv (iW L N) 0
def wN (c:jn L N M) (i:1<=N) (f:N<=200):mg ((N:Int),L) []=some (if la L N then(solP L N,true) else([],false)):=by
 unfold mg Aq
 try dsimp only
 rw[BA (by omega),BA (by omega),BA (by omega),dm];refine d9 (adk c _) ?_;refine d9 (aaD c i f _ (rT:=some (solP L N,true)) (rF:=some ([],false)) (fun g w t q=>?_) (fun x w t q=>?_)) ?_
 ·try dsimp only
  have d:(iW L N).length=N:=by unfold iW; rw[ņ,ü]
  have hb:=aka c f g;have h0:ilt (0:Int) (ì (iW L N))=true:=decide_eq_true (show(0:Int)<((iW L N).length:Int) by omega);have e:(iW L N)[0]?=some (gv (iW L N) 0):=ado (v:=0) (show 0<_ by omega);have h:=hb _ (de e);rw[show(!true)=false from rfl,ç,á h0,ž e];exact shift_ok _ (by omega) ⟨h.1,by omega⟩ (fun a ha=>⟨(hb a ha).1,by have:=(hb a ha).2; omega⟩) _
 ·rfl
 ·cases la L N<;>rfl
structure km (L:CK Lk) (N:Nat):Prop where
 n1:1<=N
 n60:N<=60
 len:L.length<=300
 inr:InR L N
 noloop:∀l∈L,l.1≠l.2.1
 most:∀l∈L,-4503599627370496<=l.2.2/\l.2.2<=4503599627370496
def km.links (h:km L N):jn L N 4503599627370496 :=
 ⟨h.inr,h.noloop,h.most,by have:=h.len; omega,by have:=h.n60; omega,by omega,by omega⟩
def aaM (n:Int) (L:CK Lk) (v:Int):BQ (n,L) v=some (decide (0<=v)&&decide (v<n)):=by
 unfold BQ ac1 ige
 by_cases h:0<=v
 ·have:decide (v>=0)=true:=by simpa using h
  rw[Ð this]; simp[h]
 ·have:decide (v>=0)=false:=by simpa using h
  rw[Ì this]; simp[h]
def nh (h:km L N):se ((N:Int),L)=some (0,-1):=by
 have o:=h.n1;have h2:=h.n60;have n:=h.len;unfold se Y8
 try dsimp only
 rw[Ì (by simp[ilt]; omega),Ì (by simp[igt]; omega),Ì (by rw[Ï]; simp[igt]; omega)];refine d9 (jw L (fun _=>false) (fun i=>some (1,i)) (some (0,-1)) (fun i l hi e f=>?_) (fun f=>?_)) ?_
 ·try dsimp only
  unfold ud;have d:=List.mem_of_getElem? e;have a:=h.inr l d;have b:=h.noloop l d;have c:=h.most l d
  have j:(decide (0<=l.1)&&decide (l.1<(N:Int)))=true:=by simp[a.1.1,a.1.2]
  have g:(decide (0<=l.2.1)&&decide (l.2.1<(N:Int)))=true:=by simp[a.2.1,a.2.2]
  rw[Í hi,Æ e,aaM,À,j,aaM,À,g];simp only[dP,ç,dq,if_false];rw[Ì (by simp[ieq,b]),Ì (by simp[ilt]; omega),Ì (by simp[igt]; omega),È hi (by omega)]
 ·try dsimp only
  unfold ud;rw[Ò]
 ·rw[eE.2 (by simp)]
def xI {ρ:Type} {x:CK Int} {v:Int} (h0:0<=v) (h:v.toNat<x.length) (f:Int->BY ρ):ð x v f=f (gv x v):=by
 obtain⟨i,rfl⟩:=Int.eq_ofNat_of_zero_le h0;exact Æ (ado h) f
end
section
variable {b:ø}
def si (b:ø) (g:é):(Ý b g).Pairwise (·<·):=Ed _
def P7 (h:ţ b) {g:é} (i:g∈b.2.1):∃t,Ý b g=g.2.1::t:=by
 have c:=si b g;have h2:=oz (b:=b) g;have f:∀d∈Ý b g,g.2.1<=d:=fun d hd=>(h.day i hd).1
 cases hd:Ý b g with
 |nil=>rw[hd] at h2; cases h2
 |cons a t =>
  rw[hd] at c h2 f;rw[dI] at c;rcases dg.1 h2 with e|e
  ·exact⟨t,by rw[e]⟩
  ·have:=c.1 _ e;have:=f a (by simp);omega
def off (b:ø) (i:Nat):Nat:=((b.2.1.take i).flatMap fun g=>(Ý b g).map fun d=>((g.1,d):Int×Int)).length
def Ek {i:Nat} {g:é} (a:b.2.1[i]?=some g):Ô b=((b.2.1.take i).flatMap fun g=>(Ý b g).map fun d=>((g.1,d):Int×Int))++(((Ý b g).map fun d=>((g.1,d):Int×Int))++((b.2.1.drop (i+1)).flatMap fun g=>(Ý b g).map fun d=>((g.1,d):Int×Int))):=by
 obtain⟨hi,rfl⟩:=dc.1 a
 have c:b.2.1=b.2.1.take i++(b.2.1[i]::b.2.1.drop (i+1)):=by
  rw[<-dV hi,eA]
 unfold Ô
 conv=>lhs; rw[c]
 rw[eQ,dA]
def U8 (h:ţ b) {i:Nat} {g:é} (r:b.2.1[i]?=some g) {k:Nat} {d:Int} (s:(Ý b g)[k]?=some d):jb (Ô b) g.1 d=some (off b i+k):=by
 obtain⟨hi,l⟩:=List.getElem?_eq_some_iff.1 r;obtain⟨a,c⟩:=List.getElem?_eq_some_iff.1 s;unfold jb;rw[Ek r,List.findIdx?_append,List.findIdx?_append]
 have u:List.findIdx? (fun n:Int×Int=>decide (g.1=n.1)&&decide (d=n.2)) ((b.2.1.take i).flatMap fun g=>(Ý b g).map fun d=>((g.1,d):Int×Int))=none:=by
  rw[eE];intro x e;obtain⟨g',o,e⟩:=dB.1 e;obtain⟨v,_,rfl⟩:=dz.1 e;obtain⟨j,f,rfl⟩:=dp.1 o;rw[dl] at f;rw[fh];have:=(dM.1 h.ids) j i (by omega) hi (by omega);rw[l] at this;simp only[Bool.and_eq_false_iff,decide_eq_false_iff_not];exact .inl (by omega)
 have h2:List.findIdx? (fun n:Int×Int=>decide (g.1=n.1)&&decide (d=n.2)) ((Ý b g).map fun d=>((g.1,d):Int×Int))=some k:=by
  rw[dQ];refine⟨by simpa using a,by simp[c],fun j f=>?_⟩;have:=(dM.1 (si b g)) j k (by omega) a f;rw[c] at this;simp only[List.getElem_map,cY,decide_eq_true_eq,not_and];intro _;omega
 rw[u,h2];simp only[Option.map_some,Option.some_or,Option.none_or];unfold off;congr 1;omega
def L8 {i:Nat} {g:é} (f:b.2.1[i]?=some g) {k:Nat} {d:Int} (a:(Ý b g)[k]?=some d):(Ô b)[off b i+k]?=some (g.1,d):=by
 obtain⟨c,e⟩:=List.getElem?_eq_some_iff.1 a;rw[Ek f,List.getElem?_append_right (by unfold off; omega),List.getElem?_append_left (by unfold off; simp; omega)];unfold off;simp[a]
def adX (h:ţ b) {i:Nat} {g:é} (a:b.2.1[i]?=some g):atP (Ô b) [g.1] g.2.1=(off b i:Int)+1:=by
 obtain⟨t,c⟩:=P7 h (List.mem_of_getElem? a);have:=U8 h a (k:=0) (d:=g.2.1) (by rw[c]; rfl);unfold atP;simp only[this];rfl
def ag1 (h:ţ b) {i:Nat} {g:é} (a:b.2.1[i]?=some g):off b i+(Ý b g).length<=(Ô b).length:=by
 rw[Ek a];unfold off;simp only[List.length_append,List.length_map];omega
def akv {i:Nat} {g:é} (a:b.2.1[i]?=some g):off b (i+1)=off b i+(Ý b g).length:=by
 unfold off;rw[take_succ a,List.flatMap_append];simp
def Ya (h:ţ b) {c:Cmp} (u:c∈b.2.2.2.2.1) {x:Int} (s:(x∈c.2.2.1/\x∉c.2.2.2.1)\/(x∈c.2.2.2.1/\x∉c.2.2.1)):∃j,jb (Ô b) x c.2.1=some j:=by
 have v:x∈c.2.2.1++c.2.2.2.1:=by rw[df]; exact s.imp (·.1) (·.1)
 obtain⟨⟨g,z,_⟩,_⟩:=h.pile u v;obtain⟨f,a⟩:=iZ z;obtain⟨i,hi,l⟩:=dp.1 f
 have hd:c.2.1∈Ý b g:=Ž.2 (.inr (.inl ⟨c,u,by
  rw[a];rcases s with⟨n,h2⟩|⟨n,h2⟩
  ·have r:c.2.2.1.contains x=true:=by simpa using n
   have o:c.2.2.2.1.contains x=false:=by simpa using h2
   rw[r,o]; simp
  ·have r:c.2.2.2.1.contains x=true:=by simpa using n
   have o:c.2.2.1.contains x=false:=by simpa using h2
   rw[r,o]; simp,rfl⟩))
 obtain⟨k,y,e⟩:=dp.1 hd;have:=U8 h (g:=g) (i:=i) (by rw[cW hi,l]) (k:=k) (d:=c.2.1) (by rw[cW y,e]);rw[a] at this;exact⟨_,this⟩
inductive afS (b:ø) (p:List Int) (d:Int) (n:Int):Prop
 |none:p=[]->n=0->afS b p d n
 |one (x:Int) (j:Nat):p=[x]->jb (Ô b) x d=some j->n=(j:Int)+1->afS b p d n
def aiw (h:ţ b) {c:Cmp} (f:c∈b.2.2.2.2.1):afS b (Ü c.2.2.1 c.2.2.2.1) c.2.1 (cx b c):=by
 have d:=(h.lefts f).1
 cases a:Ü c.2.2.1 c.2.2.2.1 with
 |nil=>exact .none rfl (by unfold cx atP; rw[a])
 |cons x t =>
  rw[a] at d
  have:t=[]:=by cases t with|nil=>rfl|cons=>simp at d
  subst this;obtain⟨j,e⟩:=Ya h f (x:=x) (.inl (lz.1 (by rw[a]; simp)));exact .one x j rfl e (by unfold cx atP; rw[a]; simp only[e])
def abu (h:ţ b) {c:Cmp} (f:c∈b.2.2.2.2.1):afS b (Ü c.2.2.2.1 c.2.2.1) c.2.1 (cy b c):=by
 have d:=(h.lefts f).2.1
 cases a:Ü c.2.2.2.1 c.2.2.1 with
 |nil=>exact .none rfl (by unfold cy atP; rw[a])
 |cons x t =>
  rw[a] at d
  have:t=[]:=by cases t with|nil=>rfl|cons=>simp at d
  subst this;obtain⟨j,e⟩:=Ya h f (x:=x) (.inr (lz.1 (by rw[a]; simp)));exact .one x j rfl e (by unfold cy atP; rw[a]; simp only[e])
def afS.rng {p:CK Int} {d n:Int} (h:afS b p d n):0<=n/\n<((Ô b).length+1:Nat):=by
 rcases h with⟨_,h⟩|⟨x,j,_,a,h2⟩
 ·omega
 ·have:=(l8 a).1;omega
def ala (h:ţ b) {c:Cmp} (d:c∈b.2.2.2.2.1):cx b c≠cy b c:=by
 have l:=(h.lefts d).2.2;rcases aiw h d with⟨g,h2⟩|⟨x,j,g,h2,s⟩
 ·rcases abu h d with⟨a,f⟩|⟨y,k,a,f,o⟩
  ·rw[g,a] at l; simp at l
  ·omega
 ·rcases abu h d with⟨a,f⟩|⟨y,k,a,f,o⟩
  ·omega
  ·intro e
   have:j=k:=by omega
   subst this;have r:=(l8 h2).2;have i:=(l8 f).2;rw[r] at i;simp only[Option.some.injEq,Prod.mk.injEq] at i
   have m1:x∈Ü c.2.2.1 c.2.2.2.1:=by rw[g]; simp
   have n:y∈Ü c.2.2.2.1 c.2.2.1:=by rw[a]; simp
   rw[i.1] at m1;exact(lz.1 m1).2 (lz.1 n).1
def Zs (h:ţ b):(Υ b).length=2*(Ô b).length+2*b.2.2.2.2.1.length:=by
 have i:∀l:CK é,(∀g∈l,g∈b.2.1)->(l.flatMap (ö b)).length=2*(l.flatMap fun g=>(Ý b g).map fun d=>((g.1,d):Int×Int)).length:=by
  intro l
  induction l with
  |nil=>intro _; rfl
  |cons g t a =>
   intro e;have:=a fun g f=>e g (by simp[f]);have j:=List.length_pos_of_mem (oz (b:=b) g);simp only[List.flatMap_cons,List.length_append,List.length_map,this];unfold ö;rw[List.length_append,i8 _ _ (fun _=>rfl)];simp only[List.length_cons,List.length_nil];omega
 have h2:∀l:CK Cmp,(l.flatMap (ľ b)).length=2*l.length:=by
  intro l
  induction l with
  |nil=>rfl
  |cons c t a =>
   simp only[dA,cZ,a,ľ,dh,dN];omega
 unfold Υ;rw[List.length_append,i _ fun _ h=>h,h2];rfl
def Ņ (h:ţ b) {i:Nat} {g:é} (n:b.2.1[i]?=some g) {l:Lk}:l∈ö b g ↔
 l=(0,(off b i:Int)+1,g.2.2.1+g.2.2.2.1.2)\/l=((off b i:Int)+1,0,-(g.2.2.1+g.2.2.2.1.1)) \/
 ∃(k:Nat) (d e:Int),(Ý b g)[k]?=some d/\(Ý b g)[k+1]?=some e/\(l=((off b i:Int)+k+1,(off b i:Int)+k+2,0)\/l=((off b i:Int)+k+2,(off b i:Int)+k+1,jk b g d e)):=by
 unfold ö;rw[adX h n];simp only[List.mem_append,List.mem_cons,List.not_mem_nil,or_false,List.mem_flatMap,List.mem_range];constructor
 ·rintro((a|a)|⟨k,o,a⟩)
  ·exact .inl a
  ·exact .inr (.inl a)
  ·refine .inr (.inr ⟨k,(Ý b g)[k],(Ý b g)[k+1],cW (by omega),cW (by omega),?_⟩);rw[cW (show k<(Ý b g).length by omega),cW (show k+1<(Ý b g).length by omega)] at a;simp only[fU] at a
   have f:(off b i:Int)+1+k=(off b i:Int)+k+1:=by omega
   have c:(off b i:Int)+k+1+1=(off b i:Int)+k+2:=by omega
   rw[f,c] at a;exact a
 ·rintro(a|a|⟨k,d,e,hd,j,a⟩)
  ·exact .inl (.inl a)
  ·exact .inl (.inr a)
  ·obtain⟨h2,rfl⟩:=dc.1 hd;obtain⟨r,rfl⟩:=dc.1 j;refine .inr ⟨k,by omega,?_⟩;rw[hd,j];simp only[fU]
   have f:(off b i:Int)+1+k=(off b i:Int)+k+1:=by omega
   have c:(off b i:Int)+k+1+1=(off b i:Int)+k+2:=by omega
   rw[f,c];exact a
def qI {l:Lk}:l∈Υ b↔(∃(i:Nat) (g:é),b.2.1[i]?=some g/\l∈ö b g)\/∃c∈b.2.2.2.2.1,l=(cy b c,cx b c,(sl b c).2)\/l=(cx b c,cy b c,-(sl b c).1):=by
 unfold Υ;simp only[List.mem_append,List.mem_flatMap,ľ,List.mem_cons,List.not_mem_nil,or_false];constructor
 ·rintro(⟨g,a,h⟩|h)
  ·obtain⟨i,hi,rfl⟩:=dp.1 a;exact .inl ⟨i,_,cW hi,h⟩
  ·exact .inr h
 ·rintro(⟨i,g,a,h⟩|h)
  ·exact .inl ⟨g,de a,h⟩
  ·exact .inr h
def ţ.sys (h:ţ b):km (Υ b) ((Ô b).length+1):=by
 have F:=h.nodes;have G:=h.links
 have key:∀l∈Υ b,((0<=l.1/\l.1<((Ô b).length+1:Nat))/\(0<=l.2.1/\l.2.1<((Ô b).length+1:Nat)))/\l.1≠l.2.1/\(-4503599627370496<=l.2.2/\l.2.2<=4503599627370496):=by
  intro l f;rcases qI.1 f with⟨i,g,o,f⟩|⟨c,n,f⟩
  ·have j:=de o;have r:=h.gaugeR j;have E:=ag1 h o;have D:=gC (oz (b:=b) g);have r1:=r.2.2.2.2.2.1;have r2:=r.2.2.2.2.2.2.1;rcases(Ņ h o).1 f with rfl|rfl|⟨k,d,e,hd,s,u⟩
   ·dsimp only; omega
   ·dsimp only; omega
   ·obtain⟨h2,_⟩:=dc.1 s;have v:=h.day j (de hd);have C:=jZ h j (t:=e) v.2.1;rcases u with rfl|rfl
    ·dsimp only; omega
    ·dsimp only; omega
  ·have a:=(aiw h n).rng;have H:=(abu h n).rng;have z:=ala h n;have y:=wQ h n;rcases f with rfl|rfl
   ·dsimp only; omega
   ·dsimp only; omega
 exact⟨by omega,by omega,by rw[Zs h]; omega,fun l f=>(key l f).1,fun l f=>(key l f).2.1,fun l f=>(key l f).2.2⟩
end
def KS (b:ø) (id day:Int):Bool:=b.2.2.1.any fun u=>u.1==id&&u.2==day
def abt (b:ø) (g:é) (d:Int):Int:=match Ř b g.1 d with|some l=>l.2.2|none=>if KS b g.1 d then g.2.2.2.2.2 else 0
def ahJ (l:I0) (id:Int) {f t:Int} (n:f<=t):(if l.1=id/\0<ě l f (t+1) then ě l f (t+1)*l.2.2 else 0)=(if l.1=id/\0<ě l f t then ě l f t*l.2.2 else 0)+(if l.1=id/\l.2.1.1<=t/\t<=l.2.1.2 then l.2.2 else 0):=by
 by_cases a:l.1=id
 ·by_cases d:l.2.1.1<=t/\t<=l.2.1.2
  ·have e:ě l f (t+1)=ě l f t+1:=by unfold ě; omega
   have p:0<=ě l f t:=by unfold ě; omega
   rw[e,if_pos ⟨a,by omega⟩,if_pos (show l.1=id/\l.2.1.1<=t/\t<=l.2.1.2 from⟨a,d⟩),fZ,f9]
   by_cases c:0<ě l f t
   ·rw[if_pos ⟨a,c⟩]
   ·rw[if_neg (fun h=>c h.2)]
    have:ě l f t=0:=by omega
    rw[this];omega
  ·rw[if_neg (show ¬(l.1=id/\l.2.1.1<=t/\t<=l.2.1.2) from fun h=>d h.2),gJ]
   by_cases j:l.2.1.1<=t
   ·have e:ě l f (t+1)=ě l f t:=by unfold ě; omega
    rw[e]
   ·have i:¬0<ě l f (t+1):=by unfold ě; omega
    have g:¬0<ě l f t:=by unfold ě; omega
    rw[if_neg (fun h=>i h.2),if_neg (fun h=>g h.2)]
 ·rw[if_neg (fun h=>a h.1),if_neg (fun h=>a h.1),if_neg (fun h=>a h.1)];rfl
def TT (id:Int) {f t:Int} (g:f<=t):∀{x:CK I0},x.Pairwise (fun a c=>¬(a.1=c.1/\a.2.1.1<=c.2.1.2/\c.2.1.1<=a.2.1.2)) ->
 Ń id f (t+1) x=Ń id f t x+(match x.find? (fun l=>l.1==id&&inP t l.2.1.1 l.2.1.2) with|some l=>l.2.2|none=>0)
 |[],_=>rfl
 |l::r,j=>by
  rw[dI] at j;have n:=TT id g j.2;simp only[Ń];rw[n,ahJ l id g,f6]
  by_cases d:l.1=id/\l.2.1.1<=t/\t<=l.2.1.2
  ·have e:(l.1==id&&inP t l.2.1.1 l.2.1.2)=true:=by simp[inP,d.1,d.2.1,d.2.2]
   have o:r.find? (fun l=>l.1==id&&inP t l.2.1.1 l.2.1.2)=none:=by
    rw[eo];intro c s i;simp only[inP,cY,beq_iff_eq,decide_eq_true_eq] at i;exact j.1 c s ⟨by rw[d.1,i.1],by omega,by omega⟩
   rw[if_pos d,e,o];simp only;omega
  ·have e:(l.1==id&&inP t l.2.1.1 l.2.1.2)=false:=by
    rw[eM];intro h;simp only[inP,cY,beq_iff_eq,decide_eq_true_eq] at h;exact d h
   rw[if_neg d,e];simp only;omega
section
variable {b:ø}
def ţ.apart (h:ţ b):b.2.2.2.1.Pairwise (fun a c=>¬(a.1=c.1/\a.2.1.1<=c.2.1.2/\c.2.1.1<=a.2.1.2)):=by
 rw[List.pairwise_iff_getElem];intro i j hi f g ⟨n,h2,l⟩;have e:=h.loans j _ (List.getElem?_eq_getElem f);unfold LL at e
 have d:(b.2.2.2.1.take j).any (fun x=>x.1==b.2.2.2.1[j].1&&(decide (x.2.1.1<=b.2.2.2.1[j].2.1.2)&&decide (b.2.2.2.1[j].2.1.1<=x.2.1.2)))=true:=by
  rw[du];exact⟨b.2.2.2.1[i],dp.2 ⟨i,by rw[dl]; omega,by rw[fh]⟩,by simp[n,h2,l]⟩
 rw[d] at e
 (repeat' split at e)<;>first|omega|simp_all
def ţ.notUsed (h:ţ b) {id d:Int} {l:I0} (i:Ř b id d=some l):KS b id d=false:=by
 have n:=fM i;have g:=fP i;simp only[inP,cY,beq_iff_eq,decide_eq_true_eq] at g;obtain⟨j,o,rfl⟩:=dp.1 n;have e:=h.loans j _ (cW o);rw[eM];intro f;obtain⟨u,f,a⟩:=du.1 f;simp only[cY,beq_iff_eq] at a
 have c:b.2.2.1.any (fun u=>u.1==b.2.2.2.1[j].1&&inP u.2 b.2.2.2.1[j].2.1.1 b.2.2.2.1[j].2.1.2)=true:=by
  rw[du];exact⟨u,f,by simp only[inP,cY,beq_iff_eq,decide_eq_true_eq]; exact⟨by rw[a.1,g.1],by omega,by omega⟩⟩
 unfold LL at e;rw[c] at e
 (repeat' split at e)<;>first|omega|simp_all
def W0 {id f t:Int} (j:f<=t):Xl (i7 b id f (t+1))=Xl (i7 b id f t)++if KS b id t then[t] else[]:=by
 have i:∀t x,x∈i7 b id f t↔KS b id x=true/\f<=x/\x<t:=by
  intro t x;unfold i7 KS;simp only[List.mem_map,List.mem_filter,List.any_eq_true,inP,Bool.and_eq_true,beq_iff_eq,decide_eq_true_eq];constructor
  ·rintro⟨u,⟨d,h2,e,o⟩,rfl⟩;exact⟨⟨u,d,h2,rfl⟩,e,by omega⟩
  ·rintro⟨⟨u,d,h2,rfl⟩,e,o⟩;exact⟨u,⟨d,h2,e,by omega⟩,rfl⟩
 refine abP (Ed _) ?_ fun x=>?_
 ·rw[fO]
  refine⟨Ed _,by split<;>simp,fun a ha c n=>?_⟩
  rw[wP,i] at ha
  split at n
  ·rw[di] at n; omega
  ·cases n
 ·rw[wP,i,df,wP,i]
  by_cases g:KS b id t=true
  ·rw[if_pos g,di];constructor
   ·rintro⟨d,h2,e⟩
    by_cases l:x=t
    ·exact .inr l
    ·exact .inl ⟨d,h2,by omega⟩
   ·rintro(⟨d,h2,e⟩|rfl)
    ·exact⟨d,h2,by omega⟩
    ·exact⟨g,j,by omega⟩
  ·rw[if_neg g];constructor
   ·rintro⟨d,h2,e⟩;refine .inl ⟨d,h2,?_⟩
    by_cases l:x=t
    ·rw[l] at d; exact absurd d g
    ·omega
   ·rintro(⟨d,h2,e⟩|h)
    ·exact⟨d,h2,by omega⟩
    ·cases h
def Pw (h:ţ b) (g:é) {f t:Int} (a:f<=t):jk b g f (t+1)=jk b g f t+abt b g t:=by
 unfold jk abt;rw[TT g.1 a h.apart,W0 a];show Ń g.1 f t b.2.2.2.1+(match Ř b g.1 t with|some l=>l.2.2|none=>0)+_=_
 cases ha:Ř b g.1 t with
 |some l =>
  rw[h.notUsed ha];simp only[dq,if_false,dv];omega
 |none =>
  simp only
  cases KS b g.1 t with
  |true=>simp only[if_true,cZ,dS,Int.natCast_add,fZ]; omega
  |false=>simp only[dq,if_false,dv]; omega
def AH (g:é) {f t:Int} (c:t<=f):jk b g f t=0:=by
 unfold jk
 have h:∀x:CK I0,Ń g.1 f t x=0:=by
  intro x
  induction x with
  |nil=>rfl
  |cons l r a =>
   simp only[Ń];rw[a,if_neg (by unfold ě; omega)];rfl
 have h2:i7 b g.1 f t=[]:=by
  unfold i7
  rw[il.2 fun u i d=>by
   simp only[inP,cY,beq_iff_eq,decide_eq_true_eq] at d
   omega]
  rfl
 rw[h,h2];have e:Xl ([]:CK Int)=[]:=rfl;rw[e];simp
end
def ajm {ρ:Type}:@xq ρ=@iO ρ:=rfl
def ajl {ρ:Type}:@xp ρ=@ŝ ρ:=rfl
def ajk {ρ:Type}:@xo ρ=@ĭ ρ:=rfl
def Zz {ρ:Type} {N:Nat} (a:N<=1000) (x:BY ρ):à ((ile (0:Int) (N:Int))&&(ã N)) x=x:=by
 have:=BA a x
 rwa [dm] at this
section
variable {L:CK Lk} {N:Nat} {M:Int}
def agl {s:Int} (c:0<=s/\s<N):(List.replicate N Ť).set s.toNat 0=iT (ajX s) N:=by
 refine ZB (by simp[ü]) fun v h0 d=>?_
 have a:v<N:=by simpa using d
 rw[Ν _ h0 a,pN c.1 h0 (by simp; omega)];unfold ajX
 by_cases h:v=s
 ·simp[h]
 ·simp only[h,if_false,beq_iff_eq];unfold gv;rw[List.getElem?_replicate]
  have:v.toNat<N:=by omega
  simp[this]
def Z2 (c:jn L N M) (G:1<=N) (n:N<=200) (F:la L N=true) {s:Int} (d:0<=s/\s<N):wx ((N:Int),L) [] s=some (A7 L N s):=by
 obtain⟨p,o⟩:=(mB c n).1 F;unfold wx JA;rw[ajm,ajl,ajk];dsimp only;rw[BA (by omega),Int.toNat_natCast];refine î (List.replicate N (0:Int)) (fun i=>List.replicate i Ť++List.replicate (N-i) 0) _ (by simp) (fun i a hi ha y=>?_) (fun y=>?_)
 ·dsimp only;unfold ql
  have l:i<N:=by simpa using hi
  have r:i<(List.replicate i Ť++List.replicate (N-i) (0:Int)).length:=by simp; omega
  rw[Í hi,Ş r,ă (cW r),È l (by omega),dm];congr 2;rw[gH _ _ (by simp)]
  have:N-i=(N-(i+1))+1:=by omega
  rw[this,fL,iA,gq,List.set_cons_zero,List.replicate_succ'];simp
 ·try dsimp only
  unfold ql;rw[Ò];dsimp only
  have H:List.replicate (List.replicate N (0:Int)).length Ť++List.replicate (N-(List.replicate N (0:Int)).length) 0=List.replicate N Ť:=by simp
  rw[H]
  have e:s.toNat<(List.replicate N Ť).length:=by simp; omega
  rw[show ì (List.replicate N Ť)=((N:Nat):Int) by simp[ì],ź d.1 d.2,lf e,Zz (by omega),Zz (by omega),agl d];refine d9 (adk c _) ?_
  have u:∀v,ajX s v=true->0<=v/\v<N:=fun v h=>by simp[ajX] at h; subst h; exact d
  refine ago (ü _ _) (by omega) _ fun w q C E D f j=>?_;have g:=Sv c G u C E D f j;refine Xd c (akz c n) o u _ (fun x w t q z hd=>?_) g
  have:x=A7 L N s:=by
   refine ZB (by rw[z]; unfold A7; rw[ņ,ü]) fun v a b=>?_;exact hd.uniq (Ff c n o d) a (by omega)
  dsimp only;rw[this]
def alF (h:km L N) {c:CK Int} (g:∀n∈c,0<=n/\n<N) (j:c.length<=1000):Iw ((N:Int),L) c=some (if la L N then 0 else 9):=by
 have h2:=h.n60;unfold Iw Y6;rw[nh h,À];dsimp only;rw[Ì (by rfl)];refine Eq.trans (jw c (fun _=>false) (fun _=>some 1) (some (if la L N then 0 else 9)) (fun i n hi d f=>?_) (fun f=>?_)) ?_
 ·try dsimp only
  unfold tY;have a:=g n (List.mem_of_getElem? d)
  have e:(decide (0<=n)&&decide (n<(N:Int)))=true:=by simp[a.1,a.2]
  rw[Í hi,Æ d,aaM,À,e,È hi (by omega)];simp
 ·try dsimp only
  unfold tY;rw[Ò,wN h.links h.n1 (by omega),À]
  cases la L N<;>rfl
 ·rw[eE.2 (by simp)]
end
def alB:ø:=((0,0),[],[],[],[],[])
structure ajT (b:ø) (c:Cmp):Prop where
 nums:Jf c=true
 r1:sH (FD (ř b) (Ü c.2.2.1 c.2.2.2.1)) 1000 100
 r2:sH (FD (ř b) (Ü c.2.2.2.1 c.2.2.1)) 1000 100
def ţ.cmp {b:ø} (h:ţ b) {c:Cmp} (a:c∈b.2.2.2.2.1):ajT b c:=⟨h.nums a,(h.rates a).1,(h.rates a).2⟩
def Xi {b:ø} (i:0<=b.1.1/\b.1.1<=b.1.2/\b.1.2<=1000000) {c:Cmp} (h:ajT b c):sH (ο b c).1 2000000000 10000/\sH (ο b c).2 2000000000 10000/\(-3000000000<=Sf (ο b c).1+(pn b c).1/\Sf (ο b c).1+(pn b c).1<=3000000000) /\
 (-3000000000<=(ο b c).2.1 / (ο b c).2.2+(pn b c).2/\(ο b c).2.1 / (ο b c).2.2+(pn b c).2<=3000000000)/\(0<=c.2.2.2.2.2.1/\c.2.2.2.2.2.1<=1073741824):=by
 have a:=(ų c).1 h.nums;have ha:=ő a.2.2.2.2.2.1;have hb:=ő a.2.2.2.2.2.2;obtain⟨g,f⟩:=UY (MM h.r1 h.r2) a.2.2.2.2.1;have j:=xO (b:=b) (c:=c) (by omega) (by omega) (by omega) (by omega) (by omega) (by omega);have e:sH (ο b c).1 2000000000 10000:=g;have d:sH (ο b c).2 2000000000 10000:=f;have n:=B6 e;have l:=xM d;exact⟨e,d,by omega,by omega,a.2.2.2.1⟩
structure In (b:ø):Prop where
 size:jz b
 num:∀g∈b.2.1,I64 g.2.2.2.2.1.1
def WQ (b:ø):Sys×CK (Int×Int)×Int:=if Ţ b≠0 then((0,[]),[],Ţ b) else((((Ô b).length:Int)+1,Υ b),L2 b,0)
def aaa {b:ø} (h:In b):jG b=some (WQ b):=by
 unfold jG TQ WQ;rw[Ce h.size h.num,À]
 by_cases a:Ţ b=0
 ·rw[Ì (by simp[ine,a]),akB ((Μ b).1 a),À,if_neg (show ¬(Ţ b≠0) from fun h=>h a)]
 ·rw[Ð (by simp[ine,a]),if_pos a]
def Qv (b:ø) (g:Int) (a:CK Int):Int:=if Ţ b≠0 then Ţ b else if a.any (fun d=>!BW d) then 1 else if (sR (k:=tI) (v:=Ú) g (ř b)).isNone then 5 else 0
def ajv {b:ø} (h:In b) (g:Int) {a:CK Int} (hd:a.length<=1000):Iy b g a=some (Qv b g a):=by
 unfold Iy Zl Qv;rw[Ce h.size h.num,À]
 by_cases c:Ţ b=0
 ·rw[Ì (by simp[ine,c]),if_neg (show ¬(Ţ b≠0) from fun h=>h c)]
  have last:(Ã (Ň b) fun n=>QH (k:=tI) (v:=Ú) g n (fun l=>some (0:Int)) (some (5:Int)))=some (if (sR (k:=tI) (v:=Ú) g (ř b)).isNone then 5 else 0):=by
   rw[I7 h.size.gauges,À];unfold QH
   cases sR (k:=tI) (v:=Ú) g (ř b)<;>rfl
  refine d9 (đ a (fun d=>!BW d) (fun f=>ifb (ige f (0:Int)) (some (1:Int)) (Ã (Ň b) fun o=>QH (k:=tI) (v:=Ú) g o (fun s=>some (0:Int)) (some (5:Int)))) (some 1) (some (if (sR (k:=tI) (v:=Ú) g (ř b)).isNone then 5 else 0)) (fun j=>?_) (fun i d hi e r=>?_) (fun r=>?_)) ?_
  ·rw[Ð (by simp[ige])]
  ·try dsimp only
   unfold un;rw[Í hi,Æ e,Mh,À,È hi (by omega),õ]
  ·try dsimp only
   unfold un;rw[Ò,last]
  ·cases a.any (fun d=>!BW d)<;>rfl
 ·rw[Ð (by simp[ine,c]),if_pos c]
section
variable {b:ø}
def ag2:off b b.2.1.length=(Ô b).length:=by unfold off Ô; rw[List.take_length]
def acI:∀n,n<=b.2.1.length->∀j,j<off b n->∃(i:Nat) (g:é) (k:Nat),b.2.1[i]?=some g/\k<(Ý b g).length/\j=off b i+k:=by
 intro n
 induction n with
 |zero=>intro _ j a; simp[off] at a
 |succ n d =>
  intro e j a;have c:b.2.1[n]?=some b.2.1[n]:=cW (by omega);rw[akv c] at a
  by_cases h:j<off b n
  ·exact d (by omega) j h
  ·exact⟨n,_,j-off b n,c,by omega,by omega⟩
def S8 {v:Int} (h0:1<=v) (d:v<((Ô b).length+1:Nat)):∃(i:Nat) (g:é) (k:Nat),b.2.1[i]?=some g/\k<(Ý b g).length/\v=(off b i:Int)+k+1:=by
 obtain⟨i,g,k,h2,a,c⟩:=acI (b:=b) b.2.1.length (cX _) (v-1).toNat (by rw[ag2]; omega);exact⟨i,g,k,h2,a,by omega⟩
def GL (b:ø) (L:CK Lk):Prop:=∀(i:Nat) (g:é),b.2.1[i]?=some g->∀l∈ö b g,l∈L
def adq:GL b (Υ b):=fun i g c l a=>qI.2 (.inl ⟨i,g,c,a⟩)
def amB {L:CK Lk} (h:ţ b) (n:GL b L) {v:Int} (h0:0<=v) (s:v<((Ô b).length+1:Nat)):∃vs d,Wl L (fun u=>u=0) vs v d/\d<=4503599627370496:=by
 by_cases r:v=0
 ·exact⟨[],0,.nil r,by omega⟩
 obtain⟨i,g,k,f,j,rfl⟩:=S8 (by omega) s;have l:=h.gaugeR (de f);have r1:=l.2.2.2.2.2.1;have r2:=l.2.2.2.2.2.2.1
 have key:∀k:Nat,k<(Ý b g).length->∃vs,Wl L (fun u=>u=0) vs ((off b i:Int)+k+1) (g.2.2.1+g.2.2.2.1.2):=by
  intro k
  induction k with
  |zero =>
   intro _;have a:Wl L (fun u=>u=0) [0] ((off b i:Int)+1) (0+(g.2.2.1+g.2.2.2.1.2)):=Wl.step (.nil rfl) (n i g f _ ((Ņ h f).2 (.inl rfl)));rw[Int.zero_add] at a;exact⟨[0],by simpa using a⟩
  |succ k o =>
   intro j;obtain⟨vs,a⟩:=o (by omega);have c:=Wl.step a (n i g f _ ((Ņ h f).2 (.inr (.inr ⟨k,_,_,cW (show k<_ by omega),cW j,.inl rfl⟩))));rw[gJ] at c
   have e:(off b i:Int)+((k+1:Nat):Int)+1=(off b i:Int)+k+2:=by push_cast; omega
   exact⟨_,by rw[e]; exact c⟩
 obtain⟨vs,a⟩:=key k j;exact⟨vs,_,a,by omega⟩
def agd {L:CK Lk} (h:ţ b) (o:GL b L) {v:Int} (h0:0<=v) (C:v<((Ô b).length+1:Nat)):∃vs d,Wl L (fun u=>u=v) vs 0 d/\d<=4503599627370496:=by
 by_cases s:v=0
 ·exact⟨[],0,.nil s.symm,by omega⟩
 obtain⟨i,g,k,j,F,rfl⟩:=S8 (by omega) C;have a:=de j;have n:=h.gaugeR a;have r1:=n.2.2.2.2.2.1;have r2:=n.2.2.2.2.2.2.1;have hd:=IA h a
 have key:∀m:Nat,m<=k->∃vs d,Wl L (fun u=>u=(off b i:Int)+k+1) vs ((off b i:Int)+(k-m:Nat)+1) d/\d<=m*(12*(20001*1048576)+40*1048576):=by
  intro m
  induction m with
  |zero=>intro _; exact⟨[],0,.nil (by simp),by simp⟩
  |succ m r =>
   intro E;obtain⟨vs,d,c,hd⟩:=r (by omega)
   have G:((k-m:Nat):Int)=((k-(m+1):Nat):Int)+1:=by omega
   have y:(((off b i:Int)+(k-(m+1):Nat)+2,(off b i:Int)+(k-(m+1):Nat)+1,jk b g ((Ý b g)[k-(m+1)]'(by omega)) ((Ý b g)[k-(m+1)+1]'(by omega))):Lk)∈L :=
    o i g j _ ((Ņ h j).2 (.inr (.inr ⟨k-(m+1),_,_,cW (by omega),cW (by omega),.inr rfl⟩)))
   have hb:=jZ h a (f:=(Ý b g)[k-(m+1)]'(by omega)) (t:=(Ý b g)[k-(m+1)+1]'(by omega)) (h.day a (fE _)).2.1
   have D:(off b i:Int)+(k-m:Nat)+1=(off b i:Int)+(k-(m+1):Nat)+2:=by omega
   rw[D] at c;exact⟨_,_,.step c y,by push_cast; omega⟩
 obtain⟨vs,d,c,z⟩:=key k (cX _)
 have e:(off b i:Int)+(k-k:Nat)+1=(off b i:Int)+1:=by omega
 rw[e] at c;have l:=Wl.step c (o i g j _ ((Ņ h j).2 (.inr (.inl rfl))));exact⟨_,_,l,by omega⟩
end
structure abS (L:CK Lk) (N:Nat):Prop where
 to:∀v:Int,0<=v->v<N->∃vs d,Wl L (fun u=>u=0) vs v d/\d<=4503599627370496
 from':∀v:Int,0<=v->v<N->∃vs d,Wl L (fun u=>u=v) vs 0 d/\d<=4503599627370496
def ţ.tied {b:ø} (h:ţ b):abS (Υ b) ((Ô b).length+1):=⟨fun v h0 a=>amB h adq h0 a,fun v h0 a=>agd h adq h0 a⟩
section
variable {L:CK Lk} {N:Nat}
def al9 {L:CK Lk} {s:Int} {vs:CK Int} {v d:Int}:Wl L (fun v=>ajX s v=true) vs v d↔Wl L (fun u=>u=s) vs v d :=
 ⟨fun h=>h.mono fun u a=>by simpa[ajX] using a,fun h=>h.mono fun u a=>by simpa[ajX] using a⟩
def Qu (s:Int):(A7 L N s).length=N:=by unfold A7; rw[ņ,ü]
end
def afI {b:ø}:∀i,i<=b.2.2.2.2.1.length->((b.2.2.2.2.1.take i).flatMap (ľ b)).length=2*i/\(((b.2.2.2.2.1.take i).mapIdx fun i _=>[((3:Int),(i:Int)),((3:Int),(i:Int))]).flatten).length=2*i:=by
 intro i
 induction i with
 |zero=>intro _; simp
 |succ i a =>
  intro hi;have a:=a (by omega);have c:b.2.2.2.2.1[i]?=some b.2.2.2.2.1[i]:=cW hi;rw[jN _ c,take_succ c,eQ,gS,cZ,cZ];simp only[dA,gg,dv,ij,ir,ľ,dh,dN];omega
end Go.Proofs.ZzM
end
