/- lemmas -/
import Derived.Test.YtdmegkgjpgcfgaaGreatMdPA
import Derived.Test.YtdmegkgjpgcfgaaGreatMdTA
set_option linter.all false
noncomputable section
namespace Go.Proofs.ZzM
open Go Go.Am
abbrev Lk:Type:=Int×Int×Int
inductive Wl (L:List Lk) (S:Int->Prop):List Int->Int->Int->Prop
 |nil {v:Int}:S v->Wl L S [] v 0
 |step {vs:List Int} {u v m d:Int}:Wl L S vs u d->(u,v,m)∈L->Wl L S (u::vs) v (d+m)
def Pot (L:BY Lk) (p:Int->Int):Prop:=∀u v m,(u,v,m)∈L->p v<=p u+m
def InR (L:BY Lk) (N:Nat):Prop:=∀l∈L,(0<=l.1/\l.1<N)/\(0<=l.2.1/\l.2.1<N)
section
variable {L:BY Lk} {S:Int->Prop} {N:Nat} {p:Int->Int}
def Wl.cut (g:Pot L p) {vs:BY Int} {v d:Int} (h:Wl L S vs v d):∀x∈vs,∃a e,Wl L S a x e/\(x::a) <:+ vs/\e+(p v-p x)<=d:=by
 induction h with
 |nil h=>intro x c; cases c
 | @step vs u v m d f i ih =>
  intro x c;have n:=g u v m i;rcases dm.1 c with rfl|c
  ·exact⟨vs,d,f,List.suffix_refl _,by omega⟩
  ·obtain⟨a,e,l,j,o⟩:=ih x c;exact⟨a,e,l,j.trans (List.suffix_cons _ _),by omega⟩
def Wl.simple (n:Pot L p) {vs:BY Int} {v d:Int} (h:Wl L S vs v d):∃c j,Wl L S c v j/\j<=d/\(v::c).Nodup:=by
 induction h with
 |nil h=>exact⟨[],0,.nil h,dV _,by simp⟩
 | @step vs u v m d C o ih =>
  obtain⟨a,y,r,D,i⟩:=ih;have e:=Wl.step r o
  by_cases g:v∈u::a
  ·obtain⟨f,s,k1,l,z⟩:=e.cut n v g;exact⟨f,s,k1,by omega,i.sublist l.sublist⟩
  ·exact⟨u::a,y+m,e,by omega,fD.2 ⟨g,i⟩⟩
def Wl.range (g:InR L N) (f:∀v,S v->0<=v/\v<N) {vs:BY Int} {v d:Int} (h:Wl L S vs v d):(0<=v/\v<N)/\∀u∈vs,0<=u/\u<N:=by
 induction h with
 |nil h=>exact⟨f _ h,fun u c=>by cases c⟩
 | @step vs u v m d i e ih =>
  refine⟨(g _ e).2,fun w a=>?_⟩;rcases dm.1 a with rfl|h
  ·exact ih.1
  ·exact ih.2 w h
def aep:∀(N:Nat) (l:BY Int),l.Nodup->(∀x∈l,0<=x/\x<N)->l.length<=N
 |0,l,_,h=>by
  cases l with
  |nil=>simp
  |cons a l=>have:=h a (by simp); omega
 |N+1,l,c,h=>by
  have e:(l.erase (N:Int)).length<=N:=aep N _ (c.erase _) fun x d=>by
   have h2:=(c.mem_erase_iff).1 d;have:=h x h2.2;have:=h2.1;omega
  have:=List.length_erase (a:=(N:Int)) (l:=l)
  split at this<;>omega
def Wl.short (f:InR L N) (e:∀v,S v->0<=v/\v<N) {vs:BY Int} {v d:Int} (h:Wl L S vs v d) (c:(v::vs).Nodup):vs.length+1<=N:=by
 have:=h.range f e
 exact aep N (v::vs) c fun x a=>by
  rcases dm.1 a with rfl|a
  ·exact this.1
  ·exact this.2 x a
def CM (f:Lk->Bool):BY Lk->Int
 |[]=>0
 |l::t=>(if f l then min l.2.2 0 else 0)+CM f t
def aiw (f:Lk->Bool):∀L:BY Lk,CM (fun _=>true) L<=CM f L
 |[]=>dV _
 |l::t=>by
  have:=aiw f t;simp only[CM,if_true]
  split<;>omega
def nB (f:Lk->Bool):∀L:BY Lk,CM f L<=0
 |[]=>dV _
 |l::t=>by
  have:=nB f t;simp only[CM]
  split<;>omega
def aeL {f:Lk->Bool} {l:Lk} (c:f l=true):∀{L:BY Lk},l∈L->CM f L<=l.2.2
 |a::t,h=>by
  simp only[CM];rcases dm.1 h with rfl|h
  ·have:=nB f t;rw[if_pos c]; omega
  ·have:=aeL c h
   split<;>omega
def aiv {f g:Lk->Bool} (h:∀l,f l=true->g l=false):∀L:BY Lk,CM (fun l=>f l||g l) L=CM f L+CM g L
 |[]=>rfl
 |l::t=>by
  have e:=aiv h t;simp only[CM,e]
  by_cases c:f l=true
  ·simp[c,h l c]; omega
  ·have a:f l=false:=by simpa using c
   by_cases d:g l=true
   ·simp[a,d]; omega
   ·simp[a,d]
def Wl.low {vs:BY Int} {v d:Int} (h:Wl L S vs v d):vs.Nodup->CM (fun l=>vs.contains l.1) L<=d:=by
 induction h with
 |nil h=>intro _; exact nB _ _
 | @step vs u v m d n e ih =>
  intro a;rw[fD] at a;have o:=ih a.2;have h2:CM (fun l=>l.1==u) L<=m:=aeL (f:=fun l=>l.1==u) (l:=(u,v,m)) (by simp) e
  have j:=aiv (f:=fun l:Lk=>l.1==u) (g:=fun l=>vs.contains l.1) (fun l c=>by
   simp only[beq_iff_eq] at c;rw[c]
   simpa using a.1) L
  have i:(fun l:Lk=>(u::vs).contains l.1)=fun l=>(l.1==u)||vs.contains l.1:=by funext l; rw[List.contains_cons]
  rw[i,j];omega
def mi (L:BY Lk):Int:=CM (fun _=>true) L
def Wl.low' (c:Pot L p) {vs:BY Int} {v d:Int} (h:Wl L S vs v d):mi L<=d:=by
 obtain⟨a,g,f,h2,e⟩:=h.simple c;have:=f.low (List.nodup_cons.1 e).2;have:=aiw (fun l=>a.contains l.1) L;unfold mi;omega
def Wl.high {M:Int} (c:∀l∈L,l.2.2<=M) {vs:BY Int} {v d:Int} (h:Wl L S vs v d):d<=vs.length*M:=by
 induction h with
 |nil h=>simp
 | @step vs u v m d e a ih =>
  have:=c _ a;simp only[dr,f6,f8,gj];simp only at this;omega
def Wl.lowM {M:Int} (c:∀l∈L,-M<=l.2.2) {vs:BY Int} {v d:Int} (h:Wl L S vs v d) : -(vs.length*M)<=d:=by
 induction h with
 |nil h=>simp
 | @step vs u v m d e a ih =>
  have:=c _ a;simp only[dr,f6,f8,gj];simp only at this;omega
def Wl.mono {a:Int->Prop} (f:∀v,S v->a v) {vs:BY Int} {v d:Int} (h:Wl L S vs v d):Wl L a vs v d:=by
 induction h with
 |nil h=>exact .nil (f _ h)
 |step g e c=>exact .step c e
def Wl.pot (a:Pot L p) {vs:BY Int} {v d:Int} (h:Wl L S vs v d):∃s,S s/\p v-p s<=d:=by
 induction h with
 | @nil v h=>exact⟨v,h,by omega⟩
 | @step vs u v m d f c ih =>
  obtain⟨s,e,h2⟩:=ih;have:=a u v m c;exact⟨s,e,by omega⟩
end
abbrev š:Int:=1152921504606846976
structure ahk (L:BY Lk) (S:Int->Prop) (N:Nat) (x:Int->Int):Prop where
 att:∀v:Int,0<=v->v<N->x v≠š->∃vs,Wl L S vs v (x v)
 low:∀v vs d,Wl L S vs v d->x v<=d
 bd:∀v:Int,0<=v->v<N->x v<=š
def ahk.uniq {L:BY Lk} {S:Int->Prop} {N:Nat} {x y:Int->Int} (a:ahk L S N x) (c:ahk L S N y) {v:Int} (h0:0<=v) (d:v<N):x v=y v:=by
 have key:∀{x y:Int->Int},ahk L S N x->ahk L S N y->x v<=y v:=by
  intro x y a c
  by_cases h:y v=š
  ·rw[h]; exact a.bd v h0 d
  ·obtain⟨vs,e⟩:=c.att v h0 d h;exact a.low v vs _ e
 exact iy (key a c) (key c a)
def gv (x:BY Int) (v:Int):Int:=x[v.toNat]?.getD 0
def aeY {x:BY Int} {v:Int} (h:v.toNat<x.length):x[v.toNat]?=some (gv x v):=by
 unfold gv; rw[List.getElem?_eq_getElem h]; rfl
def pP {x:BY Int} {u v:Int} (d:0<=u) (c:0<=v) (h:u.toNat<x.length) (y:Int):gv (x.set u.toNat y) v=if v=u then y else gv x v:=by
 unfold gv;rw[List.getElem?_set]
 by_cases a:v=u
 ·subst a; simp[h]
 ·have:¬u.toNat=v.toNat:=by omega
  simp[a,this]
def abr {x y:BY Int} (a:x.length=y.length) (h:∀v:Int,0<=v->v<x.length->gv x v=gv y v):x=y:=by
 refine List.ext_getElem a fun i c h2=>?_;have:=h i (by omega) (by omega);unfold gv at this;simpa[c,h2] using this
def iB (x:BY Int) (l:Lk):BY Int:=if gv x l.1<š/\gv x l.1+l.2.2<gv x l.2.1 then x.set l.2.1.toNat (gv x l.1+l.2.2) else x
def iS (L:BY Lk) (x:BY Int):BY Int:=L.foldl iB x
def į (L:BY Lk):Nat->BY Int->BY Int
 |0,x=>x
 |n+1,x=>į L n (iS L x)
def mo (x:BY Int) (l:Lk):(iB x l).length=x.length:=by unfold iB; split<;>simp
def sN (L:BY Lk):∀x:BY Int,(iS L x).length=x.length:=by
 induction L with
 |nil=>intro x; rfl
 |cons l t a=>intro x; show(iS t (iB x l)).length=_; rw[a,mo]
def ł (L:BY Lk):∀(n:Nat) (x:BY Int),(į L n x).length=x.length
 |0,x=>rfl
 |n+1,x=>by rw[į,ł L n,sN]
def i7 (L:BY Lk):∀(n:Nat) (x:BY Int),į L (n+1) x=iS L (į L n x)
 |0,x=>rfl
 |n+1,x=>by rw[į,i7 L n]; rfl
section
variable {L0:BY Lk} {S:Int->Prop} {N:Nat}
def ZI {x:BY Int} {l:Lk} (c:(0<=l.1/\l.1<N)/\(0<=l.2.1/\l.2.1<N)) (d:x.length=N) (v:Int) (a:0<=v):gv (iB x l) v<=gv x v:=by
 unfold iB
 split
 ·rename_i h;rw[pP c.2.1 a (by omega)]
  split
  ·rename_i h2; subst h2; omega
  ·exact dV _
 ·exact dV _
def wX:∀{L:BY Lk},InR L N->∀{x:BY Int},x.length=N->∀v,0<=v->gv (iS L x) v<=gv x v
 |[],_,x,_,v,_=>dV _
 |l::t,d,x,a,v,c=>by
  have f:=ZI (d l (by simp)) a v c;have h2:=wX (L:=t) (fun l e=>d l (by simp[e])) (x:=iB x l) (by rw[mo,a]) v c;show gv (iS t (iB x l)) v<=_;omega
def Jy:∀{L:BY Lk},InR L N->∀{x:BY Int},x.length=N->∀u v m,(u,v,m)∈L->gv x u<š->gv (iS L x) v<=gv x u+m
 |l::t,e,x,f,u,v,m,d,i=>by
  have g:InR t N:=fun l a=>e l (by simp[a])
  have c:(iB x l).length=N:=by rw[mo,f]
  show gv (iS t (iB x l)) v<=_;rcases dm.1 d with rfl|d
  ·have a:=e (u,v,m) (by simp);have h2:=wX g c v a.2.1
   have j:gv (iB x (u,v,m)) v<=gv x u+m:=by
    unfold iB
    split
    ·rw[pP a.2.1 a.2.1 (by simp only at a; simp only; omega),if_pos rfl]; exact dV _
    ·rename_i h; simp only[not_and,Int.not_lt] at h; exact h i
   omega
  ·have a:=e (u,v,m) (by simp[d]);have n:=ZI (e l (by simp)) f u a.1.1;have:=Jy g c u v m d (by omega);omega
def Att (L0:BY Lk) (S:Int->Prop) (N:Nat) (x:BY Int):Prop:=∀v:Int,0<=v->v<N->gv x v<š->∃vs,Wl L0 S vs v (gv x v)
def afZ {x:BY Int} {l:Lk} (a:(0<=l.1/\l.1<N)/\(0<=l.2.1/\l.2.1<N)) (e:l∈L0) (i:x.length=N) (h:Att L0 S N x):Att L0 S N (iB x l):=by
 unfold iB
 split
 ·rename_i f;intro v h0 g c;rw[pP a.2.1 h0 (by omega)] at c ⊢
  split
  ·rename_i h2;obtain⟨vs,d⟩:=h l.1 a.1.1 a.1.2 f.1;exact⟨_,h2▸Wl.step d e⟩
  ·rename_i h2;rw[if_neg h2] at c;exact h v h0 g c
 ·exact h
def ZS:∀{L:BY Lk},InR L N->(∀l∈L,l∈L0)->∀{x:BY Int},x.length=N->Att L0 S N x->Att L0 S N (iS L x)
 |[],_,_,_,_,h=>h
 |l::t,d,hsub,x,c,h=>ZS (L:=t) (fun l a=>d l (by simp[a])) (fun l a=>hsub l (by simp[a])) (x:=iB x l) (by rw[mo,c]) (afZ (d l (by simp)) (hsub l (by simp)) c h)
def Uv (c:InR L0 N):∀(n:Nat) {x:BY Int},x.length=N->Att L0 S N x->Att L0 S N (į L0 n x)
 |0,_,_,h=>h
 |n+1,x,a,h=>Uv c n (by rw[sN,a]) (ZS c (fun _ h=>h) a h)
def Gc (d:InR L0 N):∀(n:Nat) {x:BY Int},x.length=N->∀v,0<=v->gv (į L0 n x) v<=gv x v
 |0,_,_,_,_=>dV _
 |n+1,x,a,v,c=>Int.le_trans (Gc d n (by rw[sN,a]) v c) (wX d a v c)
def iR (S:Int->Bool) (N:Nat):BY Int:=(List.range N).map fun(i:Nat)=>if S i then 0 else š
def Μ (S:Int->Bool) {N:Nat} {v:Int} (h0:0<=v) (a:v<N):gv (iR S N) v=if S v then 0 else š:=by
 unfold gv iR
 have:v.toNat<N:=by omega
 rw[fc,gy this];simp only[eA,f5];rw[Int.toNat_of_nonneg h0]
def ú (S:Int->Bool) (N:Nat):(iR S N).length=N:=by simp[iR]
end
def Jw {L:BY Lk} {S:Int->Bool} {N:Nat} {M:Int} (j:InR L N) (i:∀v,S v=true->0<=v/\v<N) (r:∀l∈L,l.2.2<=M):∀(n:Nat),n*M<š->0<=M->∀vs v d,Wl L (fun v=>S v=true) vs v d->vs.length<=n->gv (į L n (iR S N)) v<=d
 |0,_,_,vs,v,d,e,g=>by
  cases e with
  |nil h =>
   have:=i v h;rw[į,Μ S this.1 this.2,if_pos h]; exact dV _
  |step=>simp at g
 |n+1,s,c,vs,v,d,e,g=>by
  have f:n*M<š:=by rw[f6,f8,gj] at s; omega
  have a:(į L n (iR S N)).length=N:=by rw[ł,ú]
  rw[i7]
  cases e with
  |nil h =>
   have C:=wX j a v (i v h).1;have h2:=Jw j i r n f c [] v 0 (.nil h) (by simp);omega
  | @step vs u _ m d e o =>
   have h2:=Jw j i r n f c vs u d e (by simpa using g);have z:=e.high r;have y:(vs.length:Int)*M<=n*M:=fT (by simp at g; omega) c;have:=Jy j a u v m o (by omega);omega
def Od {L:BY Lk} {S:Int->Bool} {N:Nat} {M:Int} {p:Int->Int} (C:Pot L p) (c:InR L N) (o:∀v,S v=true->0<=v/\v<N) (G:∀l∈L,l.2.2<=M) (r:0<=M) (F:N*M<š) (n:Nat) (u:N<=n+1):ahk L (fun v=>S v=true) N (gv (į L n (iR S N))):=by
 have g:Att L (fun v=>S v=true) N (iR S N):=fun v h0 a y=>by
  rw[Μ S h0 a] at y ⊢
  split
  ·rename_i h; exact⟨[],.nil h⟩
  ·rename_i h; rw[if_neg h] at y; omega
 have f:∀v:Int,0<=v->v<N->gv (į L n (iR S N)) v<=š:=fun v h0 a=>by
  have:=Gc c n (ú S N) v h0;rw[Μ S h0 a] at this
  have O:(0:Int)<=š:=by decide
  split at this<;>omega
 have e:∀(n:Nat),N<=n+1->∀v vs d,Wl L (fun v=>S v=true) vs v d->gv (į L n (iR S N)) v<=d:=by
  intro n u v vs d z;obtain⟨i,J,a,h2,I⟩:=z.simple C;have Q:=a.short c o I
  have s:0<N:=by omega
  obtain⟨k,rfl⟩:∃k,N=k+1:=⟨N-1,by omega⟩
  have E:(k:Int)*M<š:=by rw[f6,f8,gj] at F; omega
  have P:=Jw c o G k E r i v J a (by omega);obtain⟨j,rfl⟩:∃j,n=k+j:=⟨n-k,by omega⟩
  have H:∀(j:Nat),gv (į L (k+j) (iR S (k+1))) v<=gv (į L k (iR S (k+1))) v:=by
   intro j
   induction j with
   |zero=>exact dV _
   |succ j K =>
    rw[<-Nat.add_assoc,i7];have:=wX c (x:=į L (k+j) (iR S (k+1))) (by rw[ł,ú]) v (a.range c o).1.1;omega
  have:=H j;omega
 exact⟨fun v h0 a D=>Uv c n (ú S N) g v h0 a (by have:=f v h0 a; omega),e n u,f⟩
def ahk.pot {L:BY Lk} {S:Int->Prop} {N:Nat} {x:Int->Int} (h:ahk L S N x) (c:InR L N) {u v m:Int} (a:(u,v,m)∈L) (e:x u≠š):x v<=x u+m:=by
 obtain⟨vs,d⟩:=h.att u (c _ a).1.1 (c _ a).1.2 e;exact h.low v _ _ (.step d a)
section
variable {α:Type} (key:α->Int)
def Srt (l:BY α):Prop:=l.Pairwise fun x y=>key x<=key y
def Stb (l s:BY α):Prop:=∀k:Int,s.filter (fun x=>key x==k)=l.filter (fun x=>key x==k)
variable {key}
def Stb.refl (l:BY α):Stb key l l:=fun _=>rfl
def Stb.symm {l s:BY α} (h:Stb key l s):Stb key s l:=fun k=>(h k).symm
def Stb.trans {l s t:BY α} (h:Stb key l s) (h2:Stb key s t):Stb key l t:=fun k=>(h2 k).trans (h k)
def Stb.append {l s c a:BY α} (h:Stb key l s) (h2:Stb key c a):Stb key (l++c) (s++a):=fun k=>by
 rw[fg,fg,h k,h2 k]
def Stb.mem {l s:BY α} (h:Stb key l s) {x:α}:x∈s↔x∈l:=by
 have:=h (key x);constructor
 ·intro a;have:x∈s.filter fun y=>key y==key x:=d8.2 ⟨a,by simp⟩;rw[h] at this;exact(d8.1 this).1
 ·intro a;have:x∈l.filter fun y=>key y==key x:=d8.2 ⟨a,by simp⟩;rw[<-h] at this;exact(d8.1 this).1
def Stb.swap {u v:BY α} (h:∀x∈u,∀y∈v,key x≠key y):Stb key (u++v) (v++u):=fun k=>by
 rw[fg,fg]
 by_cases c:∃x∈u,key x=k
 ·obtain⟨x,d,rfl⟩:=c
  have:v.filter (fun y=>key y==key x)=[]:=il.2 fun y a=>by
   have:=h x d y a;simp; omega
  rw[this]; simp
 ·have:u.filter (fun y=>key y==k)=[]:=il.2 fun y a=>by
   simp;exact fun e=>c ⟨y,a,e⟩
  rw[this]; simp
def Stb.uniq:∀{s t:BY α},Srt key s->Srt key t->Stb key s t->s=t
 |[],[],_,_,_=>rfl
 |[],y::t,_,_,h=>absurd ((h.mem (x:=y)).1 (by simp)) (by simp)
 |x::s,[],_,_,h=>absurd ((h.mem (x:=x)).2 (by simp)) (by simp)
 |x::s,y::t,l,j,h=>by
  have g:=dN.1 l;have h2:=dN.1 j
  have a:key x=key y:=by
   have o:key x<=key y:=by
    rcases dm.1 ((h.mem (x:=y)).1 (by simp)) with e|c
    ·rw[e]; exact dV _
    ·exact g.1 y c
   have n:key y<=key x:=by
    rcases dm.1 ((h.mem (x:=x)).2 (by simp)) with e|c
    ·rw[e]; exact dV _
    ·exact h2.1 x c
   omega
  have i:x=y:=by
   have:=h (key x);have d:(key y==key x)=true:=beq_iff_eq.2 a.symm;have f:(key x==key x)=true:=beq_iff_eq.2 rfl;simp only[eT,d,f,if_true] at this;exact(List.cons.inj this).1.symm
  subst i;congr 1;refine Stb.uniq g.2 h2.2 fun k=>?_;have:=h k
  by_cases a:key x=k
  ·rw[fC (by simp[a]),fC (by simp[a])] at this;exact(List.cons.inj this).2
  ·rw[fh (by simp[a]),fh (by simp[a])] at this;exact this
variable (key)
def Yp (x:α):BY α->BY α
 |[]=>[x]
 |y::l=>if key x<=key y then x::y::l else y::Yp x l
def Ķ (l:BY α):BY α:=l.foldr (Yp key) []
variable {key}
def Yo (x:α):∀l:BY α,Stb key (x::l) (Yp key x l)
 |[]=>Stb.refl _
 |y::l=>by
  unfold Yp
  split
  ·exact Stb.refl _
  ·rename_i h;refine Stb.trans (s:=y::x::l) ?_ fun k=>?_
   ·have:=Stb.swap (key:=key) (u:=[x]) (v:=[y]) (fun a ha b hb=>by simp at ha hb; subst ha hb; omega);exact(this.append (Stb.refl l))
   ·have:=Yo x l k;simp only[eT];rw[this];simp only[eT]
def alK {x z:α} {l:BY α}:z∈Yp key x l↔z=x\/z∈l:=by
 rw[(Yo x l).mem,dm]
def aeW (x:α):∀{l:BY α},Srt key l->Srt key (Yp key x l)
 |[],_=>List.pairwise_singleton _ _
 |y::l,h=>by
  have d:=List.pairwise_cons.1 h;unfold Yp
  split
  ·rename_i c;refine List.Pairwise.cons (fun z a=>?_) h;rcases dm.1 a with rfl|a
   ·exact c
   ·exact Int.le_trans c (d.1 z a)
  ·rename_i c;refine List.Pairwise.cons (fun z a=>?_) (aeW x d.2);rcases alK.1 a with rfl|a
   ·omega
   ·exact d.1 z a
def lg:∀l:BY α,Srt key (Ķ key l)
 |[]=>List.Pairwise.nil
 |x::l=>aeW x (lg l)
def Ŏ:∀l:BY α,Stb key l (Ķ key l)
 |[]=>Stb.refl _
 |x::l=>by
  have:Stb key (x::l) (x::Ķ key l):=(Stb.refl [x]).append (Ŏ l);exact this.trans (Yo x _)
def ye {l s:BY α} (h:Srt key s) (h2:Stb key l s):Ķ key l=s:=Stb.uniq (lg l) h ((Ŏ l).symm.trans h2)
def Stb.perm {l s:BY α} [DecidableEq α] (h:Stb key l s):s.Perm l:=by
 rw[List.perm_iff_count];intro x
 have e:∀l:BY α,l.count x=(l.filter fun y=>key y==key x).count x:=fun l=>by
  rw[List.count_filter];simp
 rw[e s,e l,h]
def Stb.length {l s:BY α} (h:Stb key l s):s.length=l.length:=by
 classical
 exact h.perm.length_eq
def Srt.append {l s:BY α} (h:Srt key l) (h2:Srt key s) (a:∀x∈l,∀y∈s,key x<=key y):Srt key (l++s):=gM.2 ⟨h,h2,a⟩
def Srt.parts {l s:BY α} (h:Srt key (l++s)):Srt key l/\Srt key s/\∀x∈l,∀y∈s,key x<=key y:=gM.1 h
end
abbrev Way:=BY (BY Int)
abbrev Ŋ:=a8
def ę (m:Ŋ) (x:Way):Int:=(ķ m x).getD 0
def WOk (m:Ŋ) (l:BY Way):Prop:=∀x∈l,ķ m x=some (ę m x)
section
variable {ρ:Type} {m:Ŋ}
def ajD (a b:Int):iO a b=some (if a<b then -1 else if b<a then 1 else 0):=by
 unfold iO nQ mT rP
 have e:∀x:Int,ine x x=false:=fun x=>by simp[ine]
 rw[e,e,À,À,æ,æ]
 by_cases h:a<b
 ·rw[Ñ (decide_eq_true h),if_pos h]
 ·rw[Í (decide_eq_false h),if_neg h]
  by_cases h2:b<a
  ·rw[Ñ (decide_eq_true h2),if_pos h2]
  ·rw[Í (decide_eq_false h2),if_neg h2]
def Zg {x y:Way} (c:ķ m x=some (ę m x)) (a:ķ m y=some (ę m y)):kz x y m=some (if ę m x<ę m y then -1 else if ę m y<ę m x then 1 else 0):=by
 unfold kz JK;rw[c,À,a,À,ajD,À]
def aeR {x y:Way} (c:ķ m x=some (ę m x)) (a:ķ m y=some (ę m y)) (X Y:BE ρ):(Æ (kz x y m) fun r=>ifb (ilt r (0:Int)) X Y)=if ę m x<ę m y then X else Y:=by
 rw[Zg c a,À]
 by_cases h:ę m x<ę m y
 ·rw[if_pos h,if_pos h]; rfl
 ·rw[if_neg h,if_neg h]
  by_cases h2:ę m y<ę m x
  ·rw[if_pos h2]; rfl
  ·rw[if_neg h2]; rfl
def an4 {α:Type} (A:BY α) (x:α) (B:BY α):(A++x::B)[A.length]?=some x:=by simp
def anD {α:Type} (A:BY α) (x y:α) (B:BY α):(A++x::B).set A.length y=A++y::B:=by simp
def jB {α:Type} {l A B:BY α} {x:α} {i:Int} (h:l=A++x::B) (hi:i=A.length) (K:α->BE ρ):(à ((ile (0:Int) i)&&(ilt i (í l))) (ī l (Int.toNat i) K))=K x:=by
 subst h hi;rw[ä (by simp[ile,ilt,í]; omega),dt,Ž (an4 A x B)]
def Lh {α:Type} {l A B:BY α} {x:α} {i:Int} (h:l=A++x::B) (hi:i=A.length) (y:α):List.set l (Int.toNat i) y=A++y::B:=by
 subst h hi;rw[dt,anD]
def ins_L1 {c0:Int} {A C:BY Way} {x y:Way} (g:ķ m x=some (ę m x)) (f:ķ m y=some (ę m y)) (j:c0<=A.length) (i:A.length<=1000000) (d:Int->BY Way->BE ρ) (k0:BY Way->BE ρ) :
 ë c0 m.1.1.1 m.1.1.2 m.1.2.1 m.1.2.2.1 m.1.2.2.2.1 m.1.2.2.2.2.1 m.1.2.2.2.2.2 m.2 ((A.length:Int)+1) (A++y::x::C) d k0 =
  if ę m x<ę m y then d A.length (A++x::y::C) else k0 (A++y::x::C):=by
 have h:((A.length:Int)+1-1)=A.length:=by omega
 have a:A++y::x::C=(A++[y])++x::C:=by simp
 have c:((A.length:Int)+1)=(A++[y]).length:=by simp
 unfold ë;rw[Ñ (decide_eq_true (by omega)),jB a c,h,Ï (by omega) (by omega),jB (A:=A) (x:=y) (B:=x::C) rfl rfl];refine(aeR g f _ _).trans ?_
 split
 ·rw[Ï (by omega) (by omega),Ï (by omega) (by omega),jB (A:=A) (x:=y) (B:=x::C) rfl rfl,jB a c,jB a c,Lh a c]
  have e:A++[y]++y::C=A++y::y::C:=by simp
  rw[e,jB (A:=A) (x:=y) (B:=y::C) rfl rfl,Lh (A:=A) (x:=y) (B:=y::C) rfl rfl,Ï (by omega) (by omega)]
 ·rfl
def alJ {c0:Int} {P S Q:BY Way} {x:Way} (G:c0=P.length) (C:Srt (ę m) S) (z:WOk m (x::S)) (J:P.length+S.length<=1000000) (K:BY Way->BE ρ) :
 Ë (fun(v:Int×BY Way) F=>ë c0 m.1.1.1 m.1.1.2 m.1.2.1 m.1.2.2.1 m.1.2.2.2.1 m.1.2.2.2.2.1 m.1.2.2.2.2.2 m.2 v.1 v.2 (fun a b=>F (a,b)) K) (((P.length+S.length:Nat):Int),P++(S++x::Q))=K (P++(Ķ (ę m) (S++[x])++Q)):=by
 subst G;have n:=z x (by simp)
 -- when it stops
 have stop:∀A B:BY Way,S=A++B->(∀t∈B,ę m x<ę m t)->(∀t∈A,ę m t<=ę m x)->Ķ (ę m) (S++[x])=A++x::B:=fun A B c i j=>by
  subst c;obtain⟨r,h2,o⟩:=C.parts;refine ye ?_ ?_
  ·refine r.append (List.Pairwise.cons (fun t d=>by have:=i t d; omega) h2) fun a ha b hb=>?_;rcases dm.1 hb with rfl|hb
   ·exact j a ha
   ·exact o a ha b hb
  ·have:=Stb.swap (key:=ę m) (u:=B) (v:=[x]) (fun a ha b hb=>by simp at hb; subst hb; have:=i a ha; omega);have D:=(Stb.refl (key:=ę m) A).append this;rw[<-dp] at D;exact D
 refine ð (fun v:Int×BY Way=>∃A B:BY Way,S=A++B/\(∀t∈B,ę m x<ę m t)/\v=(((P.length+A.length:Nat):Int),P++(A++x::(B++Q)))) (fun v=>v.1.toNat) ?_ ⟨S,[],by simp,by simp,by simp⟩;rintro v ⟨A,B,c,i,rfl⟩
 cases j:A.reverse with
 |nil =>
  have f:A=[]:=by simpa using j
  subst f;refine .inl fun g=>?_;dsimp only;unfold ë;rw[Í (decide_eq_false (by simp)),stop [] B c i (by simp)];simp
 |cons y E =>
  have f:A=E.reverse++[y]:=by
   have:=congrArg List.reverse j;simpa using this
  generalize E.reverse=A1 at f;subst f;have l:ķ m y=some (ę m y):=z y (by rw[c]; simp)
  have e:∀g:Int×BY Way->BE ρ,ë (P.length:Int) m.1.1.1 m.1.1.2 m.1.2.1 m.1.2.2.1 m.1.2.2.2.1 m.1.2.2.2.2.1 m.1.2.2.2.2.2 m.2 ((P.length+(A1++[y]).length:Nat):Int) (P++(A1++[y]++x::(B++Q))) (fun a b=>g (a,b)) K =
   if ę m x<ę m y then g (((P.length+A1.length:Nat):Int),P++(A1++x::(y::B++Q))) else K (P++(A1++[y]++x::(B++Q))):=fun g=>by
   have I:((P.length+(A1++[y]).length:Nat):Int)=((P++A1).length:Int)+1:=by simp; omega
   have H:P++(A1++[y]++x::(B++Q))=(P++A1)++y::x::(B++Q):=by simp
   have s:A1.length<=S.length:=by rw[c]; simp
   rw[I,H,ins_L1 n l (by simp; omega) (by simp; omega)];simp
  by_cases h:ę m x<ę m y
  ·refine .inr ⟨(((P.length+A1.length:Nat):Int),P++(A1++x::(y::B++Q))),⟨A1,y::B,by rw[c]; simp,fun t d=>?_,rfl⟩,by simp; omega,fun g=>(e g).trans (if_pos h)⟩;rcases dm.1 d with rfl|d
   ·exact h
   ·exact i t d
  ·refine .inl fun g=>(e g).trans ?_;rw[if_neg h,stop (A1++[y]) B c i fun t d=>?_]
   ·simp
   ·obtain⟨r,_,_⟩:=Srt.parts (c▸C);obtain⟨_,_,o⟩:=Srt.parts r;rcases dl.1 d with d|d
    ·have:=o t d y (by simp); omega
    ·simp at d; subst d; omega
def WOk.sub {l s:BY Way} (h:WOk m l) (c:∀x∈s,x∈l):WOk m s:=fun x a=>h x (c x a)
def LU {P M Q:BY Way} (r:WOk m M) (u:P.length+M.length<=1000000):ê (P++(M++Q)) P.length ((P.length+M.length:Nat):Int) m=some (P++(Ķ (ę m) M++Q),m):=by
 unfold ê ū;rw[Ï (by omega) (by omega)];refine ð (fun v:Int×BY Way=>(M.length=0/\v=((P.length:Int)+1,P++(M++Q)))\/∃k:Nat,1<=k/\k<=M.length/\v=(((P.length+k:Nat):Int),P++(Ķ (ę m) (M.take k)++(M.drop k++Q)))) (fun v=>(P.length+M.length+1)-v.1.toNat) ?_ ?_
 ·rintro v (⟨h0,rfl⟩|⟨k,s,l,rfl⟩)
  ·refine .inl fun g=>?_;have:M=[]:=List.length_eq_zero_iff.1 h0;subst this;dsimp only;unfold đ;rw[Í (decide_eq_false (by simp; omega))];rfl
  ·rcases gC l with h|rfl
   ·have o:M[k]?=some M[k]:=df h;have hd:M.drop k=M[k]::M.drop (k+1):=dY h;have n:M.take (k+1)=M.take k++[M[k]]:=take_succ o;have c:M[k]∈M:=fH h;generalize M[k]=x at o hd n c
    have j:(Ķ (ę m) (M.take k)).length=k:=by rw[(Ŏ _).length]; simp; omega
    refine .inr ⟨(((P.length+(k+1):Nat):Int),P++(Ķ (ę m) (M.take (k+1))++(M.drop (k+1)++Q))),.inr ⟨k+1,by omega,h,rfl⟩,by dsimp only; omega,fun g=>?_⟩;dsimp only;unfold đ;rw[Ñ (decide_eq_true (by omega)),hd]
    have:=alJ (m:=m) (c0:=(P.length:Int)) (P:=P) (S:=Ķ (ę m) (M.take k)) (Q:=M.drop (k+1)++Q) (x:=x) rfl (lg _) (fun y i=>by
     rcases dm.1 i with rfl|i
     ·exact r _ c
     ·exact r _ (fQ ((Ŏ _).mem.1 i))) (by omega) (fun d=>ck (((P.length+k:Nat):Int)+(1:Int)) fun f=>g (f,d))
    rw[j] at this;refine this.trans ?_;rw[Ï (by omega) (by omega)];congr 1;refine Prod.ext (by dsimp only; omega) ?_;dsimp only
    have e:Ķ (ę m) (Ķ (ę m) (M.take k)++[x])=Ķ (ę m) (M.take (k+1)):=by
     rw[n];exact ye (lg _) (((Ŏ (M.take k)).append (Stb.refl [x])).symm.trans (Ŏ _))
    rw[e]
   ·refine .inl fun g=>?_;dsimp only;unfold đ;rw[Í (decide_eq_false (by omega))];simp
 ·cases M with
  |nil=>exact .inl ⟨rfl,rfl⟩
  |cons a M =>
   refine .inr ⟨1,dh _,by simp,?_⟩;refine Prod.ext (by simp) ?_;simp[Ķ,Yp]
end
section
variable {ρ:Type} {m:Ŋ}
def rot_L2:@iJ ρ=@Đ ρ:=rfl
def rot_L3:@iI ρ=@Đ ρ:=rfl
def wR {A U B V C:BY Way} (J:V.length=U.length) {a b n:Int} (ha:a=A.length) (hb:b=((A.length+U.length+B.length:Nat):Int)) (g:n=U.length) (O:A.length+U.length+B.length+V.length<=1000000) (K:BY Way->BE ρ) :
 Ë (fun(v:Int×BY Way) F=>Đ a b n v.1 v.2 (fun x y=>F (x,y)) K) ((0:Int),A++(U++(B++(V++C))))=K (A++(V++(B++(U++C)))):=by
 subst ha hb g;refine ï (List.replicate U.length ()) (fun i=>A++(V.take i++(U.drop i++(B++(U.take i++(V.drop i++C)))))) _ (by simp) (fun i x hi I E=>?_) (fun E=>?_)
 ·try dsimp only
  rw[fJ] at hi;have r:U.drop i=U[i]::U.drop (i+1):=dY hi;have o:V.drop i=V[i]::V.drop (i+1):=dY (by omega);have d:U.take (i+1)=U.take i++[U[i]]:=take_succ (df hi);have c:V.take (i+1)=V.take i++[V[i]]:=take_succ (df (by omega));generalize U[i]=u at r d;generalize V[i]=v at o c
  have H:(U.take i).length=i:=by simp; omega
  have G:(V.take i).length=i:=by simp; omega
  have D:(U.drop (i+1)).length=U.length-(i+1):=by simp
  rw[r,o,d,c];generalize U.drop (i+1)=U2 at *;generalize V.drop (i+1)=V2 at *;generalize U.take i=U1 at *;generalize V.take i=V1 at *;unfold Đ
  -- the places
  have e:A++(V1++(u::U2++(B++(U1++(v::V2++C)))))=(A++V1)++u::(U2++(B++(U1++(v::V2++C)))):=by simp
  have s:A++(V1++(u::U2++(B++(U1++(v::V2++C)))))=(A++(V1++(u::U2++(B++U1))))++v::(V2++C):=by simp
  have f:(A.length:Int)+i=(A++V1).length:=by simp; omega
  have z:((A.length+U.length+B.length:Nat):Int)+i=(A++(V1++(u::U2++(B++U1)))).length:=by simp; omega
  have h:(A++V1)++v::(U2++(B++(U1++(v::V2++C))))=(A++(V1++(v::U2++(B++U1))))++v::(V2++C):=by simp
  have j:((A.length+U.length+B.length:Nat):Int)+i=(A++(V1++(v::U2++(B++U1)))).length:=by simp; omega
  rw[Ñ (decide_eq_true (by omega)),Ï (by omega) (by omega),Ï (by omega) (by omega),Ï (by omega) (by omega),jB s z,Ï (by omega) (by omega),jB e f,jB e f,Lh e f,jB h j,Lh h j,Ï (by omega) (by omega)];simp
 ·try dsimp only
  unfold Đ;rw[List.length_replicate,Í (decide_eq_false (by omega))];rw[List.take_of_length_le (l:=V) (by omega),List.drop_of_length_le (l:=U) (by omega),List.take_of_length_le (l:=U) (by omega),List.drop_of_length_le (l:=V) (by omega)];simp
def ahT {A U V C:BY Way} (E:1<=U.length) (D:1<=V.length) (G:A.length+U.length+V.length<=1000000) :
 Ĺ (A++(U++(V++C))) A.length ((A.length+U.length:Nat):Int) ((A.length+U.length+V.length:Nat):Int) m=some (A++(V++(U++C)),m):=by
 unfold Ĺ jO;rw[Ï (by omega) (by omega),Ï (by omega) (by omega)];refine ð (fun v:Int×Int×BY Way=>∃L X Y R:BY Way,1<=X.length/\1<=Y.length/\L.length+X.length=U.length/\Y.length+R.length=V.length/\L++(Y++(X++R))=V++U/\v=((X.length:Int),(Y.length:Int),A++(L++(X++(Y++(R++C)))))) (fun v=>v.1.toNat+v.2.1.toNat) ?_ ⟨[],U,V,[],E,D,by simp,by simp,by simp,?_⟩
 rotate_left
 ·rw[Prod.mk.injEq,Prod.mk.injEq];refine⟨?_,?_,by simp⟩
  ·show((A.length+U.length:Nat):Int)-(A.length:Int)=(U.length:Int);omega
  ·show((A.length+U.length+V.length:Nat):Int)-((A.length+U.length:Nat):Int)=(V.length:Int);omega
 rintro v ⟨L,X,Y,R,I,H,f,h2,y,rfl⟩
 by_cases d:X.length=Y.length
 ·refine .inl fun j=>?_;dsimp only;unfold ĵ;rw[Í (by simp[ine,d])];dsimp only;rw[rot_L3,Ï (by omega) (by omega)];have:=wR (A:=A++L) (U:=X) (B:=[]) (V:=Y) (C:=R++C) d.symm (a:=((A.length+U.length:Nat):Int)-X.length) (b:=((A.length+U.length:Nat):Int)) (n:=X.length) (by simp; omega) (by simp; omega) rfl (by simp; omega) (fun l=>some (l,m))
  have i:(A++L)++(X++([]++(Y++(R++C))))=A++(L++(X++(Y++(R++C)))):=by simp
  rw[i] at this;refine this.trans ?_
  have F:A++L++(Y++([]++(X++(R++C))))=A++((L++(Y++(X++R)))++C):=by simp
  rw[F,y];simp
 ·by_cases h:Y.length<X.length
  ·-- the first part of X and Y change places
   have g:(X.take Y.length).length=Y.length:=by simp; omega
   have c:(X.drop Y.length).length=X.length-Y.length:=by simp
   have ex:X=X.take Y.length++X.drop Y.length:=(eI _ _).symm;generalize X.take Y.length=X1 at g ex;generalize X.drop Y.length=X2 at c ex;subst ex;refine .inr ⟨((X2.length:Int),(X1.length:Int),A++((L++Y)++(X2++(X1++(R++C))))),⟨L++Y,X2,X1,R,by simp at c h; omega,by omega,by simp at f ⊢; omega,by omega,?_,rfl⟩,by simp at c ⊢; omega,fun j=>?_⟩
   ·rw[<-y]; simp
   ·dsimp only;unfold ĵ;have e:ine ((X1++X2).length:Int) (Y.length:Int)=true:=bne_iff_ne.2 (by omega);rw[Ñ e,Ñ (decide_eq_true (by omega)),Ï (by simp at f ⊢; omega) (by simp at f ⊢; omega)];have:=wR (A:=A++L) (U:=X1) (B:=X2) (V:=Y) (C:=R++C) g.symm (a:=((A.length+U.length:Nat):Int)-(X1++X2).length) (b:=((A.length+U.length:Nat):Int)) (n:=Y.length) (by simp at f ⊢; omega) (by simp at f ⊢; omega) (by omega) (by simp at f ⊢; omega) (fun r=>ck (((X1++X2).length:Int)-(Y.length:Int)) fun u=>j (u,((Y.length:Int),r)))
    have i:(A++L)++(X1++(X2++(Y++(R++C))))=A++(L++(X1++X2++(Y++(R++C)))):=by simp
    rw[i] at this;refine this.trans ?_;rw[Ï (by simp; omega) (by simp; omega)];congr 1;rw[Prod.mk.injEq,Prod.mk.injEq];exact⟨by simp; omega,by omega,by simp⟩
  ·have g:(Y.drop (Y.length-X.length)).length=X.length:=by simp; omega
   have c:(Y.take (Y.length-X.length)).length=Y.length-X.length:=by simp
   have z:Y=Y.take (Y.length-X.length)++Y.drop (Y.length-X.length):=(eI _ _).symm;generalize Y.take (Y.length-X.length)=Y1 at c z;generalize Y.drop (Y.length-X.length)=Y2 at g z;subst z;refine .inr ⟨((Y2.length:Int),(Y1.length:Int),A++(L++(Y2++(Y1++((X++R)++C))))),⟨L,Y2,Y1,X++R,by omega,by simp at c d h; omega,by omega,by simp at h2 ⊢; omega,?_,rfl⟩,by simp at c ⊢; omega,fun j=>?_⟩
   ·rw[<-y]; simp
   ·dsimp only;unfold ĵ;have e:ine (X.length:Int) ((Y1++Y2).length:Int)=true:=bne_iff_ne.2 (by omega);rw[Ñ e,Í (decide_eq_false (by omega)),rot_L2,Ï (by omega) (by omega),Ï (by simp at h2 ⊢; omega) (by simp at h2 ⊢; omega),Ï (by simp at h2 ⊢; omega) (by simp at h2 ⊢; omega)];have:=wR (A:=A++L) (U:=X) (B:=Y1) (V:=Y2) (C:=R++C) g (a:=((A.length+U.length:Nat):Int)-X.length) (b:=((A.length+U.length:Nat):Int)+((Y1++Y2).length:Int)-X.length) (n:=X.length) (by simp; omega) (by simp; omega) rfl (by simp at h2 ⊢; omega) (fun o=>ck (((Y1++Y2).length:Int)-(X.length:Int)) fun s=>j ((X.length:Int),(s,o)))
    have i:(A++L)++(X++(Y1++(Y2++(R++C))))=A++(L++(X++(Y1++Y2++(R++C)))):=by simp
    rw[i] at this;refine this.trans ?_;rw[Ï (by simp; omega) (by simp; omega)];congr 1;rw[Prod.mk.injEq,Prod.mk.injEq];exact⟨by omega,by simp; omega,by simp⟩
end
def an3 {n:Nat} (h:n<=10000000):IntKind.wrap .i64 (i5 .u64 (IntKind.wrap .u64 (n:Int)) (1:Int))=((n / 2:Nat):Int):=by
 have c:IntKind.wrap .u64 (n:Int)=n:=by
  simp[IntKind.wrap,IntKind.bits,IntKind.signed];omega
 rw[c]
 have a:i5 .u64 (n:Int) 1=((n / 2:Nat):Int):=by
  unfold i5
  have:(2:Int) ^ (min (Int.toNat 1) IntKind.u64.bits)=2:=by decide
  rw[this,Int.fdiv_eq_ediv_of_nonneg _ (by omega)];omega
 rw[a];simp[IntKind.wrap,IntKind.bits,IntKind.signed];omega
section
variable {ρ:Type} {m:Ŋ}
abbrev akC:=BY Way->Int->Int->Int->Ŋ->BE (BY Way×Ŋ)
def afs (p:Nat->Prop) [DecidablePred p] {lo:Nat}:∀(n:Nat),(∀c c',lo<=c->c<=c'->c'<lo+n->p c'->p c)->∃s,lo<=s/\s<=lo+n/\(∀c,lo<=c->c<s->p c)/\∀c,s<=c->c<lo+n->¬p c
 |0,_=>⟨lo,dh _,dh _,fun c d h2=>by omega,fun c d h2=>by omega⟩
 |n+1,h=>by
  obtain⟨s,d,h2,j,i⟩:=afs p (lo:=lo) n fun c c' o l a3=>h c c' o l (by omega)
  by_cases g:p (lo+n)
  ·exact⟨lo+n+1,by omega,by omega,fun c a f=>h c (lo+n) a (by omega) (by omega) g,fun c a f=>by omega⟩
  ·refine⟨s,d,by omega,j,fun c a f=>?_⟩
   by_cases e:c=lo+n
   ·rw[e]; exact g
   ·exact i c a (by omega)
def adL {f:Int×Int->(Int×Int->BE ρ)->BE ρ} {K:Int->BE ρ} {lo hi:Nat} (C:lo<=hi) (p:Nat->Prop) [DecidablePred p] (g:∀c c',lo<=c->c<=c'->c'<hi->p c'->p c)
 (step:∀i j:Nat,lo<=i->i<j->j<=hi->∀a,f ((i:Int),(j:Int)) a=if p ((i+j) / 2) then a ((((i+j) / 2+1:Nat):Int),(j:Int)) else a ((i:Int),(((i+j) / 2:Nat):Int)))
 (stop:∀i:Nat,lo<=i->i<=hi->∀a,f ((i:Int),(i:Int)) a=K i) :
 ∃s,lo<=s/\s<=hi/\(∀c,lo<=c->c<s->p c)/\(∀c,s<=c->c<hi->¬p c)/\Ë f ((lo:Int),(hi:Int))=K (s:Nat):=by
 obtain⟨s,y,h2,u,r⟩:=afs p (lo:=lo) (hi-lo) fun c c' E D a3=>g c c' E D (by omega);refine⟨s,y,by omega,u,fun c d o=>r c d (by omega),?_⟩;refine ð (fun v:Int×Int=>∃i j:Nat,lo<=i/\i<=s/\s<=j/\j<=hi/\v=((i:Int),(j:Int))) (fun v=>v.2.toNat-v.1.toNat) ?_ ⟨lo,hi,dh _,y,by omega,dh _,rfl⟩;rintro v ⟨i,j,d,o,z,l,rfl⟩;rcases dv i j with h|h
 ·by_cases n:p ((i+j) / 2)
  ·refine .inr ⟨_,⟨(i+j) / 2+1,j,by omega,?_,z,l,rfl⟩,by dsimp only; omega,fun a=>by rw[step i j d h l,if_pos n]⟩;rcases Nat.lt_or_ge ((i+j) / 2) s with e|e
   ·omega
   ·exact absurd n (r _ e (by omega))
  ·refine .inr ⟨_,⟨i,(i+j) / 2,d,o,?_,by omega,rfl⟩,by dsimp only; omega,fun a=>by rw[step i j d h l,if_neg n]⟩;rcases Nat.lt_or_ge ((i+j) / 2) s with e|e
   ·exact absurd (u _ (by omega) e) n
   ·exact e
 ·obtain rfl:i=j:=by omega
  obtain rfl:i=s:=by omega
  exact .inl fun a=>stop i d l a
def agb (g:akC) {P B C:BY Way} {x:Way} {c0:Int} (u:c0=((P.length+B.length+1:Nat):Int)) (z:P.length+B.length<=1000000) (K:BY Way->BE ρ) :
 Ë (fun(v:Int×BY Way) s=>ó g c0 v.1 v.2 (fun a b=>s (a,b)) K) ((P.length:Int),P++(x::(B++C)))=K (P++(B++x::C)):=by
 subst u;refine ð (fun v:Int×BY Way=>∃c d:BY Way,B=c++d/\v=(((P.length+c.length:Nat):Int),P++(c++x::(d++C)))) (fun v=>(P.length+B.length+1)-v.1.toNat) ?_ ⟨[],B,rfl,rfl⟩;rintro v ⟨c,d,e,rfl⟩
 cases d with
 |nil =>
  refine .inl fun r=>?_;rw[List.append_nil] at e;subst e;dsimp only;unfold ó;rw[Ï (by omega) (by omega),Í (decide_eq_false (by omega))];rfl
 |cons y d =>
  have l:B.length=c.length+d.length+1:=by rw[e]; simp; omega
  refine .inr ⟨(((P.length+(c++[y]).length:Nat):Int),P++((c++[y])++x::(d++C))),⟨c++[y],d,by rw[e]; simp,rfl⟩,by simp; omega,fun r=>?_⟩;dsimp only;unfold ó
  have f:P++(c++x::(y::d++C))=(P++c)++x::(y::(d++C)):=by simp
  have h:((P.length+c.length:Nat):Int)=(P++c).length:=by simp
  have n:P++(c++x::(y::d++C))=(P++c++[x])++y::(d++C):=by simp
  have o:((P.length+c.length:Nat):Int)+1=(P++c++[x]).length:=by simp; omega
  have i:(P++c)++y::(y::(d++C))=(P++c++[y])++y::(d++C):=by simp
  have j:((P.length+c.length:Nat):Int)+1=(P++c++[y]).length:=by simp; omega
  rw[Ï (by omega) (by omega),Ñ (decide_eq_true (by omega)),Ï (by omega) (by omega),Ï (by omega) (by omega),jB n o,jB f h,jB f h,Lh f h,jB i j,Lh i j,Ï (by omega) (by omega)];congr 1
  ·simp; omega
  ·simp
def aiy (h:akC) {P B C:BY Way} {x:Way} {c0:Int} (D:c0=(P.length:Int)) (F:P.length+B.length<=1000000) (K:BY Way->BE ρ) :
 Ë (fun(v:Int×BY Way) z=>ò h c0 v.1 v.2 (fun a b=>z (a,b)) K) (((P.length+B.length:Nat):Int),P++(B++x::C))=K (P++(x::(B++C))):=by
 subst D;refine ð (fun v:Int×BY Way=>∃d c:BY Way,B=d++c/\v=(((P.length+d.length:Nat):Int),P++(d++x::(c++C)))) (fun v=>v.1.toNat) ?_ ⟨B,[],by simp,by simp⟩;rintro v ⟨d,c,l,rfl⟩
 cases e:d.reverse with
 |nil =>
  have:d=[]:=by simpa using e
  subst this;refine .inl fun u=>?_;dsimp only;unfold ò;rw[Í (decide_eq_false (by simp)),l];simp
 |cons y r =>
  have f:d=r.reverse++[y]:=by
   have:=congrArg List.reverse e;simpa using this
  generalize r.reverse=A1 at f;subst f
  have o:B.length=A1.length+1+c.length:=by rw[l]; simp; omega
  refine .inr ⟨(((P.length+A1.length:Nat):Int),P++(A1++x::(y::c++C))),⟨A1,y::c,by rw[l]; simp,rfl⟩,by simp; omega,fun u=>?_⟩;dsimp only;unfold ò
  have E:((P.length+(A1++[y]).length:Nat):Int)-1=((P.length+A1.length:Nat):Int):=by simp; omega
  have s:P++(A1++[y]++x::(c++C))=(P++A1)++y::(x::(c++C)):=by simp
  have j:((P.length+A1.length:Nat):Int)=(P++A1).length:=by simp
  have g:P++(A1++[y]++x::(c++C))=(P++A1++[y])++x::(c++C):=by simp
  have i:((P.length+(A1++[y]).length:Nat):Int)=(P++A1++[y]).length:=by simp
  have n:(P++A1++[y])++y::(c++C)=(P++A1)++y::(y::(c++C)):=by simp
  rw[Ñ (decide_eq_true (by simp; omega)),E,Ï (by omega) (by omega),Ï (by omega) (by omega),jB s j,jB g i,jB g i,Lh g i,jB n j,Lh n j,Ï (by omega) (by omega)];congr 1;simp
end
section
variable {ρ:Type} {m:Ŋ}
def symS (a:akC) (mid e b:Int) (k:BY Way×Ŋ->BE ρ) (l:BY Way) (c:Ŋ):BE ρ :=
 ifb (ilt mid e) (ifb (ilt e b) (Æ (a l mid e b c) fun r=>k (r.1,r.2)) (k (l,c))) (k (l,c))
def symR (c:akC) (a z mid e b:Int) (k:BY Way×Ŋ->BE ρ) (l:BY Way) (d:Ŋ):BE ρ :=
 ifb (ilt a z) (ifb (ilt z mid) (Æ (c l a z mid d) fun r=>symS c mid e b k r.1 r.2) (symS c mid e b k l d)) (symS c mid e b k l d)
def anx (d:akC) (l:BY Way) (a c b mid n:Int) (f:Ŋ) (k:BY Way×Ŋ->BE ρ) (z:Int):BE ρ :=
 ck (n-z) fun e=>ifb (ilt z c) (ifb (ilt c e) (Æ (Ĺ l z c e f) fun r=>symR d a z mid e b k r.1 r.2) (symR d a z mid e b k l f)) (symR d a z mid e b k l f)
def agp (n:Int):Int:=IntKind.wrap .i64 (i5 .u64 (IntKind.wrap .u64 n) (1:Int))
def sym_eq (e:akC) (l:BY Way) (a c b:Int) (d:Ŋ) (k:BY Way×Ŋ->BE ρ):ħ e l a c b d k =
 ck (c-a) fun n1=>ifb (ieq n1 (1:Int)) (Ë (fun(v:Int×Int) h=>þ e a l d.1.1.1 d.1.1.2 d.1.2.1 d.1.2.2.1 d.1.2.2.2.1 d.1.2.2.2.2.1 d.1.2.2.2.2.2 d.2 v.1 v.2 (fun x y=>h (x,y)) (fun z=>Ë (fun(v:Int×BY Way) h=>ó e z v.1 v.2 (fun x y=>h (x,y)) (fun n=>k (n,d))) (a,l))) (c,b))
  (ck (b-c) fun u=>ifb (ieq u (1:Int)) (Ë (fun(v:Int×Int) h=>ý e c l d.1.1.1 d.1.1.2 d.1.2.1 d.1.2.2.1 d.1.2.2.2.1 d.1.2.2.2.2.1 d.1.2.2.2.2.2 d.2 v.1 v.2 (fun x y=>h (x,y)) (fun j=>Ë (fun(v:Int×BY Way) h=>ò e j v.1 v.2 (fun x y=>h (x,y)) (fun i=>k (i,d))) (c,l))) (a,c))
   (ck (a+b) fun g=>ck (agp g+c) fun f=>ifb (igt c (agp g))
    (ck (f-b) fun s=>ck (f-(1:Int)) fun r=>Ë (fun(v:Int×Int) h=>â e r l d.1.1.1 d.1.1.2 d.1.2.1 d.1.2.2.1 d.1.2.2.2.1 d.1.2.2.2.2.1 d.1.2.2.2.2.2 d.2 v.1 v.2 (fun x y=>h (x,y)) (anx e l a c b (agp g) f d k)) (s,agp g))
    (ck (f-(1:Int)) fun o=>Ë (fun(v:Int×Int) h=>â e o l d.1.1.1 d.1.1.2 d.1.2.1 d.1.2.2.1 d.1.2.2.2.1 d.1.2.2.2.2.1 d.1.2.2.2.2.2 d.2 v.1 v.2 (fun x y=>h (x,y)) (anx e l a c b (agp g) f d k)) (a,c)))):=rfl
def RecOk (a:akC) (m:Ŋ) (N:Nat):Prop:=∀P U V Q:BY Way,1<=U.length->1<=V.length->U.length+V.length<=N->Srt (ę m) U->Srt (ę m) V->WOk m (U++V)->P.length+U.length+V.length<=1000000 ->
 a (P++(U++(V++Q))) P.length ((P.length+U.length:Nat):Int) ((P.length+U.length+V.length:Nat):Int) m=some (P++(Ķ (ę m) (U++V)++Q),m)
def ut {l:BY Way} (h:Srt (ę m) l):Ķ (ę m) l=l:=ye h (Stb.refl l)
def rY (l:BY Way):(Ķ (ę m) l).length=l.length:=(Ŏ l).length
def ak3 {h:akC} {N:Nat} (i:RecOk h m N) {P u1 u2 v1 v2 Q:BY Way} (T:u1.length+v1.length<=N) (R:u2.length+v2.length<=N) (X:Srt (ę m) (u1++u2)) (W:Srt (ę m) (v1++v2))
 (O:∀x∈u2,∀y∈v1,ę m y<ę m x) (F2:∀x∈u1,∀y∈v2,ę m x<=ę m y) (K:WOk m ((u1++u2)++(v1++v2))) (hl:P.length+u1.length+u2.length+v1.length+v2.length<=1000000)
 {a c b mid n z:Int} (ea:a=P.length) (ec:c=((P.length+u1.length+u2.length:Nat):Int)) (eb:b=((P.length+u1.length+u2.length+v1.length+v2.length:Nat):Int)) (v:mid=((P.length+u1.length+v1.length:Nat):Int)) (Y:z=((P.length+u1.length:Nat):Int)) (Z:n-z=((P.length+u1.length+u2.length+v1.length:Nat):Int)) :
 anx h (P++((u1++u2)++((v1++v2)++Q))) a c b mid n m some z=some (P++(Ķ (ę m) ((u1++u2)++(v1++v2))++Q),m):=by
 obtain⟨s,r,G⟩:=X.parts;obtain⟨o,l,F⟩:=W.parts;subst ea ec eb v Y
 have fin:Ķ (ę m) ((u1++u2)++(v1++v2))=Ķ (ę m) (u1++v1)++Ķ (ę m) (u2++v2):=by
  refine ye ?_ ?_
  ·refine(lg _).append (lg _) fun x d y f=>?_;have d:=(Ŏ _).mem.1 d;have f:=(Ŏ _).mem.1 f
   rcases dl.1 d with d|d<;>rcases dl.1 f with f|f
   ·exact G x d y f
   ·exact F2 x d y f
   ·have:=O y f x d; omega
   ·exact F x d y f
  ·have q:Stb (ę m) (u2++v1) (v1++u2):=Stb.swap fun x d y f=>by have:=O x d y f; omega
   have J:=((Stb.refl (key:=ę m) u1).append (q.append (Stb.refl v2)))
   have D:u1++(u2++v1++v2)=u1++u2++(v1++v2):=by simp
   have I:u1++(v1++u2++v2)=(u1++v1)++(u2++v2):=by simp
   rw[D,I] at J;exact J.trans ((Ŏ _).append (Ŏ _))
 have E:(Ķ (ę m) (u1++v1)).length=u1.length+v1.length:=by rw[rY]; simp
 have u:symS h ((P.length+u1.length+v1.length:Nat):Int) ((P.length+u1.length+u2.length+v1.length:Nat):Int) ((P.length+u1.length+u2.length+v1.length+v2.length:Nat):Int) some (P++(Ķ (ę m) (u1++v1)++(u2++(v2++Q)))) m=some (P++(Ķ (ę m) ((u1++u2)++(v1++v2))++Q),m):=by
  rw[fin];unfold symS
  by_cases g:u2=[]
  ·subst g;rw[Í (decide_eq_false (by simp))];simp only[ew,dp];rw[ut l]
  by_cases h2:v2=[]
  ·subst h2;have q:ilt ((P.length+u1.length+u2.length+v1.length:Nat):Int) ((P.length+u1.length+u2.length+v1.length+([]:BY Way).length:Nat):Int)=false:=decide_eq_false (by simp);rw[q,æ];simp only[ew,dB,dp];rw[ut r]
   cases ilt ((P.length+u1.length+v1.length:Nat):Int) ((P.length+u1.length+u2.length+v1.length:Nat):Int)<;>rfl
  have k1:1<=u2.length:=eZ.2 g;have j:1<=v2.length:=eZ.2 h2
  have:=i (P++Ķ (ę m) (u1++v1)) u2 v2 Q k1 j R r l (K.sub fun x d=>by
   rcases dl.1 d with d|d<;>simp[d]) (by rw[di,E]; omega)
  rw[Ñ (decide_eq_true (by omega)),Ñ (decide_eq_true (by omega))]
  have D:P++(Ķ (ę m) (u1++v1)++(u2++(v2++Q)))=(P++Ķ (ę m) (u1++v1))++(u2++(v2++Q)):=by simp
  rw[D,show((P.length+u1.length+v1.length:Nat):Int)=((P++Ķ (ę m) (u1++v1)).length:Int) by rw[di,E]; omega,
   show((P.length+u1.length+u2.length+v1.length:Nat):Int)=(((P++Ķ (ę m) (u1++v1)).length+u2.length:Nat):Int) by rw[di,E]; omega,
   show((P.length+u1.length+u2.length+v1.length+v2.length:Nat):Int)=(((P++Ķ (ę m) (u1++v1)).length+u2.length+v2.length:Nat):Int) by rw[di,E]; omega,this,À]
  simp
 have H:symR h (P.length:Int) ((P.length+u1.length:Nat):Int) ((P.length+u1.length+v1.length:Nat):Int) ((P.length+u1.length+u2.length+v1.length:Nat):Int) ((P.length+u1.length+u2.length+v1.length+v2.length:Nat):Int) some (P++(u1++(v1++(u2++(v2++Q))))) m=some (P++(Ķ (ę m) ((u1++u2)++(v1++v2))++Q),m):=by
  unfold symR
  by_cases g:u1=[]
  ·have q:ilt (P.length:Int) ((P.length+u1.length:Nat):Int)=false:=decide_eq_false (by rw[g]; simp)
   have e:P++(Ķ (ę m) (u1++v1)++(u2++(v2++Q)))=P++(u1++(v1++(u2++(v2++Q)))):=by
    subst g;simp only[ew];rw[ut o]
   rw[e] at u;rw[q,æ,u]
  by_cases h2:v1=[]
  ·have e:P++(Ķ (ę m) (u1++v1)++(u2++(v2++Q)))=P++(u1++(v1++(u2++(v2++Q)))):=by
    subst h2;simp only[dB,ew];rw[ut s]
   rw[e] at u;have q:ilt ((P.length+u1.length:Nat):Int) ((P.length+u1.length+v1.length:Nat):Int)=false:=decide_eq_false (by rw[h2]; simp);rw[q,æ,u]
   cases ilt (P.length:Int) ((P.length+u1.length:Nat):Int)<;>rfl
  have k1:1<=u1.length:=eZ.2 g;have j:1<=v1.length:=eZ.2 h2;rw[Ñ (decide_eq_true (by omega)),Ñ (decide_eq_true (by omega))]
  rw[i P u1 v1 (u2++(v2++Q)) k1 j T s o (K.sub fun x d=>by
   rcases dl.1 d with d|d<;>simp[d]) (by omega),À]
  exact u
 unfold anx;rw[Z,Ï (by omega) (by omega)]
 by_cases g:u2=[]
 ·have q:ilt ((P.length+u1.length:Nat):Int) ((P.length+u1.length+u2.length:Nat):Int)=false:=decide_eq_false (by rw[g]; simp)
  have e:P++((u1++u2)++((v1++v2)++Q))=P++(u1++(v1++(u2++(v2++Q)))):=by rw[g]; simp
  rw[q,æ,e,H]
 by_cases h2:v1=[]
 ·have e:P++((u1++u2)++((v1++v2)++Q))=P++(u1++(v1++(u2++(v2++Q)))):=by rw[h2]; simp
  have q:ilt ((P.length+u1.length+u2.length:Nat):Int) ((P.length+u1.length+u2.length+v1.length:Nat):Int)=false:=decide_eq_false (by rw[h2]; simp);rw[q,æ,e,H]
  cases ilt ((P.length+u1.length:Nat):Int) ((P.length+u1.length+u2.length:Nat):Int)<;>rfl
 have k1:1<=u2.length:=eZ.2 g;have j:1<=v1.length:=eZ.2 h2;rw[Ñ (decide_eq_true (by omega)),Ñ (decide_eq_true (by omega))];have:=ahT (m:=m) (A:=P++u1) (U:=u2) (V:=v1) (C:=v2++Q) k1 j (by simp; omega);rw[di] at this
 have D:P++((u1++u2)++((v1++v2)++Q))=(P++u1)++(u2++(v1++(v2++Q))):=by simp
 rw[D,this,À]
 have I:(P++u1)++(v1++(u2++(v2++Q)))=P++(u1++(v1++(u2++(v2++Q)))):=by simp
 rw[I];exact H
end
section
variable {ρ:Type} {m:Ŋ}
def giW (l:BY Way) (i:Nat):Way:=(l[i]?).getD []
def JE {l:BY Way} {i:Nat} (h:i<l.length) (K:Way->BE ρ):(à ((ile (0:Int) (i:Int))&&(ilt (i:Int) (í l))) (ī l (Int.toNat (i:Int)) K))=K (giW l i):=by
 rw[ä (by simp[ile,ilt,í]; omega),dt,Ž (df h)];simp[giW,df h]
def Ns {i j:Nat} (h:i+j<=10000000):IntKind.wrap .i64 (i5 .u64 (IntKind.wrap .u64 ((i:Int)+(j:Int))) (1:Int))=(((i+j) / 2:Nat):Int):=by
 rw[<-an3 h]; push_cast; rfl
def KOk (m:Ŋ) (x:Way):Prop:=ķ m x=some (ę m x)
def aao {x y:Way} (c:KOk m x) (a:KOk m y) (X Y:BE ρ):(Æ (kz x y m) fun r=>ifb (!(ilt r (0:Int))) X Y)=if ę m x>=ę m y then X else Y:=by
 rw[Zg c a,À]
 by_cases h:ę m x<ę m y
 ·rw[if_pos h,if_neg (show ¬ę m x>=ę m y by omega)]; rfl
 ·rw[if_neg h,if_pos (show ę m x>=ę m y by omega)]
  by_cases h2:ę m y<ę m x
  ·rw[if_pos h2]; rfl
  ·rw[if_neg h2]; rfl
def anG (c:akC) {l:BY Way} {a i j:Nat} (g:i<j) (n:j<=l.length) (ha:a<l.length) (h:j<=2000000) (f:KOk m (giW l a)) (e:KOk m (giW l ((i+j) / 2))) (d:Int->Int->BE ρ) (k0:Int->BE ρ) :
 þ c (a:Int) l m.1.1.1 m.1.1.2 m.1.2.1 m.1.2.2.1 m.1.2.2.2.1 m.1.2.2.2.2.1 m.1.2.2.2.2.2 m.2 (i:Int) (j:Int) d k0=if ę m (giW l ((i+j) / 2))<ę m (giW l a) then d (((i+j) / 2+1:Nat):Int) j else d i (((i+j) / 2:Nat):Int):=by
 unfold þ;rw[Ñ (decide_eq_true (by omega)),Ï (by omega) (by omega),Ns (by omega),JE (by omega),JE ha];refine(aeR e f _ _).trans ?_;rw[Ï (by omega) (by omega)];rfl
def anF (a:akC) {l:BY Way} {c i j:Nat} (g:i<j) (o:j<=l.length) (h:c<l.length) (n:j<=2000000) (f:KOk m (giW l c)) (e:KOk m (giW l ((i+j) / 2))) (d:Int->Int->BE ρ) (k0:Int->BE ρ) :
 ý a (c:Int) l m.1.1.1 m.1.1.2 m.1.2.1 m.1.2.2.1 m.1.2.2.2.1 m.1.2.2.2.2.1 m.1.2.2.2.2.2 m.2 (i:Int) (j:Int) d k0=if ę m (giW l c)>=ę m (giW l ((i+j) / 2)) then d (((i+j) / 2+1:Nat):Int) j else d i (((i+j) / 2:Nat):Int):=by
 unfold ý;rw[Ñ (decide_eq_true (by omega)),Ï (by omega) (by omega),Ns (by omega),JE h,JE (by omega)];refine(aao f e _ _).trans ?_;rw[Ï (by omega) (by omega)];rfl
def anE (a:akC) {l:BY Way} {p i j:Nat} (h:i<j) (r:j<=l.length) (n:(i+j) / 2<=p) (d:p-(i+j) / 2<l.length) (o:j<=2000000) (g:p<=4000000) (f:KOk m (giW l (p-(i+j) / 2))) (e:KOk m (giW l ((i+j) / 2))) (c:Int->Int->BE ρ) (k0:Int->BE ρ) :
 â a (p:Int) l m.1.1.1 m.1.1.2 m.1.2.1 m.1.2.2.1 m.1.2.2.2.1 m.1.2.2.2.2.1 m.1.2.2.2.2.2 m.2 (i:Int) (j:Int) c k0=if ę m (giW l (p-(i+j) / 2))>=ę m (giW l ((i+j) / 2)) then c (((i+j) / 2+1:Nat):Int) j else c i (((i+j) / 2:Nat):Int):=by
 unfold â;rw[Ñ (decide_eq_true (by omega)),Ï (by omega) (by omega),Ns (by omega),show(p:Int)-(((i+j) / 2:Nat):Int)=((p-(i+j) / 2:Nat):Int) by omega,Ï (by omega) (by omega),JE d,JE (by omega)];refine(aao f e _ _).trans ?_;rw[Ï (by omega) (by omega)];rfl
def sW {α:Type} {l:BY α} {n:Nat} {y:α} (h:y∈l.take n):∃j,j<n/\j<l.length/\l[j]?=some y:=by
 obtain⟨j,a,e⟩:=dw.1 h;simp only[du] at a;refine⟨j,by omega,by omega,?_⟩;rw[fk] at e;rw[df (by omega),e]
def sX {α:Type} {l:BY α} {n:Nat} {y:α} (h:y∈l.drop n):∃j,n<=j/\j<l.length/\l[j]?=some y:=by
 obtain⟨j,a,e⟩:=dw.1 h;simp only[iu] at a;refine⟨n+j,by omega,by omega,?_⟩;rw[List.getElem_drop] at e;rw[df (by omega),e]
def ahK {l:BY Way} (h:Srt (ę m) l) {i j:Nat} {x y:Way} (hi:l[i]?=some x) (d:l[j]?=some y) (c:i<=j):ę m x<=ę m y:=by
 obtain⟨e,rfl⟩:=dj.1 hi;obtain⟨h2,rfl⟩:=dj.1 d;rcases gC c with a|rfl
 ·exact dP.1 h i j e h2 a
 ·exact dV _
def Le:∀(f N:Nat),N<=2 ^ f->RecOk (Ħ (f+1)) m N
 |0,N,hN=>fun P U V Q hU hV hn=>by simp at hN; omega
 |f+1,N,hN=>fun P U V Q hU hV hn sU sV hW hl=>by
  have T:=Le f (2 ^ f) (dh _)
  have hpow:2 ^ (f+1)=2*2 ^ f:=by rw[Nat.pow_succ]; omega
  show ħ (Ħ (f+1)) _ _ _ _ m some=_;generalize Ħ (f+1)=rec at T;obtain⟨l,F⟩:∃l,l=P++(U++(V++Q)):=⟨_,rfl⟩
  have hll:P.length+U.length+V.length<=l.length:=by rw[F]; simp; omega
  rw[sym_eq]
  -- what lies where
  have X:∀i x,U[i]?=some x->giW l (P.length+i)=x:=fun i x D=>by
   have hi:=(List.getElem?_eq_some_iff.1 D).1;unfold giW;rw[F,List.getElem?_append_right (by omega),List.getElem?_append_left (by omega),show P.length+i-P.length=i by omega,D];rfl
  have W:∀i x,V[i]?=some x->giW l (P.length+U.length+i)=x:=fun i x D=>by
   have hi:=(List.getElem?_eq_some_iff.1 D).1;unfold giW;rw[F,List.getElem?_append_right (by omega),List.getElem?_append_right (by omega),List.getElem?_append_left (by omega),show P.length+U.length+i-P.length-U.length=i by omega,D];rfl
  have kU:∀c c',P.length<=c->c<=c'->c'<P.length+U.length->ę m (giW l c)<=ę m (giW l c'):=fun c c' h1 h2 h3=>by
   have o:U[c-P.length]?=some U[c-P.length]:=df (by omega);have g:U[c'-P.length]?=some U[c'-P.length]:=df (by omega);have G:=X _ _ o;have R:=X _ _ g;rw[show P.length+(c-P.length)=c by omega] at G;rw[show P.length+(c'-P.length)=c' by omega] at R;rw[G,R];exact ahK sU o g (by omega)
  have kV:∀c c',P.length+U.length<=c->c<=c'->c'<P.length+U.length+V.length->ę m (giW l c)<=ę m (giW l c'):=fun c c' h1 h2 h3=>by
   have o:V[c-(P.length+U.length)]?=some V[c-(P.length+U.length)]:=df (by omega);have g:V[c'-(P.length+U.length)]?=some V[c'-(P.length+U.length)]:=df (by omega);have G:=W _ _ o;have R:=W _ _ g;rw[show P.length+U.length+(c-(P.length+U.length))=c by omega] at G;rw[show P.length+U.length+(c'-(P.length+U.length))=c' by omega] at R;rw[G,R];exact ahK sV o g (by omega)
  have kW:∀c,P.length<=c->c<P.length+U.length+V.length->KOk m (giW l c):=fun c h1 h2=>by
   rcases dv c (P.length+U.length) with h3|h3
   ·have o:U[c-P.length]?=some U[c-P.length]:=df (by omega);have G:=X _ _ o;rw[show P.length+(c-P.length)=c by omega] at G;rw[G];exact hW _ (dX _ (fH _))
   ·have o:V[c-(P.length+U.length)]?=some V[c-(P.length+U.length)]:=df (by omega);have G:=W _ _ o;rw[show P.length+U.length+(c-(P.length+U.length))=c by omega] at G;rw[G];exact hW _ (dT _ (fH _))
  have e0:((P.length+U.length:Nat):Int)-(P.length:Int)=U.length:=by omega
  have G:((P.length+U.length+V.length:Nat):Int)-((P.length+U.length:Nat):Int)=V.length:=by omega
  rw[e0,G,Ï (by omega) (by omega),Ï (by omega) (by omega),<-F];have half:agp ((P.length:Int)+((P.length+U.length+V.length:Nat):Int))=(((P.length+(P.length+U.length+V.length)) / 2:Nat):Int):=Ns (by omega)
  by_cases O:U.length=1
  ·rw[Ñ (beq_iff_eq.2 (by rw[O]; rfl))]
   obtain⟨x,D⟩:∃x,U=[x]:=by
    cases U with
    |nil=>simp at O
    |cons x t=>cases t with
     |nil=>exact⟨x,rfl⟩
     |cons y t=>simp at O
   have gx:giW l P.length=x:=by
    have:=X 0 x (by rw[D]; rfl);exact this
   obtain⟨s,s1,s2,s3,s4,s5⟩:=adL (f:=fun(v:Int×Int) E=>þ rec (P.length:Int) l m.1.1.1 m.1.1.2 m.1.2.1 m.1.2.2.1 m.1.2.2.2.1 m.1.2.2.2.2.1 m.1.2.2.2.2.2 m.2 v.1 v.2 (fun x y=>E (x,y)) (fun Y=>Ë (fun(v:Int×BY Way) E=>ó rec Y v.1 v.2 (fun x y=>E (x,y)) (fun d=>some (d,m))) ((P.length:Int),l)))
    (K:=fun Y=>Ë (fun(v:Int×BY Way) E=>ó rec Y v.1 v.2 (fun x y=>E (x,y)) (fun d=>some (d,m))) ((P.length:Int),l)) (lo:=P.length+U.length) (hi:=P.length+U.length+V.length) (by omega)
    (fun h=>ę m (giW l h)<ę m (giW l P.length)) (fun c c' o g Z q4=>by have:=kV c c' o g Z; omega)
    (fun i j o g Z kn=>anG rec g (by omega) (by omega) (by omega) (kW _ (dh _) (by omega)) (kW _ (by omega) (by omega)) _ _)
    (fun i o g kn=>by
     dsimp only;unfold þ
     rw[Í (decide_eq_false (by omega))])
   refine s5.trans ?_
   have hk:s-(P.length+U.length)<=V.length:=by omega
   obtain⟨k,hkk⟩:∃k,k=s-(P.length+U.length):=⟨_,rfl⟩;rw[<-hkk] at hk
   have lt:(V.take k).length=k:=by simp; omega
   have hB:∀y∈V.take k,ę m y<ę m x:=fun y r=>by
    obtain⟨j,j1,j2,H⟩:=sW r;have:=s3 (P.length+U.length+j) (by omega) (by omega);rw[W j y H,gx] at this;exact this
   have hD:∀y∈V.drop k,ę m x<=ę m y:=fun y r=>by
    obtain⟨j,j1,j2,H⟩:=sX r;have:=s4 (P.length+U.length+j) (by omega) (by omega);rw[W j y H,gx] at this;omega
   have I:V=V.take k++V.drop k:=(eI _ _).symm
   have fin:Ķ (ę m) (U++V)=V.take k++x::V.drop k:=by
    rw[I] at sV;obtain⟨v1,v2,v3⟩:=sV.parts;refine ye ?_ ?_
    ·refine v1.append (List.Pairwise.cons hD v2) fun y r z hz=>?_;rcases dm.1 hz with rfl|hz
     ·have:=hB y r; omega
     ·exact v3 y r z hz
    ·have:=(Stb.swap (key:=ę m) (u:=[x]) (v:=V.take k) (fun a ha b hb=>by simp at ha; subst ha; have:=hB b hb; omega)).append (Stb.refl (V.drop k));rw[D]
     have e:[x]++V.take k++V.drop k=[x]++V:=by rw[dp,<-I]
     rw[e] at this;simpa using this
   have hs:(s:Int)=((P.length+(V.take k).length+1:Nat):Int):=by rw[lt]; omega
   have:=agb rec (P:=P) (B:=V.take k) (C:=V.drop k++Q) (x:=x) hs (by rw[lt]; omega) (fun d=>some (d,m))
   have R:l=P++(x::(V.take k++(V.drop k++Q))):=by
    rw[F,D,<-dp (V.take k),<-I];rfl
   rw[<-R] at this;refine this.trans ?_;rw[fin];simp
  rw[Í (beq_eq_false_iff_ne.2 (fun h=>O (by exact_mod_cast h)))]
  by_cases J:V.length=1
  ·rw[Ñ (beq_iff_eq.2 (by rw[J]; rfl))]
   obtain⟨x,D⟩:∃x,V=[x]:=by
    cases V with
    |nil=>simp at J
    |cons x t=>cases t with
     |nil=>exact⟨x,rfl⟩
     |cons y t=>simp at J
   have gx:giW l (P.length+U.length)=x:=by
    have:=W 0 x (by rw[D]; rfl);exact this
   obtain⟨s,s1,s2,s3,s4,s5⟩:=adL (f:=fun(v:Int×Int) E=>ý rec ((P.length+U.length:Nat):Int) l m.1.1.1 m.1.1.2 m.1.2.1 m.1.2.2.1 m.1.2.2.2.1 m.1.2.2.2.2.1 m.1.2.2.2.2.2 m.2 v.1 v.2 (fun x y=>E (x,y)) (fun Y=>Ë (fun(v:Int×BY Way) E=>ò rec Y v.1 v.2 (fun x y=>E (x,y)) (fun d=>some (d,m))) (((P.length+U.length:Nat):Int),l)))
    (K:=fun Y=>Ë (fun(v:Int×BY Way) E=>ò rec Y v.1 v.2 (fun x y=>E (x,y)) (fun d=>some (d,m))) (((P.length+U.length:Nat):Int),l)) (lo:=P.length) (hi:=P.length+U.length) (by omega)
    (fun h=>ę m (giW l (P.length+U.length))>=ę m (giW l h)) (fun c c' o g Z q4=>by have:=kU c c' o g Z; omega)
    (fun i j o g Z kn=>anF rec g (by omega) (by omega) (by omega) (kW _ (by omega) (by omega)) (kW _ (by omega) (by omega)) _ _)
    (fun i o g kn=>by
     dsimp only;unfold ý
     rw[Í (decide_eq_false (by omega))])
   refine s5.trans ?_;obtain⟨k,hkk⟩:∃k,k=s-P.length:=⟨_,rfl⟩
   have hk:k<=U.length:=by omega
   have lt:(U.take k).length=k:=by simp; omega
   have hB:∀y∈U.take k,ę m y<=ę m x:=fun y r=>by
    obtain⟨j,j1,j2,H⟩:=sW r;have:=s3 (P.length+j) (by omega) (by omega);rw[X j y H,gx] at this;exact this
   have hD:∀y∈U.drop k,ę m x<ę m y:=fun y r=>by
    obtain⟨j,j1,j2,H⟩:=sX r;have:=s4 (P.length+j) (by omega) (by omega);rw[X j y H,gx] at this;omega
   have I:U=U.take k++U.drop k:=(eI _ _).symm
   have fin:Ķ (ę m) (U++V)=U.take k++x::U.drop k:=by
    rw[I] at sU;obtain⟨v1,v2,v3⟩:=sU.parts;refine ye ?_ ?_
    ·refine v1.append (List.Pairwise.cons (fun y r=>by have:=hD y r; omega) v2) fun y r z hz=>?_;rcases dm.1 hz with rfl|hz
     ·exact hB y r
     ·exact v3 y r z hz
    ·have:=(Stb.refl (key:=ę m) (U.take k)).append (Stb.swap (key:=ę m) (u:=U.drop k) (v:=[x]) (fun a ha b hb=>by simp at hb; subst hb; have:=hD a ha; omega));rw[D]
     have e:U.take k++(U.drop k++[x])=U++[x]:=by rw[<-dp,<-I]
     rw[e] at this;simpa using this
   have hs:(s:Int)=((P++U.take k).length:Int):=by rw[di,lt]; omega
   have ld:(U.drop k).length=U.length-k:=by simp
   have:=aiy rec (P:=P++U.take k) (B:=U.drop k) (C:=Q) (x:=x) hs (by rw[di,lt,ld]; omega) (fun d=>some (d,m))
   have R:l=(P++U.take k)++(U.drop k++x::Q):=by
    rw[F,D,dp,<-dp (U.take k),<-I];rfl
   rw[<-R,show(((P++U.take k).length+(U.drop k).length:Nat):Int)=((P.length+U.length:Nat):Int) by rw[di,lt,ld]; omega] at this;refine this.trans ?_;rw[fin];simp
  rw[Í (beq_eq_false_iff_ne.2 (fun h=>J (by exact_mod_cast h))),Ï (by omega) (by omega),half];obtain⟨mid,hmid⟩:∃mid,mid=(P.length+(P.length+U.length+V.length)) / 2:=⟨_,rfl⟩;rw[<-hmid,Ï (by omega) (by omega)]
  have hm1:P.length<=mid:=by omega
  have hm2:mid<=P.length+U.length+V.length:=by omega
  -- the search, and what is behind it
  have gen:∀lo hi:Nat,P.length<=lo->lo<=hi->hi<=P.length+U.length->hi<=mid->mid+(P.length+U.length)<=lo+(P.length+U.length+V.length)->(hi=P.length+U.length\/hi=mid)->(lo=P.length\/lo+(P.length+U.length+V.length)=mid+(P.length+U.length)) ->
   Ë (fun(v:Int×Int) E=>â rec (((mid+(P.length+U.length)-1:Nat)):Int) l m.1.1.1 m.1.1.2 m.1.2.1 m.1.2.2.1 m.1.2.2.2.1 m.1.2.2.2.2.1 m.1.2.2.2.2.2 m.2 v.1 v.2 (fun x y=>E (x,y)) (anx rec l (P.length:Int) ((P.length+U.length:Nat):Int) ((P.length+U.length+V.length:Nat):Int) (mid:Int) ((mid:Int)+((P.length+U.length:Nat):Int)) m some)) ((lo:Int),(hi:Int))=some (P++(Ķ (ę m) (U++V)++Q),m):=by
   intro lo hi h1 h2 h3 h4 h5 h6 h7
   have hmu:mid<P.length+U.length+V.length:=by omega
   obtain⟨s,s1,s2,s3,s4,s5⟩:=adL (f:=fun(v:Int×Int) E=>â rec (((mid+(P.length+U.length)-1:Nat)):Int) l m.1.1.1 m.1.1.2 m.1.2.1 m.1.2.2.1 m.1.2.2.2.1 m.1.2.2.2.2.1 m.1.2.2.2.2.2 m.2 v.1 v.2 (fun x y=>E (x,y)) (anx rec l (P.length:Int) ((P.length+U.length:Nat):Int) ((P.length+U.length+V.length:Nat):Int) (mid:Int) ((mid:Int)+((P.length+U.length:Nat):Int)) m some))
    (K:=anx rec l (P.length:Int) ((P.length+U.length:Nat):Int) ((P.length+U.length+V.length:Nat):Int) (mid:Int) ((mid:Int)+((P.length+U.length:Nat):Int)) m some) (lo:=lo) (hi:=hi) h2
    (fun h=>ę m (giW l (mid+(P.length+U.length)-1-h))>=ę m (giW l h)) (fun c c' o g Z q4=>by
     have a1:=kU c c' (by omega) g (by omega);have a2:=kV (mid+(P.length+U.length)-1-c') (mid+(P.length+U.length)-1-c) (by omega) (by omega) (by omega)
     omega)
    (fun i j o g Z kn=>anE rec g (by omega) (by omega) (by omega) (by omega) (by omega) (kW _ (by omega) (by omega)) (kW _ (by omega) (by omega)) _ _)
    (fun i o g kn=>by
     dsimp only;unfold â
     rw[Í (decide_eq_false (by omega))])
   refine s5.trans ?_;obtain⟨e,he⟩:∃e,e=mid+(P.length+U.length)-s:=⟨_,rfl⟩
   have lu1:(U.take (s-P.length)).length=s-P.length:=by simp; omega
   have lu2:(U.drop (s-P.length)).length=P.length+U.length-s:=by simp; omega
   have lv1:(V.take (e-(P.length+U.length))).length=e-(P.length+U.length):=by simp; omega
   have lv2:(V.drop (e-(P.length+U.length))).length=P.length+U.length+V.length-e:=by simp; omega
   have hu:U=U.take (s-P.length)++U.drop (s-P.length):=(eI _ _).symm;have I:V=V.take (e-(P.length+U.length))++V.drop (e-(P.length+U.length)):=(eI _ _).symm
   have F1:∀x∈U.drop (s-P.length),∀y∈V.take (e-(P.length+U.length)),ę m y<ę m x:=fun x D y r=>by
    obtain⟨i,i1,i2,i3⟩:=sX D;obtain⟨j,j1,j2,H⟩:=sW r;have q:=s4 s (dh _) (by omega);rw[show mid+(P.length+U.length)-1-s=e-1 by omega] at q;have a1:=kV (P.length+U.length+j) (e-1) (by omega) (by omega) (by omega);have a2:=kU s (P.length+i) (by omega) (by omega) (by omega);rw[W j y H] at a1;rw[X i x i3] at a2;omega
   have F2:∀x∈U.take (s-P.length),∀y∈V.drop (e-(P.length+U.length)),ę m x<=ę m y:=fun x D y r=>by
    obtain⟨i,i1,i2,i3⟩:=sW D;obtain⟨j,j1,j2,H⟩:=sX r;have q:=s3 (s-1) (by omega) (by omega);rw[show mid+(P.length+U.length)-1-(s-1)=e by omega] at q;have a1:=kV e (P.length+U.length+j) (by omega) (by omega) (by omega);have a2:=kU (P.length+i) (s-1) (by omega) (by omega) (by omega);rw[W j y H] at a1;rw[X i x i3] at a2;omega
   have hW':WOk m ((U.take (s-P.length)++U.drop (s-P.length))++(V.take (e-(P.length+U.length))++V.drop (e-(P.length+U.length)))):=by rw[<-hu,<-I]; exact hW
   have:=ak3 T (P:=P) (u1:=U.take (s-P.length)) (u2:=U.drop (s-P.length)) (v1:=V.take (e-(P.length+U.length))) (v2:=V.drop (e-(P.length+U.length))) (Q:=Q) (by omega) (by omega) (by rw[<-hu]; exact sU) (by rw[<-I]; exact sV) F1 F2 hW' (by omega)
    (a:=(P.length:Int)) (c:=((P.length+U.length:Nat):Int)) (b:=((P.length+U.length+V.length:Nat):Int)) (mid:=(mid:Int)) (n:=(mid:Int)+((P.length+U.length:Nat):Int)) (z:=(s:Int)) rfl (by omega) (by omega) (by omega) (by omega) (by omega)
   rw[<-hu,<-I,<-F] at this;exact this
  by_cases hgt:mid<P.length+U.length
  ·rw[Ñ (decide_eq_true (by omega)),Ï (by omega) (by omega),Ï (by omega) (by omega)];have:=gen (mid+(P.length+U.length)-(P.length+U.length+V.length)) mid (by omega) (by omega) (by omega) (dh _) (by omega) (.inr rfl) (.inr (by omega));rw[show((mid+(P.length+U.length)-1:Nat):Int)=(mid:Int)+((P.length+U.length:Nat):Int)-1 by omega,show((mid+(P.length+U.length)-(P.length+U.length+V.length):Nat):Int)=(mid:Int)+((P.length+U.length:Nat):Int)-((P.length+U.length+V.length:Nat):Int) by omega] at this;exact this
  ·rw[Í (decide_eq_false (by omega)),Ï (by omega) (by omega)];have:=gen P.length (P.length+U.length) (dh _) (by omega) (dh _) (by omega) (by omega) (.inl rfl) (.inl rfl);rw[show((mid+(P.length+U.length)-1:Nat):Int)=(mid:Int)+((P.length+U.length:Nat):Int)-1 by omega] at this;exact this
def NU {P U V Q:BY Way} (g:1<=U.length) (f:1<=V.length) (c:Srt (ę m) U) (a:Srt (ę m) V) (e:WOk m (U++V)) (d:P.length+U.length+V.length<=1000000) :
 Ę (P++(U++(V++Q))) P.length ((P.length+U.length:Nat):Int) ((P.length+U.length+V.length:Nat):Int) m=some (P++(Ķ (ę m) (U++V)++Q),m) :=
 Le 99 1000000 (by decide) P U V Q g f (by omega) c a e d
end
section
variable {ρ:Type} {m:Ŋ}
inductive Chs (m:Ŋ) (bs:Nat):List Way->Prop
 |last {l:List Way}:l.length<=bs->Srt (ę m) l->Chs m bs l
 |cons {u r:List Way}:u.length=bs->Srt (ę m) u->Chs m bs r->Chs m bs (u++r)
def Chs.split {bs:Nat} {l:BY Way} (h:Chs m bs l) (d:bs<l.length):∃u r,l=u++r/\u.length=bs/\Srt (ę m) u/\Chs m bs r:=by
 cases h with
 |last a h2=>omega
 | @cons u r a h2 c=>exact⟨u,r,rfl,a,h2,c⟩
def Chs.srt {bs:Nat} {l:BY Way} (h:Chs m bs l) (a:l.length<=bs):Srt (ę m) l:=by
 cases h with
 |last c h2=>exact h2
 | @cons u r c h2 d =>
  have:r=[]:=by
   rw[di] at a;exact dJ.1 (by omega)
  rw[this,dB];exact h2
def csR (m:Ŋ) (bs:Nat):Nat->BY Way->BY Way
 |0,l=>l
 |f+1,l=>if bs<=l.length then Ķ (ę m) (l.take bs)++csR m bs f (l.drop bs) else Ķ (ę m) l
def mpR (m:Ŋ) (bs:Nat):Nat->BY Way->BY Way
 |0,l=>l
 |f+1,l=>if 2*bs<=l.length then Ķ (ę m) (l.take (2*bs))++mpR m bs f (l.drop (2*bs)) else if bs<l.length then Ķ (ę m) l else l
def anb {bs:Nat} (hb:1<=bs):∀(f:Nat) (l:BY Way),l.length<f->Chs m bs (csR m bs f l)/\Stb (ę m) l (csR m bs f l)
 |0,_,h=>by omega
 |f+1,l,h=>by
  unfold csR
  by_cases a:bs<=l.length
  ·rw[if_pos a];obtain⟨c,h2⟩:=anb hb f (l.drop bs) (by simp; omega);refine⟨.cons (by rw[rY]; simp; omega) (lg _) c,?_⟩;have:=(Ŏ (key:=ę m) (l.take bs)).append h2
   rwa [eI] at this
  ·rw[if_neg a];exact⟨.last (by rw[rY]; omega) (lg _),Ŏ _⟩
def amZ {bs:Nat} (hb:1<=bs):∀(f:Nat) (l:BY Way),l.length<f->Chs m bs l->Chs m (2*bs) (mpR m bs f l)/\Stb (ę m) l (mpR m bs f l)
 |0,_,h,_=>by omega
 |f+1,l,h,c=>by
  unfold mpR
  by_cases a:2*bs<=l.length
  ·rw[if_pos a]
   have hd:Chs m bs (l.drop (2*bs)):=by
    obtain⟨u,r,rfl,g,_,h2⟩:=c.split (by omega)
    have i:bs<=r.length:=by rw[di] at a; omega
    have e:(u++r).drop (2*bs)=r.drop bs:=by
     rw[List.drop_append,gF (by omega),ew];congr 1; omega
    rw[e];rcases gC i with d|d
    ·obtain⟨u2,r2,rfl,n,_,j⟩:=h2.split d;rw[List.drop_append,gF (by omega),ew,n,Nat.sub_self,ic];exact j
    ·rw[gF (by omega)];exact .last (by simp) List.Pairwise.nil
   obtain⟨g,h2⟩:=amZ hb f (l.drop (2*bs)) (by simp; omega) hd;refine⟨.cons (by rw[rY]; simp; omega) (lg _) g,?_⟩;have:=(Ŏ (key:=ę m) (l.take (2*bs))).append h2
   rwa [eI] at this
  ·rw[if_neg a]
   by_cases h2:bs<l.length
   ·rw[if_pos h2];exact⟨.last (by rw[rY]; omega) (lg _),Ŏ _⟩
   ·rw[if_neg h2];exact⟨.last (by omega) (c.srt (by omega)),Stb.refl _⟩
abbrev StT:=Int×Int×BY Way×Int×Int×BY nj×BY bl×BY so×BY i4×BY bl×BY f4
def stM (a b:Int) (l:BY Way) (m:Ŋ):StT:=(a,b,l,m.1.1.1,m.1.1.2,m.1.2.1,m.1.2.2.1,m.1.2.2.2.1,m.1.2.2.2.2.1,m.1.2.2.2.2.2,m.2)
def WOk.stb {l s:BY Way} (h:WOk m l) (c:Stb (ę m) l s):WOk m s:=fun x a=>h x (c.mem.1 a)
def anB {xs:BY Way} (J:WOk m xs) (T:xs.length<=100000) (K:BY Way×Ŋ->BE ρ) :
 Ë (fun(v:StT) H=>iH (xs.length:Int) (20:Int) v.1 v.2.1 v.2.2.1 v.2.2.2.1 v.2.2.2.2.1 v.2.2.2.2.2.1 v.2.2.2.2.2.2.1 v.2.2.2.2.2.2.2.1 v.2.2.2.2.2.2.2.2.1 v.2.2.2.2.2.2.2.2.2.1 v.2.2.2.2.2.2.2.2.2.2 (fun z y u s r o n l j i e=>H (z,y,u,s,r,o,n,l,j,i,e))
  (fun a=>Æ (ê a.2.1 a.1 (xs.length:Int) (((a.2.2.1,a.2.2.2.1),a.2.2.2.2.1,a.2.2.2.2.2.1,a.2.2.2.2.2.2.1,a.2.2.2.2.2.2.2.1,a.2.2.2.2.2.2.2.2.1),a.2.2.2.2.2.2.2.2.2)) fun C=>K C)) (stM 0 20 xs m)=K (csR m 20 (xs.length+1) xs,m):=by
 refine ð (fun v:StT=>∃(A R:BY Way) (f:Nat),v=stM (A.length:Int) ((A.length+20:Nat):Int) (A++R) m/\A++csR m 20 f R=csR m 20 (xs.length+1) xs/\R.length<f/\A.length+R.length=xs.length/\WOk m R) (fun v=>(xs.length+100)-v.1.toNat) ?_ ⟨[],xs,xs.length+1,rfl,rfl,by omega,by simp,J⟩;rintro v ⟨A,R,f,rfl,d,U,I,c⟩;obtain⟨f,rfl⟩:∃g,f=g+1:=⟨f-1,by omega⟩
 have O:csR m 20 (f+1) R=if 20<=R.length then Ķ (ę m) (R.take 20)++csR m 20 f (R.drop 20) else Ķ (ę m) R:=rfl
 rw[O] at d
 by_cases h:20<=R.length
 ·have lt:(R.take 20).length=20:=by simp; omega
  have D:(Ķ (ę m) (R.take 20)).length=20:=by rw[rY,lt]
  refine .inr ⟨stM (((A++Ķ (ę m) (R.take 20)).length:Nat):Int) (((A++Ķ (ę m) (R.take 20)).length+20:Nat):Int) ((A++Ķ (ę m) (R.take 20))++R.drop 20) m,⟨_,_,f,rfl,?_,by simp; omega,by rw[di,D]; simp; omega,c.sub fun x E=>List.mem_of_mem_drop E⟩,by simp only[stM,di,D]; omega,fun F=>?_⟩
  ·rw[if_pos h] at d;rw[dp];exact d
  ·show ifb (ile ((A.length+20:Nat):Int) (xs.length:Int)) (Æ (ê (A++R) (A.length:Int) ((A.length+20:Nat):Int) m) fun r1=>ck (((A.length+20:Nat):Int)+(20:Int)) fun G=>F (stM ((A.length+20:Nat):Int) G r1.1 r1.2)) _=_;have:=LU (m:=m) (P:=A) (M:=R.take 20) (Q:=R.drop 20) (c.sub fun x E=>fQ E) (by omega);rw[eI,lt] at this;rw[Ñ (decide_eq_true (by omega)),this,À,Ï (by omega) (by omega)];congr 1;rw[di,D,dp];rfl
 ·refine .inl fun F=>?_;show ifb (ile ((A.length+20:Nat):Int) (xs.length:Int)) _ (Æ (ê (A++R) (A.length:Int) (xs.length:Int) m) fun C=>K C)=_;have:=LU (m:=m) (P:=A) (M:=R) (Q:=[]) c (by omega);rw[dB,I] at this;rw[Í (decide_eq_false (by omega)),this,À];rw[if_neg h] at d;rw[<-d,dB]
def anA {xs:BY Way} {bs:Nat} (hb:1<=bs) (hb2:bs<=200000) (hc:Chs m bs xs) (hW:WOk m xs) (hn:xs.length<=100000) (K:BY Way×Ŋ->BE ρ) :
 Ë (fun(v:StT) kk=>iF (xs.length:Int) (bs:Int) v.1 v.2.1 v.2.2.1 v.2.2.2.1 v.2.2.2.2.1 v.2.2.2.2.2.1 v.2.2.2.2.2.2.1 v.2.2.2.2.2.2.2.1 v.2.2.2.2.2.2.2.2.1 v.2.2.2.2.2.2.2.2.2.1 v.2.2.2.2.2.2.2.2.2.2 (fun J I H G F E D C z y s=>kk (J,I,H,G,F,E,D,C,z,y,s))
  (fun a=>ck (a.1+(bs:Int)) fun c=>ifb (ilt c (xs.length:Int)) (Æ (Ę a.2.1 a.1 c (xs.length:Int) (((a.2.2.1,a.2.2.2.1),a.2.2.2.2.1,a.2.2.2.2.2.1,a.2.2.2.2.2.2.1,a.2.2.2.2.2.2.2.1,a.2.2.2.2.2.2.2.2.1),a.2.2.2.2.2.2.2.2.2)) fun e=>K e) (K (a.2.1,(((a.2.2.1,a.2.2.2.1),a.2.2.2.2.1,a.2.2.2.2.2.1,a.2.2.2.2.2.2.1,a.2.2.2.2.2.2.2.1,a.2.2.2.2.2.2.2.2.1),a.2.2.2.2.2.2.2.2.2))))) (stM 0 ((2*bs:Nat):Int) xs m)=K (mpR m bs (xs.length+1) xs,m):=by
 refine ð (fun v:StT=>∃(A R:BY Way) (f:Nat),v=stM (A.length:Int) ((A.length+2*bs:Nat):Int) (A++R) m/\A++mpR m bs f R=mpR m bs (xs.length+1) xs/\R.length<f/\A.length+R.length=xs.length/\WOk m R/\Chs m bs R) (fun v=>(xs.length+1000000)-v.1.toNat) ?_ ⟨[],xs,xs.length+1,by simp[stM],rfl,by omega,by simp,hW,hc⟩;rintro v ⟨A,R,f,rfl,d,hf,n,i,l⟩;obtain⟨f,rfl⟩:∃g,f=g+1:=⟨f-1,by omega⟩
 have e0:mpR m bs (f+1) R=if 2*bs<=R.length then Ķ (ę m) (R.take (2*bs))++mpR m bs f (R.drop (2*bs)) else if bs<R.length then Ķ (ę m) R else R:=rfl
 rw[e0] at d
 by_cases h:2*bs<=R.length
 ·obtain⟨u,r,rfl,Y,h2,o⟩:=l.split (by omega)
  have hr:bs<=r.length:=by rw[di] at h; omega
  -- the second block
  obtain⟨u2,r2,rfl,T,h5,h6⟩:∃u2 r2,r=u2++r2/\u2.length=bs/\Srt (ę m) u2/\Chs m bs r2:=by
   rcases gC hr with q|q
   ·exact o.split q
   ·exact⟨r,[],by simp,q.symm,o.srt (by omega),.last (by simp) List.Pairwise.nil⟩
  have e1:(u++(u2++r2)).take (2*bs)=u++u2:=by
   rw[<-dp,fW (by simp; omega),eo (by simp; omega)]
  have e2:(u++(u2++r2)).drop (2*bs)=r2:=by
   rw[<-dp,List.drop_append,gF (by simp; omega),ew];rw[show 2*bs-(u++u2).length=0 by simp; omega];rfl
  have O:(Ķ (ę m) (u++u2)).length=2*bs:=by rw[rY]; simp; omega
  rw[if_pos h,e1,e2] at d;refine .inr ⟨stM (((A++Ķ (ę m) (u++u2)).length:Nat):Int) (((A++Ķ (ę m) (u++u2)).length+2*bs:Nat):Int) ((A++Ķ (ę m) (u++u2))++r2) m,⟨_,_,f,rfl,by rw[dp]; exact d,by simp at hf; omega,by rw[di,O]; simp at n; omega,i.sub fun x j=>by simp[j],h6⟩,by simp only[stM,di,O]; omega,fun X=>?_⟩;show ifb (ile ((A.length+2*bs:Nat):Int) (xs.length:Int)) (ck ((A.length:Int)+(bs:Int)) fun n6=>Æ (Ę (A++(u++(u2++r2))) (A.length:Int) n6 ((A.length+2*bs:Nat):Int) m) fun W=>ck ((2:Int)*(bs:Int)) fun n8=>ck (((A.length+2*bs:Nat):Int)+n8) fun Z=>X (stM ((A.length+2*bs:Nat):Int) Z W.1 W.2)) _=_
  have:=NU (m:=m) (P:=A) (U:=u) (V:=u2) (Q:=r2) (by omega) (by omega) h2 h5 (i.sub fun x j=>by rcases dl.1 j with j|j<;>simp[j]) (by omega)
  rw[Y,T] at this;rw[List.length_append,List.length_append] at n;rw[Ñ (decide_eq_true (by omega)),Ï (by omega) (by omega),show(A.length:Int)+(bs:Int)=((A.length+bs:Nat):Int) by omega,show((A.length+2*bs:Nat):Int)=((A.length+bs+bs:Nat):Int) by omega,this,À,Ï (by omega) (by omega),Ï (by omega) (by omega)];congr 1;unfold stM;rw[List.length_append,O,List.append_assoc];refine Prod.ext (by dsimp only; omega) (Prod.ext (by dsimp only; omega) rfl)
 ·refine .inl fun X=>?_;rw[if_neg h] at d;show ifb (ile ((A.length+2*bs:Nat):Int) (xs.length:Int)) _ (ck ((A.length:Int)+(bs:Int)) fun c=>ifb (ilt c (xs.length:Int)) (Æ (Ę (A++R) (A.length:Int) c (xs.length:Int) m) fun e=>K e) (K (A++R,m)))=_;rw[Í (decide_eq_false (by omega)),Ï (by omega) (by omega)]
  by_cases h2:bs<R.length
  ·rw[if_pos h2] at d;obtain⟨u,r,rfl,Y,o,T⟩:=l.split h2;have:=NU (m:=m) (P:=A) (U:=u) (V:=r) (Q:=[]) (by omega) (by rw[di] at h2; omega) o (T.srt (by rw[di] at h; omega)) i (by rw[di] at n; omega);rw[dB,dB,show A.length+u.length+r.length=xs.length by rw[di] at n; omega] at this;rw[Ñ (decide_eq_true (by omega)),show(A.length:Int)+(bs:Int)=((A.length+u.length:Nat):Int) by omega,this,À,d]
  ·rw[if_neg h2] at d;rw[Í (decide_eq_false (by omega)),d]
abbrev StQ:=Int×BY Way×Int×Int×BY nj×BY bl×BY so×BY i4×BY bl×BY f4
def stQ (b:Int) (l:BY Way) (m:Ŋ):StQ:=(b,l,m.1.1.1,m.1.1.2,m.1.2.1,m.1.2.2.1,m.1.2.2.2.1,m.1.2.2.2.2.1,m.1.2.2.2.2.2,m.2)
def ahJ {xs:BY Way} (I:WOk m xs) (J:xs.length<=100000):ĸ xs (xs.length:Int) m=some (Ķ (ę m) xs,m):=by
 unfold ĸ jN;refine(anB I J (fun F=>Ë (fun(a:StQ) d=>iG (xs.length:Int) a.1 a.2.1 a.2.2.1 a.2.2.2.1 a.2.2.2.2.1 a.2.2.2.2.2.1 a.2.2.2.2.2.2.1 a.2.2.2.2.2.2.2.1 a.2.2.2.2.2.2.2.2.1 a.2.2.2.2.2.2.2.2.2 (fun z y u s o n j i g f=>d (z,y,u,s,o,n,j,i,g,f)) (fun c=>some (c.1,(((c.2.1,c.2.2.1),c.2.2.2.1,c.2.2.2.2.1,c.2.2.2.2.2.1,c.2.2.2.2.2.2.1,c.2.2.2.2.2.2.2.1),c.2.2.2.2.2.2.2.2)))) (stQ (20:Int) F.1 F.2))).trans ?_;obtain⟨Q,P⟩:=anb (m:=m) (bs:=20) (by omega) (xs.length+1) xs (by omega);refine ð (fun v:StQ=>∃(bs:Nat) (l:BY Way),1<=bs/\bs<=200000/\v=stQ (bs:Int) l m/\Chs m bs l/\Stb (ę m) xs l) (fun v=>400000-v.1.toNat) ?_ ⟨20,_,by omega,by omega,rfl,Q,P⟩;rintro v ⟨bs,l,hb,E,rfl,D,e⟩;have H:=e.length
 by_cases h:bs<xs.length
 ·obtain⟨O,K⟩:=amZ hb (l.length+1) l (by omega) D;refine .inr ⟨stQ ((2*bs:Nat):Int) (mpR m bs (l.length+1) l) m,⟨2*bs,_,by omega,by omega,rfl,O,e.trans K⟩,by simp only[stQ]; omega,fun G=>?_⟩;have:=anA (m:=m) (xs:=l) hb E D (I.stb e) (by omega) (fun r=>ck ((bs:Int)*(2:Int)) fun C=>G (stQ C r.1 r.2));rw[H] at this;show ifb (ilt (bs:Int) (xs.length:Int)) (ck ((2:Int)*(bs:Int)) fun R=>_) _=_;rw[Ñ (decide_eq_true (by omega)),Ï (by omega) (by omega),show(2:Int)*(bs:Int)=((2*bs:Nat):Int) by push_cast; rfl];rw[H];refine ej ?_ (this.trans ?_)
  ·rfl
  ·rw[Ï (by omega) (by omega)];congr 2;omega
 ·refine .inl fun G=>?_;show ifb (ilt (bs:Int) (xs.length:Int)) _ (some (l,m))=_;rw[Í (decide_eq_false (by omega)),ye (D.srt (by omega)) e]
end
abbrev Mx:=Int×BY Int
def Į:BY Mx->Way->Prop
 |[],[]=>True
 |m::ms,l::ls=>l.Perm m.2/\Į ms ls
 |_,_=>False
def Į.len:∀{ms:BY Mx} {w:Way},Į ms w->w.length=ms.length
 |[],[],_=>rfl
 |m::ms,l::ls,h=>by simp[h.2.len]
def Į.at:∀{ms:BY Mx} {w:Way} {i:Nat} {m:Mx},Į ms w->ms[i]?=some m->∃l,w[i]?=some l/\l.Perm m.2
 |[],_,i,_,_,h=>by simp at h
 |m::ms,l::ls,0,x,h,a=>by
  simp at a; subst a;exact⟨l,rfl,h.1⟩
 |m::ms,l::ls,i+1,x,h,a=>by
  simp only[fB] at a ⊢;exact h.2.at a
def stp (d:Int) (m:Mx) (l:BY Int) (x:Int):Int :=
 if m.1<d then match l.findIdx? (·==x) with|some k=>m.2.getD k 0|none=>x else x
def iQ:BY Mx->Way->Int->Int->Int
 |m::ms,l::ls,x,d=>stp d m l (iQ ms ls x d)
 |_,_,x,_=>x
def ad0 {ms:BY Mx} {w:Way} {i:Nat} {m:Mx} {l:BY Int} (a:ms[i]?=some m) (c:w[i]?=some l) (x d:Int):iQ (ms.drop i) (w.drop i) x d=stp d m l (iQ (ms.drop (i+1)) (w.drop (i+1)) x d):=by
 obtain⟨e,rfl⟩:=dj.1 a;obtain⟨h2,rfl⟩:=dj.1 c;rw[dY e,dY h2,iQ]
def who_ok {m:Ŋ} {w:Way} (h:Į m.2 w) (C:m.2.length<=1000) (r:∀x∈m.2,x.2.length<=1000) (x d:Int):uW m w x d=some (iQ m.2 w x d):=by
 unfold uW acM;rw[Î,Ï (by omega) (by omega)];refine ð (fun s:Int×Int=>∃i:Nat,i<=m.2.length/\s.2=(i:Int)-1/\s.1=iQ (m.2.drop i) (w.drop i) x d) (fun s=>(s.2+1).toNat) ?_ ⟨m.2.length,Nat.le_refl _,rfl,?_⟩
 ·rintro⟨z,v⟩ ⟨i,hi,g,h2⟩;simp only at g h2;subst g h2
  cases i with
  |zero =>
   refine .inl fun n=>?_
   try dsimp only
   unfold BU;rw[Í (by simp[ige])]; rfl
  |succ i =>
   obtain⟨y,a⟩:∃y,m.2[i]?=some y:=⟨_,df hi⟩;obtain⟨l,c,e⟩:=h.at a
   have o:l.length<=1000:=by rw[e.length_eq]; exact r y (dk a)
   have j:((i+1:Nat):Int)-1=i:=by omega
   refine .inr ⟨(iQ (m.2.drop i) (w.drop i) x d,(i:Int)-1),⟨i,by omega,rfl,rfl⟩,by simp only[j]; omega,fun n=>?_⟩
   try dsimp only
   unfold BU;rw[j,Ñ (by simp[ige]),Ä c,acd (by omega),À,ad0 a c];unfold stp
   cases u:l.findIdx? (·==iQ (m.2.drop (i+1)) (w.drop (i+1)) x d) with
   |none =>
    dsimp only;rw[Í (by simp[ige]),Ï (by omega) (by omega)]
    split<;>rfl
   |some k =>
    dsimp only;rw[Ñ (by simp[ige]),Ä a]
    have f:k<y.2.length:=by rw[<-e.length_eq]; exact(dR.1 u).1
    by_cases hd:y.1<d
    ·rw[Ñ (by simp[ilt,hd]),Ä a,Ä (df f),Ï (by omega) (by omega),if_pos hd];rw[eG,df f]; rfl
    ·rw[Í (by simp[ilt,hd]),Ï (by omega) (by omega),if_neg hd]
 ·simp only[List.drop_length];rw[<-h.len,List.drop_length];unfold iQ;rfl
def Zd:BY Int->BY Int->Int
 |x::l,y::m=>(if y=x then 0 else 1)+Zd l m
 |_,_=>0
def uZ:BY Mx->Way->Int
 |m::ms,l::ls=>Zd l m.2+uZ ms ls
 |_,_=>0
def NP:∀{l m:BY Int} {k:Nat} {x y:Int},l[k]?=some x->m[k]?=some y->Zd (l.take (k+1)) (m.take (k+1))=Zd (l.take k) (m.take k)+if y=x then 0 else 1
 |[],_,_,_,_,h,_=>by simp at h
 |_::_,[],_,_,_,_,h=>by simp at h
 |a::l,b::m,0,x,y,c,h2=>by
  simp at c h2; subst c h2;simp[Zd]
 |a::l,b::m,k+1,x,y,c,h2=>by
  simp only[fB] at c h2;have:=NP c h2;simp only[gz,Zd,this]; omega
def NN:∀{ms:BY Mx} {w:Way} {k:Nat} {m:Mx} {l:BY Int},ms[k]?=some m->w[k]?=some l->uZ (ms.take (k+1)) (w.take (k+1))=uZ (ms.take k) (w.take k)+Zd l m.2
 |[],_,_,_,_,h,_=>by simp at h
 |_::_,[],_,_,_,_,h=>by simp at h
 |a::l,b::m,0,x,y,c,h2=>by
  simp at c h2; subst c h2;simp[uZ]
 |a::l,b::m,k+1,x,y,c,h2=>by
  simp only[fB] at c h2;have:=NN c h2;simp only[gz,uZ,this]; omega
def NQ:∀l m:BY Int,0<=Zd l m/\Zd l m<=m.length
 |[],m=>by simp[Zd]
 |_::_,[]=>by simp[Zd]
 |a::l,b::m=>by
  have:=NQ l m;unfold Zd;simp only[List.length_cons]
  split<;>omega
def aht {n:Nat}:∀{ms:BY Mx} {w:Way},(∀m∈ms,m.2.length<=n)->0<=uZ ms w/\uZ ms w<=(ms.length*n:Nat)
 |[],w,_=>by simp[uZ]
 |m::ms,[],_=>by
  unfold uZ; exact⟨Int.le_refl _,Int.natCast_nonneg _⟩
 |m::ms,l::ls,h=>by
  have d:=NQ l m.2;have h2:=h m (by simp);have c:=aht (w:=ls) fun x a=>h x (List.mem_cons_of_mem _ a);unfold uZ
  have:(m::ms).length*n=ms.length*n+n:=by rw[dr,Nat.succ_mul]
  omega
def ahs {n:Nat} {ms:BY Mx} (d:ms.length<=1000) (c:∀x∈ms,x.2.length<=1000) (w:Way) (i:Nat):0<=uZ (ms.take i) w/\uZ (ms.take i) w<=1000000:=by
 have e:=aht (n:=1000) (ms:=ms.take i) (w:=w) fun m a=>c m (fQ a);have h2:(ms.take i).length*1000<=1000*1000:=dI _ (by rw[du]; omega);omega
def ahu {m:Ŋ} {w:Way} (h:Į m.2 w) (G:m.2.length<=1000) (E:∀x∈m.2,x.2.length<=1000):ķ m w=some (uZ m.2 w):=by
 unfold ķ JJ;have f:=h.len;refine ð (fun s:Int×Int=>∃i:Nat,i<=w.length/\s.2=(i:Int)/\s.1=uZ (m.2.take i) (w.take i)) (fun s=>w.length-s.2.toNat) ?_ ⟨0,Nat.zero_le _,rfl,by simp[uZ]⟩;rintro⟨R,Q⟩ ⟨i,hi,g,h2⟩;simp only at g h2;subst g h2;rcases Nat.lt_or_ge i w.length with e|J
 ·obtain⟨y,j⟩:∃y,m.2[i]?=some y:=⟨_,df (by omega)⟩;obtain⟨l,z,o⟩:=h.at j
  have H:l.length<=1000:=by rw[o.length_eq]; exact E y (dk j)
  refine .inr ⟨(uZ (m.2.take (i+1)) (w.take (i+1)),(i:Int)+1),⟨i+1,e,by simp,rfl⟩,by simp only[dt]; omega,fun r=>?_⟩
  try dsimp only
  unfold pW;rw[Ì e,Ä z];have hb:=ahs (n:=0) G E (w.take i) i;refine ð (fun s:Int×Int=>∃k:Nat,k<=l.length/\s.2=(k:Int)/\s.1=uZ (m.2.take i) (w.take i)+Zd (l.take k) (y.2.take k)) (fun s=>l.length-s.2.toNat) ?_ ⟨0,Nat.zero_le _,rfl,by simp[Zd]⟩;rintro⟨P,t2⟩ ⟨k,T,g,h2⟩;simp only at g h2;subst g h2;have O:=NQ (l.take k) (y.2.take k)
  have K:(y.2.take k).length<=1000:=by rw[du]; omega
  rcases dv k l.length with c|I
  ·obtain⟨u,D⟩:∃u,l[k]?=some u:=⟨_,df c⟩;obtain⟨v,C⟩:∃v,y.2[k]?=some v:=⟨_,df (by rw[<-o.length_eq]; exact c)⟩;refine .inr ⟨(uZ (m.2.take i) (w.take i)+Zd (l.take (k+1)) (y.2.take (k+1)),(k:Int)+1),⟨k+1,c,by simp,rfl⟩,by simp only[dt]; omega,fun r=>?_⟩
   try dsimp only
   unfold pV;rw[Ì c,Ä D,Ä j,Ä C,NP D C]
   by_cases a:v=u
   ·rw[Í (by simp[ine,a]),Ï (by omega) (by omega),if_pos a]; simp
   ·rw[Ñ (by simp[ine,a]),Ï (by omega) (by omega),Ï (by omega) (by omega),if_neg a,Int.add_assoc]
  ·refine .inl fun F=>?_
   have d:k=l.length:=by omega
   subst d
   try dsimp only
   unfold pV;rw[Ó];dsimp only;rw[Ï (by omega) (by omega),NN j z,List.take_length,o.length_eq,List.take_length]
 ·refine .inl fun r=>?_
  have d:i=w.length:=by omega
  subst d
  try dsimp only
  unfold pW;rw[Ó,List.take_length,f,List.take_length]
def agn (a:Int):BY Int->BY Int
 |[]=>[a]
 |b::t=>if a<=b then a::b::t else b::agn a t
def Υ:BY Int->BY Int
 |[]=>[]
 |a::t=>agn a (Υ t)
def zk (p:BE Int):BY Int->BY Int
 |[]=>[]
 |a::t=>if p=some a then zk (some a) t else a::zk (some a) t
def ZB (l:BY Int):BY Int:=zk none (Υ l)
def Iu (a:Int):∀l,(agn a l).Perm (a::l)
 |[]=>List.Perm.refl _
 |b::t=>by
  unfold agn
  split
  ·exact List.Perm.refl _
  ·exact((Iu a t).cons b).trans (List.Perm.swap a b t)
def ÿ:∀l,(Υ l).Perm l
 |[]=>List.Perm.refl _
 |a::t=>(Iu a _).trans ((ÿ t).cons a)
def FQ (a:Int):∀{l:BY Int},l.Pairwise (·<=·)->(agn a l).Pairwise (·<=·)
 |[],_=>by simp[agn]
 |b::t,h=>by
  rw[List.pairwise_cons] at h;unfold agn
  split
  ·rename_i d;refine dN.2 ⟨fun x c=>?_,dN.2 h⟩;rcases dm.1 c with rfl|c
   ·exact d
   ·have:=h.1 x c; omega
  ·rename_i d;refine dN.2 ⟨fun x c=>?_,FQ a h.2⟩;rcases dm.1 ((Iu a t).mem_iff.1 c) with rfl|c
   ·omega
   ·exact h.1 x c
def ŕ:∀l:BY Int,(Υ l).Pairwise (·<=·)
 |[]=>List.Pairwise.nil
 |a::t=>FQ a (ŕ t)
def VZ (l:BY Int):zn l=Υ l:=by
 have d:(zn l).Pairwise (·<=·):=by
  have:=List.pairwise_mergeSort (le:=fun a b:Int=>decide (a<=b)) (fun a b c d h2=>by simp at *; omega) (fun a b=>by simp; omega) l
  exact this.imp fun h=>by simpa using h
 exact gn (le:=(·<=·)) (fun a b _ _ d h2=>by omega) d (ŕ l) ((List.mergeSort_perm l _).trans (ÿ l).symm)
def Uk (a:Int):∀(l:BY Int) (p:BE Int),zk p (l++[a])=zk p l++(if (match l.getLast? with|some b=>some b|none=>p)=some a then[] else[a])
 |[],p=>by simp only[ew,zk,List.getLast?_nil]; rfl
 |b::t,p=>by
  have d:=Uk a t (some b)
  have e:(match (b::t).getLast? with|some c=>some c|none=>p)=(match t.getLast? with|some c=>some c|none=>some b):=by
   cases t with
   |nil=>rfl
   |cons c t =>
    rw[List.getLast?_cons_cons]
    cases h:(c::t).getLast? with
    |none=>simp at h
    |some x=>rfl
  rw[e];simp only[fi,zk,d]
  split<;>simp
def Er (l:BY Int):∀m,m<=l.length->Lib.compactUpTo l.toArray m=zk none (l.take m)
 |0,_=>by simp[Lib.compactUpTo,zk]
 |m+1,h=>by
  have d:m<l.length:=h;rw[Lib.compactUpTo_succ,Er l m (by omega),take_succ (df d),Uk];congr 1
  have e:l.toArray[m]! = l[m]:=by simp[getElem!_pos,d]
  rw[e];unfold Lib.keeps;rw[e]
  cases m with
  |zero=>simp
  |succ m =>
   have c:m<l.length:=by omega
   have g:l.toArray[m+1-1]! = l[m]:=by simp[getElem!_pos,c]
   rw[g]
   have f:(l.take (m+1)).getLast?=some l[m]:=by rw[take_succ (df c),List.getLast?_append]; rfl
   rw[f]
   by_cases a:l[m+1]=l[m]
   ·simp[a]
   ·have:¬l[m]=l[m+1]:=fun h=>a h.symm;simp[a,this]
def adx (l:BY Int):CA l=zk none l:=by
 unfold CA Lib.compact;rw[Er l l.length (Nat.le_refl _),List.take_length]
def ahQ (l:BY Int):CA (zn l)=ZB l:=by rw[VZ,adx]; rfl
def Zp:∀{l:BY Int} {p:BE Int} {x:Int},p≠some x->(x∈zk p l↔x∈l)
 |[],_,_,_=>Iff.rfl
 |a::t,p,x,f=>by
  unfold zk
  by_cases c:x=a
  ·subst c;rw[if_neg f]; simp
  ·have d:=Zp (l:=t) (p:=some a) (x:=x) (fun e=>c (by cases e; rfl))
   split<;>simp[d,c]
def ad5:∀{l:BY Int} {p:BE Int},l.Pairwise (·<=·)->(∀q,p=some q->∀x∈l,q<=x)->(zk p l).Pairwise (·<·)/\∀q,p=some q->∀x∈zk p l,q<x
 |[],p,_,_=>⟨List.Pairwise.nil,fun _ _ _ h=>by cases h⟩
 |a::t,p,h,i=>by
  rw[List.pairwise_cons] at h;obtain⟨g,f⟩:=ad5 (l:=t) (p:=some a) h.2 (fun q d x c=>by cases d; exact h.1 x c);unfold zk
  split
  ·rename_i e;exact⟨g,fun q d x c=>by rw[e] at d; cases d; exact f _ rfl x c⟩
  ·rename_i e;refine⟨dN.2 ⟨fun x c=>f _ rfl x c,g⟩,fun q d x c=>?_⟩;have:=i q d a (by simp);have j:q≠a:=fun h=>e (by rw[d,h]);rcases dm.1 c with rfl|c
   ·omega
   ·have:=f _ rfl x c; omega
def wU {l:BY Int} {x:Int}:x∈ZB l↔x∈l:=by
 unfold ZB;rw[Zp (by simp),(ÿ l).mem_iff]
def EB (l:BY Int):(ZB l).Pairwise (·<·):=(ad5 (ŕ l) (fun q a=>by cases a)).1
def Zq:∀(l:BY Int) (p:BE Int),(zk p l).length<=l.length
 |[],_=>dh _
 |a::t,p=>by
  have:=Zq t (some a);unfold zk
  split<;>simp<;>omega
def Ga (l:BY Int):(ZB l).length<=l.length:=by
 unfold ZB;have:=Zq (Υ l) none
 rwa [(ÿ l).length_eq] at this
def YZ {l m:BY Int} (f:l.Pairwise (·<·)) (e:m.Pairwise (·<·)) (h:∀x,x∈l↔x∈m):l=m:=by
 induction l generalizing m with
 |nil =>
  cases m with
  |nil=>rfl
  |cons a t=>have:=(h a).2 (by simp); cases this
 |cons a t i =>
  rw[dN] at f
  cases m with
  |nil=>have:=(h a).1 (by simp); cases this
  |cons b u =>
   rw[dN] at e
   have g:a=b:=by
    rcases dm.1 ((h a).1 (by simp)) with c|c
    ·exact c
    ·rcases dm.1 ((h b).2 (by simp)) with h2|h2
     ·exact h2.symm
     ·have:=e.1 a c; have:=f.1 b h2; omega
   subst g;rw[i f.2 e.2 fun x=>?_];constructor
   ·intro d;rcases dm.1 ((h x).1 (by simp[d])) with c|c
    ·have:=f.1 x d; omega
    ·exact c
   ·intro d;rcases dm.1 ((h x).2 (by simp[d])) with c|c
    ·have:=e.1 x d; omega
    ·exact c
def vl (b:ø) (s:BY (Int×è)) (c:Cmp):Int :=
 if (c.2.2.1++c.2.2.2.1).any (fun id=>mz s id c.2.1==5) then 5 else
 if (c.2.2.1++c.2.2.2.1).any (fun id=>mz s id c.2.1==4) then 4 else
 if (c.2.2.1++c.2.2.2.1).any (fun id=>(Ŕ b id c.2.1).isSome) then 9 else
 if 1<(Þ c.2.2.1 c.2.2.2.1).length then 1 else if 1<(Þ c.2.2.2.1 c.2.2.1).length then 1 else
 if (Þ c.2.2.1 c.2.2.2.1).length+(Þ c.2.2.2.1 c.2.2.1).length=0 then 1 else 0
def JC (c:Cmp):Bool :=
 inP c.1 1 1099511627776&&(C6 c.2.1&&(inP c.2.2.2.2.1 (-1125899906842624) 1125899906842624&&(inP c.2.2.2.2.2.1 0 1073741824&&(j8 c.2.2.2.2.2.2 (-10000) 10000&&(uH c.2.2.1&&uH c.2.2.2.1)))))
def lQ (b:ø) (s:BY (Int×è)) (i:Nat) (c:Cmp):Int :=
 if !JC c then 1 else if (b.2.2.2.2.1.take i).any (fun x=>x.1==c.1) then 6 else vl b s c
def rV (a b:BY Int):(Þ a b).length<=a.length:=eh _ _
set_option maxHeartbeats 1000000 in
def RI {b:ø} (W:b.2.2.2.2.1.length<=1000) (R:b.2.2.2.1.length<=1000) (s:BY (Int×è)) {i:Nat} {c:Cmp} (Y:c.2.2.1.length<=1000) (X:c.2.2.2.1.length<=1000)
 (I:b.2.2.2.2.1[i]?=some c):ň b s i=some (lQ b s i c):=by
 have hi:i<b.2.2.2.2.1.length:=(List.getElem?_eq_some_iff.1 I).1;unfold ň pI lQ JC;rw[Ä I,ψ,À]
 cases inP c.1 1 1099511627776 with
 |false=>rfl
 |true =>
 rw[Nq,À]
 cases C6 c.2.1 with
 |false=>rfl
 |true =>
 rw[ψ,À]
 cases inP c.2.2.2.2.1 (-1125899906842624) 1125899906842624 with
 |false=>rfl
 |true =>
 rw[ψ,À]
 cases inP c.2.2.2.2.2.1 0 1073741824 with
 |false=>rfl
 |true =>
 rw[Ir,À]
 cases j8 c.2.2.2.2.2.2 (-10000) 10000 with
 |false=>rfl
 |true =>
 rw[Ip (by omega),À]
 cases uH c.2.2.1 with
 |false=>rfl
 |true =>
 rw[Ip (by omega),À]
 cases uH c.2.2.2.1 with
 |false=>rfl
 |true =>
 have T:((ile (0:Int) (i:Int))&&(ile (i:Int) (í b.2.2.2.2.1)))=true:=by simp[ile,í]; omega
 simp only[dU,æ,Bool.and_self,dA,if_false];rw[ä T,dt]
 -- what comes behind the IDs
 have rest:(Æ (ĩ ([c.2.2.1,c.2.2.2.1])) fun g=>Ë (fun(D:Int) o=>ő s g (Õ ([(5:Int),(4:Int)])) c.2.1 ([(5:Int),(4:Int)]) D (fun F=>o F) (fun z=>some z) (fun _=>Ë (fun(E:Int) r=>Ő g (Õ g) b.1.1 b.1.2 b.2.1 b.2.2.1 b.2.2.2.1 b.2.2.2.2.1 b.2.2.2.2.2 c.2.1 E (fun G=>r G) (fun y=>some y) (fun _=>Æ (Φ c.2.2.1 c.2.2.2.1) fun f=>Æ (Φ c.2.2.2.1 c.2.2.1) fun e=>ifb (igt (Õ f) (1:Int)) (some (1:Int)) (ifb (igt (Õ e) (1:Int)) (some (1:Int)) (ck ((Õ f)+(Õ e)) fun h=>ifb (ieq h (0:Int)) (some (1:Int)) (some (0:Int)))))) (0:Int))) (0:Int))=some (vl b s c):=by
  rw[Sj (by omega) (by omega),À]
  have J:(c.2.2.1++c.2.2.2.1).length<=2000:=by simp; omega
  have last:(Æ (Φ c.2.2.1 c.2.2.2.1) fun f=>Æ (Φ c.2.2.2.1 c.2.2.1) fun e=>ifb (igt (Õ f) (1:Int)) (some (1:Int)) (ifb (igt (Õ e) (1:Int)) (some (1:Int)) (ck ((Õ f)+(Õ e)) fun h=>ifb (ieq h (0:Int)) (some (1:Int)) (some (0:Int))))) =
   some (if 1<(Þ c.2.2.1 c.2.2.2.1).length then 1 else if 1<(Þ c.2.2.2.1 c.2.2.1).length then 1 else if (Þ c.2.2.1 c.2.2.2.1).length+(Þ c.2.2.2.1 c.2.2.1).length=0 then 1 else 0):=by
   rw[Bi (by omega) (by omega),À,Bi (by omega) (by omega),À];have V:=rV c.2.2.1 c.2.2.2.1;have U:=rV c.2.2.2.1 c.2.2.1;rw[Î,Î,Ï (by omega) (by omega)]
   by_cases P:1<(Þ c.2.2.1 c.2.2.2.1).length
   ·rw[Ñ (by simp[igt]; omega),if_pos P]
   rw[Í (by simp[igt]; omega),if_neg P]
   by_cases O:1<(Þ c.2.2.2.1 c.2.2.1).length
   ·rw[Ñ (by simp[igt]; omega),if_pos O]
   rw[Í (by simp[igt]; omega),if_neg O]
   by_cases K:(Þ c.2.2.1 c.2.2.2.1).length+(Þ c.2.2.2.1 c.2.2.1).length=0
   ·rw[Ñ (by simp[ieq]; omega),if_pos K]
   rw[Í (by simp[ieq]; omega),if_neg K]
  refine ej (jv [(5:Int),4] (fun _ d=>if (c.2.2.1++c.2.2.2.1).any (fun id=>mz s id c.2.1==d) then some d else none) some (some (if (c.2.2.1++c.2.2.2.1).any (fun id=>(Ŕ b id c.2.1).isSome) then 9 else if 1<(Þ c.2.2.1 c.2.2.2.1).length then 1 else if 1<(Þ c.2.2.2.1 c.2.2.1).length then 1 else if (Þ c.2.2.1 c.2.2.2.1).length+(Þ c.2.2.2.1 c.2.2.1).length=0 then 1 else 0)) (fun j d n Q v=>?_) (fun v=>?_)) ?_
  ·try dsimp only
   unfold ő;rw[Ì n,ś n,Ă Q];refine Eq.trans (ē (c.2.2.1++c.2.2.2.1) (fun id=>mz s id c.2.1==d) (fun _=>some d) (some d) (v ((j:Int)+1)) (fun _=>rfl) (fun k a u ha l=>?_) (fun l=>?_)) ?_
   ·try dsimp only
    unfold jf;rw[Ì u,Ä ha,acK,À,Ê u (by omega),ô]
   ·try dsimp only
    unfold jf;rw[Ó,Ê n (by simp)]
   ·cases List.any (c.2.2.1++c.2.2.2.1) (fun id=>mz s id c.2.1==d)<;>rfl
  ·try dsimp only
   unfold ő;rw[Ó];refine Eq.trans (ē (c.2.2.1++c.2.2.2.1) (fun id=>(Ŕ b id c.2.1).isSome) (fun _=>some 9) (some 9) (some (if 1<(Þ c.2.2.1 c.2.2.2.1).length then 1 else if 1<(Þ c.2.2.2.1 c.2.2.1).length then 1 else if (Þ c.2.2.1 c.2.2.2.1).length+(Þ c.2.2.2.1 c.2.2.1).length=0 then 1 else 0)) (fun _=>rfl) (fun k a u ha l=>?_) (fun l=>?_)) ?_
   ·try dsimp only
    unfold Ő;have H:=akp R a c.2.1;rw[Ì u,Ä ha,Ê u (by omega)];rw[show yz ((b.1.1,b.1.2),b.2.1,b.2.2.1,b.2.2.2.1,b.2.2.2.2.1,b.2.2.2.2.2) a c.2.1=yz b a c.2.1 from rfl,H,À]
    cases Ŕ b a c.2.1<;>rfl
   ·try dsimp only
    unfold Ő;rw[Ó,last]
   ·cases List.any (c.2.2.1++c.2.2.2.1) (fun id=>(Ŕ b id c.2.1).isSome)<;>rfl
  ·unfold vl Ĝ Ĝ Ĝ
   try dsimp only
   cases List.any (c.2.2.1++c.2.2.2.1) (fun id=>mz s id c.2.1==5) with
   |true=>rfl
   |false =>
   cases List.any (c.2.2.1++c.2.2.2.1) (fun id=>mz s id c.2.1==4)<;>rfl
 refine ej (ē (b.2.2.2.2.1.take i) (fun x=>x.1==c.1) (fun C=>ifb (ige C (0:Int)) (some 6) (some (vl b s c))) (some 6) (some (vl b s c)) (fun j=>?_) (fun j a n ha v=>?_) (fun v=>?_)) ?_
 ·have:ige (j:Int) 0=true:=by simp[ige]
  rw[Ñ this]
 ·try dsimp only
  unfold jg;rw[rest,Ì n,Ä ha,Ê n (by rw[List.length_take]; omega),ô]
 ·try dsimp only
  unfold jg;rw[Ó,rest]
 ·cases List.any (b.2.2.2.2.1.take i) (fun x=>x.1==c.1)<;>rfl
def abF (b:ø) (g:è):BY Int :=
 [g.2.1]++(b.2.2.2.2.1.filter fun c=>!(c.2.2.1.contains g.1==c.2.2.2.1.contains g.1)).map (fun c=>c.2.1)++(b.2.2.2.2.2.filter fun n=>n.1==g.1).map (fun n=>n.2)
def Ü (b:ø) (g:è):BY Int:=ZB (abF b g)
structure jp (b:ø):Prop where
 gauges:b.2.1.length<=1000
 uses:b.2.2.1.length<=1000
 loans:b.2.2.2.1.length<=1000
 compares:b.2.2.2.2.1.length<=1000
 looks:b.2.2.2.2.2.length<=1000
 piles:∀c∈b.2.2.2.2.1,c.2.2.1.length<=1000/\c.2.2.2.1.length<=1000
def Zw (l:BY Int):(zn l).length=l.length:=List.length_mergeSort l
def abE {b:ø} (a:jp b) (g:è):(abF b g).length<=2001:=by
 have f:=a.compares;have h2:=a.looks;have e:=eh (fun c:Cmp=>!(c.2.2.1.contains g.1==c.2.2.2.1.contains g.1)) b.2.2.2.2.1;have d:=eh (fun n:Int×Int=>n.1==g.1) b.2.2.2.2.2;simp only[abF,di,dL,dS];omega
def ajt {b:ø} (d:jp b) (g:è):qx b g=some (Ü b g):=by
 unfold qx Ya;have y:=abE d g
 have hd:(Ü b g).length<=2001:=by
  unfold Ü;have:=Ga (abF b g);omega
 have r:=d.compares;have o:=d.looks;refine ï b.2.2.2.2.1 (fun i=>[g.2.1]++((b.2.2.2.2.1.take i).filter fun c=>!(c.2.2.1.contains g.1==c.2.2.2.1.contains g.1)).map (fun c=>c.2.1)) _ rfl (fun i c hi f e=>?_) (fun e=>?_)
 ·try dsimp only
  unfold xY;obtain⟨v,u⟩:=d.piles c (List.mem_of_getElem? f);rw[Ì hi,Ä f,ŝ (by omega),À,ŝ (by omega),À,Ê hi (by omega),Ê hi (by omega),take_succ f,List.filter_append,List.map_append]
  have a:([g.2.1]++((b.2.2.2.2.1.take i).filter fun c=>!(c.2.2.1.contains g.1==c.2.2.2.1.contains g.1)).map (fun c=>c.2.1)).length<=1001:=by
   have l:=eh (fun c:Cmp=>!(c.2.2.1.contains g.1==c.2.2.2.1.contains g.1)) (b.2.2.2.2.1.take i);rw[du] at l;simp only[di,dL,dS];omega
  rw[Ò (by simp only[dS]; omega),Am.iff_true]
  cases h:(c.2.2.1.contains g.1==c.2.2.2.1.contains g.1) with
  |true=>simp only[dU,æ,eT,h,dA,if_false,eS,fF,dB]
  |false=>simp only[fK,ku,eT,h,if_true,eS,fe,fF,dp]
 ·try dsimp only
  unfold xY;rw[Ó,List.take_length];refine ï b.2.2.2.2.2 (fun i=>[g.2.1]++(b.2.2.2.2.1.filter fun c=>!(c.2.2.1.contains g.1==c.2.2.2.1.contains g.1)).map (fun c=>c.2.1)++((b.2.2.2.2.2.take i).filter fun n=>n.1==g.1).map (fun n=>n.2)) _ (by simp) (fun i n hi j e=>?_) (fun e=>?_)
  ·try dsimp only
   unfold xX;rw[Ì hi,Ä j,Ê hi (by omega),Ê hi (by omega),take_succ j,List.filter_append,List.map_append]
   have a:([g.2.1]++(b.2.2.2.2.1.filter fun c=>!(c.2.2.1.contains g.1==c.2.2.2.1.contains g.1)).map (fun c=>c.2.1)++((b.2.2.2.2.2.take i).filter fun n=>n.1==g.1).map (fun n=>n.2)).length<=2001:=by
    have l:=eh (fun c:Cmp=>!(c.2.2.1.contains g.1==c.2.2.2.1.contains g.1)) b.2.2.2.2.1;have s:=eh (fun n:Int×Int=>n.1==g.1) (b.2.2.2.2.2.take i);rw[du] at s;simp only[di,dL,dS];omega
   rw[Ò (by simp only[dS]; omega),Am.iff_true]
   cases h:(n.1==g.1) with
   |true =>
    have:ieq n.1 g.1=true:=h;simp[h,this]
   |false =>
    have:ieq n.1 g.1=false:=h;simp[h,this]
  ·try dsimp only
   unfold xX;rw[Ó,List.take_length];rw[show([g.2.1]++(b.2.2.2.2.1.filter fun c=>!(c.2.2.1.contains g.1==c.2.2.2.1.contains g.1)).map (fun c=>c.2.1)++(b.2.2.2.2.2.filter fun n=>n.1==g.1).map (fun n=>n.2))=abF b g from rfl];dsimp only;rw[Ò (by omega),Am.iff_true,Ò (by rw[Zw]; omega),Am.iff_true,ahQ];rfl
def Ø (b:ø):BY (Int×Int):=b.2.1.flatMap fun g=>(Ü b g).map fun d=>((g.1,d):Int×Int)
def I3 {b:ø} (a:jp b) (g:è):(Ü b g).length<=2001:=by
 unfold Ü;have:=Ga (abF b g);have:=abE a g;omega
def yl {α β:Type} (f:α->BY β) (n:Nat) (h:∀a,(f a).length<=n):∀l:BY α,(l.flatMap f).length<=l.length*n
 |[]=>by simp
 |a::l=>by
  have:=yl f n h l;have:=h a;simp only[dF,di,dr,dK,fu];omega
def WB {b:ø} (f:jp b):sh b=some (Ø b):=by
 unfold sh QK;have u:=f.gauges
 have a:∀l:BY è,(l.flatMap fun g=>(Ü b g).map fun d=>((g.1,d):Int×Int)).length<=l.length*2001:=fun l =>
  yl _ 2001 (fun g=>by rw[dL]; exact I3 f g) l
 refine ï b.2.1 (fun i=>(b.2.1.take i).flatMap fun g=>(Ü b g).map fun d=>((g.1,d):Int×Int)) _ rfl (fun i g hi c o=>?_) (fun o=>?_)
 ·try dsimp only
  unfold uj;rw[Ì hi,Ä c];rw[show qx ((b.1.1,b.1.2),b.2.1,b.2.2.1,b.2.2.2.1,b.2.2.2.2.1,b.2.2.2.2.2) g=qx b g from rfl,ajt f,À];have hd:=I3 f g;have s:=a (b.2.1.take i)
  have r:(b.2.1.take i).length<=1000:=by rw[du]; omega
  refine ï (Ü b g) (fun j=>((b.2.1.take i).flatMap fun g=>(Ü b g).map fun d=>((g.1,d):Int×Int))++((Ü b g).take j).map fun d=>((g.1,d):Int×Int)) _ (by simp) (fun j d n e h=>?_) (fun h=>?_)
  ·try dsimp only
   unfold uh;rw[Ì n,Ä e,Ê n (by omega),take_succ e,List.map_append];rw[Ò (by simp only[List.length_append,List.length_map,List.length_take,List.length_singleton]; omega),Am.iff_true];simp
  ·try dsimp only
   unfold uh;rw[Ó,List.take_length];dsimp only;rw[Ê hi (by omega),take_succ c,List.flatMap_append];simp
 ·try dsimp only
  unfold uj;rw[Ó,List.take_length];rfl
def zy (b:ø) (s:BY (Int×è)):BY Int :=
 b.2.2.1.map (fun u=>ack s u.1 u.2)++(b.2.2.2.1.mapIdx (fun i l=>MZ b s i l)++(b.2.2.2.2.1.mapIdx (fun i c=>lQ b s i c)++b.2.2.2.2.2.map (fun u=>ack s u.1 u.2)))
def aax {α:Type} {f:Int->BE Int} {g:Nat->α->Int} (l:BY α) (h:∀(i:Nat) (a:α),l[i]?=some a->f i=some (g i a)):OH f (zj l.length)=some (l.mapIdx g):=by
 have j:∀i,i<l.length->f (i:Int)=some ((l.mapIdx g)[i]?.getD 0):=by
  intro i hi;rw[h i l[i] (df hi)];simp[hi]
 have h2:∀x∈zj l.length,f x=some ((l.mapIdx g)[x.toNat]?.getD 0):=by
  intro x c;unfold zj at c;obtain⟨i,hi,rfl⟩:=List.mem_map.1 c;rw[j i (by simpa using hi)];rfl
 rw[GA h2];congr 1;refine ip (by simp[zj]) fun i n e=>?_
 have d:i<l.length:=by simpa using e
 simp[zj,d]
def alp {b:ø} (a:jp b) (s:BY (Int×è)):po b s=some (zy b s):=by
 unfold po zy
 rw[GA (fun u _=>ZT s u.1 u.2),À,aax b.2.2.2.1 (fun i l e=>abM a.loans a.uses s e),À,
  aax b.2.2.2.2.1 (fun i c d=>RI a.compares a.loans s (a.piles c (dk d)).1 (a.piles c (dk d)).2 d),À,GA (fun u _=>ZT s u.1 u.2),À]
def ş (b:ø):Int :=
 if !j8 b.1 0 1000000 then 1 else
 if 12<b.2.1.length then 2 else if 40<b.2.2.1.length then 2 else if 12<b.2.2.2.1.length then 2 else if 40<b.2.2.2.2.1.length then 2 else if 10<b.2.2.2.2.2.length then 2 else
 if jU b != 0 then jU b else
 match (zy b (ŗ b)).find? (fun e=>e != 0) with
 |some e=>e
 |none=>if 59<(Ø b).length then 2 else if 300<2*b.2.1.length+2*((Ø b).length-b.2.1.length:Int)+2*b.2.2.2.2.1.length then 2 else 0
def JD {b:ø} (a:jp b):(Ø b).length<=2001000:=by
 have:=yl (fun g:è=>(Ü b g).map fun d=>((g.1,d):Int×Int)) 2001 (fun g=>by rw[List.length_map]; exact I3 a g) b.2.1;have h2:=a.gauges;unfold Ø;omega
def CI {b:ø} (a:jp b) (o:∀g∈b.2.1,I64 g.2.2.2.2.1.1):Ω b=some (ş b):=by
 unfold Ω QV ş;rw[Ir,À]
 cases j8 b.1 0 1000000 with
 |false=>rfl
 |true =>
 have d:=a.gauges;have h2:=a.compares;have r:=JD a;rw[Í (show(!true)=false from rfl),if_neg (by simp)];simp only[Î]
 by_cases c0:12<b.2.1.length
 ·rw[Ñ (by simp[igt]; omega),if_pos c0]
 rw[Í (by simp[igt]; omega),if_neg c0]
 by_cases n:40<b.2.2.1.length
 ·rw[Ñ (by simp[igt]; omega),if_pos n]
 rw[Í (by simp[igt]; omega),if_neg n]
 by_cases l:12<b.2.2.2.1.length
 ·rw[Ñ (by simp[igt]; omega),if_pos l]
 rw[Í (by simp[igt]; omega),if_neg l]
 by_cases j:40<b.2.2.2.2.1.length
 ·rw[Ñ (by simp[igt]; omega),if_pos j]
 rw[Í (by simp[igt]; omega),if_neg j]
 by_cases i:10<b.2.2.2.2.2.length
 ·rw[Ñ (by simp[igt]; omega),if_pos i]
 rw[Í (by simp[igt]; omega),if_neg i];rw[Uc o d,À]
 cases c:(jU b != 0) with
 |true =>
  have:ine (jU b) 0=true:=c;rw[Ñ this,if_pos rfl]
 |false =>
 have:ine (jU b) 0=false:=c;rw[Í this,if_neg (by simp)];rw[Jt d,À];unfold ZK;rw[alp a,À]
 cases(zy b (ŗ b)).find? (fun e=>e != 0) with
 |some e=>rfl
 |none =>
 dsimp only;rw[WB a,À]
 by_cases h:59<(Ø b).length
 ·rw[Ñ (by simp[igt]; omega),if_pos h]
 rw[Í (by simp[igt]; omega),if_neg h];rw[Ï (by omega) (by omega),Ï (by omega) (by omega),Ï (by omega) (by omega),Ï (by omega) (by omega),Ï (by omega) (by omega),Ï (by omega) (by omega)]
 by_cases f:300<2*b.2.1.length+2*((Ø b).length-b.2.1.length:Int)+2*b.2.2.2.2.1.length
 ·rw[Ñ (by simp[igt]; omega),if_pos f]
 rw[Í (by simp[igt]; omega),if_neg f]
def wrapU {n:Nat} (h:n<18446744073709551616):IntKind.wrap .u64 (n:Int)=n:=by
 simp only[IntKind.wrap,IntKind.bits,IntKind.signed];simp;omega
def aho {n:Nat} (h:n<9223372036854775808):IntKind.wrap .i64 (n:Int)=n:=by
 simp only[IntKind.wrap,IntKind.bits,IntKind.signed];simp;omega
def i8 (l:BY (Int×Int)) (x d:Int):BE Nat:=l.findIdx? fun n=>decide (x=n.1)&&decide (d=n.2)
def acb {l:BY (Int×Int)} (e:l.length<=100000000) (x d:Int):ù l (x,d)=some (match i8 l x d with|some j=>(j:Int)|none=>-1):=by
 unfold ù ŷ;refine Eq.trans (jn l (fun n=>decide (x=n.1)&&decide (d=n.2)) some (some (-1)) (fun i a hi ha c=>?_) (fun c=>?_)) ?_
 ·try dsimp only
  unfold Ĩ;rw[Ì hi,Ä ha,Ê hi (by omega),ô,Bool.and_true]
 ·try dsimp only
  unfold Ĩ;rw[Ó]
 ·unfold i8
  cases List.findIdx? (fun n=>decide (x=n.1)&&decide (d=n.2)) l<;>rfl
def atP (l:BY (Int×Int)) (p:BY Int) (d:Int):Int :=
 match p with
 |[]=>0
 |x::_=>match i8 l x d with|some j=>(j:Int)+1|none=>0
def l6 {l:BY (Int×Int)} {x d:Int} {j:Nat} (h:i8 l x d=some j):j<l.length/\l[j]?=some (x,d):=by
 unfold i8 at h;obtain⟨c,a,_⟩:=List.findIdx?_eq_some_iff_getElem.1 h;refine⟨c,?_⟩;rw[List.getElem?_eq_getElem c];simp only[Bool.and_eq_true,decide_eq_true_eq] at a;congr 1;exact Prod.ext a.1.symm a.2.symm
def aov (m:Maker) (p:BY Int) (d:Int) (e:m.2.1.length<=100000000):mg m p d=some (atP m.2.1 p d):=by
 unfold mg Ba atP
 cases p with
 |nil=>simp[Î,ieq]
 |cons x p =>
  have h:ieq (Õ (x::p)) 0=false:=by
   rw[Î];simp only[ieq,dr,beq_eq_false_iff_ne,ne_eq];omega
  rw[h,æ,show(0:Int)=((0:Nat):Int) from rfl,Ä (a:=x) rfl,acb e,À]
  cases c:i8 m.2.1 x d with
  |none=>dsimp only; rw[Ï (by omega) (by omega)]; simp only[c]; rfl
  |some j =>
   have:=(l6 c).1;dsimp only;rw[Ï (by omega) (by omega)];simp only[c]
def Gb (s:BY (Int×è)) (p:BY Int):Int×Int :=
 match p with
 |[]=>(0,1)
 |x::_=>match sS (k:=tI) (v:=Ö) x s with
  |some g=>g.2.2.2.2.1
  |none=>(0,0)
def ZJ (s:BY (Int×è)) (p:BY Int):jo s p=some (Gb s p):=by
 unfold jo pH Gb
 cases p with
 |nil=>simp[Î,ieq]
 |cons x p =>
  have h:ieq (Õ (x::p)) 0=false:=by
   rw[Î];simp only[ieq,dr,beq_eq_false_iff_ne,ne_eq];omega
  rw[h,æ,show(0:Int)=((0:Nat):Int) from rfl,Ä (a:=x) rfl]
  cases c:sS (k:=tI) (v:=Ö) x s with
  |none=>simp only[Sk,c]
  |some g=>simp only[Sk,c]
def ad2 {l:BY (Int×Int)} (d:∀r∈l,I64 r.1) (e:l.length<=1000):lq l=some (if l.any (fun r=>!Lj r) then 1 else 0):=by
 unfold lq Qx;refine Eq.trans (ē l (fun r=>!Lj r) (fun _=>some 1) (some 1) (some 0) (fun _=>rfl) (fun i a hi ha c=>?_) (fun c=>?_)) ?_
 ·try dsimp only
  unfold ue;rw[Ì hi,Ä ha,Y7 (d a (List.mem_of_getElem? ha)),À,Ê hi (by omega),ô]
 ·try dsimp only
  unfold ue;rw[Ó]
 ·cases l.any (fun r=>!Lj r)<;>rfl
def pw (n d:Int):Int×Int:=(n / (Nat.gcd n.natAbs d.natAbs:Nat),d / (Nat.gcd n.natAbs d.natAbs:Nat))
def lC (r:Int×Int):Lj r=true↔1<=r.2/\r.2<=2147483647/\(r.1.natAbs:Int)<=2147483647/\Nat.gcd r.1.natAbs r.2.natAbs=1:=by
 simp[Lj]
def BQ {n d:Int} (hd:0<d):∃g:Nat,0<g/\g=Nat.gcd n.natAbs d.natAbs/\n=(pw n d).1*g/\d=(pw n d).2*g:=by
 have a:0<Nat.gcd n.natAbs d.natAbs:=Nat.gcd_pos_of_pos_right _ (by omega);refine⟨_,a,rfl,?_,?_⟩
 ·exact(Int.ediv_mul_cancel (Int.ofNat_dvd_left.2 (Nat.gcd_dvd_left _ _))).symm
 ·exact(Int.ediv_mul_cancel (Int.ofNat_dvd_left.2 (Nat.gcd_dvd_right _ _))).symm
def Wa {n d:Int} (hd:0<d) (o:n.natAbs<=2147483647) (f:d<=2147483647):Lj (pw n d)=true:=by
 obtain⟨g,h0,e,j,h2⟩:=BQ (n:=n) hd;rw[lC]
 have c:n.natAbs=(pw n d).1.natAbs*g:=by conv=>lhs; rw[j]; rw[f0,gd]
 have a:d.natAbs=(pw n d).2.natAbs*g:=by conv=>lhs; rw[h2]; rw[f0,gd]
 have l:0<(pw n d).2:=by
  rcases Int.lt_trichotomy (pw n d).2 0 with h|h|h
  ·have:=Int.mul_neg_of_neg_of_pos h (show(0:Int)<g by omega); omega
  ·rw[h] at h2; simp at h2; omega
  ·exact h
 have s:(pw n d).1.natAbs<=n.natAbs:=by rw[c]; exact gB _ h0
 have r:(pw n d).2.natAbs<=d.natAbs:=by rw[a]; exact gB _ h0
 refine⟨by omega,by omega,by omega,?_⟩;have:=Nat.gcd_mul_right (pw n d).1.natAbs g (pw n d).2.natAbs;rw[<-c,<-a,<-e] at this
 have i:(Nat.gcd (pw n d).1.natAbs (pw n d).2.natAbs)*g=1*g:=by omega
 exact Nat.eq_of_mul_eq_mul_right h0 i
def Us {n d:Int} (hd:0<d) (l:n.natAbs<=2147483647) (e:d<=2147483647):sg n d=some (pw n d,0):=by
 obtain⟨g,h0,o,r,h2⟩:=BQ (n:=n) hd;have D:=(lC _).1 (Wa hd l e);unfold sg FC;rw[V5 ⟨by omega,by omega⟩,À,V5 ⟨by omega,by omega⟩,À,am8,À,<-o]
 have C:n.natAbs=(pw n d).1.natAbs*g:=by conv=>lhs; rw[r]; rw[f0,gd]
 have y:d.natAbs=(pw n d).2.natAbs*g:=by conv=>lhs; rw[h2]; rw[f0,gd]
 have j:Int.tdiv (n.natAbs:Int) (g:Int)=((pw n d).1.natAbs:Int):=by
  rw[C,iz]; exact gP _ (by omega)
 have i:Int.tdiv (d.natAbs:Int) (g:Int)=((pw n d).2.natAbs:Int):=by
  rw[y,iz]; exact gP _ (by omega)
 have z:oy (g:Int) 0=false:=by simp[oy]; omega
 have u:igt ((pw n d).1.natAbs:Int) 2147483647=false:=by simp[igt]; omega
 have s:igt ((pw n d).2.natAbs:Int) 2147483647=false:=by simp[igt]; omega
 rw[Í z,Í z,j,i,wrapU (by omega),wrapU (by omega),aho (by omega),aho (by omega),Í u,Í s]
 have f:ilt d 0=false:=by simp[ilt]; omega
 rw[f]
 have v:((pw n d).2.natAbs:Int)=(pw n d).2:=by omega
 rw[v]
 by_cases c:n<0
 ·have a:ilt n 0=true:=by simp[ilt,c]
  have:(pw n d).1<=0:=by
   rcases gZ 0 (pw n d).1 with h|h
   ·have:=Int.mul_pos h (show(0:Int)<g by omega); omega
   ·exact h
  rw[a];rw[show(!true==false)=true from rfl,ku,Ï (by omega) (by omega)]
  have:0-((pw n d).1.natAbs:Int)=(pw n d).1:=by omega
  rw[this]
 ·have a:ilt n 0=false:=by simp[ilt]; omega
  have:0<=(pw n d).1:=by
   rcases gZ (pw n d).1 0 with h|h
   ·have:=Int.mul_neg_of_neg_of_pos h (show(0:Int)<g by omega); omega
   ·exact h
  rw[a];rw[show(!false==false)=false from rfl,æ]
  have:((pw n d).1.natAbs:Int)=(pw n d).1:=by omega
  rw[this]
structure sI (r:Int×Int) (n d:Int):Prop where
 rat:Lj r=true
 num : -n<=r.1/\r.1<=n
 den:r.2<=d
def sI.pos {r:Int×Int} {n d:Int} (h:sI r n d):1<=r.2:=((lC r).1 h.rat).1
def sI.i64 {r:Int×Int} {n d:Int} (h:sI r n d):I64 r.1:=by
 have:=((lC r).1 h.rat).2.2.1;exact⟨by omega,by omega⟩
def ahy {x y:Int×Int} (d:Lj x=true) (c:Lj y=true):lq [x,y]=some 0:=by
 rw[ad2]
 ·simp[d,c]
 ·intro r a
  have:Lj r=true:=by simp at a; rcases a with rfl|rfl<;>assumption
  have:=((lC r).1 this).2.2.1;exact⟨by omega,by omega⟩
 ·simp
def oh {a b m n:Int} (g : -m<=a/\a<=m) (h2 : -n<=b/\b<=n) : -(m*n)<=a*b/\a*b<=m*n:=by
 have d:0<=m:=by omega
 have c:0<=n:=by omega
 have f:(a*b).natAbs<=(m*n).natAbs:=by
  rw[f0,f0];exact fN (by omega) (by omega)
 have e:0<=m*n:=fZ d c;omega
def subP (x y:Int×Int):Int×Int:=pw (x.1*y.2-y.1*x.2) (x.2*y.2)
def Jp {x y:Int×Int} (c:sI x 1000 100) (a:sI y 1000 100):(x.1*y.2-y.1*x.2).natAbs<=200000/\0<x.2*y.2/\x.2*y.2<=10000:=by
 have f:=oh c.num (show -100<=y.2/\y.2<=100 from⟨by have:=a.pos; omega,a.den⟩);have h2:=oh a.num (show -100<=x.2/\x.2<=100 from⟨by have:=c.pos; omega,c.den⟩);have e:=oh (show -100<=x.2/\x.2<=100 from⟨by have:=c.pos; omega,c.den⟩) (show -100<=y.2/\y.2<=100 from⟨by have:=a.pos; omega,a.den⟩);have d:=Int.mul_pos (show 0<x.2 by have:=c.pos; omega) (show 0<y.2 by have:=a.pos; omega);refine⟨by omega,d,by omega⟩
def Sub_ok {x y:Int×Int} (c:sI x 1000 100) (a:sI y 1000 100):YE x y=some (subP x y,0):=by
 obtain⟨f,d,b3⟩:=Jp c a;have e:=oh c.num (show -100<=y.2/\y.2<=100 from⟨by have:=a.pos; omega,a.den⟩);have h2:=oh a.num (show -100<=x.2/\x.2<=100 from⟨by have:=c.pos; omega,c.den⟩);unfold YE ac8;rw[ahy c.rat a.rat,À];rw[show ine (0:Int) 0=false from rfl,æ,Ï (by omega) (by omega),Ï (by omega) (by omega),Ï (by omega) (by omega),Ï (by omega) (by omega),Us d (by omega) (by omega),À];rfl
def ahW {n d:Int} (hd:0<d):(pw n d).1.natAbs<=n.natAbs/\(pw n d).2<=d:=by
 obtain⟨g,h0,h,a,h2⟩:=BQ (n:=n) hd
 have f:n.natAbs=(pw n d).1.natAbs*g:=by conv=>lhs; rw[a]; rw[f0,gd]
 have e:d.natAbs=(pw n d).2.natAbs*g:=by conv=>lhs; rw[h2]; rw[f0,gd]
 have c:(pw n d).1.natAbs<=n.natAbs:=by rw[f]; exact gB _ h0
 have i:(pw n d).2.natAbs<=d.natAbs:=by rw[e]; exact gB _ h0
 exact⟨c,by omega⟩
def NV {x y:Int×Int} (d:sI x 1000 100) (c:sI y 1000 100):sI (subP x y) 200000 10000:=by
 obtain⟨g,a,b3⟩:=Jp d c;obtain⟨f,e⟩:=ahW (n:=x.1*y.2-y.1*x.2) a;exact⟨Wa a (by omega) (by omega),by unfold subP; omega,by unfold subP; omega⟩
def Gx (k:Int×Int) (n:Int):Int×Int:=pw (k.1*n) k.2
def JF {k:Int×Int} (c:sI k 200000 10000) {n:Int} (a : -10000<=n/\n<=10000):(k.1*n).natAbs<=2000000000:=by
 have:=oh c.num a;omega
def ade {n:Int} (a : -10000<=n/\n<=10000):Lj (n,1)=true:=by
 rw[lC];exact⟨by simp,by simp,by simp; omega,by simp⟩
def ank {k:Int×Int} (a:sI k 200000 10000) {n:Int} (c : -10000<=n/\n<=10000):Ry k (n,1)=some (Gx k n,0):=by
 have b:=JF a c;have p:=a.pos;have q:=a.den;unfold Ry ada;rw[ahy a.rat (ade c),À];rw[show ine (0:Int) 0=false from rfl,æ,Ï (by simp only; omega) (by simp only; omega),Int.mul_one,Ï (by omega) (by omega),Us (by omega) (by simp only; omega) (by omega),À];rfl
def WG {k:Int×Int} (a:sI k 200000 10000) {n:Int} (c : -10000<=n/\n<=10000):sI (Gx k n) 2000000000 10000:=by
 have b:=JF a c;have p:=a.pos;have q:=a.den;obtain⟨e,d⟩:=ahW (n:=k.1*n) (show 0<k.2 by omega);exact⟨Wa (by omega) (by omega) (by omega),by unfold Gx; omega,by unfold Gx; omega⟩
def ane (x y:Int×Int):Int:=if x=y then 0 else if x.1*y.2<y.1*x.2 then -1 else if y.1*x.2<x.1*y.2 then 1 else 0
def anc {x y:Int×Int} {m d:Int} (a:sI x m d) (c:sI y m d) (e:m<=2000000000) (hd:d<=10000):Rw x y=some (ane x y):=by
 have g:=oh a.num (show -d<=y.2/\y.2<=d from⟨by have:=c.pos; have:=c.den; omega,c.den⟩);have h2:=oh c.num (show -d<=x.2/\x.2<=d from⟨by have:=a.pos; have:=a.den; omega,a.den⟩);have h0:0<=m/\0<=d:=⟨by have:=a.num; omega,by have:=a.pos; have:=a.den; omega⟩;have f:m*d<=2000000000*10000:=Int.mul_le_mul e hd h0.2 (by omega);unfold Rw ac6 ane;rw[Ï (by omega) (by omega),Ï (by omega) (by omega)];simp only[ô,Bool.and_true,Bool.and_eq_true,decide_eq_true_eq,oy,ilt,igt,gt_iff_lt];have:(x.1=y.1/\x.2=y.2)↔x=y:=⟨fun h=>Prod.ext h.1 h.2,fun h=>by rw[h]; exact⟨rfl,rfl⟩⟩;simp only[this]
 (repeat' split)<;>rfl
def Wv (k:Int×Int) (heat:Int×Int):(Int×Int)×(Int×Int) :=
 if 0<ane (Gx k heat.1) (Gx k heat.2) then(Gx k heat.2,Gx k heat.1) else(Gx k heat.1,Gx k heat.2)
def anR {k heat:Int×Int} (a:sI k 200000 10000) (d:j8 heat (-10000) 10000=true):qw k heat=some (Wv k heat):=by
 simp only[j8,Bool.and_eq_true,decide_eq_true_eq] at d;obtain⟨g,h2,f⟩:=d;have n1 : -10000<=heat.1/\heat.1<=10000:=⟨by omega,by omega⟩;have c : -10000<=heat.2/\heat.2<=10000:=⟨by omega,by omega⟩;have r1:sI (heat.1,1) 10000 10000:=⟨ade n1,n1,by simp⟩;have r2:sI (heat.2,1) 10000 10000:=⟨ade c,c,by simp⟩;unfold qw xO Rx QD uX uR;rw[ahy r1.rat r2.rat,À];have:ieq 0 0=true:=rfl;rw[Ñ this,anc r1 r2 (by omega) (by omega),À]
 have e:ile (ane (heat.1,1) (heat.2,1)) 0=true:=by
  unfold ane;simp only[ile,decide_eq_true_eq,Int.mul_one]
  split
  ·omega
  ·split
   ·omega
   ·rw[if_neg (by omega)]; omega
 rw[e,À];simp only[Bool.not_true,æ];rw[Y7 a.i64,a.rat,À];simp only[Bool.not_true,æ];rw[ank a n1,À,ank a c,À];simp only[show ine (0:Int) 0=false from rfl,æ];rw[anc (WG a n1) (WG a c) (by omega) (by omega),À];unfold Wv;rw[ô]
 by_cases h:0<ane (Gx k heat.1) (Gx k heat.2)
 ·rw[if_pos h,if_pos (by simpa[igt] using h)]; rfl
 ·rw[if_neg h,if_neg (by simpa[igt] using h)]; rfl
def rateK (s:BY (Int×è)) (c:Cmp):Int×Int:=subP (Gb s (Þ c.2.2.1 c.2.2.2.1)) (Gb s (Þ c.2.2.2.1 c.2.2.1))
def iL (b:ø) (c:Cmp):(Int×Int)×(Int×Int):=Wv (rateK (ŗ b) c) c.2.2.2.2.2.2
def ai6 {b:ø} (d:jp b) {c:Cmp} (g:c.2.2.1.length<=1000) (f:c.2.2.2.1.length<=1000)
 (a:sI (Gb (ŗ b) (Þ c.2.2.1 c.2.2.2.1)) 1000 100) (h2:sI (Gb (ŗ b) (Þ c.2.2.2.1 c.2.2.1)) 1000 100) (e:j8 c.2.2.2.2.2.2 (-10000) 10000=true):wH b c=some (iL b c):=by
 unfold wH Kx;rw[Jt d.gauges,À,Bi (by omega) (by omega),À,ZJ,À,Bi (by omega) (by omega),À,ZJ,À];unfold yx xP;rw[Sub_ok a h2,À,À]
 try dsimp only
 rw[anR (NV a h2) e,À];rfl
def pR (b:ø) (c:Cmp):Int×Int :=
 (((c.2.2.1.length-1:Nat):Int)*b.1.1-((c.2.2.2.1.length-1:Nat):Int)*b.1.2,((c.2.2.1.length-1:Nat):Int)*b.1.2-((c.2.2.2.1.length-1:Nat):Int)*b.1.1)
def alS {b:ø} {c:Cmp} (d:c.2.2.1.length<=1000) (a:c.2.2.2.1.length<=1000) (h:0<=b.1.1) (h2:b.1.1<=1000000) (g:0<=b.1.2) (f:b.1.2<=1000000):Br b c=some (pR b c):=by
 unfold Br QQ pR
 have e:∀n:Nat,T7 0 ((n:Int)-1)=((n-1:Nat):Int):=by
  intro n;unfold T7
  split<;>omega
 have bd:∀(n:Nat) (x:Int),n<=1000->0<=x->x<=1000000->0<=((n-1:Nat):Int)*x/\((n-1:Nat):Int)*x<=1000000000:=by
  intro n x j h0 i;refine⟨fZ (by omega) h0,?_⟩;have:=fL (show((n-1:Nat):Int)<=1000 by omega) i h0 (by omega);omega
 have r:=bd _ _ d h h2;have o:=bd _ _ d g f;have b3:=bd _ _ a h h2;have l:=bd _ _ a g f;simp only[Î];rw[Ï (by omega) (by omega),Ï (by omega) (by omega)];simp only[e];rw[Ï (by omega) (by omega),Ï (by omega) (by omega),Ï (by omega) (by omega),Ï (by omega) (by omega),Ï (by omega) (by omega),Ï (by omega) (by omega)]
def Yy {n d:Int} (hd:1<=d) (f : -4000000000<=n/\n<=4000000000):wF n d=some (n / d):=by
 unfold wF HO
 have z:oy d 0=false:=by simp[oy]; omega
 rw[Í z];have t:=Int.mul_tdiv_add_tmod n d
 have g : -4000000000<=Int.tdiv n d/\Int.tdiv n d<=4000000000:=by
  have:=Int.natAbs_tdiv_le_natAbs n d;omega
 rw[Ï (by omega) (by omega),Í z,ô]
 by_cases h:Int.tmod n d<0
 ·rw[if_pos (by simpa[ilt] using h),Ï (by omega) (by omega)];congr 1
  have e : -d<Int.tmod n d:=by
   have c:=iv n d;have a:=ig n.natAbs (show 0<d.natAbs by omega);omega
  refine(gE (by omega)).2 ⟨?_,?_⟩ |>.symm
  ·rw[Int.sub_mul,gb]; omega
  ·rw[Int.sub_mul,gb (Int.tdiv n d)]; omega
 ·rw[if_neg (by simpa[ilt] using h)];congr 1
  have e:Int.tmod n d<d:=by
   have c:=iv n d;have a:=ig n.natAbs (show 0<d.natAbs by omega);omega
  refine(gE (by omega)).2 ⟨?_,?_⟩ |>.symm
  ·rw[gb]; omega
  ·rw[gb (Int.tdiv n d)]; omega
def amS {x:Int×Int} (c:Lj x=true):lq [x]=some 0:=by
 rw[ad2]
 ·simp[c]
 ·intro r a
  have:Lj r=true:=by simp at a; subst a; assumption
  have:=((lC r).1 this).2.2.1;exact⟨by omega,by omega⟩
 ·simp
def Ud (r:Int×Int):Int:=-(-r.1 / r.2)
def amP {r:Int×Int} (h:Lj r=true):IZ r=some (r.1 / r.2,0):=by
 unfold IZ QF;have:=(lC r).1 h;rw[amS h,À];rw[show ine (0:Int) 0=false from rfl,æ,Yy (by omega) (by omega),À]
def KV {n d:Int} (hd:1<=d):(n / d).natAbs<=n.natAbs:=by
 exact Int.natAbs_ediv_le_natAbs n d
def aoG {r:Int×Int} (h:Lj r=true):NC r=some (Ud r,0):=by
 unfold NC XW Ud;have:=(lC r).1 h;rw[amS h,À];rw[show ine (0:Int) 0=false from rfl,æ,Ï (by omega) (by omega),Yy (by omega) (by omega),À];have hb:=KV (n:=0-r.1) (show 1<=r.2 by omega);rw[Ï (by omega) (by omega),Int.zero_sub,Int.zero_sub]
def wW (b:ø) (c:Cmp):Int×Int :=
 (c.2.2.2.2.1-c.2.2.2.2.2.1-(pR b c).2-(iL b c).2.1 / (iL b c).2.2,c.2.2.2.2.1+c.2.2.2.2.2.1-(pR b c).1-Ud (iL b c).1)
structure ţ (b:ø):Prop where
 film:0<=b.1.1/\b.1.1<=b.1.2/\b.1.2<=1000000
 nG:b.2.1.length<=12
 nU:b.2.2.1.length<=40
 nL:b.2.2.2.1.length<=12
 nC:b.2.2.2.2.1.length<=40
 nK:b.2.2.2.2.2.length<=10
 gauge:∀g∈b.2.1,rZ g=true
 ids:b.2.1.Pairwise fun a b=>a.1<b.1
 uses:∀u∈b.2.2.1,ack (ŗ b) u.1 u.2=0
 loans:∀i l,b.2.2.2.1[i]?=some l->MZ b (ŗ b) i l=0
 compares:∀i c,b.2.2.2.2.1[i]?=some c->lQ b (ŗ b) i c=0
 looks:∀u∈b.2.2.2.2.2,ack (ŗ b) u.1 u.2=0
 nodes:(Ø b).length<=59
 links:2*(Ø b).length+2*b.2.2.2.2.1.length<=300
def yi (b:ø):jU b=0↔(∀g∈b.2.1,rZ g=true)/\b.2.1.Pairwise fun a b=>a.1<b.1:=by
 have h0:Ĝ (pQ b.2.1) 0 b.2.1=none↔(∀g∈b.2.1,rZ g=true)/\b.2.1.Pairwise fun a b=>a.1<b.1:=by
  rw[ź,<-Jd (fun g:è=>g.1) b.2.1];constructor
  ·intro h
   have d:∀(j:Nat) (a:è),b.2.1[j]?=some a->rZ a=true/\lZ (fun g:è=>g.1) b.2.1 j a=false:=by
    intro j a ha;have:=h j a ha;rw[Nat.zero_add] at this;unfold pQ at this
    split at this
    ·cases this
    ·split at this
     ·cases this
     ·rename_i d h2;exact⟨by simpa using d,by simpa using h2⟩
   refine⟨fun x l=>?_,fun i a ha=>(d i a ha).2⟩;obtain⟨j,n,rfl⟩:=dw.1 l;exact(d j _ (df n)).1
  ·rintro⟨d,h2⟩ j a ha;rw[dQ];simp[pQ,d a (dk ha),h2 j a ha]
 rw[<-h0];unfold jU
 cases h:Ĝ (pQ b.2.1) 0 b.2.1 with
 |none=>simp
 |some e =>
  have:∀(m:BY è) (j:Nat) (x:Int),Ĝ (pQ b.2.1) j m=some x->x≠0:=by
   intro m
   induction m with
   |nil=>intro j x h; cases h
   |cons a m f =>
    intro j x h;unfold Ĝ at h
    cases c:pQ b.2.1 j a with
    |none=>rw[c] at h; exact f _ _ h
    |some y =>
     rw[c] at h;cases h;unfold pQ at c
     split at c
     ·cases c; omega
     ·split at c
      ·cases c; omega
      ·cases c
  simp[this _ _ _ h]
def Λ (b:ø):ş b=0↔ţ b:=by
 unfold ş;constructor
 ·intro h
  split at h
  ·omega
  rename_i H
  (repeat' split at h)<;>try omega
  ·rename_i g
   have o:jU b≠0:=by simpa using g
   exact(o h).elim
  ·rename_i r;have:=fS r;rename_i e;simp at this;exact(this h).elim
  ·rename_i E D C z y g e r v s
   have n:jU b=0:=by simpa using g
   obtain⟨J,I⟩:=(yi b).1 n
   have a:∀x∈zy b (ŗ b),x=0:=fun x j=>by
    have:=eD.1 r x j;simpa using this
   simp only[zy,dl] at a
   have f:j8 b.1 0 1000000=true:=by simpa using H
   simp only[j8,dg,decide_eq_true_eq] at f;refine⟨⟨f.1,f.2.1,f.2.2⟩,by omega,by omega,by omega,by omega,by omega,J,I,fun u d=>a _ (.inl (dH.2 ⟨u,d,rfl⟩)),fun i l F=>?_,fun i c G=>?_,fun u d=>a _ (.inr (.inr (.inr (dH.2 ⟨u,d,rfl⟩)))),by omega,by omega⟩
   ·obtain⟨hi,rfl⟩:=dj.1 F;exact a _ (.inr (.inl (ix.2 ⟨i,hi,rfl⟩)))
   ·obtain⟨hi,rfl⟩:=dj.1 G;exact a _ (.inr (.inr (.inl (ix.2 ⟨i,hi,rfl⟩))))
 ·intro h
  have f:j8 b.1 0 1000000=true:=by simp[j8,h.film.1,h.film.2.1,h.film.2.2]
  have g:jU b=0:=(yi b).2 ⟨h.gauge,h.ids⟩
  have a:(zy b (ŗ b)).find? (fun e=>e != 0)=none:=by
   rw[eD];intro x j;simp only[zy,dl,dH,ix] at j
   have:x=0:=by
    rcases j with⟨u,d,rfl⟩|⟨i,hi,rfl⟩|⟨i,hi,rfl⟩|⟨u,d,rfl⟩
    ·exact h.uses u d
    ·exact h.loans i _ (df hi)
    ·exact h.compares i _ (df hi)
    ·exact h.looks u d
   simp[this]
  have:=h.nG; have:=h.nU; have:=h.nL; have:=h.nC; have:=h.nK; have:=h.nodes; have:=h.links;rw[f,g,a];simp only[dU,dA,if_false,bne_self_eq_false];rw[if_neg (by omega),if_neg (by omega),if_neg (by omega),if_neg (by omega),if_neg (by omega),if_neg (by omega),if_neg (by omega)]
section
variable {b:ø}
def ō {l:BY Int} (h:uH l=true):l.length<=6:=((zx l).1 h).2.2
def ţ.nums (h:ţ b) {c:Cmp} (a:c∈b.2.2.2.2.1):JC c=true:=by
 obtain⟨i,hi,rfl⟩:=List.mem_iff_getElem.1 a;have:=h.compares i _ (List.getElem?_eq_getElem hi);unfold lQ at this
 split at this
 ·omega
 ·rename_i h; simpa using h
def ţ.pilesOf (h:ţ b) {c:Cmp} (a:c∈b.2.2.2.2.1):vl b (ŗ b) c=0:=by
 obtain⟨i,hi,rfl⟩:=List.mem_iff_getElem.1 a;have:=h.compares i _ (List.getElem?_eq_getElem hi);unfold lQ at this
 split at this
 ·omega
 ·split at this
  ·omega
  ·exact this
def ű (c:Cmp):JC c=true↔(1<=c.1/\c.1<=1099511627776)/\(0<=c.2.1/\c.2.1<=20000)/\(-1125899906842624<=c.2.2.2.2.1/\c.2.2.2.2.1<=1125899906842624)/\(0<=c.2.2.2.2.2.1/\c.2.2.2.2.2.1<=1073741824)/\j8 c.2.2.2.2.2.2 (-10000) 10000=true/\uH c.2.2.1=true/\uH c.2.2.2.1=true:=by
 simp[JC,inP,C6,and_assoc]
def ţ.size (h:ţ b):jp b:=by
 have i:=h.nG; have h2:=h.nU; have g:=h.nL; have f:=h.nC; have e:=h.nK;refine⟨by omega,by omega,by omega,by omega,by omega,fun c d=>?_⟩;have:=(ű c).1 (h.nums d);have a:=ō this.2.2.2.2.2.1;have b:=ō this.2.2.2.2.2.2;omega
def wx (g:è):rZ g=true↔Lj g.2.2.2.2.1=true/\(-1000<=g.2.2.2.2.1.1/\g.2.2.2.2.1.1<=1000)/\g.2.2.2.2.1.2<=100/\(1<=g.1/\g.1<=1099511627776)/\(0<=g.2.1/\g.2.1<=20000)/\(1<=g.2.2.1/\g.2.2.1<=1125899906842624)/\(-1073741824<=g.2.2.2.1.1/\g.2.2.2.1.1<=g.2.2.2.1.2/\g.2.2.2.1.2<=1073741824)/\(0<=g.2.2.2.2.2/\g.2.2.2.2.2<=1048576):=by
 simp[rZ,inP,C6,j8,and_assoc]
def iX {id:Int} {g:è} (h:î b id=some g):g∈b.2.1/\g.1=id:=by
 unfold î at h;exact⟨List.mem_of_find?_eq_some h,by simpa using List.find?_some h⟩
def sa (hi:b.2.1.Pairwise fun a b=>a.1<b.1) {g:è} (c:g∈b.2.1):î b g.1=some g:=by
 unfold î
 induction d:b.2.1 generalizing b with
 |nil=>rw[d] at c; cases c
 |cons a t e =>
  rw[d] at c hi;rw[dN] at hi;rw[gh];rcases dm.1 c with rfl|c
  ·simp
  ·have f:=hi.1 g c
   have:(a.1==g.1)=false:=by simp; omega
   rw[this];have:=e (b:=(b.1,t,b.2.2)) hi.2 c rfl;exact this
def JG (h:ţ b) {id day:Int} (a:mz (ŗ b) id day=0):∃g,î b id=some g/\g.2.1<=day:=by
 unfold mz at a;rw[vx h.ids] at a
 split at a
 ·rename_i g c
  split at a
  ·omega
  ·exact⟨g,c,by omega⟩
 ·omega
def EN (s:BY (Int×è)) (id day:Int):mz s id day=0\/mz s id day=4\/mz s id day=5:=by
 unfold mz
 split
 ·split<;>simp
 ·simp
def ţ.pile (h:ţ b) {c:Cmp} (j:c∈b.2.2.2.2.1) {x:Int} (d:x∈c.2.2.1++c.2.2.2.1):(∃g,î b x=some g/\g.2.1<=c.2.1)/\Ŕ b x c.2.1=none:=by
 have a:=h.pilesOf j;unfold vl at a
 split at a
 ·omega
 rename_i n
 split at a
 ·omega
 rename_i o
 split at a
 ·omega
 rename_i l;have f:=(ee.1 (eP.2 n)) x d;have i:=(ee.1 (eP.2 o)) x d;have e:=(ee.1 (eP.2 l)) x d;simp at f i e;refine⟨JG h ?_,e⟩;rcases EN (ŗ b) x c.2.1 with h0|h0|h0
 ·exact h0
 ·exact(i h0).elim
 ·exact(f h0).elim
def ţ.lefts (h:ţ b) {c:Cmp} (d:c∈b.2.2.2.2.1):(Þ c.2.2.1 c.2.2.2.1).length<=1/\(Þ c.2.2.2.1 c.2.2.1).length<=1/\(Þ c.2.2.1 c.2.2.2.1).length+(Þ c.2.2.2.1 c.2.2.1).length≠0:=by
 have a:=h.pilesOf d;unfold vl at a
 (repeat' split at a)<;>first|omega|exact⟨by omega,by omega,by omega⟩
def lf {a c:BY Int} {x:Int}:x∈Þ a c↔x∈a/\x∉c:=by
 simp[Þ]
def ţ.rate (h:ţ b) {p:BY Int} (c:∀x∈p,∃g,î b x=some g):sI (Gb (ŗ b) p) 1000 100:=by
 unfold Gb
 cases p with
 |nil =>
  have:sI (0,1) 1000 100:=⟨by decide,by decide,by decide⟩;exact this
 |cons x t =>
  obtain⟨g,a⟩:=c x (by simp)
  try dsimp only
  rw[vx h.ids,a];have:=(wx g).1 (h.gauge g (iX a).1);exact⟨this.1,this.2.1,this.2.2.1⟩
def ţ.rates (h:ţ b) {c:Cmp} (e:c∈b.2.2.2.2.1):sI (Gb (ŗ b) (Þ c.2.2.1 c.2.2.2.1)) 1000 100/\sI (Gb (ŗ b) (Þ c.2.2.2.1 c.2.2.1)) 1000 100:=by
 constructor
 ·exact h.rate fun x a=>by
   obtain⟨⟨g,d,_⟩,_⟩:=h.pile e (dX _ (lf.1 a).1);exact⟨g,d⟩
 ·exact h.rate fun x a=>by
   obtain⟨⟨g,d,_⟩,_⟩:=h.pile e (dT _ (lf.1 a).1);exact⟨g,d⟩
def ţ.growth (h:ţ b) {c:Cmp} (e:c∈b.2.2.2.2.1):wH b c=some (iL b c):=by
 obtain⟨r1,r2⟩:=h.rates e;have d:=(ű c).1 (h.nums e);have a:=ō d.2.2.2.2.2.1;have b:=ō d.2.2.2.2.2.2;exact ai6 h.size (by omega) (by omega) r1 r2 d.2.2.2.2.1
def ţ.films (h:ţ b) {c:Cmp} (d:c.2.2.1.length<=1000) (a:c.2.2.2.1.length<=1000):Br b c=some (pR b c):=by
 have:=h.film;exact alS d a (by omega) (by omega) (by omega) (by omega)
def Wu {k heat:Int×Int} (a:sI k 200000 10000) (c:j8 heat (-10000) 10000=true):sI (Wv k heat).1 2000000000 10000/\sI (Wv k heat).2 2000000000 10000:=by
 simp only[j8,Bool.and_eq_true,decide_eq_true_eq] at c;have r1:=WG a (n:=heat.1) ⟨by omega,by omega⟩;have r2:=WG a (n:=heat.2) ⟨by omega,by omega⟩;unfold Wv
 split
 ·exact⟨r2,r1⟩
 ·exact⟨r1,r2⟩
def ym {c:Cmp} (d:c.2.2.1.length<=1000) (a:c.2.2.2.1.length<=1000) (g:0<=b.1.1) (h2:b.1.1<=1000000) (f:0<=b.1.2) (e:b.1.2<=1000000) :
 (-1000000000<=(pR b c).1/\(pR b c).1<=1000000000)/\(-1000000000<=(pR b c).2/\(pR b c).2<=1000000000):=by
 have bd:∀(n:Nat) (x:Int),n<=1000->0<=x->x<=1000000->0<=((n-1:Nat):Int)*x/\((n-1:Nat):Int)*x<=1000000000:=by
  intro n x i h0 h;refine⟨fZ (by omega) h0,?_⟩;have:=fL (show((n-1:Nat):Int)<=1000 by omega) h h0 (by omega);omega
 have o:=bd _ _ d g h2;have l:=bd _ _ d f e;have b3:=bd _ _ a g h2;have j:=bd _ _ a f e;unfold pR
 try dsimp only
 omega
def yk {r:Int×Int} (h:sI r 2000000000 10000) : -2000000000<=r.1 / r.2/\r.1 / r.2<=2000000000:=by
 have:=KV (n:=r.1) h.pos;have:=h.num;omega
def CC {r:Int×Int} (h:sI r 2000000000 10000) : -2000000000<=Ud r/\Ud r<=2000000000:=by
 have:=KV (n:=-r.1) h.pos;have:=h.num;unfold Ud;omega
def ţ.says (h:ţ b) {c:Cmp} (d:c∈b.2.2.2.2.1):Cv b c=some (wW b c):=by
 obtain⟨r1,r2⟩:=h.rates d;have a:=(ű c).1 (h.nums d);have ha:=ō a.2.2.2.2.2.1;have hb:=ō a.2.2.2.2.2.2;have l:=h.film;obtain⟨i,g⟩:=Wu (NV r1 r2) a.2.2.2.2.1;have n:=ym (b:=b) (c:=c) (by omega) (by omega) (by omega) (by omega) (by omega) (by omega);have f:sI (iL b c).1 2000000000 10000:=i;have e:sI (iL b c).2 2000000000 10000:=g;have r:=CC f;have o:=yk e;unfold Cv XX wW;rw[h.growth d,À,h.films (by omega) (by omega),À,amP e.rat,À,aoG f.rat,À]
 try dsimp only
 have j:=a.2.2.1;have n4:=a.2.2.2.1;rw[Ï (by omega) (by omega),Ï (by omega) (by omega),Ï (by omega) (by omega),Ï (by omega) (by omega),Ï (by omega) (by omega),Ï (by omega) (by omega)]
end
def ğ (l:Jm) (f t:Int):Int:=min l.2.1.2 (t-1)-max l.2.1.1 f+1
def ļ (id f t:Int):BY Jm->Int
 |[]=>0
 |l::r=>(if l.1=id/\0<ğ l f t then ğ l f t*l.2.2 else 0)+ļ id f t r
def Bg (id f t:Int):∀(x y:BY Jm),ļ id f t (x++y)=ļ id f t x+ļ id f t y
 |[],y=>by simp[ļ]
 |l::r,y=>by
  simp only[fi,ļ,Bg id f t r y];omega
def jA (b:ø) (id f t:Int):BY Int:=(b.2.2.1.filter fun u=>u.1==id&&inP u.2 f (t-1)).map fun u=>u.2
def jH (b:ø) (g:è) (f t:Int):Int:=ļ g.1 f t b.2.2.2.1+(ZB (jA b g.1 f t)).length*g.2.2.2.2.2
def Yq (a c:Int):adh a c=min a c:=by unfold adh; split<;>omega
def ai2 (a c:Int):T7 a c=max a c:=by unfold T7; split<;>omega
def wp {b:ø} (h:ţ b) {l:Jm} (c:l∈b.2.2.2.1):(0<=l.2.1.1/\l.2.1.1<=l.2.1.2/\l.2.1.2<=20000)/\(0<=l.2.2/\l.2.2<=1048576):=by
 obtain⟨i,hi,rfl⟩:=List.mem_iff_getElem.1 c;have:=h.loans i _ (List.getElem?_eq_getElem hi);unfold MZ at this
 split at this
 ·omega
 rename_i a
 split at this
 ·omega
 rename_i h2;simp only[eO,Bool.not_eq_false,j8,inP,dg,decide_eq_true_eq] at a h2;exact⟨a,h2⟩
def Vn {l:Jm} (h:(0<=l.2.1.1/\l.2.1.1<=l.2.1.2/\l.2.1.2<=20000)/\(0<=l.2.2/\l.2.2<=1048576)) {f t:Int} (a:0<=f) (hd:0<ğ l f t):0<=ğ l f t*l.2.2/\ğ l f t*l.2.2<=20001*1048576:=by
 refine⟨Int.mul_nonneg (by omega) h.2.1,Int.mul_le_mul ?_ h.2.2 h.2.1 (by omega)⟩;unfold ğ;omega
def uV {id f t:Int} (a:0<=f):∀{x:BY Jm},(∀l∈x,(0<=l.2.1.1/\l.2.1.1<=l.2.1.2/\l.2.1.2<=20000)/\(0<=l.2.2/\l.2.2<=1048576))->0<=ļ id f t x/\ļ id f t x<=x.length*(20001*1048576)
 |[],_=>by simp[ļ]
 |l::r,h=>by
  have e:=uV (id:=id) (t:=t) a (x:=r) fun l c=>h l (by simp[c]);simp only[ļ,dr,f6,f8,gj]
  split
  ·rename_i d;have:=Vn (h l (by simp)) a d.2;omega
  ·omega
def an0 {b:ø} (h:ţ b) {g:è} (s:0<=g.2.2.2.2.2/\g.2.2.2.2.2<=1048576) {f t:Int} (C:0<=f/\f<=100000) (O:0<=t/\t<=100000):Cw b g f t=some (jH b g f t):=by
 have Q:=h.nL;have I:=h.nU
 have d:∀i,0<=ļ g.1 f t (b.2.2.2.1.take i)/\ļ g.1 f t (b.2.2.2.1.take i)<=12*(20001*1048576):=by
  intro i;have e:=uV (id:=g.1) (t:=t) C.1 (x:=b.2.2.2.1.take i) fun l o=>wp h (fQ o);have h2:((b.2.2.2.1.take i).length:Int)*(20001*1048576)<=12*(20001*1048576):=fT (by rw[du]; omega) (by omega);omega
 unfold Cw X0;refine ð (fun x:Int×Int=>∃i:Nat,i<=b.2.2.2.1.length/\x=(ļ g.1 f t (b.2.2.2.1.take i),(i:Int))) (fun x=>b.2.2.2.1.length-x.2.toNat) ?_ ⟨0,by omega,rfl⟩;rintro x ⟨i,hi,rfl⟩;rcases Nat.lt_or_ge i b.2.2.2.1.length with a|H
 ·have o:b.2.2.2.1[i]?=some b.2.2.2.1[i]:=df a;have G:=wp h (dk o);refine .inr ⟨(ļ g.1 f t (b.2.2.2.1.take (i+1)),(i:Int)+1),⟨i+1,a,by simp⟩,by simp; omega,fun F=>?_⟩
  try dsimp only
  unfold xV;have E:=d i;have R:=d (i+1)
  have j:ļ g.1 f t (b.2.2.2.1.take (i+1))=ļ g.1 f t (b.2.2.2.1.take i)+(if b.2.2.2.1[i].1=g.1/\0<ğ b.2.2.2.1[i] f t then ğ b.2.2.2.1[i] f t*b.2.2.2.1[i].2.2 else 0):=by
   rw[take_succ o,Bg]; simp[ļ]
  rw[Ì a,Ä o,Ï (by omega) (by omega),Yq,ai2,Ï (by omega) (by omega),Ï (by omega) (by omega)];rw[show min b.2.2.2.1[i].2.1.2 (t-1)-max b.2.2.2.1[i].2.1.1 f+1=ğ b.2.2.2.1[i] f t from rfl,ô]
  by_cases c:b.2.2.2.1[i].1=g.1
  ·rw[if_pos (by simpa[ieq] using c),ô]
   by_cases hd:0<ğ b.2.2.2.1[i] f t
   ·have K:=Vn G C.1 hd;rw[if_pos ⟨c,hd⟩] at j;rw[if_pos (by simpa[igt] using hd),Ï (by omega) (by omega),Ï (by omega) (by omega),Ê a (by omega),j]
   ·rw[if_neg (fun v=>hd v.2)] at j;rw[if_neg (by simpa[igt] using hd),Ê a (by omega),j,gG]
  ·rw[if_neg (fun v=>c v.1)] at j;rw[if_neg (by simpa[ieq] using c),Ê a (by omega),j,gG]
 ·refine .inl fun F=>?_
  have:i=b.2.2.2.1.length:=by omega
  subst this
  try dsimp only
  unfold xV;rw[Ó,List.take_length]
  have n:∀x:BY (Int×Int),x.length<=40->((x.filter fun u=>u.1==g.1&&inP u.2 f (t-1)).map fun u=>u.2).length<=40:=by
   intro x y;rw[dL];exact dE (eh _ _) y
  refine ï b.2.2.1 (fun i=>((b.2.2.1.take i).filter fun u=>u.1==g.1&&inP u.2 f (t-1)).map fun u=>u.2) _ rfl (fun i u hi z r=>?_) (fun r=>?_)
  ·try dsimp only
   unfold xU;have y:=n (b.2.2.1.take i) (by rw[List.length_take]; omega);rw[Ì hi,Ä z,Ï (by omega) (by omega),ψ,À,Ò (by simp only[List.length_singleton]; omega),Am.iff_true,Ê hi (by omega),Ê hi (by omega),take_succ z,List.filter_append,List.map_append]
   cases e:(u.1==g.1) with
   |false =>
    have:ieq u.1 g.1=false:=e;simp only[this,æ,eT,e,Bool.false_and,dA,if_false,eS,fF,dB]
   |true =>
    have:ieq u.1 g.1=true:=e;rw[this]
    cases h2:inP u.2 f (t-1) with
    |false=>simp only[ku,æ,eT,e,h2,eR,dA,if_false,eS,fF,dB]
    |true=>simp only[ku,eT,e,h2,eR,if_true,eS,fF,fe]
  ·try dsimp only
   unfold xU;rw[Ó,List.take_length];rw[show((b.2.2.1.filter fun u=>u.1==g.1&&inP u.2 f (t-1)).map fun u=>u.2)=jA b g.1 f t from rfl];have J:(jA b g.1 f t).length<=40:=n _ I
   have D:(ZB (jA b g.1 f t)).length<=40:=by
    have:=Ga (jA b g.1 f t);omega
   have P:0<=((ZB (jA b g.1 f t)).length:Int)*g.2.2.2.2.2/\((ZB (jA b g.1 f t)).length:Int)*g.2.2.2.2.2<=40*1048576 :=
    ⟨fZ (by omega) s.1,fL (by omega) s.2 s.1 (by omega)⟩
   have E:=d b.2.2.2.1.length;rw[List.take_length] at E;dsimp only;rw[Ò (by omega),Am.iff_true,Ò (by rw[Zw]; omega),Am.iff_true,ahQ,Î,Ï (by omega) (by omega),Ï (by omega) (by omega)];rfl
def ö (b:ø) (g:è):BY Lk :=
 [(0,atP (Ø b) [g.1] g.2.1,g.2.2.1+g.2.2.2.1.2),(atP (Ø b) [g.1] g.2.1,0,-(g.2.2.1+g.2.2.2.1.1))] ++
 (List.range ((Ü b g).length-1)).flatMap fun(k:Nat)=>[(atP (Ø b) [g.1] g.2.1+k,atP (Ø b) [g.1] g.2.1+k+1,0),(atP (Ø b) [g.1] g.2.1+k+1,atP (Ø b) [g.1] g.2.1+k,jH b g ((Ü b g)[k]?.getD 0) ((Ü b g)[k+1]?.getD 0))]
def cx (b:ø) (c:Cmp):Int:=atP (Ø b) (Þ c.2.2.1 c.2.2.2.1) c.2.1
def cy (b:ø) (c:Cmp):Int:=atP (Ø b) (Þ c.2.2.2.1 c.2.2.1) c.2.1
def ĺ (b:ø) (c:Cmp):BY Lk:=[(cy b c,cx b c,(wW b c).2),(cx b c,cy b c,-(wW b c).1)]
def Τ (b:ø):BY Lk:=b.2.1.flatMap (ö b)++b.2.2.2.2.1.flatMap (ĺ b)
def ĕ (b:ø) (i:Nat) (g:è):BY (Int×Int):=[(1,(i:Int)),(1,(i:Int))]++(List.range ((Ü b g).length-1)).flatMap fun _=>[(2,(i:Int)),(2,(i:Int))]
def Nf (b:ø):BY (Int×Int):=(b.2.1.mapIdx (ĕ b)).flatten++(b.2.2.2.2.1.mapIdx fun i _=>[(3,(i:Int)),(3,(i:Int))]).flatten
section
variable {b:ø}
def Zk (h:ţ b) {id day:Int} (a:ack (ŗ b) id day=0):(0<=day/\day<=20000)/\∃g,î b id=some g/\g.2.1<=day:=by
 unfold ack at a
 split at a
 ·omega
 ·rename_i hd;simp only[eO,Bool.not_eq_false,C6,inP,dg,decide_eq_true_eq] at hd;exact⟨hd,JG h a⟩
def ż {g:è} {d:Int}:d∈Ü b g↔d=g.2.1\/(∃c∈b.2.2.2.2.1,(c.2.2.1.contains g.1)≠(c.2.2.2.1.contains g.1)/\c.2.1=d)\/(∃n∈b.2.2.2.2.2,n.1=g.1/\n.2=d):=by
 unfold Ü;rw[wU,abF];simp only[List.mem_append,List.mem_singleton,List.mem_map,List.mem_filter];constructor
 ·rintro((h|⟨c,⟨e,h2⟩,a⟩)|⟨n,⟨e,h2⟩,a⟩)
  ·exact .inl h
  ·exact .inr (.inl ⟨c,e,by simpa using h2,a⟩)
  ·exact .inr (.inr ⟨n,e,by simpa using h2,a⟩)
 ·rintro(h|⟨c,e,h2,a⟩|⟨n,e,h2,a⟩)
  ·exact .inl (.inl h)
  ·exact .inl (.inr ⟨c,⟨e,by simpa using h2⟩,a⟩)
  ·exact .inr ⟨n,⟨e,by simpa using h2⟩,a⟩
def ţ.gaugeR (h:ţ b) {g:è} (a:g∈b.2.1):Lj g.2.2.2.2.1=true/\(-1000<=g.2.2.2.2.1.1/\g.2.2.2.2.1.1<=1000)/\g.2.2.2.2.1.2<=100/\(1<=g.1/\g.1<=1099511627776)/\(0<=g.2.1/\g.2.1<=20000)/\(1<=g.2.2.1/\g.2.2.1<=1125899906842624)/\(-1073741824<=g.2.2.2.1.1/\g.2.2.2.1.1<=g.2.2.2.1.2/\g.2.2.2.1.2<=1073741824)/\(0<=g.2.2.2.2.2/\g.2.2.2.2.2<=1048576):=(wx g).1 (h.gauge g a)
def ţ.day (h:ţ b) {g:è} (j:g∈b.2.1) {d:Int} (hd:d∈Ü b g):g.2.1<=d/\0<=d/\d<=20000:=by
 have r:=h.gaugeR j;have a:=sa h.ids j;rcases ż.1 hd with rfl|⟨c,l,i,rfl⟩|⟨n,f,i,rfl⟩
 ·have:=r.2.2.2.2.1; omega
 ·have f:=(ű c).1 (h.nums l)
  have o:g.1∈c.2.2.1++c.2.2.2.1:=by
   rw[dl]
   by_cases h2:g.1∈c.2.2.1
   ·exact .inl h2
   ·refine .inr ?_
    have u:c.2.2.1.contains g.1=false:=by simpa using h2
    rw[u] at i
    have:c.2.2.2.1.contains g.1=true:=by cases v:c.2.2.2.1.contains g.1<;>simp_all
    simpa using this
  obtain⟨⟨g',e,s⟩,_⟩:=h.pile l o;rw[a] at e; cases e;have:=f.2.1;omega
 ·obtain⟨h2,g',e,s⟩:=Zk h (h.looks n f);rw[i,a] at e; cases e;omega
def oz (g:è):g.2.1∈Ü b g:=ż.2 (.inl rfl)
def I2 (h:ţ b) {g:è} (c:g∈b.2.1):(Ü b g).length<=59:=by
 have f:∀l:BY è,g∈l->(Ü b g).length<=(l.flatMap fun g=>(Ü b g).map fun d=>((g.1,d):Int×Int)).length:=by
  intro l
  induction l with
  |nil=>intro c; cases c
  |cons a t e =>
   intro c;rw[dF,di,dL];rcases dm.1 c with rfl|c
   ·omega
   ·have:=e c; omega
 have:=f b.2.1 c;have:=h.nodes;unfold Ø at this;omega
def akq {p:BY Int} {d:Int}:0<=atP (Ø b) p d/\atP (Ø b) p d<=(Ø b).length:=by
 unfold atP
 cases p with
 |nil=>simp
 |cons x t =>
  try dsimp only
  cases h:i8 (Ø b) x d with
  |none=>simp
  |some j=>have:=(l6 h).1; dsimp only; omega
def wV (h:ţ b) {c:Cmp} (d:c∈b.2.2.2.2.1):(-1125904000000000<=(wW b c).1/\(wW b c).1<=1125904000000000)/\(-1125904000000000<=(wW b c).2/\(wW b c).2<=1125904000000000):=by
 obtain⟨r1,r2⟩:=h.rates d;have a:=(ű c).1 (h.nums d);have ha:=ō a.2.2.2.2.2.1;have hb:=ō a.2.2.2.2.2.2;have l:=h.film;obtain⟨i,g⟩:=Wu (NV r1 r2) a.2.2.2.2.1;have n:=ym (b:=b) (c:=c) (by omega) (by omega) (by omega) (by omega) (by omega) (by omega);have f:sI (iL b c).1 2000000000 10000:=i;have e:sI (iL b c).2 2000000000 10000:=g;have r:=CC f;have o:=yk e;have j:=a.2.2.1;have n4:=a.2.2.2.1;unfold wW
 try dsimp only
 omega
def jT (h:ţ b) {g:è} (d:g∈b.2.1) {f t:Int} (e:0<=f):0<=jH b g f t/\jH b g f t<=12*(20001*1048576)+40*1048576:=by
 have a:=(h.gaugeR d).2.2.2.2.2.2.2;have o:=uV (id:=g.1) (t:=t) e (x:=b.2.2.2.1) fun l c=>wp h c;have h2:(b.2.2.2.1.length:Int)*(20001*1048576)<=12*(20001*1048576):=fT (by have:=h.nL; omega) (by omega)
 have n:(jA b g.1 f t).length<=40:=by
  unfold jA;rw[List.length_map];exact Nat.le_trans (List.length_filter_le _ _) h.nU
 have j:=Ga (jA b g.1 f t)
 have i:0<=((ZB (jA b g.1 f t)).length:Int)*g.2.2.2.2.2/\((ZB (jA b g.1 f t)).length:Int)*g.2.2.2.2.2<=40*1048576 :=
  ⟨fZ (by omega) a.1,fL (by omega) a.2 a.1 (by omega)⟩
 unfold jH;omega
end
def jJ {α β:Type} (f:Nat->α->β) {l:BY α} {i:Nat} {a:α} (h:l[i]?=some a):(l.take (i+1)).mapIdx f=(l.take i).mapIdx f++[f i a]:=by
 have hi:i<l.length:=(dj.1 h).1
 have:(l.take i).length=i:=by rw[du]; omega
 rw[take_succ h,List.mapIdx_append];simp[this]
def vh {α:Type} (f:Nat->BY α) (j:Nat):(List.range (j+1)).flatMap f=(List.range j).flatMap f++f j:=by
 rw[fE,eW]; simp
def iZ {α:Type} (f:Nat->BY α) (n:Nat) (h:∀k,(f k).length=2):((List.range n).flatMap f).length=2*n:=by
 induction n with
 |zero=>rfl
 |succ n a=>rw[vh,di,a,h]; omega
set_option maxHeartbeats 2000000 in
def alz {b:ø} (h:ţ b):ND b=some (b,Ø b,(((Ø b).length:Int)+1,Τ b),Nf b):=by
 unfold ND XZ;have hN:=h.nodes;have hG:=h.nG;have hC:=h.nC;rw[WB h.size,À,Î,Ï (by omega) (by omega)]
 -- lengths of what comes
 have T:∀g∈b.2.1,(ö b g).length<=120/\∀i,(ĕ b i g).length<=120:=by
  intro g a;have:=I2 h a;constructor
  ·unfold ö;rw[List.length_append,iZ _ _ (fun _=>rfl)];simp only[List.length_cons,List.length_nil]; omega
  ·intro i;unfold ĕ;rw[List.length_append,iZ _ _ (fun _=>rfl)];simp only[List.length_cons,List.length_nil]; omega
 have s:∀i,((b.2.1.take i).flatMap (ö b)).length<=1440/\(((b.2.1.take i).mapIdx (ĕ b)).flatten).length<=1440:=by
  intro i
  induction i with
  |zero=>simp
  |succ i o =>
   have key:∀i,i<=b.2.1.length->((b.2.1.take i).flatMap (ö b)).length<=i*120/\(((b.2.1.take i).mapIdx (ĕ b)).flatten).length<=i*120:=by
    intro i
    induction i with
    |zero=>intro _; simp
    |succ i o =>
     intro hi;have o:=o (by omega);have a:b.2.1[i]?=some b.2.1[i]:=df hi;have h2:=T _ (dk a);have h3:=h2.2 i;rw[jJ _ a,take_succ a,eW,gT,di,di];simp only[dF,gq,dB,ik,iq];omega
   rcases dv b.2.1.length (i+1) with G|G
   ·rw[eo (by omega)];have:=key b.2.1.length (dh _);rw[fI] at this;omega
   ·have:=key (i+1) G;omega
 refine ï b.2.1 (fun i=>((b.2.1.take i).flatMap (ö b),((b.2.1.take i).mapIdx (ĕ b)).flatten)) _ rfl (fun i g hi a P=>?_) (fun P=>?_)
 ·try dsimp only
  unfold xT;have e:=List.mem_of_getElem? a;have z:=h.gaugeR e;have hd:=I2 h e;have r:=s i;have R:=akq (b:=b) (p:=[g.1]) (d:=g.2.1);rw[Ì hi,Ä a];rw[show qx ((b.1.1,b.1.2),b.2.1,b.2.2.1,b.2.2.2.1,b.2.2.2.2.1,b.2.2.2.2.2) g=qx b g from rfl,ajt h.size,À];rw[aov _ _ _ (by dsimp only; omega),À]
  try dsimp only
  have r1:=z.2.2.2.2.2.1;have r2:=z.2.2.2.2.2.2.1;rw[Ï (by omega) (by omega),Ï (by omega) (by omega),Ï (by omega) (by omega),Ò (by simp only[dr,dO]; omega),Am.iff_true,Ò (by simp only[dr,dO]; omega),Am.iff_true]
  refine ð (fun x:Int×BY Lk×BY (Int×Int)=>∃j:Nat,j+1<=(Ü b g).length/\x.1=(j:Int)+1 /\
   x.2.1=(b.2.1.take i).flatMap (ö b)++([(0,atP (Ø b) [g.1] g.2.1,g.2.2.1+g.2.2.2.1.2),(atP (Ø b) [g.1] g.2.1,0,-(g.2.2.1+g.2.2.2.1.1))] ++
    (List.range j).flatMap fun(k:Nat)=>[(atP (Ø b) [g.1] g.2.1+k,atP (Ø b) [g.1] g.2.1+k+1,0),(atP (Ø b) [g.1] g.2.1+k+1,atP (Ø b) [g.1] g.2.1+k,jH b g ((Ü b g)[k]?.getD 0) ((Ü b g)[k+1]?.getD 0))]) /\
   x.2.2=((b.2.1.take i).mapIdx (ĕ b)).flatten++([(1,(i:Int)),(1,(i:Int))]++(List.range j).flatMap fun _=>[(2,(i:Int)),(2,(i:Int))])) (fun x=>(Ü b g).length-x.1.toNat) ?_
   ⟨0,f9 (oz g),rfl,by simp,by simp⟩
  rintro⟨Z,O,K⟩ ⟨j,hj,J,y,v⟩;dsimp only at J y v ⊢;subst J
  have F:O.length<=1562:=by
   rw[y,di,di,iZ _ _ (fun _=>rfl)];simp only[dr,dO]; omega
  have E:K.length<=1562:=by
   rw[v,di,di,iZ _ _ (fun _=>rfl)];simp only[dr,dO]; omega
  rcases dv (j+1) (Ü b g).length with f|Q
  ·refine .inr ⟨((j:Int)+1+1,_,_),⟨j+1,f,by push_cast; rfl,rfl,rfl⟩,by dsimp only; omega,fun l=>?_⟩
   try dsimp only
   unfold xS
   have I:(Ü b g)[j]?=some ((Ü b g)[j]?.getD 0):=by rw[df (by omega)]; rfl
   have H:(Ü b g)[j+1]?=some ((Ü b g)[j+1]?.getD 0):=by rw[df f]; rfl
   have V:=h.day e (dk I);have d2:=h.day e (dk H);have lb:=jT h e (t:=(Ü b g)[j+1]?.getD 0) V.2.1
   have U:((j:Int)+1)=((j+1:Nat):Int):=by push_cast; rfl
   rw[U,Ì f,Ï (by omega) (by omega),Ï (by omega) (by omega),Ï (by omega) (by omega),Ï (by omega) (by omega)];rw[show(((j+1:Nat):Int)-1)=((j:Nat):Int) by omega,Ä I,Ä H];rw[show Cw ((b.1.1,b.1.2),b.2.1,b.2.2.1,b.2.2.2.1,b.2.2.2.2.1,b.2.2.2.2.2) (g.1,g.2.1,g.2.2.1,(g.2.2.2.1.1,g.2.2.2.1.2),(g.2.2.2.2.1.1,g.2.2.2.2.1.2),g.2.2.2.2.2) ((Ü b g)[j]?.getD 0) ((Ü b g)[j+1]?.getD 0)=Cw b g ((Ü b g)[j]?.getD 0) ((Ü b g)[j+1]?.getD 0) from rfl];rw[an0 h z.2.2.2.2.2.2.2 ⟨by omega,by omega⟩ ⟨by omega,by omega⟩,À,Ï (by omega) (by omega),Ï (by omega) (by omega),Ò (by simp only[dr,dO]; omega),Am.iff_true,Ò (by simp only[dr,dO]; omega),Am.iff_true,Ê f (by omega)];rw[vh,vh,y,v]
   have Y:atP (Ø b) [g.1] g.2.1+((j+1:Nat):Int)-1=atP (Ø b) [g.1] g.2.1+(j:Int):=by push_cast; omega
   have X:atP (Ø b) [g.1] g.2.1+((j+1:Nat):Int)=atP (Ø b) [g.1] g.2.1+(j:Int)+1:=by push_cast; omega
   have a3:0-(0-jH b g ((Ü b g)[j]?.getD 0) ((Ü b g)[j+1]?.getD 0))=jH b g ((Ü b g)[j]?.getD 0) ((Ü b g)[j+1]?.getD 0):=by omega
   rw[Y,X,a3];simp only[dp]
  ·refine .inl fun l=>?_
   have C:j+1=(Ü b g).length:=by omega
   unfold xS;rw[show((j:Int)+1)=(((Ü b g).length:Nat):Int) by rw[<-C]; push_cast; rfl,Ó];dsimp only;rw[Ê hi (by omega)];rw[jJ _ a,take_succ a,List.flatMap_append,List.flatten_append,y,v,show j=(Ü b g).length-1 by omega];simp only[List.flatMap_cons,List.flatMap_nil,List.append_nil,List.flatten_cons,List.flatten_nil];rfl
 ·try dsimp only
  unfold xT;rw[Ó,List.take_length];have r:=s b.2.1.length;rw[List.take_length] at r
  have W:∀i,i<=b.2.2.2.2.1.length->((b.2.2.2.2.1.take i).flatMap (ĺ b)).length=2*i/\(((b.2.2.2.2.1.take i).mapIdx fun i _=>[((3:Int),(i:Int)),((3:Int),(i:Int))]).flatten).length=2*i:=by
   intro i
   induction i with
   |zero=>intro _; simp
   |succ i o =>
    intro hi;have o:=o (by omega);have a:b.2.2.2.2.1[i]?=some b.2.2.2.2.1[i]:=df hi;rw[jJ _ a,take_succ a,eW,gT,di,di];simp only[dF,gq,dB,ik,iq,ĺ,dr,dO];omega
  refine ï b.2.2.2.2.1 (fun i=>(b.2.1.flatMap (ö b)++(b.2.2.2.2.1.take i).flatMap (ĺ b),(b.2.1.mapIdx (ĕ b)).flatten++((b.2.2.2.2.1.take i).mapIdx fun i _=>[((3:Int),(i:Int)),((3:Int),(i:Int))]).flatten)) _ (by simp) (fun i c hi u l=>?_) (fun l=>?_)
  ·try dsimp only
   unfold xR;have n:=List.mem_of_getElem? u;have D:=(ű c).1 (h.nums n);have ha:=ō D.2.2.2.2.2.1;have hb:=ō D.2.2.2.2.2.2;have sb:=wV h n;have c1:=W i (by omega);rw[Ì hi,Ä u,Bi (by omega) (by omega),À,aov _ _ _ (by dsimp only; omega),À,Bi (by omega) (by omega),À,aov _ _ _ (by dsimp only; omega),À];rw[show Cv ((b.1.1,b.1.2),b.2.1,b.2.2.1,b.2.2.2.1,b.2.2.2.2.1,b.2.2.2.2.2) c=Cv b c from rfl,h.says n,À];rw[Ï (by omega) (by omega),Ò (by simp only[List.length_append,List.length_cons,List.length_nil]; omega),Am.iff_true,Ò (by simp only[List.length_append,List.length_cons,List.length_nil]; omega),Am.iff_true,Ê hi (by omega),jJ _ u,take_succ u,List.flatMap_append,List.flatten_append];simp only[List.flatMap_cons,List.flatMap_nil,List.append_nil,List.flatten_cons,List.flatten_nil,List.append_assoc,Int.zero_sub];rfl
  ·try dsimp only
   unfold xR;rw[Ó,List.take_length];rfl
section
variable {ρ:Type}
def wv (w:BY Bool) (v:Int):Bool:=w[v.toNat]?.getD false
def adY {w:BY Bool} {u v:Int} (d:0<=u) (c:0<=v) (h:u.toNat<w.length) (y:Bool):wv (w.set u.toNat y) v=if v=u then y else wv w v:=by
 unfold wv;rw[List.getElem?_set]
 by_cases a:v=u
 ·subst a; simp[h]
 ·have:¬u.toNat=v.toNat:=by omega
  simp[a,this]
def kR {x:BY Int} {v:Int} (h:v.toNat<x.length) (f:Int->BE ρ):ī x v.toNat f=f (gv x v):=Ž (aeY h) f
def WE {w:BY Bool} {v:Int} (h:v.toNat<w.length) (f:Bool->BE ρ):ī w v.toNat f=f (wv w v):=by
 refine Ž ?_ f;unfold wv; rw[List.getElem?_eq_getElem h]; rfl
def Ź {v:Int} {n:Nat} (h0:0<=v) (a:v<n) (x:BE ρ):à ((ile 0 v)&&(ilt v (n:Int))) x=x:=by
 have:((ile 0 v)&&(ilt v (n:Int)))=true:=by simp[ile,ilt,h0,a]
 rw[this,Am.iff_true]
end
def rU (n least:Int):BY Lk->BY Int->BY Bool->BY Int->Bool×BY Int×BY Bool×BY Int
 |[],x,w,q=>(true,x,w,q)
 |l::t,x,w,q =>
  if l.1≠n then rU n least t x w q else
  if gv x l.2.1<=gv x n+l.2.2 then rU n least t x w q else
  if gv x n+l.2.2<least then(false,x.set l.2.1.toNat (gv x n+l.2.2),w,q) else
  if wv w l.2.1 then rU n least t (x.set l.2.1.toNat (gv x n+l.2.2)) w q else rU n least t (x.set l.2.1.toNat (gv x n+l.2.2)) (w.set l.2.1.toNat true) (q++[l.2.1])
structure jk (L:BY Lk) (N:Nat) (M:Int):Prop where
 inr:InR L N
 noloop:∀l∈L,l.1≠l.2.1
 most:∀l∈L,-M<=l.2.2/\l.2.2<=M
 len:L.length<=400
 nodes:N<=1000
 m0:0<=M
 m1:M<=4503599627370496
set_option maxHeartbeats 1000000 in
def alL {ρ:Type} {L:BY Lk} {N:Nat} {M:Int} (G:jk L N M) {n least:Int} (R:0<=n/\n<N) {x:BY Int} {w:BY Bool} {q:BY Int} (hx:x.length=N) (hw:w.length=N) (hq:q.length<=1000000)
 (hb : -2305843009213693952<=gv x n/\gv x n<=2305843009213693952) (V:(Val (.pair .bool (.pair (.slice tI) (.pair (.slice .bool) (.slice tI)))))->BE ρ) (U:(Val (.pair (.slice tI) (.pair (.slice .bool) (.slice tI))))->BE ρ) :
 Ë (fun(d:(Val (.pair tI (.pair (.slice tI) (.pair (.slice .bool) (.slice tI)))))) E=>jR [] least n L (Õ L) d.1 d.2.1 d.2.2.1 d.2.2.2 (fun P O K J=>E (P,O,K,J)) V U) ((0:Int),x,w,q) =
  match rU n least L x w q with
  |(true,r)=>U r
  |(false,r)=>V (false,r):=by
 have Y:=G.len
 refine Yh L (fun i (s:BY Int×BY Bool×BY Int) t=>match rU n least t s.1 s.2.1 s.2.2 with|(true,r)=>U r|(false,r)=>V (false,r))
  (fun i s=>s.1.length=N/\s.2.1.length=N/\gv s.1 n=gv x n/\s.2.2.length<=1000000+i) (fun s hs kn=>?_) (fun i l t s hd hi Z hI kn F=>?_) (s:=(x,w,q)) ⟨hx,hw,rfl,by simpa using hq⟩
 ·try dsimp only
  unfold jR;rw[Ó];rfl
 ·obtain⟨y,u,p⟩:=s;obtain⟨H,h2,I,h4⟩:=hI;dsimp only at H h2 I h4 F ⊢;have a:l∈L:=List.mem_of_getElem? Z;have z:=G.inr l a;have hm:=G.most l a;have hm1:=G.m1;have Q:=G.noloop l a;unfold jR;rw[Ì hi,Ä Z];unfold rU
  by_cases c:l.1=n
  ·have T:ine l.1 n=false:=by simp[ine,c]
   rw[Í T];have e1:∀(f:Bool->BE ρ) (g:BE ρ),Sk (k:=tI) (v:=.bool) (i:Int) [] f g=g:=fun f g=>rfl;rw[e1,if_neg (by simp[c])]
   have X:n.toNat<y.length:=by omega
   have D:l.2.1.toNat<y.length:=by omega
   have W:l.2.1.toNat<u.length:=by omega
   rw[Ź R.1 (by omega),kR X,Ï (by omega) (by omega),Ź z.2.1 (by omega),kR D,ô]
   by_cases j:gv y l.2.1<=gv y n+l.2.2
   ·rw[if_pos (by simpa[ige] using j),if_pos j,Ê hi (by omega)];exact F (y,u,p) ⟨H,h2,I,by dsimp only; omega⟩
   ·rw[if_neg (by simpa[ige] using j),if_neg j]
    have o:gv (y.set l.2.1.toNat (gv y n+l.2.2)) n=gv x n:=by
     rw[pP z.2.1 R.1 D,if_neg (fun h=>Q (c.trans h)),I]
    have C:gv (y.set l.2.1.toNat (gv y n+l.2.2)) l.2.1=gv y n+l.2.2:=by
     rw[pP z.2.1 z.2.1 D,if_pos rfl]
    rw[Ź R.1 (by omega),kR X,Ï (by omega) (by omega),Ź z.2.1 (by omega),kR D];rw[show(í (List.set y l.2.1.toNat (gv y n+l.2.2)))=((y.length:Nat):Int) by simp[í]];rw[Ź z.2.1 (by omega),kR (by simpa using D),C,ô]
    by_cases e:gv y n+l.2.2<least
    ·rw[if_pos (by simpa[ilt] using e),if_pos e]
    ·rw[if_neg (by simpa[ilt] using e),if_neg e,Ź z.2.1 (by omega),WE W,ô]
     cases hwv:wv u l.2.1 with
     |true =>
      rw[if_neg (by simp),if_pos rfl,Ê hi (by omega)];exact F (y.set l.2.1.toNat (gv y n+l.2.2),u,p) ⟨by simpa using H,h2,o,by dsimp only; omega⟩
     |false =>
      rw[if_pos (by simp),if_neg (by simp),Ò (by simp only[dS]; omega),Am.iff_true,Ź z.2.1 (by omega),WE W,Ê hi (by omega)];exact F (y.set l.2.1.toNat (gv y n+l.2.2),u.set l.2.1.toNat true,p++[l.2.1]) ⟨by simpa using H,by simpa using h2,o,by simp only[di,dS]; omega⟩
  ·have T:ine l.1 n=true:=by simp[ine,c]
   rw[Ñ T,if_pos c,Ê hi (by omega)];exact F (y,u,p) ⟨H,h2,I,by dsimp only; omega⟩
structure amR (N:Nat) (n least:Int) (L:BY Lk) (x:BY Int) (q:BY Int) (x':BY Int) (w':BY Bool) (q':BY Int):Prop where
 lx:x'.length=N
 lw:w'.length=N
 same:gv x' n=gv x n
 le:∀v:Int,0<=v->v<N->gv x' v<=gv x v
 link:∀v m,(n,v,m)∈L->gv x' v<=gv x n+m
 chg:∀v:Int,0<=v->v<N->gv x' v=gv x v\/(v∈q'/\gv x' v<gv x v/\∃m,(n,v,m)∈L/\gv x' v=gv x n+m/\least<=gv x' v)
 new:∃l,q'=q++l/\∀v∈l,(0<=v/\v<N)/\gv x' v<gv x v
 nodup:q'.Nodup
 waits:∀v:Int,0<=v->v<N->(wv w' v=true↔v∈q')
def me {N:Nat} {n least:Int} (P:0<=n/\n<N):∀{L:BY Lk},InR L N->(∀l∈L,l.1≠l.2.1)->∀{x:BY Int} {w:BY Bool} {q:BY Int},x.length=N->w.length=N->q.Nodup->(∀v:Int,0<=v->v<N->(wv w v=true↔v∈q)) ->
 ∀{C:BY Int} {w':BY Bool} {G:BY Int},rU n least L x w q=(true,C,w',G)->amR N n least L x q C w' G
 |[],_,_,x,w,q,K,H,I,c,C,w',G,h=>by
  cases h;exact⟨K,H,rfl,fun _ _ _=>dV _,fun _ _ h=>(by cases h),fun _ _ _=>.inl rfl,⟨[],by simp,fun _ h=>by cases h⟩,I,c⟩
 |l::t,hL,O,x,w,q,K,H,I,c,C,w',G,h=>by
  have s:InR t N:=fun l hl=>hL l (by simp[hl]);have r:∀l∈t,l.1≠l.2.1:=fun l hl=>O l (by simp[hl]);have d:=hL l (by simp);have hl0:=O l (by simp);unfold rU at h
  split at h
  ·rename_i F;have a:=me P s r K H I c h
   exact⟨a.lx,a.lw,a.same,a.le,fun v m i=>by
    rcases dm.1 i with rfl|i
    ·exact(F rfl).elim
    ·exact a.link v m i,fun v h0 u=>(a.chg v h0 u).imp id fun⟨z,j,m,T,J⟩=>⟨z,j,m,by simp[T],J⟩,a.new,a.nodup,a.waits⟩
  ·rename_i F
   have R:l.1=n:=by simpa using F
   split at h
   ·rename_i hle;have a:=me P s r K H I c h
    exact⟨a.lx,a.lw,a.same,a.le,fun v m i=>by
     rcases dm.1 i with rfl|i
     ·have:=a.le v d.2.1 d.2.2; simp only at hle; omega
     ·exact a.link v m i,fun v h0 u=>(a.chg v h0 u).imp id fun⟨z,j,m,T,J⟩=>⟨z,j,m,by simp[T],J⟩,a.new,a.nodup,a.waits⟩
   ·rename_i hgt
    split at h
    ·cases h
    ·rename_i hls
     have tt:l.2.1.toNat<x.length:=by omega
     have tw:l.2.1.toNat<w.length:=by omega
     have hy:(x.set l.2.1.toNat (gv x n+l.2.2)).length=N:=by simpa using K
     have D:gv (x.set l.2.1.toNat (gv x n+l.2.2)) n=gv x n:=by
      rw[pP d.2.1 P.1 tt,if_neg (fun h=>hl0 (R.trans h))]
     have f:∀v,0<=v->gv (x.set l.2.1.toNat (gv x n+l.2.2)) v=if v=l.2.1 then gv x n+l.2.2 else gv x v:=fun v h0=>pP d.2.1 h0 tt _
     have hlm:(n,l.2.1,l.2.2)∈l::t:=by rw[<-R]; simp
     -- what both ways have in common
     have fin:∀{w1:BY Bool} {U:BY Int},amR N n least t (x.set l.2.1.toNat (gv x n+l.2.2)) U C w' G->l.2.1∈U->(∃V,U=q++V/\∀v∈V,v=l.2.1)->amR N n least (l::t) x q C w' G:=by
      intro w1 U a Q X;obtain⟨new,y,Y⟩:=a.new;obtain⟨V,hl',hlv⟩:=X
      have W:gv C l.2.1<=gv x n+l.2.2:=by
       have:=a.le l.2.1 d.2.1 d.2.2;rw[f _ d.2.1,if_pos rfl] at this;exact this
      refine⟨a.lx,a.lw,a.same.trans D,fun v h0 u=>?_,fun v m i=>?_,fun v h0 u=>?_,⟨V++new,by rw[y,hl',dp],fun v o=>?_⟩,a.nodup,a.waits⟩
      ·have:=a.le v h0 u;rw[f v h0] at this
       split at this
       ·rename_i e; subst e; omega
       ·exact this
      ·rcases dm.1 i with rfl|i
       ·exact W
       ·have:=a.link v m i
        rwa [D] at this
      ·rcases a.chg v h0 u with g|⟨z,j,m,T,J,g5⟩
       ·rw[f v h0] at g
        split at g
        ·rename_i e;subst e;exact .inr ⟨by rw[y]; exact dX _ Q,by omega,l.2.2,hlm,g,by omega⟩
        ·exact .inl g
       ·rw[f v h0] at j;rw[D] at J;refine .inr ⟨z,?_,m,by simp[T],J,g5⟩
        split at j
        ·rename_i e; subst e; omega
        ·exact j
      ·rcases dl.1 o with o|o
       ·rw[hlv v o]; exact⟨d.2,by omega⟩
       ·obtain⟨z,j⟩:=Y v o;rw[f v z.1] at j;refine⟨z,?_⟩
        split at j
        ·rename_i e; subst e; omega
        ·exact j
     split at h
     ·rename_i E;exact fin (w1:=w) (me P s r hy H I c h) ((c _ d.2.1 d.2.2).1 E) ⟨[],by simp,fun _ h=>by cases h⟩
     ·rename_i E;have Z:l.2.1∉q:=fun hc=>E ((c _ d.2.1 d.2.2).2 hc);refine fin (w1:=w.set l.2.1.toNat true) (me P s r hy (by simpa using H) ?_ ?_ h) (by simp) ⟨[l.2.1],rfl,fun v o=>by simpa using o⟩
      ·rw[List.nodup_append];exact⟨I,by simp,fun a ha b hb=>by simp at hb; subst hb; exact fun e=>Z (e▸ha)⟩
      ·intro v h0 u;rw[adY d.2.1 h0 tw]
       by_cases o:v=l.2.1
       ·simp[o]
       ·simp only[o,if_false,dl,dq,or_false];exact c v h0 u
def pn {n least:Int}:∀{L:BY Lk},(∀l∈L,l.1≠l.2.1)->(∀l∈L,0<=l.2.1)->0<=n->∀{x:BY Int} {w:BY Bool} {q:BY Int} {r},rU n least L x w q=(false,r)->∃v m,(n,v,m)∈L/\gv x n+m<least
 |[],_,_,_,x,w,q,r,h=>by cases h
 |l::t,e,h0,g,x,w,q,r,h=>by
  have a:∀l∈t,l.1≠l.2.1:=fun l s=>e l (by simp[s]);have c:∀l∈t,0<=l.2.1:=fun l s=>h0 l (by simp[s]);have f:(∃v m,(n,v,m)∈t/\gv x n+m<least)->∃v m,(n,v,m)∈l::t/\gv x n+m<least:=fun⟨v,m,y,u⟩=>⟨v,m,by simp[y],u⟩;unfold rU at h
  split at h
  ·exact f (pn a c g h)
  ·rename_i i
   have o:l.1=n:=by simpa using i
   split at h
   ·exact f (pn a c g h)
   ·split at h
    ·rename_i j;exact⟨l.2.1,l.2.2,by rw[<-o]; simp,j⟩
    ·have d:gv (x.set l.2.1.toNat (gv x n+l.2.2)) n=gv x n:=by
      unfold gv;rw[List.getElem?_set];have z:=e l (by simp);have h2:=h0 l (by simp)
      have:¬l.2.1.toNat=n.toNat:=by omega
      simp[this]
     split at h
     ·have:=pn a c g h;rw[d] at this;exact f this
     ·have:=pn a c g h;rw[d] at this;exact f this
def aeI {ρ:Type} {L:BY Lk} {N:Nat} {M:Int} (i:jk L N M) {n least:Int} (c:0<=n/\n<N) {x:BY Int} {w:BY Bool} {t rest:BY Int} (l:x.length=N) (o:w.length=N) (E:t.length=N) (u:rest.length<=1000000)
 (hb : -2305843009213693952<=gv x n/\gv x n<=2305843009213693952) (s:0<=gv t n/\gv t n<=1000000) (h:BY Int->BY Bool->BY Int->BY Int->BE ρ) (k0:(Val (.pair .bool (.pair (.slice tI) (.pair (.slice .bool) (.pair (.slice tI) (.slice tI))))))->BE ρ) :
 Ī [] least (N:Int) L x w t (n::rest) h k0 =
  if (N:Int)+1<gv t n+1 then k0 (false,x,w.set n.toNat false,t.set n.toNat (gv t n+1),rest) else
  match rU n least L x (w.set n.toNat false) rest with
  |(true,d,w',g)=>h d w' (t.set n.toNat (gv t n+1)) g
  |(false,d,w',g)=>k0 (false,d,w',t.set n.toNat (gv t n+1),g):=by
 have F:=i.nodes
 have D:n.toNat<x.length:=by omega
 have j:n.toNat<w.length:=by omega
 have e:n.toNat<t.length:=by omega
 unfold Ī
 have C:ieq (Õ (n::rest)) 0=false:=by
  rw[Î];simp only[ieq,dr,beq_eq_false_iff_ne,ne_eq];omega
 have z:ilt (0:Int) (í (n::rest))=true:=by simp[ilt,í]
 have y:ile (1:Int) (í (n::rest))=true:=by simp[ile,í]; omega
 have v:decide (1+(List.length (n::rest)-1)=List.length (n::rest))=true:=by simp; omega
 rw[Í C,ä z];rw[show ī (n::rest) 0=fun(f:Int->BE ρ)=>f n from rfl]
 try dsimp only
 rw[ä y,ä v,Ź c.1 (by omega),WE j,Ź c.1 (by omega),kR e,Ï (by omega) (by omega),Ź c.1 (by omega),kR e];rw[show(í (List.set t n.toNat (gv t n+1)))=((t.length:Nat):Int) by simp[í]];rw[Ź c.1 (by omega),kR (by simpa using e),pP c.1 c.1 e,if_pos rfl,Ï (by omega) (by omega),ô];rw[show List.drop 1 (n::rest)=rest from rfl]
 by_cases a:(N:Int)+1<gv t n+1
 ·rw[if_pos (by simpa[igt] using a),if_pos a]
 ·rw[if_neg (by simpa[igt] using a),if_neg a];rw[alL i c l (w:=w.set n.toNat false) (by simpa using o) u hb];generalize rU n least L x (w.set n.toNat false) rest=r;obtain⟨b,d,w',g⟩:=r
  cases b<;>rfl
def aic {ρ:Type} {L:BY Lk} {N:Int} {least:Int} {x:BY Int} {w:BY Bool} {t:BY Int} (a:BY Int->BY Bool->BY Int->BY Int->BE ρ) (k0:(Val (.pair .bool (.pair (.slice tI) (.pair (.slice .bool) (.pair (.slice tI) (.slice tI))))))->BE ρ) :
 Ī [] least N L x w t [] a k0=k0 (true,x,w,t,[]):=by
 unfold Ī
 have c:ieq (Õ ([]:BY Int)) 0=true:=by rw[Î]; rfl
 rw[Ñ c]
def Yj (N:Nat) (t:BY Int):Nat:=(t.map fun a=>((N:Int)+2-a).toNat).sum
def aeS (N:Nat):∀(t:BY Int) (i:Nat) (a b:Int),t[i]?=some a->a<b->a<(N:Int)+2->Yj N (t.set i b)<Yj N t
 |a0::t,0,a,b,h,c,h2=>by
  simp at h; subst h;simp only[Yj,List.set_cons_zero,fe,List.sum_cons];omega
 |a0::t,i+1,a,b,h,c,h2=>by
  have:=aeS N t i a b (by simpa using h) c h2;simp only[Yj] at this;simp only[Yj,List.set_cons_succ,fe,List.sum_cons];omega
def abk {N:Nat} {t:BY Int} {n:Int} (a:n.toNat<t.length) (h:gv t n<=(N:Int)+1):Yj N (t.set n.toNat (gv t n+1))<Yj N t :=
 aeS N t n.toNat (gv t n) _ (aeY a) (by omega) (by omega)
structure ahi (L:BY Lk) (S:Int->Prop) (N:Nat) (M:Int) (k:Nat) (A B:BY Int) (x:BY Int) (w:BY Bool) (t q:BY Int):Prop where
 q_eq:q=A++B
 lx:x.length=N
 lw:w.length=N
 lt:t.length=N
 nodup:q.Nodup
 rng:∀v∈q,0<=v/\v<N
 waits:∀v:Int,0<=v->v<N->(wv w v=true↔v∈q)
 t0:∀v:Int,0<=v->v<N->0<=gv t v/\gv t v<=(k:Int)+1
 tA:∀v∈A,gv t v<=k
 low:∀vs v d,Wl L S vs v d->vs.length<=k->gv x v<=d
 nxt:∀vs u d,Wl L S vs u d->vs.length<=k->u∉A->∀v m,(u,v,m)∈L->gv x v<=d+m
 rel:∀u:Int,0<=u->u<N->u∉q->gv x u≠š->∀v m,(u,v,m)∈L->gv x v<=gv x u+m
 att:∀v:Int,0<=v->v<N->gv x v≠š->∃vs,Wl L S vs v (gv x v)
 bd:∀v:Int,0<=v->v<N->gv x v=š\/gv x v<=((k:Int)+1)*M
 bA:∀v∈A,gv x v<=(k:Int)*M
 fin:∀v∈q,gv x v<š
 kN:k+1<=N
 last:k+1=N->B=[]
section
variable {L:BY Lk} {S:Int->Prop} {N:Nat} {M:Int} {p:Int->Int} {k:Nat} {A B x:BY Int} {w:BY Bool} {t q:BY Int}
def Nk {a b:Nat} {M:Int} (h:a<=b) (c:0<=M):(a:Int)*M<=(b:Int)*M:=fT (by omega) c
def Wl.lt_free (a:jk L N M) (f:N*M<š) {vs:BY Int} {v d:Int} (c:Wl L S vs v d) (h:vs.length<=N):d<š:=by
 have g:=c.high fun l e=>(a.most l e).2;have h2:=Nk h a.m0;omega
def ahi.next (r:jk L N M) (o:N*M<š) (C:∀v,S v->0<=v/\v<N) (h:ahi L S N M k [] B x w t q) (E:B≠[]):ahi L S N M (k+1) B [] x w t q:=by
 have D:=r.m0
 have i:q=B:=by simpa using h.q_eq
 have F:k+1≠N:=fun e=>E (h.last e);have z:=h.kN
 have a:∀vs v d,Wl L S vs v d->vs.length<=k+1->gv x v<=d:=by
  intro vs v d f n
  cases f with
  |nil y=>exact h.low [] v 0 (.nil y) (by simp)
  | @step vs u _ m d f g=>exact h.nxt vs u d f (by simpa using n) (by simp) v m g
 refine⟨by simp[i],h.lx,h.lw,h.lt,h.nodup,h.rng,h.waits,fun v h0 c=>⟨(h.t0 v h0 c).1,by have:=(h.t0 v h0 c).2; push_cast; omega⟩,fun v l=>?_,a,fun vs u d f n s v m g=>?_,h.rel,h.att,fun v h0 c=>?_,fun v l=>?_,h.fin,by omega,fun _=>rfl⟩
 ·have:=h.rng v (by rw[i]; exact l);have:=(h.t0 v this.1 this.2).2;push_cast; omega
 ·have c:=a vs u d f n;have h2:=f.lt_free r o (by omega);have j:=(f.range r.inr C).1;have:=h.rel u j.1 j.2 (by rw[i]; exact s) (by omega) v m g;omega
 ·rcases h.bd v h0 c with h2|h2
  ·exact .inl h2
  ·refine .inr ?_;have:=Nk (show k+1<=k+1+1 by omega) D;push_cast at this ⊢;omega
 ·have c:=h.rng v (by rw[i]; exact l);have h2:=h.fin v (by rw[i]; exact l);rcases h.bd v c.1 c.2 with j|j
  ·omega
  ·push_cast; exact j
def ahi.step {n:Int} {K:BY Int} {least:Int} {H:BY Int} {w':BY Bool} {Z:BY Int} (F:jk L N M) (hNM:N*M<š) (hp:Pot L p) (hS:∀v,S v->0<=v/\v<N) (h:ahi L S N M k (n::K) B x w t q)
 (ha:amR N n least L x (K++B) H w' Z):∃B',ahi L S N M k K B' H w' (t.set n.toNat (gv t n+1)) Z:=by
 have hM:=F.m0
 have y:q=n::(K++B):=by simpa using h.q_eq
 have J:=h.kN;have r:=h.rng n (by rw[y]; simp);have hnf:=h.fin n (by rw[y]; simp)
 have U:n∉K++B:=by have:=h.nodup; rw[y,fD] at this; exact this.1
 have T:n.toNat<t.length:=by have:=h.lt; omega
 have z:∀v,0<=v->gv (t.set n.toNat (gv t n+1)) v=if v=n then gv t n+1 else gv t v:=fun v h0=>pP r.1 h0 T _
 have hkM:((k:Int)+1)*M<š:=by
  have:=Nk J hM;push_cast at this;omega
 have G:∀v:Int,0<=v->v<N->gv x v<=š:=fun v h0 a=>by rcases h.bd v h0 a with h2|h2<;>omega
 obtain⟨l,P,D⟩:=ha.new
 have C:∀v:Int,0<=v->v<N->gv H v≠š->∃vs,Wl L S vs v (gv H v):=by
  intro v h0 a I;rcases ha.chg v h0 a with g|⟨_,_,m,Y,X,_⟩
  ·rw[g] at I ⊢; exact h.att v h0 a I
  ·obtain⟨vs,s⟩:=h.att n r.1 r.2 (by omega);rw[X]; exact⟨_,s.step Y⟩
 refine⟨B++l,by rw[P,dp],ha.lx,ha.lw,by rw[gX]; exact h.lt,ha.nodup,fun v c=>?_,ha.waits,fun v h0 a=>?_,fun v c=>?_,fun vs v d s i=>?_,fun vs u d s i O v m f=>?_,
  fun u h0 a O hf v m f=>?_,C,fun v h0 a=>?_,fun v c=>?_,fun v c=>?_,J,fun hk=>?_⟩
 ·rw[P] at c;rcases dl.1 c with c|c
  ·exact h.rng v (by rw[y]; simp only[dm]; exact .inr c)
  ·exact(D v c).1
 ·rw[z v h0];have h2:=h.t0 v h0 a
  split
  ·have h3:=h.tA n (by simp);have h4:=h.t0 n r.1 r.2;omega
  ·exact h2
 ·have a:=h.rng v (by rw[y]; simp[c]);rw[z v a.1,if_neg (fun e=>U (by rw[<-e]; simp[c]))];exact h.tA v (by simp[c])
 ·have a:=h.low vs v d s i;have h2:=(s.range F.inr hS).1;have:=ha.le v h2.1 h2.2;omega
 ·have j:=(F.inr _ f).2
  by_cases o:u=n
  ·subst o;have a:=ha.link v m f;have h2:=h.low vs u d s i;omega
  ·have a:=h.nxt vs u d s i (by simp[o,O]) v m f;have:=ha.le v j.1 j.2;omega
 ·have j:=(F.inr _ f).2
  have V:gv H u=gv x u:=by
   rcases ha.chg u h0 a with g|⟨g,_⟩
   ·exact g
   ·exact(O g).elim
  by_cases o:u=n
  ·subst o;have a:=ha.link v m f;omega
  ·have R:u∉q:=by
    rw[y];intro W;rcases dm.1 W with e|W
    ·exact o e
    ·exact O (by rw[P]; exact dX _ W)
   have h2:=h.rel u h0 a R (by rw[<-V]; exact hf) v m f;have:=ha.le v j.1 j.2;omega
 ·rcases ha.chg v h0 a with g|⟨_,_,m,Y,X,_⟩
  ·rw[g]; exact h.bd v h0 a
  ·have h2:=h.bA n (by simp);have h3:=(F.most _ Y).2;simp only at h3;refine .inr ?_;rw[X,f8,gj];omega
 ·have a:=h.rng v (by rw[y]; simp[c]);have h2:=h.bA v (by simp[c]);have:=ha.le v a.1 a.2;omega
 ·rw[P] at c;rcases dl.1 c with c|c
  ·have a:=h.rng v (by rw[y]; simp only[dm]; exact .inr c);have h2:=h.fin v (by rw[y]; simp only[dm]; exact .inr c);have:=ha.le v a.1 a.2;omega
  ·obtain⟨E,g2⟩:=D v c;have:=G v E.1 E.2;omega
 ·rw[h.last hk]
  cases l with
  |nil=>rfl
  |cons v l =>
   exfalso;obtain⟨E,g2⟩:=D v (by simp);have:=G v E.1 E.2;obtain⟨vs,s⟩:=C v E.1 E.2 (by omega);obtain⟨Q,d',k1,k2,k3⟩:=s.simple hp;have k4:=k1.short F.inr hS k3;have:=h.low Q v d' k1 (by omega);omega
def ahi.done (e:jk L N M) (j:N*M<š) (y:Pot L p) (l:∀v,S v->0<=v/\v<N) (h:ahi L S N M k A B x w t []):ahk L S N (gv x):=by
 have i:=h.kN;have C:=e.m0
 have z:((k:Int)+1)*M<š:=by
  have:=Nk i C;push_cast at this;omega
 have key:∀vs v d,Wl L S vs v d->vs.length+1<=N->gv x v<=d:=by
  intro vs v d a
  induction a with
  |nil s=>intro _; exact h.low [] _ 0 (.nil s) (by simp)
  | @step vs u v m d a g ih =>
   intro c;simp only[dr] at c;have o:=ih (by omega);have h2:=a.lt_free e j (by omega);have n:=(a.range e.inr l).1;have:=h.rel u n.1 n.2 (by simp) (by omega) v m g;omega
 refine⟨h.att,fun v vs d a=>?_,fun v h0 o=>?_⟩
 ·obtain⟨f,D,k1,E,r⟩:=a.simple y;have:=key f v D k1 (k1.short e.inr l r);omega
 ·rcases h.bd v h0 o with h2|h2<;>omega
def Zu {ρ:Type} {r:BE ρ} (d:jk L N M) (i:N*M<š) (z:Pot L p) (O:∀v,S v->0<=v/\v<N) (k0:(Val (.pair .bool (.pair (.slice tI) (.pair (.slice .bool) (.pair (.slice tI) (.slice tI))))))->BE ρ)
 (hK:∀x w t q,x.length=N->ahk L S N (gv x)->k0 (true,x,w,t,q)=r) (h:ahi L S N M k A B x w t q) :
 Ë (fun(e:(Val (.pair (.slice tI) (.pair (.slice .bool) (.pair (.slice tI) (.slice tI)))))) o=>Ī [] (mi L) (N:Int) L e.1 e.2.1 e.2.2.1 e.2.2.2 (fun F E D C=>o (F,E,D,C)) k0) (x,w,t,q)=r:=by
 refine ð (fun s:BY Int×BY Bool×BY Int×BY Int=>∃k A B,ahi L S N M k A B s.1 s.2.1 s.2.2.1 s.2.2.2) (fun s=>Yj N s.2.2.1) ?_ ⟨k,A,B,h⟩;rintro⟨x,w,t,q⟩ ⟨k,A,B,h⟩;dsimp only at h ⊢;have hN:=d.nodes
 cases q with
 |nil=>exact .inl fun Z=>by rw[aic]; exact hK x w t [] h.lx (h.done d i z O)
 |cons n rest =>
  -- the phase in which the first one is
  have K:∃k j B,ahi L S N M k (n::j) B x w t (n::rest):=by
   cases A with
   |nil =>
    have hB:B=n::rest:=by simpa using h.q_eq.symm
    subst hB;exact⟨k+1,rest,[],h.next d i O (by simp)⟩
   |cons a j =>
    have:=h.q_eq;simp only[fi,List.cons.injEq] at this;obtain⟨rfl,_⟩:=this;exact⟨k,j,B,h⟩
  clear h k A B;obtain⟨k,j,B,h⟩:=K
  have f:rest=j++B:=by have:=h.q_eq; simpa using this
  have c:=h.rng n (by simp);have hnf:=h.fin n (by simp);have hkN:=h.kN;have V:=h.tA n (by simp);have h2:=h.t0 n c.1 c.2;obtain⟨vs,Q⟩:=h.att n c.1 c.2 (by omega);have T:=Q.low' z
  have R : -(400*4503599627370496)<=mi L:=by
   have:∀y:BY Lk,(∀l∈y,-M<=l.2.2)->-((y.length:Int)*M)<=mi y:=by
    intro y
    induction y with
    |nil=>intro _; simp[mi,CM]
    |cons l t ih =>
     intro U;have i1:=ih fun l u=>U l (by simp[u]);have i2:=U l (by simp);have i3:=d.m0;unfold mi at i1 ⊢;simp only[CM,if_true,List.length_cons,Int.natCast_succ,Int.add_mul,Int.one_mul];omega
   have h3:=this L fun l u=>(d.most l u).1;have h4:(L.length:Int)*M<=400*4503599627370496:=fL (by have:=d.len; omega) d.m1 d.m0 (by omega);omega
  have I:rest.length<=1000000:=by
   have:=aep N (n::rest) h.nodup h.rng;simp only[dr] at this;omega
  refine .inr ?_
  have G:(w.set n.toNat false).length=N:=by rw[gX]; exact h.lw
  cases J:rU n (mi L) L x (w.set n.toNat false) rest with
  |mk b X =>
  obtain⟨W,w',Y⟩:=X
  cases b with
  |false =>
   exfalso;obtain⟨v,m,g1,g2⟩:=pn d.noloop (fun l u=>(d.inr l u).2.1) c.1 J;have:=(Q.step g1).low' z;omega
  |true =>
   have g:=h.nodup;rw[fD] at g
   have ha:=me c d.inr d.noloop h.lx G g.2 (fun v h0 V=>by
    rw[adY c.1 h0 (by have:=h.lw; omega)]
    by_cases H:v=n
    ·subst H; simp[g.1]
    ·rw[if_neg H,h.waits v h0 V]
     simp[H]) J
   rw[f] at ha;obtain⟨B',P⟩:=h.step d i z O ha;refine⟨(W,w',t.set n.toNat (gv t n+1),Y),⟨k,j,B',P⟩,abk (by have:=h.lt; omega) (by omega),fun Z=>?_⟩;have hF:š=1152921504606846976:=rfl
   rw[aeI d c h.lx h.lw h.lt I (by constructor<;>omega) (by constructor<;>omega),if_neg (by omega),J]
end
def Oz (f:Lk->Bool):∀(L a:BY Lk),CM f (L++a)=CM f L+CM f a
 |[],a=>by simp[CM]
 |l::t,a=>by
  simp only[fi,CM,Oz f t a];omega
def aap {L:BY Lk} {i:Nat} {l:Lk} (h:L[i]?=some l):mi (L.take (i+1))=mi (L.take i)+min l.2.2 0:=by
 rw[take_succ h,mi,mi,Oz];simp[CM]
def imin0 (e:Int):adh e 0=min e 0:=by
 unfold adh
 split<;>omega
def acI {L:BY Lk} {M:Int} (h:∀l∈L,-M<=l.2.2) (f:0<=M) : -((L.length:Int)*M)<=mi L:=by
 induction L with
 |nil=>simp[mi,CM]
 |cons l t a =>
  have c:=a fun l d=>h l (by simp[d]);have e:=h l (by simp);unfold mi at c ⊢;simp only[CM,if_true,List.length_cons,Int.natCast_succ,Int.add_mul,Int.one_mul];omega
def anW (L:BY Lk):mi L<=0:=nB _ L
section
variable {ρ:Type} {L:BY Lk} {N:Nat} {M:Int}
def aeU (e:jk L N M) (k0:Int->BE ρ):Ë (fun(a:bl) c=>iK L (Õ L) a.1 a.2 (fun g f=>c (g,f)) k0) ((0:Int),(0:Int))=k0 (mi L):=by
 refine ð (fun x:Int×Int=>∃i:Nat,i<=L.length/\x=(mi (L.take i),(i:Int))) (fun x=>L.length-x.2.toNat) ?_ ⟨0,by omega,rfl⟩;rintro x ⟨i,hi,rfl⟩;have n:=e.len;rcases dv i L.length with h|h
 ·have d:L[i]?=some L[i]:=df h;refine .inr ⟨(mi (L.take (i+1)),(i:Int)+1),⟨i+1,h,by simp⟩,by simp; omega,fun o=>?_⟩
  try dsimp only
  unfold iK
  have hb:∀j,j<=L.length->-(400*4503599627370496)<=mi (L.take j):=by
   intro j s;have r:=acI (L:=L.take j) (fun l d=>(e.most l (fQ d)).1) e.m0;have h2:((L.take j).length:Int)*M<=400*4503599627370496:=fL (by rw[du]; omega) e.m1 e.m0 (by omega);omega
  have r:=hb i hi;have h2:=hb (i+1) h;have u:=anW (L.take i);rw[aap d] at h2;rw[Ì h,Ä d,imin0,Ï (by omega) (by omega),Ê h (by omega),aap d]
 ·refine .inl fun o=>?_
  have:i=L.length:=by omega
  subst this
  try dsimp only
  unfold iK;rw[Ó,List.take_length]
def ahL {x:BY Int} (P:x.length=N) (Q:N<=1000) {r:BE ρ} (k0:(Val (.pair (.slice .bool) (.slice tI)))->BE ρ)
 (K:∀(w:BY Bool) (q:BY Int),w.length=N->q.Nodup->(∀v∈q,0<=v/\v<N)->(∀v:Int,0<=v->v<N->(wv w v=true↔v∈q))->(∀v:Int,0<=v->v<N->(v∈q↔gv x v≠š))->k0 (w,q)=r) :
 Ë (fun(g:(Val (.pair tI (.pair (.slice .bool) (.slice tI))))) n=>Ś (N:Int) x g.1 g.2.1 g.2.2 (fun G F E=>n (G,F,E)) k0) ((0:Int),(List.replicate N false),([]:BY Int))=r:=by
 refine ð (fun s:Int×BY Bool×BY Int=>∃i:Nat,i<=N/\s.1=i/\s.2.1.length=N/\s.2.2.Nodup/\s.2.2.length<=i/\(∀v∈s.2.2,0<=v/\v<i)/\(∀v:Int,0<=v->v<N->(wv s.2.1 v=true↔v∈s.2.2))/\(∀v:Int,0<=v->v<i->(v∈s.2.2↔gv x v≠š))) (fun s=>N-s.1.toNat) ?_
  ⟨0,by omega,rfl,by simp,by simp,by simp,by simp,fun v h0 d=>?_,fun v h0 d=>by omega⟩
 ·rintro⟨s,w,q⟩ ⟨i,hi,d,h2,D,O,l,C,z⟩;simp only at d h2 D O l C z;subst d;rcases dv i N with h|h
  ·refine .inr ?_
   have f:i<x.length:=by omega
   have j:i<w.length:=by omega
   have o:((i:Int))∉q:=fun J=>by have:=(l _ J).2; omega
   by_cases y:gv x i=š
   ·refine⟨((i:Int)+1,w,q),⟨i+1,h,by simp,h2,D,by simp only; omega,fun v c=>⟨(l v c).1,by have:=(l v c).2; push_cast; omega⟩,C,fun v h0 d=>?_⟩,by simp; omega,fun I=>?_⟩
    ·by_cases c:v=i
     ·subst c; simp[y,o]
     ·exact z v h0 (by push_cast at d; omega)
    ·try dsimp only
     unfold Ś
     have e:ilt (i:Int) (N:Int)=true:=by simp[ilt,h]
     rw[Ñ e,ś f,kR (by simpa using f)]
     have H:ine (gv x i) 1152921504606846976=false:=by simp[ine,y]
     rw[Í H,Ê h (by omega)]
   ·refine⟨((i:Int)+1,w.set i true,q++[(i:Int)]),⟨i+1,h,by simp,by simpa using h2,?_,by simp; omega,fun v c=>?_,fun v h0 d=>?_,fun v h0 d=>?_⟩,by simp; omega,fun I=>?_⟩
    ·rw[List.nodup_append];exact⟨D,by simp,fun a ha b hb=>by simp at hb; subst hb; exact fun e=>o (e▸ha)⟩
    ·rcases dl.1 c with c|c
     ·exact⟨(l v c).1,by have:=(l v c).2; push_cast; omega⟩
     ·simp at c; subst c; push_cast; omega
    ·have:=adY (w:=w) (u:=(i:Int)) (by omega) h0 (by simpa using j) true;rw[dt] at this;show wv (w.set i true) v=true↔v∈q++[(i:Int)];rw[this]
     by_cases c:v=i
     ·simp[c]
     ·simp only[c,if_false,dl,dq,or_false];exact C v h0 d
    ·show v∈q++[(i:Int)]↔_
     by_cases c:v=i
     ·subst c; simp[y]
     ·simp only[dl,dq,c,or_false];exact z v h0 (by push_cast at d; omega)
    ·try dsimp only
     unfold Ś
     have e:ilt (i:Int) (N:Int)=true:=by simp[ilt,h]
     rw[Ñ e,ś f,kR (by simpa using f)]
     have H:ine (gv x i) 1152921504606846976=true:=by simp[ine,y]
     rw[Ñ H,Ò (by simp only[dS]; omega),Am.iff_true,ś j,WE (by simpa using j),Ê h (by omega),dt]
  ·refine .inl fun I=>?_
   have:i=N:=by omega
   subst this
   try dsimp only
   unfold Ś
   have e:ilt (i:Int) (i:Int)=false:=by simp[ilt]
   rw[Í e];exact K w q h2 D l C z
 ·have:wv (List.replicate N false) v=false:=by
   unfold wv;rw[List.getElem?_replicate]
   split<;>rfl
  simp[this]
def Un (D:jk L N M) (E:1<=N) {S:Int->Bool} (y:∀v,S v=true->0<=v/\v<N) {w:BY Bool} {q:BY Int} (g:w.length=N) (z:q.Nodup) (h:∀v∈q,0<=v/\v<N) (j:∀v:Int,0<=v->v<N->(wv w v=true↔v∈q)) (n:∀v:Int,0<=v->v<N->(v∈q↔gv (iR S N) v≠š)) :
 ahi L (fun v=>S v=true) N M 0 q [] (iR S N) w (List.replicate N 0) q:=by
 have s:∀v:Int,0<=v->v<N->gv (List.replicate N (0:Int)) v=0:=by
  intro v h0 a;unfold gv;rw[List.getElem?_replicate]
  split<;>rfl
 have i:∀v:Int,0<=v->v<N->(v∈q↔S v=true):=by
  intro v h0 a;rw[n v h0 a,Μ S h0 a]
  cases S v<;>simp[š]
 have C:=D.m0;refine⟨by simp,ú S N,g,by simp,z,h,j,fun v h0 a=>?_,fun v e=>?_,fun vs v d g r=>?_,fun vs u d g r l v m o=>?_,fun u h0 a l f v m o=>?_,fun v h0 a f=>?_,fun v h0 a=>?_,fun v e=>?_,fun v e=>?_,by omega,fun _=>rfl⟩
 ·rw[s v h0 a]; omega
 ·have:=h v e;rw[s v this.1 this.2]; omega
 ·cases g with
  |nil c =>
   have:=y v c;rw[Μ S this.1 this.2,if_pos c]; omega
  |step=>simp at r
 ·cases g with
  |nil c =>
   have:=y u c;exact(l ((i u this.1 this.2).2 c)).elim
  |step=>simp at r
 ·rw[Μ S h0 a] at f;have:=mt (i u h0 a).2 l;rw[if_neg this] at f;exact(f rfl).elim
 ·rw[Μ S h0 a] at f ⊢
  split at f
  ·rename_i c;rw[if_pos c]; exact⟨[],.nil c⟩
  ·exact(f rfl).elim
 ·rw[Μ S h0 a]
  split
  ·exact .inr (by simp[C])
  ·exact .inl rfl
 ·have a:=h v e;rw[Μ S a.1 a.2,if_pos ((i v a.1 a.2).1 e)]; simp
 ·have a:=h v e;rw[Μ S a.1 a.2,if_pos ((i v a.1 a.2).1 e)]; simp[š]
structure Bad (L:BY Lk) (N:Nat) (x:BY Int) (w:BY Bool) (t q:BY Int):Prop where
 lx:x.length=N
 lw:w.length=N
 lt:t.length=N
 nodup:q.Nodup
 rng:∀v∈q,0<=v/\v<N
 waits:∀v:Int,0<=v->v<N->(wv w v=true↔v∈q)
 t0:∀v:Int,0<=v->v<N->0<=gv t v/\gv t v<=(N:Int)+1
 bd:∀v:Int,0<=v->v<N->-2305843009213693952<=gv x v/\gv x v<=0
 rel:∀u:Int,0<=u->u<N->u∉q->∀v m,(u,v,m)∈L->gv x v<=gv x u+m
def ak5 {r:BE ρ} {x:BY Int} {w:BY Bool} {t q:BY Int} (c:jk L N M) (hp:¬∃p,Pot L p) (k0:(Val (.pair .bool (.pair (.slice tI) (.pair (.slice .bool) (.pair (.slice tI) (.slice tI))))))->BE ρ)
 (Y:∀x w t q,k0 (false,x,w,t,q)=r) (h:Bad L N x w t q) :
 Ë (fun(j:(Val (.pair (.slice tI) (.pair (.slice .bool) (.pair (.slice tI) (.slice tI)))))) D=>Ī [] (mi L) (N:Int) L j.1 j.2.1 j.2.2.1 j.2.2.2 (fun O K J I=>D (O,K,J,I)) k0) (x,w,t,q)=r:=by
 refine ð (fun s:BY Int×BY Bool×BY Int×BY Int=>Bad L N s.1 s.2.1 s.2.2.1 s.2.2.2) (fun s=>Yj N s.2.2.1) ?_ h;rintro⟨x,w,t,q⟩ h;dsimp only at h ⊢;have hN:=c.nodes
 cases q with
 |nil =>
  exfalso;exact hp ⟨gv x,fun u v m o=>h.rel u (c.inr _ o).1.1 (c.inr _ o).1.2 (by simp) v m o⟩
 |cons n rest =>
  have a:=h.rng n (by simp);have hb:=h.bd n a.1 a.2;have ht:=h.t0 n a.1 a.2
  have T:rest.length<=1000000:=by
   have:=aep N (n::rest) h.nodup h.rng;simp only[dr] at this;omega
  have f:=fun(H:BY Int->BY Bool->BY Int->BY Int->BE ρ)=>aeI (ρ:=ρ) c (least:=mi L) a h.lx h.lw h.lt T ⟨hb.1,by omega⟩ ⟨ht.1,by omega⟩ H k0
  by_cases z:(N:Int)+1<gv t n+1
  ·exact .inl fun H=>by rw[f,if_pos z]; exact Y _ _ _ _
  ·have P:(w.set n.toNat false).length=N:=by rw[gX]; exact h.lw
   cases U:rU n (mi L) L x (w.set n.toNat false) rest with
   |mk b Z =>
   obtain⟨X,w',q'⟩:=Z
   cases b with
   |false=>exact .inl fun H=>by rw[f,if_neg z,U]; exact Y _ _ _ _
   |true =>
    have y:=h.nodup;rw[fD] at y
    have G:n.toNat<t.length:=by have:=h.lt; omega
    have ha:=me a c.inr c.noloop h.lx P y.2 (fun v h0 i=>by
     rw[adY a.1 h0 (by have:=h.lw; omega)]
     by_cases d:v=n
     ·subst d; simp[y.1]
     ·rw[if_neg d,h.waits v h0 i]
      simp[d]) U
    obtain⟨l,o,V⟩:=ha.new;refine .inr ⟨(X,w',t.set n.toNat (gv t n+1),q'),⟨ha.lx,ha.lw,by rw[gX]; exact h.lt,ha.nodup,fun v d=>?_,ha.waits,fun v h0 i=>?_,fun v h0 i=>?_,fun u h0 i R v m C=>?_⟩,abk G (by omega),fun H=>by rw[f,if_neg z,U]⟩
    ·dsimp only at d;rw[o] at d;rcases List.mem_append.1 d with d|d
     ·exact h.rng v (by simp[d])
     ·exact(V v d).1
    ·try dsimp only
     rw[pP a.1 h0 G];have:=h.t0 v h0 i
     split<;>omega
    ·try dsimp only
     have h2:=h.bd v h0 i;rcases ha.chg v h0 i with g|⟨_,g2,m,g3,g4,g5⟩
     ·rw[g]; exact h2
     ·have h3:=acI (L:=L) (fun l o=>(c.most l o).1) c.m0;have h4:(L.length:Int)*M<=400*4503599627370496:=fL (by have:=c.len; omega) c.m1 c.m0 (by omega);omega
    ·dsimp only at R ⊢;have E:=(c.inr _ C).2
     have heq:gv X u=gv x u:=by
      rcases ha.chg u h0 i with g|⟨g,_⟩
      ·exact g
      ·exact(R g).elim
     by_cases F:u=n
     ·subst F;have i:=ha.link v m C;omega
     ·have Q:u∉n::rest:=by
       intro W;rcases dm.1 W with e|W
       ·exact F e
       ·exact R (by rw[o]; exact dX _ W)
      have h2:=h.rel u h0 i Q v m C;have:=ha.le v E.1 E.2;omega
end
def ze (N:Nat) (v:Int):Bool:=decide (0<=v)&&decide (v<(N:Int))
def akU (s:Int) (v:Int):Bool:=v==s
def Zt (N:Nat):iR (ze N) N=List.replicate N 0:=by
 refine abr (by simp[ú]) fun v h0 a=>?_;rw[ú] at a;rw[Μ _ h0 a]
 have:ze N v=true:=by simp[ze,h0,a]
 rw[if_pos this];unfold gv;rw[List.getElem?_replicate]
 split<;>rfl
def iU (L:BY Lk) (N:Nat):BY Int:=į L N (iR (ze N) N)
def kQ (L:BY Lk) (N:Nat):Bool:=decide (iS L (iU L N)=iU L N)
def BF (L:BY Lk) (N:Nat) (s:Int):BY Int:=į L N (iR (akU s) N)
section
variable {L:BY Lk} {N:Nat} {M:Int}
def alx (a:jk L N M) (c:N<=200):N*M<š:=by
 have:(N:Int)*M<=200*4503599627370496:=Int.mul_le_mul (by omega) a.m1 a.m0 (by omega);unfold š;omega
def Jq {p:Int->Int} (a:jk L N M) (e:N<=200) (c:Pot L p):ahk L (fun v=>ze N v=true) N (gv (iU L N)) :=
 Od c a.inr (fun v h=>by simpa[ze] using h) (fun l d=>(a.most l d).2) a.m0 (alx a e) N (by omega)
def FV {p:Int->Int} (a:jk L N M) (f:N<=200) (d:Pot L p) {s:Int} (c:0<=s/\s<N):ahk L (fun v=>akU s v=true) N (gv (BF L N s)) :=
 Od d a.inr (fun v h=>by simp[akU] at h; subst h; exact c) (fun l e=>(a.most l e).2) a.m0 (alx a f) N (by omega)
def ZR:∀{L:BY Lk} {x:BY Int},(∀u v m,(u,v,m)∈L->gv x u<š->gv x v<=gv x u+m)->iS L x=x
 |[],x,_=>rfl
 |l::t,x,h=>by
  have d:iB x l=x:=by
   unfold iB
   split
   ·rename_i c;have:=h l.1 l.2.1 l.2.2 (by simp) c.1;omega
   ·rfl
  show iS t (iB x l)=x;rw[d];exact ZR fun u v m a=>h u v m (by simp[a])
def mu (a:jk L N M) (i:N<=200):kQ L N=true↔∃p,Pot L p:=by
 unfold kQ;rw[decide_eq_true_eq]
 have d:∀v:Int,0<=v->v<N->gv (iU L N) v<=0:=by
  intro v h0 f;have:=Gc a.inr N (ú (ze N) N) v h0;rw[Μ _ h0 f,if_pos (by simp[ze,h0,f])] at this;exact this
 constructor
 ·intro h;refine⟨gv (iU L N),fun u v m c=>?_⟩;have e:=(a.inr _ c).1;have:=Jy a.inr (x:=iU L N) (by unfold iU; rw[ł,ú]) u v m c (by have:=d u e.1 e.2; unfold š; omega)
  rwa [h] at this
 ·rintro⟨p,g⟩;have hd:=Jq a i g;exact ZR fun u v m c j=>hd.pot a.inr c (by omega)
end
section
variable {ρ:Type} {L:BY Lk} {N:Nat} {M:Int}
def Cd (a:N<=1000) (x:BE ρ):à ((ile (0:Int) (N:Int))&&(ã (Int.toNat (N:Int)))) x=x:=by
 rw[dt,Ò (by omega)]
 have:((ile (0:Int) (N:Int))&&true)=true:=by simp[ile]
 rw[this,Am.iff_true]
def acv (e:jk L N M) (U:1<=N) (o:N<=200) (k0:(Val (.pair .bool (.pair (.slice tI) (.pair (.slice .bool) (.pair (.slice tI) (.slice tI))))))->BE ρ) {rT rF:BE ρ}
 (R:kQ L N=true->∀w t q,k0 (true,iU L N,w,t,q)=rT) (T:∀x w t q,k0 (false,x,w,t,q)=rF) :
 (Ë (fun(d:(Val (.pair tI (.pair (.slice .bool) (.slice tI))))) f=>Ś (N:Int) (List.replicate N (0:Int)) d.1 d.2.1 d.2.2 (fun y s r=>f (y,s,r)) (fun G=>Ë (fun(c:(Val (.pair (.slice tI) (.pair (.slice .bool) (.pair (.slice tI) (.slice tI)))))) g=>Ī [] (mi L) (N:Int) L c.1 c.2.1 c.2.2.1 c.2.2.2 (fun E D C z=>g (E,D,C,z)) k0) ((List.replicate N (0:Int)),G.1,(List.replicate N (0:Int)),G.2))) ((0:Int),(List.replicate N false),([]:BY Int)))=if kQ L N then rT else rF:=by
 refine ahL (by simp) (by omega) _ fun w q H K J i j=>?_
 try dsimp only
 have O:∀v,ze N v=true->0<=v/\v<N:=fun v h=>by simpa[ze] using h
 by_cases l:kQ L N=true
 ·rw[if_pos l];obtain⟨p,n⟩:=(mu e o).1 l;have I:=Un e U O H K J i (fun v a b=>by rw[Zt]; exact j v a b);rw[Zt] at I;refine Zu e (alx e o) n O k0 (fun x w t q P hd=>?_) I
  have:x=iU L N:=by
   refine abr (by rw[P]; unfold iU; rw[ł,ú]) fun v a b=>?_;exact hd.uniq (Jq e o n) a (by omega)
  rw[this]; exact R l w t q
 ·rw[if_neg l];refine ak5 e (fun n=>l ((mu e o).2 n)) k0 T ?_
  have F:∀v,gv (List.replicate N (0:Int)) v=0:=by
   intro v;unfold gv;rw[List.getElem?_replicate]
   split<;>rfl
  refine⟨by simp,H,by simp,K,J,i,fun v a b=>?_,fun v a b=>?_,fun u a b Q v m V=>?_⟩
  ·rw[F]; omega
  ·rw[F]; omega
  ·exact(Q ((j u a b).2 (by rw[F]; unfold š; omega))).elim
end
def shift_ok {ρ:Type} {x:BY Int} (f:Int) (s:x.length<=1000) (u : -2305843009213693952<=f/\f<=2305843009213693952) (hb:∀a∈x,-2305843009213693952<=a/\a<=2305843009213693952) (k0:BY Int->BE ρ) :
 Ë (fun(d:pc) e=>jQ f (Õ x) d.1 d.2 (fun j h=>e (j,h)) k0) ((0:Int),x)=k0 (x.map fun a=>a-f):=by
 refine ï x (fun i=>(x.take i).map (fun a=>a-f)++x.drop i) _ (by simp) (fun i a hi ha n=>?_) (fun n=>?_)
 ·try dsimp only
  unfold jQ
  have l:((x.take i).map (fun a=>a-f)++x.drop i).length=x.length:=by simp; omega
  have c:((x.take i).map (fun a=>a-f)++x.drop i)[i]?=some a:=by
   rw[gi (by simp; omega)];simp only[dL,du,eX];rw[<-ha]; congr 1; omega
  have g:i<((x.take i).map (fun a=>a-f)++x.drop i).length:=by omega
  have o:=hb a (dk ha);rw[Ì hi,ś g,Ă c,Ï (by omega) (by omega),ś g,Ă c,Ê hi (by omega),dt,take_succ ha];congr 2;rw[dY hi,fp,dp,gL _ _ (by simp; omega)]
  have:i-(List.map (fun a=>a-f) (List.take i x)).length=0:=by simp; omega
  rw[this]
  have r:x[i]=a:=by rw[df hi] at ha; simpa using ha
  simp[r]
 ·try dsimp only
  unfold jQ;rw[Ó];simp
section
variable {L:BY Lk} {N:Nat} {M:Int}
def ak6 (c:jk L N M) (h:N<=200) (n:kQ L N=true):∀a∈iU L N,-2305843009213693952<=a/\a<=0:=by
 obtain⟨p,e⟩:=(mu c h).1 n;have hd:=Jq c h e;intro a ha;obtain⟨i,hi,rfl⟩:=dw.1 ha
 have f:(iU L N).length=N:=by unfold iU; rw[ł,ú]
 have h0:gv (iU L N) i=(iU L N)[i]:=by unfold gv; simp[hi]
 have d:=Gc c.inr N (ú (ze N) N) (i:Int) (by omega);rw[Μ _ (by omega) (by omega),if_pos (by simp[ze]; omega)] at d;have g:gv (iU L N) i<=0:=d;obtain⟨vs,j⟩:=hd.att i (by omega) (by omega) (by unfold š; omega);have u:=j.low' e;have s:=acI (L:=L) (fun l o=>(c.most l o).1) c.m0;have r:(L.length:Int)*M<=400*4503599627370496:=Int.mul_le_mul (by have:=c.len; omega) c.m1 c.m0 (by omega);omega
def solP (L:BY Lk) (N:Nat):BY Int:=(iU L N).map fun a=>a-gv (iU L N) 0
def wS (c:jk L N M) (i:1<=N) (f:N<=200):mf ((N:Int),L) []=some (if kQ L N then(solP L N,true) else([],false)):=by
 unfold mf AU
 try dsimp only
 rw[Cd (by omega),Cd (by omega),Cd (by omega),dt];refine ej (aeU c _) ?_;refine ej (acv c i f _ (rT:=some (solP L N,true)) (rF:=some ([],false)) (fun g w t q=>?_) (fun x w t q=>?_)) ?_
 ·try dsimp only
  have d:(iU L N).length=N:=by unfold iU; rw[ł,ú]
  have hb:=ak6 c f g;have h0:ilt (0:Int) (í (iU L N))=true:=decide_eq_true (show(0:Int)<((iU L N).length:Int) by omega);have e:(iU L N)[0]?=some (gv (iU L N) 0):=aeY (v:=0) (show 0<_ by omega);have h:=hb _ (dk e);rw[show(!true)=false from rfl,æ,ä h0,Ž e];exact shift_ok _ (by omega) ⟨h.1,by omega⟩ (fun a ha=>⟨(hb a ha).1,by have:=(hb a ha).2; omega⟩) _
 ·rfl
 ·cases kQ L N<;>rfl
structure j7 (L:BY Lk) (N:Nat):Prop where
 n1:1<=N
 n60:N<=60
 len:L.length<=300
 inr:InR L N
 noloop:∀l∈L,l.1≠l.2.1
 most:∀l∈L,-4503599627370496<=l.2.2/\l.2.2<=4503599627370496
def j7.links (h:j7 L N):jk L N 4503599627370496 :=
 ⟨h.inr,h.noloop,h.most,by have:=h.len; omega,by have:=h.n60; omega,by omega,by omega⟩
def acH (n:Int) (L:BY Lk) (v:Int):Cu (n,L) v=some (decide (0<=v)&&decide (v<n)):=by
 unfold Cu XJ ige
 by_cases h:0<=v
 ·have:decide (v>=0)=true:=by simpa using h
  rw[Ñ this]; simp[h]
 ·have:decide (v>=0)=false:=by simpa using h
  rw[Í this]; simp[h]
def mZ (h:j7 L N):sf ((N:Int),L)=some (0,-1):=by
 have o:=h.n1;have h2:=h.n60;have n:=h.len;unfold sf Qv
 try dsimp only
 rw[Í (by simp[ilt]; omega),Í (by simp[igt]; omega),Í (by rw[Î]; simp[igt]; omega)];refine ej (jn L (fun _=>false) (fun i=>some (1,i)) (some (0,-1)) (fun i l hi e f=>?_) (fun f=>?_)) ?_
 ·try dsimp only
  unfold ud;have d:=List.mem_of_getElem? e;have a:=h.inr l d;have b:=h.noloop l d;have c:=h.most l d
  have j:(decide (0<=l.1)&&decide (l.1<(N:Int)))=true:=by simp[a.1.1,a.1.2]
  have g:(decide (0<=l.2.1)&&decide (l.2.1<(N:Int)))=true:=by simp[a.2.1,a.2.2]
  rw[Ì hi,Ä e,acH,À,j,acH,À,g];simp only[dU,æ,dA,if_false];rw[Í (by simp[ieq,b]),Í (by simp[ilt]; omega),Í (by simp[igt]; omega),Ê hi (by omega)]
 ·try dsimp only
  unfold ud;rw[Ó]
 ·rw[eJ.2 (by simp)]
def yh {ρ:Type} {x:BY Int} {v:Int} (h0:0<=v) (h:v.toNat<x.length) (f:Int->BE ρ):é x v f=f (gv x v):=by
 obtain⟨i,rfl⟩:=Int.eq_ofNat_of_zero_le h0;exact Ä (aeY h) f
end
section
variable {b:ø}
def sk (b:ø) (g:è):(Ü b g).Pairwise (·<·):=EB _
def RB (h:ţ b) {g:è} (i:g∈b.2.1):∃t,Ü b g=g.2.1::t:=by
 have c:=sk b g;have h2:=oz (b:=b) g;have f:∀d∈Ü b g,g.2.1<=d:=fun d hd=>(h.day i hd).1
 cases hd:Ü b g with
 |nil=>rw[hd] at h2; cases h2
 |cons a t =>
  rw[hd] at c h2 f;rw[dN] at c;rcases dm.1 h2 with e|e
  ·exact⟨t,by rw[e]⟩
  ·have:=c.1 _ e;have:=f a (by simp);omega
def off (b:ø) (i:Nat):Nat:=((b.2.1.take i).flatMap fun g=>(Ü b g).map fun d=>((g.1,d):Int×Int)).length
def EI {i:Nat} {g:è} (a:b.2.1[i]?=some g):Ø b=((b.2.1.take i).flatMap fun g=>(Ü b g).map fun d=>((g.1,d):Int×Int))++(((Ü b g).map fun d=>((g.1,d):Int×Int))++((b.2.1.drop (i+1)).flatMap fun g=>(Ü b g).map fun d=>((g.1,d):Int×Int))):=by
 obtain⟨hi,rfl⟩:=dj.1 a
 have c:b.2.1=b.2.1.take i++(b.2.1[i]::b.2.1.drop (i+1)):=by
  rw[<-dY hi,eI]
 unfold Ø
 conv=>lhs; rw[c]
 rw[eW,dF]
def WD (h:ţ b) {i:Nat} {g:è} (r:b.2.1[i]?=some g) {k:Nat} {d:Int} (s:(Ü b g)[k]?=some d):i8 (Ø b) g.1 d=some (off b i+k):=by
 obtain⟨hi,l⟩:=List.getElem?_eq_some_iff.1 r;obtain⟨a,c⟩:=List.getElem?_eq_some_iff.1 s;unfold i8;rw[EI r,List.findIdx?_append,List.findIdx?_append]
 have u:List.findIdx? (fun n:Int×Int=>decide (g.1=n.1)&&decide (d=n.2)) ((b.2.1.take i).flatMap fun g=>(Ü b g).map fun d=>((g.1,d):Int×Int))=none:=by
  rw[eJ];intro x e;obtain⟨g',o,e⟩:=dG.1 e;obtain⟨v,_,rfl⟩:=dH.1 e;obtain⟨j,f,rfl⟩:=dw.1 o;rw[du] at f;rw[fk];have:=(dP.1 h.ids) j i (by omega) hi (by omega);rw[l] at this;simp only[Bool.and_eq_false_iff,decide_eq_false_iff_not];exact .inl (by omega)
 have h2:List.findIdx? (fun n:Int×Int=>decide (g.1=n.1)&&decide (d=n.2)) ((Ü b g).map fun d=>((g.1,d):Int×Int))=some k:=by
  rw[dR];refine⟨by simpa using a,by simp[c],fun j f=>?_⟩;have:=(dP.1 (sk b g)) j k (by omega) a f;rw[c] at this;simp only[List.getElem_map,dg,decide_eq_true_eq,not_and];intro _;omega
 rw[u,h2];simp only[Option.map_some,Option.some_or,Option.none_or];unfold off;congr 1;omega
def Nj {i:Nat} {g:è} (f:b.2.1[i]?=some g) {k:Nat} {d:Int} (a:(Ü b g)[k]?=some d):(Ø b)[off b i+k]?=some (g.1,d):=by
 obtain⟨c,e⟩:=List.getElem?_eq_some_iff.1 a;rw[EI f,List.getElem?_append_right (by unfold off; omega),List.getElem?_append_left (by unfold off; simp; omega)];unfold off;simp[a]
def afv (h:ţ b) {i:Nat} {g:è} (a:b.2.1[i]?=some g):atP (Ø b) [g.1] g.2.1=(off b i:Int)+1:=by
 obtain⟨t,c⟩:=RB h (List.mem_of_getElem? a);have:=WD h a (k:=0) (d:=g.2.1) (by rw[c]; rfl);unfold atP;simp only[this];rfl
def ail (h:ţ b) {i:Nat} {g:è} (a:b.2.1[i]?=some g):off b i+(Ü b g).length<=(Ø b).length:=by
 rw[EI a];unfold off;simp only[List.length_append,List.length_map];omega
def als {i:Nat} {g:è} (a:b.2.1[i]?=some g):off b (i+1)=off b i+(Ü b g).length:=by
 unfold off;rw[take_succ a,List.flatMap_append];simp
def aan (h:ţ b) {c:Cmp} (u:c∈b.2.2.2.2.1) {x:Int} (s:(x∈c.2.2.1/\x∉c.2.2.2.1)\/(x∈c.2.2.2.1/\x∉c.2.2.1)):∃j,i8 (Ø b) x c.2.1=some j:=by
 have v:x∈c.2.2.1++c.2.2.2.1:=by rw[dl]; exact s.imp (·.1) (·.1)
 obtain⟨⟨g,z,_⟩,_⟩:=h.pile u v;obtain⟨f,a⟩:=iX z;obtain⟨i,hi,l⟩:=dw.1 f
 have hd:c.2.1∈Ü b g:=ż.2 (.inr (.inl ⟨c,u,by
  rw[a];rcases s with⟨n,h2⟩|⟨n,h2⟩
  ·have r:c.2.2.1.contains x=true:=by simpa using n
   have o:c.2.2.2.1.contains x=false:=by simpa using h2
   rw[r,o]; simp
  ·have r:c.2.2.2.1.contains x=true:=by simpa using n
   have o:c.2.2.1.contains x=false:=by simpa using h2
   rw[r,o]; simp,rfl⟩))
 obtain⟨k,y,e⟩:=dw.1 hd;have:=WD h (g:=g) (i:=i) (by rw[df hi,l]) (k:=k) (d:=c.2.1) (by rw[df y,e]);rw[a] at this;exact⟨_,this⟩
inductive ahe (b:ø) (p:List Int) (d:Int) (n:Int):Prop
 |none:p=[]->n=0->ahe b p d n
 |one (x:Int) (j:Nat):p=[x]->i8 (Ø b) x d=some j->n=(j:Int)+1->ahe b p d n
def ajw (h:ţ b) {c:Cmp} (f:c∈b.2.2.2.2.1):ahe b (Þ c.2.2.1 c.2.2.2.1) c.2.1 (cx b c):=by
 have d:=(h.lefts f).1
 cases a:Þ c.2.2.1 c.2.2.2.1 with
 |nil=>exact .none rfl (by unfold cx atP; rw[a])
 |cons x t =>
  rw[a] at d
  have:t=[]:=by cases t with|nil=>rfl|cons=>simp at d
  subst this;obtain⟨j,e⟩:=aan h f (x:=x) (.inl (lf.1 (by rw[a]; simp)));exact .one x j rfl e (by unfold cx atP; rw[a]; simp only[e])
def adv (h:ţ b) {c:Cmp} (f:c∈b.2.2.2.2.1):ahe b (Þ c.2.2.2.1 c.2.2.1) c.2.1 (cy b c):=by
 have d:=(h.lefts f).2.1
 cases a:Þ c.2.2.2.1 c.2.2.1 with
 |nil=>exact .none rfl (by unfold cy atP; rw[a])
 |cons x t =>
  rw[a] at d
  have:t=[]:=by cases t with|nil=>rfl|cons=>simp at d
  subst this;obtain⟨j,e⟩:=aan h f (x:=x) (.inr (lf.1 (by rw[a]; simp)));exact .one x j rfl e (by unfold cy atP; rw[a]; simp only[e])
def ahe.rng {p:BY Int} {d n:Int} (h:ahe b p d n):0<=n/\n<((Ø b).length+1:Nat):=by
 rcases h with⟨_,h⟩|⟨x,j,_,a,h2⟩
 ·omega
 ·have:=(l6 a).1;omega
def al3 (h:ţ b) {c:Cmp} (d:c∈b.2.2.2.2.1):cx b c≠cy b c:=by
 have l:=(h.lefts d).2.2;rcases ajw h d with⟨g,h2⟩|⟨x,j,g,h2,s⟩
 ·rcases adv h d with⟨a,f⟩|⟨y,k,a,f,o⟩
  ·rw[g,a] at l; simp at l
  ·omega
 ·rcases adv h d with⟨a,f⟩|⟨y,k,a,f,o⟩
  ·omega
  ·intro e
   have:j=k:=by omega
   subst this;have r:=(l6 h2).2;have i:=(l6 f).2;rw[r] at i;simp only[Option.some.injEq,Prod.mk.injEq] at i
   have m1:x∈Þ c.2.2.1 c.2.2.2.1:=by rw[g]; simp
   have n:y∈Þ c.2.2.2.1 c.2.2.1:=by rw[a]; simp
   rw[i.1] at m1;exact(lf.1 m1).2 (lf.1 n).1
def abi (h:ţ b):(Τ b).length=2*(Ø b).length+2*b.2.2.2.2.1.length:=by
 have i:∀l:BY è,(∀g∈l,g∈b.2.1)->(l.flatMap (ö b)).length=2*(l.flatMap fun g=>(Ü b g).map fun d=>((g.1,d):Int×Int)).length:=by
  intro l
  induction l with
  |nil=>intro _; rfl
  |cons g t a =>
   intro e;have:=a fun g f=>e g (by simp[f]);have j:=List.length_pos_of_mem (oz (b:=b) g);simp only[List.flatMap_cons,List.length_append,List.length_map,this];unfold ö;rw[List.length_append,iZ _ _ (fun _=>rfl)];simp only[List.length_cons,List.length_nil];omega
 have h2:∀l:BY Cmp,(l.flatMap (ĺ b)).length=2*l.length:=by
  intro l
  induction l with
  |nil=>rfl
  |cons c t a =>
   simp only[dF,di,a,ĺ,dr,dO];omega
 unfold Τ;rw[List.length_append,i _ fun _ h=>h,h2];rfl
def ľ (h:ţ b) {i:Nat} {g:è} (n:b.2.1[i]?=some g) {l:Lk}:l∈ö b g ↔
 l=(0,(off b i:Int)+1,g.2.2.1+g.2.2.2.1.2)\/l=((off b i:Int)+1,0,-(g.2.2.1+g.2.2.2.1.1)) \/
 ∃(k:Nat) (d e:Int),(Ü b g)[k]?=some d/\(Ü b g)[k+1]?=some e/\(l=((off b i:Int)+k+1,(off b i:Int)+k+2,0)\/l=((off b i:Int)+k+2,(off b i:Int)+k+1,jH b g d e)):=by
 unfold ö;rw[afv h n];simp only[List.mem_append,List.mem_cons,List.not_mem_nil,or_false,List.mem_flatMap,List.mem_range];constructor
 ·rintro((a|a)|⟨k,o,a⟩)
  ·exact .inl a
  ·exact .inr (.inl a)
  ·refine .inr (.inr ⟨k,(Ü b g)[k],(Ü b g)[k+1],df (by omega),df (by omega),?_⟩);rw[df (show k<(Ü b g).length by omega),df (show k+1<(Ü b g).length by omega)] at a;simp only[f5] at a
   have f:(off b i:Int)+1+k=(off b i:Int)+k+1:=by omega
   have c:(off b i:Int)+k+1+1=(off b i:Int)+k+2:=by omega
   rw[f,c] at a;exact a
 ·rintro(a|a|⟨k,d,e,hd,j,a⟩)
  ·exact .inl (.inl a)
  ·exact .inl (.inr a)
  ·obtain⟨h2,rfl⟩:=dj.1 hd;obtain⟨r,rfl⟩:=dj.1 j;refine .inr ⟨k,by omega,?_⟩;rw[hd,j];simp only[f5]
   have f:(off b i:Int)+1+k=(off b i:Int)+k+1:=by omega
   have c:(off b i:Int)+k+1+1=(off b i:Int)+k+2:=by omega
   rw[f,c];exact a
def qK {l:Lk}:l∈Τ b↔(∃(i:Nat) (g:è),b.2.1[i]?=some g/\l∈ö b g)\/∃c∈b.2.2.2.2.1,l=(cy b c,cx b c,(wW b c).2)\/l=(cx b c,cy b c,-(wW b c).1):=by
 unfold Τ;simp only[List.mem_append,List.mem_flatMap,ĺ,List.mem_cons,List.not_mem_nil,or_false];constructor
 ·rintro(⟨g,a,h⟩|h)
  ·obtain⟨i,hi,rfl⟩:=dw.1 a;exact .inl ⟨i,_,df hi,h⟩
  ·exact .inr h
 ·rintro(⟨i,g,a,h⟩|h)
  ·exact .inl ⟨g,dk a,h⟩
  ·exact .inr h
def ţ.sys (h:ţ b):j7 (Τ b) ((Ø b).length+1):=by
 have F:=h.nodes;have G:=h.links
 have key:∀l∈Τ b,((0<=l.1/\l.1<((Ø b).length+1:Nat))/\(0<=l.2.1/\l.2.1<((Ø b).length+1:Nat)))/\l.1≠l.2.1/\(-4503599627370496<=l.2.2/\l.2.2<=4503599627370496):=by
  intro l f;rcases qK.1 f with⟨i,g,o,f⟩|⟨c,n,f⟩
  ·have j:=dk o;have r:=h.gaugeR j;have E:=ail h o;have D:=f9 (oz (b:=b) g);have r1:=r.2.2.2.2.2.1;have r2:=r.2.2.2.2.2.2.1;rcases(ľ h o).1 f with rfl|rfl|⟨k,d,e,hd,s,u⟩
   ·dsimp only; omega
   ·dsimp only; omega
   ·obtain⟨h2,_⟩:=dj.1 s;have v:=h.day j (dk hd);have C:=jT h j (t:=e) v.2.1;rcases u with rfl|rfl
    ·dsimp only; omega
    ·dsimp only; omega
  ·have a:=(ajw h n).rng;have H:=(adv h n).rng;have z:=al3 h n;have y:=wV h n;rcases f with rfl|rfl
   ·dsimp only; omega
   ·dsimp only; omega
 exact⟨by omega,by omega,by rw[abi h]; omega,fun l f=>(key l f).1,fun l f=>(key l f).2.1,fun l f=>(key l f).2.2⟩
end
def L6 (b:ø) (id day:Int):Bool:=b.2.2.1.any fun u=>u.1==id&&u.2==day
def adu (b:ø) (g:è) (d:Int):Int:=match Ŕ b g.1 d with|some l=>l.2.2|none=>if L6 b g.1 d then g.2.2.2.2.2 else 0
def aiL (l:Jm) (id:Int) {f t:Int} (n:f<=t):(if l.1=id/\0<ğ l f (t+1) then ğ l f (t+1)*l.2.2 else 0)=(if l.1=id/\0<ğ l f t then ğ l f t*l.2.2 else 0)+(if l.1=id/\l.2.1.1<=t/\t<=l.2.1.2 then l.2.2 else 0):=by
 by_cases a:l.1=id
 ·by_cases d:l.2.1.1<=t/\t<=l.2.1.2
  ·have e:ğ l f (t+1)=ğ l f t+1:=by unfold ğ; omega
   have p:0<=ğ l f t:=by unfold ğ; omega
   rw[e,if_pos ⟨a,by omega⟩,if_pos (show l.1=id/\l.2.1.1<=t/\t<=l.2.1.2 from⟨a,d⟩),f8,gj]
   by_cases c:0<ğ l f t
   ·rw[if_pos ⟨a,c⟩]
   ·rw[if_neg (fun h=>c h.2)]
    have:ğ l f t=0:=by omega
    rw[this];omega
  ·rw[if_neg (show ¬(l.1=id/\l.2.1.1<=t/\t<=l.2.1.2) from fun h=>d h.2),gG]
   by_cases j:l.2.1.1<=t
   ·have e:ğ l f (t+1)=ğ l f t:=by unfold ğ; omega
    rw[e]
   ·have i:¬0<ğ l f (t+1):=by unfold ğ; omega
    have g:¬0<ğ l f t:=by unfold ğ; omega
    rw[if_neg (fun h=>i h.2),if_neg (fun h=>g h.2)]
 ·rw[if_neg (fun h=>a h.1),if_neg (fun h=>a h.1),if_neg (fun h=>a h.1)];rfl
def Vm (id:Int) {f t:Int} (g:f<=t):∀{x:BY Jm},x.Pairwise (fun a c=>¬(a.1=c.1/\a.2.1.1<=c.2.1.2/\c.2.1.1<=a.2.1.2)) ->
 ļ id f (t+1) x=ļ id f t x+(match x.find? (fun l=>l.1==id&&inP t l.2.1.1 l.2.1.2) with|some l=>l.2.2|none=>0)
 |[],_=>rfl
 |l::r,j=>by
  rw[dN] at j;have n:=Vm id g j.2;simp only[ļ];rw[n,aiL l id g,gh]
  by_cases d:l.1=id/\l.2.1.1<=t/\t<=l.2.1.2
  ·have e:(l.1==id&&inP t l.2.1.1 l.2.1.2)=true:=by simp[inP,d.1,d.2.1,d.2.2]
   have o:r.find? (fun l=>l.1==id&&inP t l.2.1.1 l.2.1.2)=none:=by
    rw[eD];intro c s i;simp only[inP,dg,beq_iff_eq,decide_eq_true_eq] at i;exact j.1 c s ⟨by rw[d.1,i.1],by omega,by omega⟩
   rw[if_pos d,e,o];simp only;omega
  ·have e:(l.1==id&&inP t l.2.1.1 l.2.1.2)=false:=by
    rw[eP];intro h;simp only[inP,dg,beq_iff_eq,decide_eq_true_eq] at h;exact d h
   rw[if_neg d,e];simp only;omega
section
variable {b:ø}
def ţ.apart (h:ţ b):b.2.2.2.1.Pairwise (fun a c=>¬(a.1=c.1/\a.2.1.1<=c.2.1.2/\c.2.1.1<=a.2.1.2)):=by
 rw[List.pairwise_iff_getElem];intro i j hi f g ⟨n,h2,l⟩;have e:=h.loans j _ (List.getElem?_eq_getElem f);unfold MZ at e
 have d:(b.2.2.2.1.take j).any (fun x=>x.1==b.2.2.2.1[j].1&&(decide (x.2.1.1<=b.2.2.2.1[j].2.1.2)&&decide (b.2.2.2.1[j].2.1.1<=x.2.1.2)))=true:=by
  rw[dD];exact⟨b.2.2.2.1[i],dw.2 ⟨i,by rw[du]; omega,by rw[fk]⟩,by simp[n,h2,l]⟩
 rw[d] at e
 (repeat' split at e)<;>first|omega|simp_all
def ţ.notUsed (h:ţ b) {id d:Int} {l:Jm} (i:Ŕ b id d=some l):L6 b id d=false:=by
 have n:=fP i;have g:=fS i;simp only[inP,dg,beq_iff_eq,decide_eq_true_eq] at g;obtain⟨j,o,rfl⟩:=dw.1 n;have e:=h.loans j _ (df o);rw[eP];intro f;obtain⟨u,f,a⟩:=dD.1 f;simp only[dg,beq_iff_eq] at a
 have c:b.2.2.1.any (fun u=>u.1==b.2.2.2.1[j].1&&inP u.2 b.2.2.2.1[j].2.1.1 b.2.2.2.1[j].2.1.2)=true:=by
  rw[dD];exact⟨u,f,by simp only[inP,dg,beq_iff_eq,decide_eq_true_eq]; exact⟨by rw[a.1,g.1],by omega,by omega⟩⟩
 unfold MZ at e;rw[c] at e
 (repeat' split at e)<;>first|omega|simp_all
def Zl {id f t:Int} (j:f<=t):ZB (jA b id f (t+1))=ZB (jA b id f t)++if L6 b id t then[t] else[]:=by
 have i:∀t x,x∈jA b id f t↔L6 b id x=true/\f<=x/\x<t:=by
  intro t x;unfold jA L6;simp only[List.mem_map,List.mem_filter,List.any_eq_true,inP,Bool.and_eq_true,beq_iff_eq,decide_eq_true_eq];constructor
  ·rintro⟨u,⟨d,h2,e,o⟩,rfl⟩;exact⟨⟨u,d,h2,rfl⟩,e,by omega⟩
  ·rintro⟨⟨u,d,h2,rfl⟩,e,o⟩;exact⟨u,⟨d,h2,e,by omega⟩,rfl⟩
 refine YZ (EB _) ?_ fun x=>?_
 ·rw[gM]
  refine⟨EB _,by split<;>simp,fun a ha c n=>?_⟩
  rw[wU,i] at ha
  split at n
  ·rw[dq] at n; omega
  ·cases n
 ·rw[wU,i,dl,wU,i]
  by_cases g:L6 b id t=true
  ·rw[if_pos g,dq];constructor
   ·rintro⟨d,h2,e⟩
    by_cases l:x=t
    ·exact .inr l
    ·exact .inl ⟨d,h2,by omega⟩
   ·rintro(⟨d,h2,e⟩|rfl)
    ·exact⟨d,h2,by omega⟩
    ·exact⟨g,j,by omega⟩
  ·rw[if_neg g];constructor
   ·rintro⟨d,h2,e⟩;refine .inl ⟨d,h2,?_⟩
    by_cases l:x=t
    ·rw[l] at d; exact absurd d g
    ·omega
   ·rintro(⟨d,h2,e⟩|h)
    ·exact⟨d,h2,by omega⟩
    ·cases h
def QX (h:ţ b) (g:è) {f t:Int} (a:f<=t):jH b g f (t+1)=jH b g f t+adu b g t:=by
 unfold jH adu;rw[Vm g.1 a h.apart,Zl a];show ļ g.1 f t b.2.2.2.1+(match Ŕ b g.1 t with|some l=>l.2.2|none=>0)+_=_
 cases ha:Ŕ b g.1 t with
 |some l =>
  rw[h.notUsed ha];simp only[dA,if_false,dB];omega
 |none =>
  simp only
  cases L6 b g.1 t with
  |true=>simp only[if_true,di,dS,Int.natCast_add,f8]; omega
  |false=>simp only[dA,if_false,dB]; omega
def Bf (g:è) {f t:Int} (c:t<=f):jH b g f t=0:=by
 unfold jH
 have h:∀x:BY Jm,ļ g.1 f t x=0:=by
  intro x
  induction x with
  |nil=>rfl
  |cons l r a =>
   simp only[ļ];rw[a,if_neg (by unfold ğ; omega)];rfl
 have h2:jA b g.1 f t=[]:=by
  unfold jA
  rw[il.2 fun u i d=>by
   simp only[inP,dg,beq_iff_eq,decide_eq_true_eq] at d
   omega]
  rfl
 rw[h,h2];have e:ZB ([]:BY Int)=[]:=rfl;rw[e];simp
end
def akk {ρ:Type}:@xJ ρ=@iK ρ:=rfl
def akj {ρ:Type}:@xI ρ=@Ś ρ:=rfl
def aki {ρ:Type}:@xH ρ=@Ī ρ:=rfl
def abp {ρ:Type} {N:Nat} (a:N<=1000) (x:BE ρ):à ((ile (0:Int) (N:Int))&&(ã N)) x=x:=by
 have:=Cd a x
 rwa [dt] at this
section
variable {L:BY Lk} {N:Nat} {M:Int}
def ahI {s:Int} (c:0<=s/\s<N):(List.replicate N š).set s.toNat 0=iR (akU s) N:=by
 refine abr (by simp[ú]) fun v h0 d=>?_
 have a:v<N:=by simpa using d
 rw[Μ _ h0 a,pP c.1 h0 (by simp; omega)];unfold akU
 by_cases h:v=s
 ·simp[h]
 ·simp only[h,if_false,beq_iff_eq];unfold gv;rw[List.getElem?_replicate]
  have:v.toNat<N:=by omega
  simp[this]
def abX (c:jk L N M) (G:1<=N) (n:N<=200) (F:kQ L N=true) {s:Int} (d:0<=s/\s<N):wD ((N:Int),L) [] s=some (BF L N s):=by
 obtain⟨p,o⟩:=(mu c n).1 F;unfold wD Kq;rw[akk,akj,aki];dsimp only;rw[Cd (by omega),Int.toNat_natCast];refine ï (List.replicate N (0:Int)) (fun i=>List.replicate i š++List.replicate (N-i) 0) _ (by simp) (fun i a hi ha y=>?_) (fun y=>?_)
 ·dsimp only;unfold qp
  have l:i<N:=by simpa using hi
  have r:i<(List.replicate i š++List.replicate (N-i) (0:Int)).length:=by simp; omega
  rw[Ì hi,ś r,Ă (df r),Ê l (by omega),dt];congr 2;rw[gL _ _ (by simp)]
  have:N-i=(N-(i+1))+1:=by omega
  rw[this,fJ,Nat.sub_self,gA,List.set_cons_zero,List.replicate_succ'];simp
 ·try dsimp only
  unfold qp;rw[Ó];dsimp only
  have H:List.replicate (List.replicate N (0:Int)).length š++List.replicate (N-(List.replicate N (0:Int)).length) 0=List.replicate N š:=by simp
  rw[H]
  have e:s.toNat<(List.replicate N š).length:=by simp; omega
  rw[show í (List.replicate N š)=((N:Nat):Int) by simp[í],Ź d.1 d.2,kR e,abp (by omega),abp (by omega),ahI d];refine ej (aeU c _) ?_
  have u:∀v,akU s v=true->0<=v/\v<N:=fun v h=>by simp[akU] at h; subst h; exact d
  refine ahL (ú _ _) (by omega) _ fun w q C E D f j=>?_;have g:=Un c G u C E D f j;refine Zu c (alx c n) o u _ (fun x w t q z hd=>?_) g
  have:x=BF L N s:=by
   refine abr (by rw[z]; unfold BF; rw[ł,ú]) fun v a b=>?_;exact hd.uniq (FV c n o d) a (by omega)
  dsimp only;rw[this]
def amx (h:j7 L N) {c:BY Int} (g:∀n∈c,0<=n/\n<N) (j:c.length<=1000):IY ((N:Int),L) c=some (if kQ L N then 0 else 9):=by
 have h2:=h.n60;unfold IY Ql;rw[mZ h,À];dsimp only;rw[Í (by rfl)];refine Eq.trans (jn c (fun _=>false) (fun _=>some 1) (some (if kQ L N then 0 else 9)) (fun i n hi d f=>?_) (fun f=>?_)) ?_
 ·try dsimp only
  unfold tY;have a:=g n (List.mem_of_getElem? d)
  have e:(decide (0<=n)&&decide (n<(N:Int)))=true:=by simp[a.1,a.2]
  rw[Ì hi,Ä d,acH,À,e,Ê hi (by omega)];simp
 ·try dsimp only
  unfold tY;rw[Ó,wS h.links h.n1 (by omega),À]
  cases kQ L N<;>rfl
 ·rw[eJ.2 (by simp)]
end
def ams:ø:=((0,0),[],[],[],[],[])
structure akP (b:ø) (c:Cmp):Prop where
 nums:JC c=true
 r1:sI (Gb (ŗ b) (Þ c.2.2.1 c.2.2.2.1)) 1000 100
 r2:sI (Gb (ŗ b) (Þ c.2.2.2.1 c.2.2.1)) 1000 100
def ţ.cmp {b:ø} (h:ţ b) {c:Cmp} (a:c∈b.2.2.2.2.1):akP b c:=⟨h.nums a,(h.rates a).1,(h.rates a).2⟩
def Zz {b:ø} (i:0<=b.1.1/\b.1.1<=b.1.2/\b.1.2<=1000000) {c:Cmp} (h:akP b c):sI (iL b c).1 2000000000 10000/\sI (iL b c).2 2000000000 10000/\(-3000000000<=Ud (iL b c).1+(pR b c).1/\Ud (iL b c).1+(pR b c).1<=3000000000) /\
 (-3000000000<=(iL b c).2.1 / (iL b c).2.2+(pR b c).2/\(iL b c).2.1 / (iL b c).2.2+(pR b c).2<=3000000000)/\(0<=c.2.2.2.2.2.1/\c.2.2.2.2.2.1<=1073741824):=by
 have a:=(ű c).1 h.nums;have ha:=ō a.2.2.2.2.2.1;have hb:=ō a.2.2.2.2.2.2;obtain⟨g,f⟩:=Wu (NV h.r1 h.r2) a.2.2.2.2.1;have j:=ym (b:=b) (c:=c) (by omega) (by omega) (by omega) (by omega) (by omega) (by omega);have e:sI (iL b c).1 2000000000 10000:=g;have d:sI (iL b c).2 2000000000 10000:=f;have n:=CC e;have l:=yk d;exact⟨e,d,by omega,by omega,a.2.2.2.1⟩
structure In (b:ø):Prop where
 size:jp b
 num:∀g∈b.2.1,I64 g.2.2.2.2.1.1
def Y9 (b:ø):Sys×BY (Int×Int)×Int:=if ş b≠0 then((0,[]),[],ş b) else((((Ø b).length:Int)+1,Τ b),Nf b,0)
def ab6 {b:ø} (h:In b):jz b=some (Y9 b):=by
 unfold jz KA Y9;rw[CI h.size h.num,À]
 by_cases a:ş b=0
 ·rw[Í (by simp[ine,a]),alz ((Λ b).1 a),À,if_neg (show ¬(ş b≠0) from fun h=>h a)]
 ·rw[Ñ (by simp[ine,a]),if_pos a]
def RZ (b:ø) (g:Int) (a:BY Int):Int:=if ş b≠0 then ş b else if a.any (fun d=>!C6 d) then 1 else if (sS (k:=tI) (v:=Ö) g (ŗ b)).isNone then 5 else 0
def aks {b:ø} (h:In b) (g:Int) {a:BY Int} (hd:a.length<=1000):I0 b g a=some (RZ b g a):=by
 unfold I0 QS RZ;rw[CI h.size h.num,À]
 by_cases c:ş b=0
 ·rw[Í (by simp[ine,c]),if_neg (show ¬(ş b≠0) from fun h=>h c)]
  have last:(Æ (Ń b) fun n=>Sk (k:=tI) (v:=Ö) g n (fun l=>some (0:Int)) (some (5:Int)))=some (if (sS (k:=tI) (v:=Ö) g (ŗ b)).isNone then 5 else 0):=by
   rw[Jt h.size.gauges,À];unfold Sk
   cases sS (k:=tI) (v:=Ö) g (ŗ b)<;>rfl
  refine ej (ē a (fun d=>!C6 d) (fun f=>ifb (ige f (0:Int)) (some (1:Int)) (Æ (Ń b) fun o=>Sk (k:=tI) (v:=Ö) g o (fun s=>some (0:Int)) (some (5:Int)))) (some 1) (some (if (sS (k:=tI) (v:=Ö) g (ŗ b)).isNone then 5 else 0)) (fun j=>?_) (fun i d hi e r=>?_) (fun r=>?_)) ?_
  ·rw[Ñ (by simp[ige])]
  ·try dsimp only
   unfold uq;rw[Ì hi,Ä e,Nq,À,Ê hi (by omega),ô]
  ·try dsimp only
   unfold uq;rw[Ó,last]
  ·cases a.any (fun d=>!C6 d)<;>rfl
 ·rw[Ñ (by simp[ine,c]),if_pos c]
section
variable {b:ø}
def aim:off b b.2.1.length=(Ø b).length:=by unfold off Ø; rw[List.take_length]
def aeK:∀n,n<=b.2.1.length->∀j,j<off b n->∃(i:Nat) (g:è) (k:Nat),b.2.1[i]?=some g/\k<(Ü b g).length/\j=off b i+k:=by
 intro n
 induction n with
 |zero=>intro _ j a; simp[off] at a
 |succ n d =>
  intro e j a;have c:b.2.1[n]?=some b.2.1[n]:=df (by omega);rw[als c] at a
  by_cases h:j<off b n
  ·exact d (by omega) j h
  ·exact⟨n,_,j-off b n,c,by omega,by omega⟩
def UT {v:Int} (h0:1<=v) (d:v<((Ø b).length+1:Nat)):∃(i:Nat) (g:è) (k:Nat),b.2.1[i]?=some g/\k<(Ü b g).length/\v=(off b i:Int)+k+1:=by
 obtain⟨i,g,k,h2,a,c⟩:=aeK (b:=b) b.2.1.length (dh _) (v-1).toNat (by rw[aim]; omega);exact⟨i,g,k,h2,a,by omega⟩
def GL (b:ø) (L:BY Lk):Prop:=∀(i:Nat) (g:è),b.2.1[i]?=some g->∀l∈ö b g,l∈L
def ae0:GL b (Τ b):=fun i g c l a=>qK.2 (.inl ⟨i,g,c,a⟩)
def anu {L:BY Lk} (h:ţ b) (n:GL b L) {v:Int} (h0:0<=v) (s:v<((Ø b).length+1:Nat)):∃vs d,Wl L (fun u=>u=0) vs v d/\d<=4503599627370496:=by
 by_cases r:v=0
 ·exact⟨[],0,.nil r,by omega⟩
 obtain⟨i,g,k,f,j,rfl⟩:=UT (by omega) s;have l:=h.gaugeR (dk f);have r1:=l.2.2.2.2.2.1;have r2:=l.2.2.2.2.2.2.1
 have key:∀k:Nat,k<(Ü b g).length->∃vs,Wl L (fun u=>u=0) vs ((off b i:Int)+k+1) (g.2.2.1+g.2.2.2.1.2):=by
  intro k
  induction k with
  |zero =>
   intro _;have a:Wl L (fun u=>u=0) [0] ((off b i:Int)+1) (0+(g.2.2.1+g.2.2.2.1.2)):=Wl.step (.nil rfl) (n i g f _ ((ľ h f).2 (.inl rfl)));rw[Int.zero_add] at a;exact⟨[0],by simpa using a⟩
  |succ k o =>
   intro j;obtain⟨vs,a⟩:=o (by omega);have c:=Wl.step a (n i g f _ ((ľ h f).2 (.inr (.inr ⟨k,_,_,df (show k<_ by omega),df j,.inl rfl⟩))));rw[gG] at c
   have e:(off b i:Int)+((k+1:Nat):Int)+1=(off b i:Int)+k+2:=by push_cast; omega
   exact⟨_,by rw[e]; exact c⟩
 obtain⟨vs,a⟩:=key k j;exact⟨vs,_,a,by omega⟩
def ahC {L:BY Lk} (h:ţ b) (o:GL b L) {v:Int} (h0:0<=v) (C:v<((Ø b).length+1:Nat)):∃vs d,Wl L (fun u=>u=v) vs 0 d/\d<=4503599627370496:=by
 by_cases s:v=0
 ·exact⟨[],0,.nil s.symm,by omega⟩
 obtain⟨i,g,k,j,F,rfl⟩:=UT (by omega) C;have a:=dk j;have n:=h.gaugeR a;have r1:=n.2.2.2.2.2.1;have r2:=n.2.2.2.2.2.2.1;have hd:=I2 h a
 have key:∀m:Nat,m<=k->∃vs d,Wl L (fun u=>u=(off b i:Int)+k+1) vs ((off b i:Int)+(k-m:Nat)+1) d/\d<=m*(12*(20001*1048576)+40*1048576):=by
  intro m
  induction m with
  |zero=>intro _; exact⟨[],0,.nil (by simp),by simp⟩
  |succ m r =>
   intro E;obtain⟨vs,d,c,hd⟩:=r (by omega)
   have G:((k-m:Nat):Int)=((k-(m+1):Nat):Int)+1:=by omega
   have y:(((off b i:Int)+(k-(m+1):Nat)+2,(off b i:Int)+(k-(m+1):Nat)+1,jH b g ((Ü b g)[k-(m+1)]'(by omega)) ((Ü b g)[k-(m+1)+1]'(by omega))):Lk)∈L :=
    o i g j _ ((ľ h j).2 (.inr (.inr ⟨k-(m+1),_,_,df (by omega),df (by omega),.inr rfl⟩)))
   have hb:=jT h a (f:=(Ü b g)[k-(m+1)]'(by omega)) (t:=(Ü b g)[k-(m+1)+1]'(by omega)) (h.day a (fH _)).2.1
   have D:(off b i:Int)+(k-m:Nat)+1=(off b i:Int)+(k-(m+1):Nat)+2:=by omega
   rw[D] at c;exact⟨_,_,.step c y,by push_cast; omega⟩
 obtain⟨vs,d,c,z⟩:=key k (dh _)
 have e:(off b i:Int)+(k-k:Nat)+1=(off b i:Int)+1:=by omega
 rw[e] at c;have l:=Wl.step c (o i g j _ ((ľ h j).2 (.inr (.inl rfl))));exact⟨_,_,l,by omega⟩
end
structure adQ (L:BY Lk) (N:Nat):Prop where
 to:∀v:Int,0<=v->v<N->∃vs d,Wl L (fun u=>u=0) vs v d/\d<=4503599627370496
 from':∀v:Int,0<=v->v<N->∃vs d,Wl L (fun u=>u=v) vs 0 d/\d<=4503599627370496
def ţ.tied {b:ø} (h:ţ b):adQ (Τ b) ((Ø b).length+1):=⟨fun v h0 a=>anu h ae0 h0 a,fun v h0 a=>ahC h ae0 h0 a⟩
section
variable {L:BY Lk} {N:Nat}
def amY {L:BY Lk} {s:Int} {vs:BY Int} {v d:Int}:Wl L (fun v=>akU s v=true) vs v d↔Wl L (fun u=>u=s) vs v d :=
 ⟨fun h=>h.mono fun u a=>by simpa[akU] using a,fun h=>h.mono fun u a=>by simpa[akU] using a⟩
def RX (s:Int):(BF L N s).length=N:=by unfold BF; rw[ł,ú]
end
def ag5 {b:ø}:∀i,i<=b.2.2.2.2.1.length->((b.2.2.2.2.1.take i).flatMap (ĺ b)).length=2*i/\(((b.2.2.2.2.1.take i).mapIdx fun i _=>[((3:Int),(i:Int)),((3:Int),(i:Int))]).flatten).length=2*i:=by
 intro i
 induction i with
 |zero=>intro _; simp
 |succ i a =>
  intro hi;have a:=a (by omega);have c:b.2.2.2.2.1[i]?=some b.2.2.2.2.1[i]:=df hi;rw[jJ _ c,take_succ c,eW,gT,di,di];simp only[dF,gq,dB,ik,iq,ĺ,dr,dO];omega
end Go.Proofs.ZzM
end
