/- lemmas -/
import Derived.Test.YtbiecdpaididoaaGreatDoorPlA
import Derived.Test.YtbiecdpaididoaaGreatDoorMdTA
import Derived.Test.YtbiecdpaididoaaGreatDoorAmC
import Derived.Laws.Strings
import Derived.Lib.SplitLaws
import Derived.Lib.AtoiAllCases
set_option linter.all false
noncomputable section
namespace Go.Proofs.ZzM
open Go Go.Am
section
variable {L:AS Lk} {N:Nat}
def Wl.app {u v:Int} {vs:AS Int} {d:Int} (g:Wl L (fun x=>x=u) vs v d) {ws:AS Int} {w e:Int} (h2:Wl L (fun x=>x=v) ws w e):∃xs,Wl L (fun x=>x=u) xs w (d+e):=by
 induction h2 with
 |nil h=>subst h; exact⟨vs,by rw[fe]; exact g⟩
 |step i f a =>
  obtain⟨xs,hi⟩:=a;have:=Wl.step hi f;rw[Int.add_assoc] at this;exact⟨_,this⟩
def dst (L:AS Lk) (N:Nat) (s t:Int):Int:=gv (kS L N s) t
def dst_le (h:jJ L N) (g:DS L N) (m:Œ L N=true) {s t:Int} (a:0<=s/\s<N) (f:0<=t/\t<N):dst L N s t<=9007199254740992:=by
 have h2:=h.n60;obtain⟨p,l⟩:=(ŝ h.links (by omega)).1 m;obtain⟨vs,d,k,hd⟩:=g.from' s a.1 a.2;obtain⟨ws,e,j,n⟩:=g.to t f.1 f.2;obtain⟨xs,i⟩:=Wl.app k j;have:=(gD h.links (by omega) l a).low t xs _ (L8.2 i);unfold dst;omega
def Ns (h:jJ L N) (d:DS L N) (f:Œ L N=true) {s t:Int} (e:0<=s/\s<N) (a:0<=t/\t<N):dst L N s t≠fA:=by
 have:=dst_le h d f e a;unfold fA;omega
def Nq (h:jJ L N) (f:DS L N) (d:Œ L N=true) {s:Int} (a:0<=s/\s<N):Pot L (dst L N s):=by
 have h2:=h.n60;obtain⟨p,i⟩:=(ŝ h.links (by omega)).1 d;intro u v m e;have g:=h.inr _ e;exact(gD h.links (by omega) i a).pot h.inr e (Ns h f d a g.1)
def Jm (h:jJ L N) (d:Œ L N=true) {s:Int} (a:0<=s/\s<N):dst L N s s=0:=HO h d a.1 a.2
def Dt (h:jJ L N) (j:DS L N) (k:Œ L N=true) {s t:Int} (d:0<=s/\s<N) (a:0<=t/\t<N) {p:Int->Int} (e:Pot L p):p t-p s<=dst L N s t:=by
 have h2:=h.n60;obtain⟨vs,g⟩:=(gD h.links (by omega) e d).att t a.1 a.2 (Ns h j k d a);obtain⟨u,i,f⟩:=(L8.1 g).pot e;subst i;exact f
def RP (h:jJ L N) (f:DS L N) (a:Œ L N=true) {x y:Int} (e:0<=x/\x<N) (d:0<=y/\y<N) {t:Int} (i : -(dst L N x y)<=t) (h2:t<=dst L N y x):∃p,Pot L p/\p x-p y=t:=by
 refine⟨fun v=>min (dst L N y v) (dst L N x v+t),fun u v m g=>?_,?_⟩
 ·have n:=Nq h f a d u v m g;have l:=Nq h f a e u v m g;show min _ _<=min _ _+m;omega
 ·have k:=Jm h a e;have j:=Jm h a d;show min (dst L N y x) (dst L N x x+t)-min (dst L N y y) (dst L N x y+t)=t;omega
def Nr (h:jJ L N) (f:DS L N) (a:Œ L N=true) {x y:Int} (e:0<=x/\x<N) (d:0<=y/\y<N) : -(dst L N x y)<=dst L N y x:=by
 have h2:=h.n60;obtain⟨p,g⟩:=(ŝ h.links (by omega)).1 a;have j:=Dt h f a e d g;have i:=Dt h f a d e g;omega
def Cn (h:jJ L N) (f:DS L N) {s t:Int} (g:0<=s/\s<N) (e:0<=t/\t<N):jE L N s t=if Œ L N then(dst L N s t,0) else(0,9):=by
 unfold jE
 by_cases a:Œ L N=true
 ·have d:=Ns h f a g e;unfold dst at d ⊢;rw[if_neg (by simp[a]),if_neg d,if_pos a]
 ·rw[if_pos (by simpa using a),if_neg a]
end
section
variable {b:à} {c:Cmp}
def Rz (h':Ĉ (è b c)):GL (è b c) (ò (è b c)):=by
 intro i g d l a;rw[M9];exact bw.2 (.inl (bP.2 ⟨g,bI d,a⟩))
def lW (h':Ĉ (è b c)):DS (ò (è b c)) ((Î (è b c)).length+1):=h'.tiedL (Rz h')
def kw (h':Ĉ (è b c)):jJ (ò (è b c)) ((Î (è b c)).length+1) :=
 h'.sys.sub (fun l a=>List.mem_of_mem_take a) (by unfold ò; rw[List.length_take]; omega)
def tV (h:Ĉ b) (h':Ĉ (è b c)):Œ (ò (è b c)) ((Î (è b c)).length+1)=Œ (ĕ b) ((Î b).length+1):=by
 have n1:=h.sys.n60;have a:=(kw h').n60;rw[dj,ŝ (kw h').links (by omega),ŝ h.sys.links (by omega)];exact(L6 h h').symm
def xm:c∈(è b c).2.2.2.2.1:=by simp[è]
def Cc (h':Ĉ (è b c)):0<=cx (è b c) c/\cx (è b c) c<((Î (è b c)).length+1:Nat):=(Dx h' xm).rng
def Cb (h':Ĉ (è b c)):0<=cy (è b c) c/\cy (è b c) c<((Î (è b c)).length+1:Nat):=(zF h' xm).rng
def dLo (b:à) (c:Cmp):Int:=-(dst (ò (è b c)) ((Î (è b c)).length+1) (cx (è b c) c) (cy (è b c) c))
def dHi (b:à) (c:Cmp):Int:=dst (ò (è b c)) ((Î (è b c)).length+1) (cy (è b c) c) (cx (è b c) c)
def zX (h:Ĉ b) (h':Ĉ (è b (Å c))):iT b c=if Œ (ĕ b) ((Î b).length+1) then Eh b (Å c) (dLo b (Å c),dHi b (Å c)) else((0,0),9):=by
 have e:vO b (Å c)=(è b (Å c),0):=by
  unfold vO;rw[if_neg (by simp[(ñ b).2 h]),if_neg (by simp[(ñ _).2 h'])]
 unfold iT;rw[e,Cn (kw h') (lW h') (Cb h') (Cc h'),Cn (kw h') (lW h') (Cc h') (Cb h'),tV h h']
 by_cases a:Œ (ĕ b) ((Î b).length+1)=true
 ·rw[if_pos a,if_pos a,if_pos a];rfl
 ·rw[if_neg a,if_neg a,if_neg a];rfl
end
def Ly (f:Int->Int->Int) (z:Int) (l:AS Int) (d:Int):Int:=match l with|[]=>z|x::_=>f x d
def uj (f:Int->Int->Int) (z:Int) (c:Cmp):Int:=Ly f z (å c.2.2.1 c.2.2.2.1) c.2.1-Ly f z (å c.2.2.2.1 c.2.2.1) c.2.1
structure Sq (b:à) (f:Int->Int->Int) (z:Int) (g:ß):Prop where
 hi:f g.1 g.2.1<=z+(g.2.2.1+g.2.2.2.1.2)
 lo:z+(g.2.2.1+g.2.2.2.1.1)<=f g.1 g.2.1
 down:∀d e,g.2.1<=d->d<=e->f g.1 e<=f g.1 d
 loss:∀d e,g.2.1<=d->d<=e->f g.1 d<=f g.1 e+ű b g d e
structure Qn (b:à) (f:Int->Int->Int) (z:Int):Prop where
 gauge:∀g∈b.2.1,Sq b f z g
 cmp:∀c∈b.2.2.2.2.1,(ū b c).1<=uj f z c/\uj f z c<=(ū b c).2
def FT {b:à} (h:Ĉ b) {p:Int->Int} (l:∀g∈b.2.1,jC b p g):∃f:Int->Int->Int,(∀g∈b.2.1,Sq b f (p 0) g)/\∀g∈b.2.1,∀d∈Ö b g,f g.1 d=p (ķ b g.1 d):=by
 let f:Int->Int->Int:=fun id d=>match ų b id with|some g=>fill b p g d|none=>0
 have i:∀g∈b.2.1,∀d,f g.1 d=fill b p g d:=fun g a d=>by
  show(match ų b g.1 with|some g=>fill b p g d|none=>0)=_;rw[rI h.ids a]
 refine⟨f,fun g a=>?_,fun g a d hd=>by rw[i g a]; exact xw h a (l g a) hd⟩;have k:=l g a
 have m:f g.1 g.2.1=p (ķ b g.1 g.2.1):=by rw[i g a]; exact xw h a k (gI g)
 refine⟨by rw[m]; exact k.hi,by rw[m]; exact k.lo,fun d e h0 j=>?_,fun d e h0 j=>?_⟩
 ·rw[i g a,i g a];exact(tZ h a k h0 j).1
 ·rw[i g a,i g a];exact(tZ h a k h0 j).2
def Ef {b:à} {f:Int->Int->Int} {p:Int->Int} (i:∀g∈b.2.1,∀d∈Ö b g,f g.1 d=p (ķ b g.1 d)) {l:AS Int} {a:Int} (j:∀x∈l,∃g∈b.2.1,g.1=x/\a∈Ö b g):p (xa b l a)=Ly f (p 0) l a:=by
 cases l with
 |nil=>rfl
 |cons x t =>
  obtain⟨g,h,rfl,e⟩:=j x (by simp);exact(i g h a e).symm
def zB {b:à} {f:Int->Int->Int} {p:Int->Int} (e:∀g∈b.2.1,∀d∈Ö b g,f g.1 d=p (ķ b g.1 d)) {c:Cmp}
 (h:∀x,x∈å c.2.2.1 c.2.2.2.1\/x∈å c.2.2.2.1 c.2.2.1->∃g∈b.2.1,g.1=x/\c.2.1∈Ö b g):p (cx b c)-p (cy b c)=uj f (p 0) c:=by
 unfold uj;rw[vB,vA,Ef e (fun x a=>h x (.inl a)),Ef e (fun x a=>h x (.inr a))]
def Bl {b:à} (h:Ĉ b) (f:Int->Int->Int) (z:Int) {l:AS Int} {a:Int} (d:∀x∈l,∃g∈b.2.1,g.1=x/\a∈Ö b g):Bm b f z (xa b l a)=Ly f z l a:=by
 rw[vJ h f z d];unfold Ly
 cases l<;>rfl
def xR {b:à} (h:Ĉ b) {f:Int->Int->Int} {z:Int} {c:Cmp} (d:∀x,x∈å c.2.2.1 c.2.2.2.1\/x∈å c.2.2.2.1 c.2.2.1->∃g∈b.2.1,g.1=x/\c.2.1∈Ö b g):Bm b f z (cx b c)-Bm b f z (cy b c)=uj f z c:=by
 unfold uj;rw[vB,vA,Bl h f z (fun x a=>d x (.inl a)),Bl h f z (fun x a=>d x (.inr a))]
def Bk {b:à} (h:Ĉ b) {f:Int->Int->Int} {z:Int} {g:ß} (j:g∈b.2.1) (i:Sq b f z g):jC b (Bm b f z) g:=by
 have q:∀d∈Ö b g,Bm b f z (ķ b g.1 d)=f g.1 d:=fun d hd=>sf h f z j hd;have l:=q g.2.1 (gI g);refine⟨?_,?_,fun d e hd k a=>?_,fun d e hd k a=>?_⟩
 ·rw[l,jj]; exact i.hi
 ·rw[l,jj]; exact i.lo
 ·rw[q d hd,q e k]; exact i.down d e (h.day j hd).1 a
 ·rw[q d hd,q e k]; exact i.loss d e (h.day j hd).1 a
section
variable {b:à} {c:Cmp}
def Pa (h:Ĉ b) {p:Int->Int} (j:Pot (ĕ b) p):∃f,Qn b f (p 0)/\∀g∈b.2.1,∀d∈Ö b g,f g.1 d=p (ķ b g.1 d):=by
 obtain⟨k,m⟩:=(CD h).1 j;obtain⟨f,l,e⟩:=FT h k;refine⟨f,⟨l,fun c a=>?_⟩,e⟩;have:=zB e (c:=c) (fun x i=>iJ h a i);have:=m c a;omega
def PH (h:Ĉ b) {f:Int->Int->Int} {z:Int} (a:Qn b f z):Pot (ĕ b) (Bm b f z):=by
 refine(CD h).2 ⟨fun g d=>Bk h d (a.gauge g d),fun c e=>?_⟩;have:=xR (f:=f) (z:=z) h (c:=c) (fun x i=>iJ h e i);have:=a.cmp c e;omega
def Jo (h:Ĉ b) {d:Cmp} (hd:d∈b.2.2.2.2.1):∀x,x∈å d.2.2.1 d.2.2.2.1\/x∈å d.2.2.2.1 d.2.2.1->∃g∈(è b c).2.1,g.1=x/\d.2.1∈Ö (è b c) g:=by
 intro x i;obtain⟨g,f,e,a⟩:=iJ h hd i;exact⟨g,f,e,l7 a⟩
def M8 (h:Ĉ b) (h':Ĉ (è b c)) {p:Int->Int} (j:Pot (ò (è b c)) p):∃f,Qn b f (p 0)/\p (cx (è b c) c)-p (cy (è b c) c)=uj f (p 0) c:=by
 obtain⟨k,m⟩:=(xr h').1 j;obtain⟨f,l,e⟩:=FT h' k;refine⟨f,⟨fun g a=>?_,fun d hd=>?_⟩,zB e fun x i=>iJ h' xm i⟩
 ·have:=l g a;exact⟨this.hi,this.lo,this.down,this.loss⟩
 ·have:=zB e (c:=d) (Jo h hd);have:=m d hd;omega
def M7 (h:Ĉ b) (h':Ĉ (è b c)) {f:Int->Int->Int} {z:Int} (a:Qn b f z):Pot (ò (è b c)) (Bm (è b c) f z)/\Bm (è b c) f z (cx (è b c) c)-Bm (è b c) f z (cy (è b c) c)=uj f z c:=by
 refine⟨(xr h').2 ⟨fun g e=>Bk h' e ?_,fun d hd=>?_⟩,xR h' fun x i=>iJ h' xm i⟩
 ·have:=a.gauge g e;exact⟨this.hi,this.lo,this.down,this.loss⟩
 ·have:=xR (f:=f) (z:=z) h' (c:=d) (Jo h hd);have:=a.cmp d hd;omega
def yc (h:Ĉ b):Œ (ĕ b) ((Î b).length+1)=true↔∃f z,Qn b f z:=by
 have:=h.sys.n60;rw[ŝ h.sys.links (by omega)];constructor
 ·rintro⟨p,a⟩;obtain⟨f,e,_⟩:=Pa h a;exact⟨f,_,e⟩
 ·rintro⟨f,z,d⟩;exact⟨_,PH h d⟩
def d_max (h:Ĉ b) (h':Ĉ (è b c)) {f:Int->Int->Int} {z:Int} (e:Qn b f z):dLo b c<=uj f z c/\uj f z c<=dHi b c:=by
 have d:Œ (ò (è b c)) ((Î (è b c)).length+1)=true:=by rw[tV h h']; exact(yc h).2 ⟨f,z,e⟩
 obtain⟨a,hd⟩:=M7 h h' e;have i:=Dt (kw h') (lW h') d (Cc h') (Cb h') a;have g:=Dt (kw h') (lW h') d (Cb h') (Cc h') a;unfold dLo dHi;omega
def d_all (h:Ĉ b) (h':Ĉ (è b c)) (a:Œ (ĕ b) ((Î b).length+1)=true) {t:Int} (i:dLo b c<=t) (h2:t<=dHi b c):∃f z,Qn b f z/\uj f z c=t:=by
 rw[<-tV h h'] at a;obtain⟨p,d,hd⟩:=RP (kw h') (lW h') a (Cc h') (Cb h') i h2;obtain⟨f,e,g⟩:=M8 h h' d;exact⟨f,_,e,by rw[<-g]; exact hd⟩
def RU (h:Ĉ b) (h':Ĉ (è b c)) (a:Œ (ĕ b) ((Î b).length+1)=true):dLo b c<=dHi b c:=by
 rw[<-tV h h'] at a;exact Nr (kw h') (lW h') a (Cc h') (Cb h')
end
def ND {k:Int×Int} (e:0<k.2) (m n:Int):0<QM (od k m) (od k n)↔k.1*n<k.1*m:=by
 obtain⟨g,r,_,q,p⟩:=se (n:=k.1*m) e;obtain⟨h,h0,_,o,h2⟩:=se (n:=k.1*n) e
 have a:(od k n).1*(od k m).2<(od k m).1*(od k n).2↔k.1*n<k.1*m:=by
  have j:(od k n).1*(od k m).2*((g:Int)*h)=k.1*n*k.2:=by
   show(iq (k.1*n) k.2).1*(iq (k.1*m) k.2).2*((g:Int)*h)=k.1*n*k.2
   calc _=((iq (k.1*n) k.2).1*h)*((iq (k.1*m) k.2).2*g):=by ac_rfl
    _=_:=by rw[<-o,<-p]
  have i:(od k m).1*(od k n).2*((g:Int)*h)=k.1*m*k.2:=by
   show(iq (k.1*m) k.2).1*(iq (k.1*n) k.2).2*((g:Int)*h)=k.1*m*k.2
   calc _=((iq (k.1*m) k.2).1*g)*((iq (k.1*n) k.2).2*h):=by ac_rfl
    _=_:=by rw[<-q,<-h2]
  have l:0<(g:Int)*h:=Int.mul_pos (by omega) (by omega);constructor
  ·intro d;have:=Int.mul_lt_mul_of_pos_right d l;rw[j,i] at this;exact Int.lt_of_mul_lt_mul_right this (by omega)
  ·intro d;have:=Int.mul_lt_mul_of_pos_right d e;rw[<-j,<-i] at this;exact Int.lt_of_mul_lt_mul_right this (by omega)
 rw[<-a];unfold QM
 by_cases f:od k m=od k n
 ·rw[if_pos f,f];omega
 ·rw[if_neg f]
  split
  ·omega
  ·split<;>omega
def Bt {k:Int×Int} (e:0<k.2) {a:Int×Int} (f:a.1<=a.2):su k a=if k.1<0 then(od k a.2,od k a.1) else(od k a.1,od k a.2):=by
 unfold su
 by_cases d:k.1<0
 ·rw[if_pos d]
  by_cases g:a.1=a.2
  ·rw[g]
   split<;>rfl
  ·rw[if_pos ((ND e _ _).2 (Int.mul_lt_mul_of_neg_left (by omega) d))]
 ·rw[if_neg d,if_neg (fun h=>by
   have i:=(ND e _ _).1 h;have h2:=Int.mul_le_mul_of_nonneg_left f (show 0<=k.1 by omega)
   omega)]
def P7 (c:Cmp):pA c=some (decide (c.2.2.1.length<=9)&&decide (c.2.2.2.1.length<=9)):=by
 unfold pA BB;rw[Þ,Þ,Ė]
 by_cases h:c.2.2.1.length<=9
 ·rw[if_pos (by simp[ile]; omega)];simp[ile,h];omega
 ·rw[if_neg (by simp[ile]; omega)];simp[h]
def kV (c:Cmp):Cmp:=(c.1,c.2.1,c.2.2.2.1,c.2.2.1,-c.2.2.2.2.1,c.2.2.2.2.2)
def JY (c:Cmp):kV (kV c)=c:=by
 obtain⟨a,b,x,y,d,r⟩:=c;simp[kV]
def Qo (c c':Cmp):Prop:=c'=c\/c'=kV c
structure ğ (b b':à):Prop where
 film:b'.1=b.1
 gs:b'.2.1=b.2.1
 us:b'.2.2.1.Perm b.2.2.1
 ls:b'.2.2.2.1.Perm b.2.2.2.1
 cl:b'.2.2.2.2.1.length=b.2.2.2.2.1.length
 cs:∀(i:Nat) (c c':Cmp),b.2.2.2.2.1[i]?=some c->b'.2.2.2.2.1[i]?=some c'->Qo c c'
 ks:b'.2.2.2.2.2.Perm b.2.2.2.2.2
def Qo.symm {c c':Cmp} (h:Qo c c'):Qo c' c:=by
 rcases h with rfl|rfl
 ·exact .inl rfl
 ·exact .inr (JY c).symm
def ğ.symm {b b':à} (h:ğ b b'):ğ b' b:=⟨h.film.symm,h.gs.symm,h.us.symm,h.ls.symm,h.cl.symm,fun i c c' a h2=>(h.cs i c' c h2 a).symm,h.ks.symm⟩
def ğ.more_ {b b':à} (h:ğ b b') (c:Cmp):ğ (è b c) (è b' c):=by
 refine⟨h.film,h.gs,h.us,h.ls,by simp[è,h.cl],fun i d e a h2=>?_,h.ks⟩;simp only[è] at a h2;rw[cB] at a h2;rw[h.cl] at h2
 split at a
 ·rename_i hi;rw[if_pos hi] at h2;exact h.cs i d e a h2
 ·rename_i hi;rw[if_neg hi] at h2;rw[a] at h2; cases h2;exact .inl rfl
section
variable {b b':à}
def ğ.shelf_ (h:ğ b b'):ĉ b'=ĉ b:=by unfold ĉ; rw[h.gs]
def JN {α:Type} {l m:AS α} (h:l.Perm m) (p:α->Bool):l.any p=m.any p:=by
 rw[dj,dW,dW];exact⟨fun⟨x,a,h2⟩=>⟨x,h.mem_iff.1 a,h2⟩,fun⟨x,a,h2⟩=>⟨x,h.mem_iff.2 a,h2⟩⟩
def ğ.away (h:ğ b b') (id d:Int):(kT b' id d).isSome=(kT b id d).isSome:=by
 unfold kT;rw[Bool.eq_iff_iff,List.find?_isSome,List.find?_isSome];exact⟨fun⟨x,a,h2⟩=>⟨x,h.ls.mem_iff.1 a,h2⟩,fun⟨x,a,h2⟩=>⟨x,h.ls.mem_iff.2 a,h2⟩⟩
def Kh (c:Cmp):rm (kV c)=rm c:=by
 unfold rm kV;dsimp only
 have e:inP (-c.2.2.2.2.1) (-1125899906842624) 1125899906842624=inP c.2.2.2.2.1 (-1125899906842624) 1125899906842624:=by
  unfold inP;rw[Bool.eq_iff_iff]; simp; omega
 rw[e,Bool.and_comm (nX c.2.2.2.1)]
def G3 (b:à) (s:AS (Int×ß)) (c:Cmp):ir b s (kV c)=ir b s c:=by
 unfold ir;have a:∀p:Int->Bool,((kV c).2.2.1++(kV c).2.2.2.1).any p=(c.2.2.1++c.2.2.2.1).any p:=fun p=>JN List.perm_append_comm p;rw[a,a,a]
 have e:(if 1<(å c.2.2.2.1 c.2.2.1).length then(1:Int) else if 1<(å c.2.2.1 c.2.2.2.1).length then 1 else if (å c.2.2.2.1 c.2.2.1).length+(å c.2.2.1 c.2.2.2.1).length=0 then 1 else 0)=if 1<(å c.2.2.1 c.2.2.2.1).length then 1 else if 1<(å c.2.2.2.1 c.2.2.1).length then 1 else if (å c.2.2.1 c.2.2.2.1).length+(å c.2.2.2.1 c.2.2.1).length=0 then 1 else 0:=by
  (repeat' split)<;>first|rfl|omega
 rw[<-e]; rfl
def ğ.pilesE_ (h:ğ b b') (s:AS (Int×ß)) (c:Cmp):ir b' s c=ir b s c:=by
 unfold ir;have:(fun id=>(kT b' id c.2.1).isSome)=fun id=>(kT b id c.2.1).isSome:=funext fun id=>h.away id _;rw[this]
def ğ.ids (h:ğ b b'):b'.2.2.2.2.1.map (·.1)=b.2.2.2.2.1.map (·.1):=by
 refine eW (by simp[h.cl]) fun i a h2=>?_;simp only[cw] at a h2;rw[eF,eF]
 rcases h.cs i _ _ (br h2) (br a) with e|e<;>rw[e]<;>rfl
def Oj (l:AS Cmp) (i:Nat) (x:Int):(l.take i).any (fun y=>y.1==x)=((l.map (·.1)).take i).any (fun y=>y==x):=by
 rw[<-List.map_take,List.any_map]; rfl
def ğ.compareE_ (h:ğ b b') (s:AS (Int×ß)) (i:Nat) {c c':Cmp} (a:Qo c c'):ę b' s i c'=ę b s i c:=by
 have e:c'.1=c.1:=by rcases a with rfl|rfl<;>rfl
 have h2:rm c'=rm c:=by rcases a with rfl|rfl; exact rfl; exact Kh c
 have d:ir b s c'=ir b s c:=by rcases a with rfl|rfl; exact rfl; exact G3 b s c
 unfold ę;rw[h2,e,h.pilesE_,d,Oj,Oj,h.ids]
def F4 {α:Type} (p:α->α->Bool) (l:AS α):(∀i a,l[i]?=some a->(l.take i).any (fun x=>p x a)=false)↔l.Pairwise fun x a=>p x a=false:=by
 rw[b5];constructor
 ·intro h i j hi d g;have:=h j _ (br d);rw[cN] at this
  have f:l[i]∈l.take j:=by
   have:(l.take j)[i]'(by rw[bU]; omega)=l[i]:=dQ;rw[<-this]; exact dJ _
  simpa using this _ f
 ·intro h i a ha;obtain⟨hi,rfl⟩:=bB.1 ha;rw[cN];intro x e;obtain⟨j,d,rfl⟩:=bK.1 e;rw[bU] at d;rw[dQ];simpa using h j i (by omega) hi (by omega)
def rG (b:à) (s:AS (Int×ß)) (i:Nat) (l:uC):tM b s i l=0↔κ l.2.1 0 20000=true/\inP l.2.2 0 1048576=true/\ft s l.1 l.2.1.1=0/\(b.2.2.2.1.take i).any (fun x=>x.1==l.1&&(decide (x.2.1.1<=l.2.1.2)&&decide (l.2.1.1<=x.2.1.2)))=false/\b.2.2.1.any (fun u=>u.1==l.1&&inP u.2 l.2.1.1 l.2.1.2)=false:=by
 unfold tM;constructor
 ·intro h
  split at h
  ·omega
  split at h
  ·omega
  split at h
  ·rename_i a; simp[h] at a
  split at h
  ·omega
  split at h
  ·omega
  rename_i m k a3 j g;exact⟨by simpa using m,by simpa using k,by simpa using a3,by simpa using j,by simpa using g⟩
 ·rintro⟨f,h2,a,e,d⟩;simp[f,h2,a,e,d]
def ğ.loans (h:ğ b b') (s:AS (Int×ß)) (m:∀i l,b.2.2.2.1[i]?=some l->tM b s i l=0):∀i l,b'.2.2.2.1[i]?=some l->tM b' s i l=0:=by
 let p:uC->uC->Bool:=fun x l=>x.1==l.1&&(decide (x.2.1.1<=l.2.1.2)&&decide (l.2.1.1<=x.2.1.2))
 have r:∀l∈b.2.2.2.1,κ l.2.1 0 20000=true/\inP l.2.2 0 1048576=true/\ft s l.1 l.2.1.1=0/\b.2.2.1.any (fun u=>u.1==l.1&&inP u.2 l.2.1.1 l.2.1.2)=false:=fun l n=>by
  obtain⟨i,hi,rfl⟩:=bK.1 n;obtain⟨k,j,g,_,f⟩:=(rG b s i _).1 (m i _ (br hi));exact⟨k,j,g,f⟩
 have h2:b.2.2.2.1.Pairwise fun x a=>p x a=false:=(F4 p _).1 fun i a ha=>((rG b s i a).1 (m i a ha)).2.2.2.1
 have o:b'.2.2.2.1.Pairwise fun x a=>p x a=false:=(h.ls.pairwise_iff (R:=fun x a=>p x a=false) fun {x y} d=>by
  show p y x=false;have d:p x y=false:=d;simp only[p,fc,beq_eq_false_iff_ne,decide_eq_false_iff_not] at d ⊢;rcases d with e|e|e
  ·exact .inl fun q=>e q.symm
  ·exact .inr (.inr e)
  ·exact .inr (.inl e)).2 h2
 intro i l hi;obtain⟨k,j,g,f⟩:=r l (h.ls.mem_iff.1 (bI hi));exact(rG b' s i l).2 ⟨k,j,g,(F4 p _).2 o i l hi,by rw[JN h.us]; exact f⟩
def Bc {l m:AS Int} (h:∀x,x∈l↔x∈m):Be l=Be m:=by
 have d:(Be l).Perm (Be m):=(List.perm_ext_iff_of_nodup ((qZ l).imp fun {a b} h=>by omega) ((qZ m).imp fun {a b} h=>by omega)).2 fun x=>by rw[pd,pd]; exact h x
 exact d.eq_of_pairwise (le:=(·<·)) (fun a b _ _ e h2=>by omega) (qZ l) (qZ m)
def ğ.daysP_ (h:ğ b b') (g:ß):Ö b' g=Ö b g:=by
 have one:∀{b b':à},ğ b b'->∀x,x∈AQ b' g->x∈AQ b g:=by
  intro b b' h x d;unfold AQ at d ⊢;simp only[List.mem_append,List.mem_map,List.mem_filter] at d ⊢;rcases d with(d|⟨c',⟨k,a⟩,rfl⟩)|⟨n,⟨j,a⟩,rfl⟩
  ·exact .inl (.inl d)
  ·obtain⟨i,hi,rfl⟩:=bK.1 k
   have f:i<b.2.2.2.2.1.length:=by rw[<-h.cl]; exact hi
   refine .inl (.inr ⟨b.2.2.2.2.1[i],⟨dJ _,?_⟩,?_⟩)
   ·rcases h.cs i _ _ (br f) (br hi) with e|e
    ·rwa [e] at a
    ·rw[e] at a;simp only[kV] at a;rw[cg,beq_eq_false_iff_ne] at a ⊢;exact fun q=>a q.symm
   ·rcases h.cs i _ _ (br f) (br hi) with e|e<;>rw[e]<;>rfl
  ·exact .inr ⟨n,⟨h.ks.mem_iff.1 j,a⟩,rfl⟩
 unfold Ö;exact Bc fun x=>⟨one h x,one h.symm x⟩
def ğ.nodesP_ (h:ğ b b'):Î b'=Î b:=by
 unfold Î;rw[h.gs];congr 1;funext g;rw[h.daysP_]
def ğ.good (h:ğ b b') (hb:Ĉ b):Ĉ b':=by
 have a:=h.shelf_
 refine⟨by rw[h.film]; exact hb.film,by rw[h.gs]; exact hb.nG,by rw[h.us.length_eq]; exact hb.nU,by rw[h.ls.length_eq]; exact hb.nL,by rw[h.cl]; exact hb.nC,by rw[h.ks.length_eq]; exact hb.nK,by rw[h.gs]; exact hb.gauge,by rw[h.gs]; exact hb.ids,
  fun u d=>by rw[a]; exact hb.uses u (h.us.mem_iff.1 d),by rw[a]; exact h.loans _ hb.loans,fun i c' e=>?_,fun u d=>by rw[a]; exact hb.looks u (h.ks.mem_iff.1 d),by rw[h.nodesP_]; exact hb.nodes,by rw[h.nodesP_,h.cl]; exact hb.links⟩
 have hi:i<b.2.2.2.2.1.length:=by rw[<-h.cl]; exact(bB.1 e).1
 rw[a,h.compareE_ _ i (h.cs i _ _ (br hi) e)];exact hb.compares i _ (br hi)
def Cf (hb:Ĉ b) (c:Cmp):â (è b c)=if 40<b.2.2.2.2.1.length+1 then 2 else if ę (è b c) (ĉ b) b.2.2.2.2.1.length c≠0 then ę (è b c) (ĉ b) b.2.2.2.2.1.length c else if 59<(Î (è b c)).length then 2 else if 300<2*b.2.1.length+2*((Î (è b c)).length-b.2.1.length:Int)+2*(b.2.2.2.2.1.length+1:Nat) then 2 else 0:=by
 have p:κ b.1 0 1000000=true:=by have:=hb.film; simp[κ]; omega
 have o:υ b=0:=(rH b).2 ⟨hb.gauge,hb.ids⟩;have n1:=hb.nG; have x:=hb.nU; have w:=hb.nL; have v:=hb.nK;unfold â;show(if !κ b.1 0 1000000 then 1 else if 12<b.2.1.length then 2 else if 40<b.2.2.1.length then 2 else if 12<b.2.2.2.1.length then 2 else if 40<(b.2.2.2.2.1++[c]).length then 2 else if 10<b.2.2.2.2.2.length then 2 else if υ b != 0 then υ b else _)=_;rw[p,o];simp only[Bool.not_true,Bool.false_eq_true,if_false,bne_self_eq_false,List.length_append,List.length_cons,List.length_nil];rw[if_neg (by omega),if_neg (by omega),if_neg (by omega),show 0+1=1 from rfl]
 by_cases a:40<b.2.2.2.2.1.length+1
 ·rw[if_pos a,if_pos a]
 rw[if_neg a,if_neg a,if_neg (by omega)]
 have j:∀i d,b.2.2.2.2.1[i]?=some d->ę (è b c) (ĉ b) i d=0:=fun i d hd=>by
  have:=hb.compares i d hd;have hi:=(List.getElem?_eq_some_iff.1 hd).1;unfold ę at this ⊢;rw[show((è b c).2.2.2.2.1.take i)=b.2.2.2.2.1.take i by simp only[è]; rw[List.take_append_of_le_length (by omega)]];exact this
 have f:(ql (è b c) (ĉ (è b c))).find? (fun e=>e != 0)=if ę (è b c) (ĉ b) b.2.2.2.2.1.length c≠0 then some (ę (è b c) (ĉ b) b.2.2.2.2.1.length c) else none:=by
  have t:(b.2.2.1.map fun u=>JU (ĉ b) u.1 u.2).find? (fun e=>e != 0)=none:=ci.2 fun e g=>by
   obtain⟨u,k,rfl⟩:=cD.1 g;simp[hb.uses u k]
  have s:(b.2.2.2.1.mapIdx fun i l=>tM b (ĉ b) i l).find? (fun e=>e != 0)=none:=ci.2 fun e g=>by
   obtain⟨i,hi,rfl⟩:=eo.1 g;simp[hb.loans i _ (br hi)]
  have r:(b.2.2.2.2.1.mapIdx fun i d=>ę (è b c) (ĉ b) i d).find? (fun e=>e != 0)=none:=ci.2 fun e g=>by
   obtain⟨i,hi,rfl⟩:=eo.1 g;simp[j i _ (br hi)]
  have q:(b.2.2.2.2.2.map fun u=>JU (ĉ b) u.1 u.2).find? (fun e=>e != 0)=none:=ci.2 fun e g=>by
   obtain⟨u,k,rfl⟩:=cD.1 g;simp[hb.looks u k]
  show((b.2.2.1.map fun u=>JU (ĉ b) u.1 u.2)++((b.2.2.2.1.mapIdx fun i l=>tM b (ĉ b) i l)++(((b.2.2.2.2.1++[c]).mapIdx fun i d=>ę (è b c) (ĉ b) i d)++b.2.2.2.2.2.map fun u=>JU (ĉ b) u.1 u.2))).find? (fun e=>e != 0)=_;rw[dP,t,dP,s,dP,q,List.mapIdx_append,dP,r];simp only[List.mapIdx_cons,List.mapIdx_nil,Option.none_or,Option.or_none,bX]
  by_cases h0:ę (è b c) (ĉ b) b.2.2.2.2.1.length c=0
  ·simp[h0]
  ·simp[h0]
 rw[f]
 by_cases h0:ę (è b c) (ĉ b) b.2.2.2.2.1.length c=0
 ·have m:¬ę (è b c) (ĉ b) b.2.2.2.2.1.length c≠0:=fun h=>h h0;rw[if_neg m,if_neg m]
  have n:(è b c).2.2.2.2.1.length=b.2.2.2.2.1.length+1:=by simp[è]
  dsimp only;rw[n]; rfl
 ·rw[if_pos h0,if_pos h0]
def ğ.check_more_ (h:ğ b b') (hb:Ĉ b) (c:Cmp):â (è b' c)=â (è b c):=by
 have a:=h.more_ c;rw[Cf hb,Cf (h.good hb),h.cl,h.gs,a.nodesP_,h.shelf_,a.compareE_ _ _ (.inl rfl)]
end
section
variable {b b':à}
def Dc (id f t:Int) {l m:AS uC} (h:l.Perm m):û id f t l=û id f t m:=by
 induction h with
 |nil=>rfl
 |cons x _ a=>simp only[û,a]
 |swap x y l=>simp only[û]; omega
 |trans _ _ d h2=>exact d.trans h2
def ğ.loss (h:ğ b b') (g:ß) (f t:Int):ű b' g f t=ű b g f t:=by
 unfold ű;rw[Dc _ _ _ h.ls,Bc (m:=Ŋ b g.1 f t) fun x=>?_];unfold Ŋ;simp only[List.mem_map,List.mem_filter];exact⟨fun⟨u,⟨d,h2⟩,a⟩=>⟨u,⟨h.us.mem_iff.1 d,h2⟩,a⟩,fun⟨u,⟨d,h2⟩,a⟩=>⟨u,⟨h.us.mem_iff.2 d,h2⟩,a⟩⟩
def LM (n d:Int):iq (-n) d=(-(iq n d).1,(iq n d).2):=by
 unfold iq;rw[Int.natAbs_neg];congr 1;exact Int.neg_ediv_of_dvd (Int.ofNat_dvd_left.2 (Nat.gcd_dvd_left _ _))
def Q5 (x y:Int×Int):OC y x=(-(OC x y).1,(OC x y).2):=by
 unfold OC;rw[show y.1*x.2-x.1*y.2 = -(x.1*y.2-y.1*x.2) by omega,LM,Int.mul_comm y.2 x.2]
def IG (k:Int×Int) (n:Int):od (-k.1,k.2) n=(-(od k n).1,(od k n).2):=by
 unfold od;rw[Int.neg_mul,LM]
def Pe {k:Int×Int} (d:0<k.2) {a:Int×Int} (f:a.1<=a.2):su (-k.1,k.2) a=((-(su k a).2.1,(su k a).2.2),(-(su k a).1.1,(su k a).1.2)):=by
 rw[Bt d f,Bt (k:=(-k.1,k.2)) d f];dsimp only;rw[IG,IG];rcases Int.lt_trichotomy k.1 0 with h|h|h
 ·rw[if_pos h,if_neg (by omega)]
 ·have e:∀n,od k n=od k 0:=fun n=>by unfold od; rw[h]; simp
  rw[if_neg (by omega),if_neg (by omega),e a.1,e a.2]
 ·rw[if_neg (by omega:¬k.1<0),if_pos (by omega : -k.1<0)]
def Hy (hb:Ĉ b) {c:Cmp} (d:c∈b.2.2.2.2.1):Ā b (kV c)=((-(Ā b c).2.1,(Ā b c).2.2),(-(Ā b c).1.1,(Ā b c).1.2)):=by
 have a:=hb.rates d;have e:=hb.nums d;simp only[rm,Bool.and_eq_true,κ,decide_eq_true_eq] at e;have f:=(xH a.1 a.2).pos;unfold Ā rateK;show su (OC (pT (ĉ b) (å c.2.2.2.1 c.2.2.1)) (pT (ĉ b) (å c.2.2.1 c.2.2.2.1))) c.2.2.2.2.2.2=_;rw[Q5 (pT (ĉ b) (å c.2.2.1 c.2.2.2.1)) (pT (ĉ b) (å c.2.2.2.1 c.2.2.1))];exact Pe (by omega) (by omega)
def KN (b:à) (c:Cmp):ũ b (kV c)=(-(ũ b c).2,-(ũ b c).1):=by
 unfold ũ kV;dsimp only;exact Prod.ext (by dsimp only; omega) (by dsimp only; omega)
def Ej (hb:Ĉ b) {c:Cmp} (a:c∈b.2.2.2.2.1):ū b (kV c)=(-(ū b c).2,-(ū b c).1):=by
 unfold ū zL;rw[KN,Hy hb a];show(-c.2.2.2.2.1-c.2.2.2.2.2.1-_-_,-c.2.2.2.2.1+c.2.2.2.2.2.1-_-_)=_;dsimp only;rw[Int.neg_neg];exact Prod.ext (by dsimp only; omega) (by dsimp only; omega)
def ğ.says (h:ğ b b') (c:Cmp):ū b' c=ū b c:=by
 unfold ū ũ Ā;rw[h.film,h.shelf_]
def Nx (f:Int->Int->Int) (z:Int) (c:Cmp):uj f z (kV c) = -uj f z c:=by
 unfold uj kV;dsimp only; omega
def ğ.cmp_of (h:ğ b b') {c':Cmp} (d:c'∈b'.2.2.2.2.1):∃c∈b.2.2.2.2.1,Qo c c':=by
 obtain⟨i,hi,rfl⟩:=bK.1 d
 have a:i<b.2.2.2.2.1.length:=by rw[<-h.cl]; exact hi
 exact⟨_,dJ a,h.cs i _ _ (br a) (br hi)⟩
def ğ.hist (h:ğ b b') (hb:Ĉ b) {f:Int->Int->Int} {z:Int} (i:Qn b f z):Qn b' f z:=by
 refine⟨fun g k=>?_,fun c' a=>?_⟩
 ·have:=i.gauge g (by rw[<-h.gs]; exact k);exact⟨this.hi,this.lo,this.down,fun d e l h2=>by rw[h.loss]; exact this.loss d e l h2⟩
 ·obtain⟨c,j,e⟩:=h.cmp_of a;have:=i.cmp c j;rw[h.says];rcases e with rfl|rfl
  ·exact this
  ·rw[Ej hb j,Nx];dsimp only; omega
def ğ.links (h:ğ b b') (hb:Ĉ b) {l:Lk} (a:l∈ĕ b'):l∈ĕ b:=by
 rw[i6] at a ⊢
 have ha:atP (Î b')=atP (Î b):=by rw[h.nodesP_]
 rcases a with⟨i,g,j,a⟩|⟨c',d,a⟩
 ·refine .inl ⟨i,g,by rw[<-h.gs]; exact j,?_⟩;unfold ą at a ⊢;rw[ha,h.daysP_] at a;simp only[h.loss] at a;exact a
 ·obtain⟨c,f,e⟩:=h.cmp_of d;refine .inr ⟨c,f,?_⟩
  have ex:∀c,cx b' c=cx b c:=fun c=>by unfold cx; rw[ha]
  have k:∀c,cy b' c=cy b c:=fun c=>by unfold cy; rw[ha]
  rw[ex,k,h.says] at a;rcases e with rfl|rfl
  ·exact a
  ·rw[Ej hb f,show cx b (kV c)=cy b c from rfl,show cy b (kV c)=cx b c from rfl] at a;rcases a with a|a
   ·exact .inr a
   ·exact .inl (by rw[a]; dsimp only; rw[Int.neg_neg])
def ğ.fits (h:ğ b b') (hb:Ĉ b) (x:AS Int):KK b' x=KK b x:=by
 unfold KK Hz;rw[Bool.eq_iff_iff,List.all_eq_true,List.all_eq_true];exact⟨fun q l a=>q l (h.symm.links (h.good hb) a),fun q l a=>q l (h.links hb a)⟩
def ğ.lengths (h:ğ b b') (x:AS Int):kr b' x=kr b x:=by unfold kr; rw[h.nodesP_]
def ğ.Fits (h:ğ b b') (hb:Ĉ b) (x:AS Int):H4 b' x=H4 b x:=by
 unfold H4;rw[(ñ _).2 hb,(ñ _).2 (h.good hb),h.lengths,h.fits hb]
def ğ.asked (h:ğ b b') (hb:Ĉ b) (g:Int) (a:AS Int):oW b' g a=oW b g a:=by
 unfold oW;rw[(ñ _).2 hb,(ñ _).2 (h.good hb),h.shelf_]
def ğ.Loss (h:ğ b b') (hb:Ĉ b) (g f t:Int):K9 b' g f t=K9 b g f t:=by
 unfold K9;rw[h.asked hb,h.shelf_];simp only[h.loss]
def ğ.open_ (h:ğ b b') (hb:Ĉ b):Œ (ĕ b') ((Î b').length+1)=Œ (ĕ b) ((Î b).length+1):=by
 rw[dj,yc hb,yc (h.good hb)];exact⟨fun⟨f,z,q⟩=>⟨f,z,h.symm.hist (h.good hb) q⟩,fun⟨f,z,q⟩=>⟨f,z,h.hist hb q⟩⟩
def ğ.ends (h:ğ b b') (hb:Ĉ b) {c:Cmp} (i:Ĉ (è b c)) (j:Œ (ĕ b) ((Î b).length+1)=true):dLo b' c<=dLo b c/\dHi b c<=dHi b' c:=by
 have g:=h.good hb;have e:=(h.more_ c).good i;have d:=RU hb i j;obtain⟨f,z,l,h2⟩:=d_all hb i j (cF _) d;obtain⟨o,m,k,n⟩:=d_all hb i j d (cF _);have a:=d_max g e (h.hist hb l);have p:=d_max g e (h.hist hb k);omega
def ğ.Predict (h:ğ b b') (hb:Ĉ b) (c:Cmp):iT b' c=iT b c:=by
 have a:=h.good hb
 by_cases g:â (è b (Å c))=0
 ·have f:=(ñ _).1 g;have e:=(h.more_ (Å c)).good f;rw[zX hb f,zX a e,h.open_ hb]
  by_cases d:Œ (ĕ b) ((Î b).length+1)=true
  ·rw[if_pos d,if_pos d];have m:=h.ends hb f d;have l:=h.symm.ends a e (by rw[h.open_ hb]; exact d)
   have k:dLo b' (Å c)=dLo b (Å c):=by omega
   have j:dHi b' (Å c)=dHi b (Å c):=by omega
   rw[k,j];unfold Eh lowP PI ũ Ā;rw[h.film,h.shelf_]
  ·rw[if_neg d,if_neg d]
 ·have i:â (è b' (Å c))≠0:=by rw[h.check_more_ hb]; exact g
  unfold iT vO;rw[(ñ _).2 hb,(ñ _).2 a,h.check_more_ hb];simp only[ne_eq,not_true_eq_false,if_false,g,not_false_eq_true,if_true]
end
end Go.Proofs.ZzM
end

noncomputable section
namespace Go.Proofs.ZzM
open Go Go.Am
abbrev BL:Type:=AS UInt8
abbrev toL (s:ByteArray):BL:=s.data.toList
abbrev ofL (l:BL):ByteArray:=⟨l.toArray⟩
def GG {s t:ByteArray} (h:toL s=toL t):s=t:=by
 obtain⟨⟨s⟩⟩:=s; obtain⟨⟨t⟩⟩:=t; cases h; rfl
def uQ (s:ByteArray):ofL (toL s)=s:=GG rfl
def lu (a b:BL):ofL a++ofL b=ofL (a++b):=GG (by rw[toL,ByteArray.toList_data_append])
def ú (l:BL):(ofL l).size=l.length:=by rw[Lib.size_eq]
def Ct (s:ByteArray):s.size=(toL s).length:=Lib.size_eq s
def Mb {a b:BL} (h:ofL a=ofL b):a=b:=by have:=congrArg toL h; simpa using this
def me (l:BL) (i j:Nat):(ofL l).extract i j=ofL ((l.take j).drop i):=by
 apply GG;have:=Lib.extract_toList (ofL l) i j;rw[ByteArray.toList_eq] at this;rw[toL,this,List.drop_take]
def DK (a b:BL):((ofL a).toList==(ofL b).toList)=decide (a=b):=by
 rw[ByteArray.toList_eq,ByteArray.toList_eq]
 by_cases h:a=b
 ·simp[h]
 ·simp[h]
def pf (a b:BL):GP (ofL a) (ofL b)=decide (a=b):=rfl
open Lib in
def Ny {u k:Nat} (h:u<10 ^ (k+1)):(decDigits u).length<=k+1:=by
 induction k generalizing u with
 |zero=>rw[decDigits,dif_pos (by simpa using h)]; simp
 |succ k a =>
  rw[decDigits]
  split
  ·simp
  ·have:=a (u:=u / 10) (by rw[Nat.pow_succ] at h; omega);simp; omega
def zD (u:Nat):∀c∈Lib.decDigits u,48<=c.toNat/\c.toNat<=57:=by
 induction u using Nat.strongRecOn with
 |ind u ih =>
  rw[Lib.decDigits]
  have one:∀d:Nat,d<10->48<=(UInt8.ofNat (48+d)).toNat/\(UInt8.ofNat (48+d)).toNat<=57:=fun d hd=>by
   rw[UInt8.toNat_ofNat']; omega
  split
  ·intro c a; rw[bE.1 a]; exact one u (by omega)
  ·intro c a;rcases bw.1 a with a|a
   ·exact ih (u / 10) (by omega) c a
   ·rw[bE.1 a]; exact one (u % 10) (by omega)
def QK (u:Nat):Lib.decDigits u≠[]:=by
 rw[Lib.decDigits]; split<;>simp
def KE (n:Int):∀c∈Lib.itoa n,c.toNat=45\/48<=c.toNat/\c.toNat<=57:=by
 unfold Lib.itoa
 split
 ·intro c a;rcases bC.1 a with rfl|a
  ·exact .inl rfl
  ·exact .inr (zD _ c a)
 ·exact fun c a=>.inr (zD _ c a)
def PE {n:Int} {k:Nat} (h:n.natAbs<10 ^ (k+1)):(Lib.itoa n).length<=k+2:=by
 unfold Lib.itoa
 split
 ·have:=Ny h; simp; omega
 ·have:=Ny (u:=n.toNat) (k:=k) (by omega); omega
def BS {n:Int} (h:I64 n):(Lib.itoa n).length<=20:=PE (k:=18) (by obtain⟨a,h2⟩:=h; omega)
def Sn {n:Int} (h:I64 n):kQ n=some (ofL (Lib.itoa n)):=by
 unfold kQ M3 i64B;simp[h.1,h.2,ofL]
def OM (u:Nat) (a:u<18446744073709551616):∀(acc:Nat) (r:BL),acc=0->Lib.parseUint10 acc (Lib.decDigits u++r)=Lib.parseUint10 u r:=by
 induction u using Nat.strongRecOn with
 |ind u ih =>
  intro acc r ha;subst ha
  have one:∀d:Nat,d<10->(UInt8.ofNat (48+d)).toNat=48+d:=fun d hd=>by rw[UInt8.toNat_ofNat']; omega
  rw[Lib.decDigits]
  split
  ·rename_i h;simp only[cE,cV,Lib.parseUint10,one u h];rw[if_pos (by omega),if_neg (by omega),if_neg (by omega)];congr 1; omega
  ·rename_i h;rw[bM,ih (u / 10) (by omega) (by omega) 0 _ rfl];simp only[cE,cV,Lib.parseUint10,one (u % 10) (by omega)];rw[if_pos (by omega),if_neg (by omega),if_neg (by omega)];congr 1; omega
def Mq {u:Nat} (a:u<18446744073709551616):Lib.parseMag (Lib.decDigits u)=.ok u:=by
 unfold Lib.parseMag;rw[if_neg (QK u)];have:=OM u a 0 [] rfl;rw[List.append_nil] at this;rw[this]; rfl
def Oa {n:Int} (h:I64 n):Lib.atoiAll (Lib.itoa n)=.ok n:=by
 obtain⟨d,h2⟩:=h;unfold Lib.itoa
 split
 ·rename_i h0;rw[Lib.atoiAll_minus,Mq (by omega)];unfold Lib.signed;simp only;rw[if_neg (by omega)];congr 1; omega
 ·rename_i h0
  obtain⟨c,r,a⟩:∃c r,Lib.decDigits n.toNat=c::r:=by
   cases h:Lib.decDigits n.toNat with
   |nil=>exact absurd h (QK _)
   |cons c r=>exact⟨c,r,rfl⟩
  have hd:=zD n.toNat c (by rw[a]; simp);rw[a,Lib.atoiAll_plain c r (by omega) (by omega),<-a,Mq (by omega)];unfold Lib.signless;simp only;rw[if_neg (by omega)];congr 1; omega
def rQ (w:BL):Int:=match Lib.atoiAll w with|.ok v=>v|_=>0
def Ob (w:BL):I64 (rQ w):=by
 unfold rQ
 split
 ·exact Lib.atoiAll_bounds (by assumption)
 ·exact⟨by omega,by omega⟩
def Ch {n:Int} (h:I64 n):rQ (Lib.itoa n)=n:=by unfold rQ; rw[Oa h]
end Go.Proofs.ZzM
end

noncomputable section
namespace Go.Proofs.ZzM
open Go Go.Am
def GA (c:UInt8):BL->BL->AS BL
 |acc,[]=>[acc]
 |acc,b::l=>if b=c then acc::GA c [] l else GA c (acc++[b]) l
abbrev OG (c:UInt8) (l:BL):AS BL:=GA c [] l
def xA (c:UInt8):∀(w acc l:BL),(∀b∈w,b≠c)->GA c acc (w++l)=GA c (acc++w) l
 |[],acc,l,_=>by simp
 |b::w,acc,l,h=>by
  rw[cE,GA,if_neg (h b (by simp)),xA c w _ l fun x a=>h x (by simp[a])];simp
def Dz (c:UInt8):∀(l acc:BL),(GA c acc l).length<=l.length+1
 |[],_=>by simp[GA]
 |b::l,acc=>by
  rw[GA]
  split
  ·have:=Dz c l []; simp; omega
  ·have:=Dz c l (acc++[b]); simp; omega
def Dy (c:UInt8):∀(l acc:BL),∀w∈GA c acc l,w.length<=acc.length+l.length
 |[],acc,w,h=>by rw[bE.1 h]; simp
 |b::l,acc,w,h=>by
  rw[GA] at h
  split at h
  ·rcases bC.1 h with rfl|h
   ·simp
   ·have:=Dy c l [] w h; simp at this ⊢; omega
  ·have:=Dy c l _ w h; simp at this ⊢; omega
def Jr (c:UInt8):∀(l acc:BL),∃w ws,GA c acc l=w::ws
 |[],acc=>⟨_,_,rfl⟩
 |b::l,acc=>by
  rw[GA]
  split
  ·exact⟨_,_,rfl⟩
  ·exact Jr c l _
def spL (c:UInt8) (ws:AS BL):BL:=ws.flatMap fun w=>c::w
def HE (c:UInt8):∀(ws:AS BL) (w:BL),(∀b∈w,b≠c)->(∀v∈ws,∀b∈v,b≠c)->OG c (w++spL c ws)=w::ws
 |[],w,h,_=>by
  have:=xA c w [] [] h;rw[bW] at this;simp only[spL,List.flatMap_nil,bW];rw[OG,this]; rfl
 |v::ws,w,h,a=>by
  rw[OG,xA c w [] _ h]
  have:spL c (v::ws)=c::(v++spL c ws):=by simp[spL]
  rw[this,GA,if_pos rfl,cV];rw[show GA c [] (v++spL c ws)=_ from HE c ws v (a v (by simp)) fun x d=>a x (by simp[d])]
open Lib in
def FG (c:UInt8):∀l:BL,(index l [c] = -1/\∀b∈l,b≠c)\/∃w r,l=w++c::r/\(∀b∈w,b≠c)/\index l [c]=w.length
 |[]=>.inl ⟨rfl,by simp⟩
 |b::l=>by
  by_cases h:b=c
  ·subst h;refine .inr ⟨[],l,rfl,by simp,?_⟩;unfold index; rw[if_pos (by simp[List.isPrefixOf])]; rfl
  ·have d:List.isPrefixOf [c] (b::l)=false:=by simp[List.isPrefixOf,Ne.symm h]
   rcases FG c l with⟨f,h2⟩|⟨w,r,rfl,h2,e⟩
   ·refine .inl ⟨by unfold index; rw[d,f]; rfl,fun x a=>?_⟩;rcases List.mem_cons.1 a with rfl|a
    ·exact h
    ·exact h2 x a
   ·refine .inr ⟨b::w,r,rfl,fun x a=>?_,?_⟩
    ·rcases bC.1 a with rfl|a
     ·exact h
     ·exact h2 x a
    ·unfold index;rw[d,e]
     have:(((w.length:Nat):Int)==-1)=false:=by rw[beq_eq_false_iff_ne]; omega
     simp[this]
def A8 (c:UInt8):∀(k:Nat) (l:BL),l.count c=k->Lib.splitK [c] 0 k l=OG c l
 |0,l,h=>by
  have h0:∀b∈l,b≠c:=fun b hb e=>List.count_eq_zero.1 h (e▸hb);have:=HE c [] l h0 (by simp);rw[show spL c []=[] from rfl,bW] at this;rw[this]; rfl
 |k+1,l,h=>by
  rcases FG c l with⟨_,h2⟩|⟨w,r,rfl,h2,g⟩
  ·exact absurd (List.count_eq_zero.2 fun a=>h2 _ a rfl) (by omega)
  ·have d:w.count c=0:=List.count_eq_zero.2 fun a=>h2 _ a rfl
   have f:r.count c=k:=by rw[List.count_append,List.count_cons,d] at h; simp at h; omega
   rw[Lib.splitK,g,if_neg (by rw[beq_iff_eq]; omega),bN,dD,List.take_left,show w.length+[c].length=w.length+1 from rfl,OG,xA c w [] _ h2,GA,if_pos rfl,cV];congr 1;rw[show(w++c::r).drop (w.length+1)=r by simp,A8 c k r f]
def KT (l:BL) (c:UInt8):Lib.countB (ofL l) (ofL [c])=l.count c:=by
 have:Lib.countB (ofL l) (ofL [c])=Lib.count l [c]:=by
  first
   |exact Lib.countB_data _ _
   |rfl
   |(unfold Lib.countB; simp)
 rw[this,Lib.count_one]
def Qh (l:BL) (c:UInt8) (a:l.length<=1000000):jw (ofL l) (ofL [c])=some ((OG c l).map ofL):=by
 unfold jw Ea;rw[if_pos (by rw[ú,ú]; simp; omega),KT];congr 1;have h:=Lib.splitB_data (ofL [c]) 0 (l.count c) (ofL l);rw[show Lib.splitK (ofL [c]).data.toList 0 (l.count c) (ofL l).data.toList=OG c l from A8 c _ l rfl] at h;rw[<-h,List.map_map];exact(List.map_id' _).symm.trans (List.map_congr_left fun s _=>(uQ s).symm)
def Sh (l p:BL) (a:l.length<=1000000):Θ (ofL l) (ofL p)=some (ofL (Lib.trimSuffix l p)):=by
 unfold Θ Lq;rw[if_pos (by rw[ú]; omega)]
def Q0 (l p:BL):Lib.trimSuffix (l++p) p=l:=by
 unfold Lib.trimSuffix Lib.hasSuffix;rw[if_pos (by simp[List.isSuffixOf_iff_suffix])];simp
def If (l p:BL):(Lib.trimSuffix l p).length<=l.length:=by
 unfold Lib.trimSuffix; split<;>simp
def Sm (xs:AS BL) (c:UInt8) (a:xs.length<=1000000) (h2:(Lib.join xs [c]).length<=100000000):kP (xs.map ofL) (ofL [c])=some (ofL (Lib.join xs [c])):=by
 unfold kP MY
 have e:(xs.map ofL).map (·.data.toList)=xs:=by rw[List.map_map]; exact(cM fun x _=>rfl).trans (List.map_id _)
 rw[e,if_pos];rw[cw];simp only[bu,decide_eq_true_eq];exact⟨by omega,by show(Lib.join xs [c]).length<=_; omega⟩
def MZ (c:UInt8) (r:BL):∀w:BL,(∀b∈w,b≠c)->Lib.indexByte (w++c::r) c=w.length
 |[],_=>by rw[List.nil_append]; unfold Lib.indexByte; rw[if_pos (by simp)]; rfl
 |b::w,h=>by
  rw[List.cons_append];unfold Lib.indexByte;rw[if_neg (by simpa using h b (by simp)),MZ c r w fun x a=>h x (by simp[a]),if_neg (by rw[beq_iff_eq]; omega)];simp
def vh:∀(n:Nat) (s:ByteArray),(iz n s).length<=n/\∀y∈iz n s,y.size<=s.size
 |0,s=>⟨bt _,by simp[iz]⟩
 |n+1,s=>by
  obtain⟨l,rfl⟩:∃l,s=ofL l:=⟨_,(uQ s).symm⟩;rw[iz]
  split
  ·exact⟨b6 _,by simp⟩
  ·split
   ·rw[me,me];have d:=vh n (ofL ((l.take (ofL l).size).drop (Lib.indexByte (ofL l).data.toList 10+1).toNat))
    have h2:(ofL ((l.take (ofL l).size).drop (Lib.indexByte (ofL l).data.toList 10+1).toNat)).size<=(ofL l).size:=by rw[ú,ú]; simp
    refine⟨by have:=d.1; rw[bJ]; omega,fun y a=>?_⟩;rcases bC.1 a with rfl|a
    ·rw[ú,ú]; simp; omega
    ·exact bG (d.2 y a) h2
   ·exact⟨by simp,fun y a=>by rw[bE.1 a]; exact bt _⟩
def FB:∀(n:Nat) (ls:AS BL),(∀l∈ls,∀b∈l,b≠10)->(ls.flatMap fun l=>l++[10]).length<=n->iz n (ofL (ls.flatMap fun l=>l++[10]))=ls.map fun l=>ofL (l++[10])
 |n,[],_,_=>by
  cases n with
  |zero=>rfl
  |succ n=>rw[iz,if_pos (by rw[ú]; rfl)]; rfl
 |0,l::ls,_,a=>by simp at a
 |n+1,l::ls,h,a=>by
  have e:((l::ls).flatMap fun l=>l++[10])=l++10::ls.flatMap fun l=>l++[10]:=by simp
  rw[e] at a ⊢;rw[iz,if_neg (by rw[ú]; simp)]
  have hi:Lib.indexByte (ofL (l++10::ls.flatMap fun l=>l++[10])).data.toList 10=l.length:=by
   exact MZ 10 _ l (h l (by simp))
  rw[hi,if_pos (by omega),show((l.length:Int)+1).toNat=l.length+1 by omega,me,me,ú,cm]
  have g:((l++10::ls.flatMap fun l=>l++[10]).take (l.length+1)).drop 0=l++[10]:=by
   rw[List.drop_zero,show l++10::(ls.flatMap fun l=>l++[10])=(l++[10])++ls.flatMap fun l=>l++[10] by simp];rw[dF (by simp),cG (by simp)]
  have f:((l++10::ls.flatMap fun l=>l++[10]).take (l++10::ls.flatMap fun l=>l++[10]).length).drop (l.length+1)=ls.flatMap fun l=>l++[10]:=by
   rw[List.take_length,show l++10::(ls.flatMap fun l=>l++[10])=(l++[10])++ls.flatMap fun l=>l++[10] by simp];rw[List.drop_append_of_le_length (by simp),List.drop_of_length_le (by simp)]; rfl
  rw[g,f,FB n ls (fun x d=>h x (by simp[d])) (by simp at a ⊢; omega)]
end Go.Proofs.ZzM
end

noncomputable section
namespace Go.Proofs.ZzM
open Go Go.Am
section
variable {ρ:Type}
def Kw {α σ:Type} (l:AS α) (g:σ->α->σ) (I:Nat->σ->Prop) {K:σ->AN ρ} {f:Int×σ->(Int×σ->AN ρ)->AN ρ} {s0:σ} (h0:I 0 s0)
 (h:∀(i:Nat) (a:α) (s:σ),i<l.length->l[i]?=some a->I i s->I (i+1) (g s a)/\∀d,f ((i:Int),s) d=d ((i:Int)+1,g s a)) (k:∀s d,I l.length s->f ((l.length:Int),s) d=K s):Ù f (0,s0)=K (l.foldl g s0):=by
 refine fN (fun x=>∃(i:Nat) (s:σ),x=((i:Int),s)/\i<=l.length/\I i s/\(l.drop i).foldl g s=l.foldl g s0) (fun x=>l.length-x.1.toNat) ?_ ⟨0,s0,rfl,b6 _,h0,rfl⟩;rintro x ⟨i,s,rfl,hi,hI,j⟩
 by_cases e:i<l.length
 ·obtain⟨m,h2⟩:=h i l[i] s e (br e) hI;refine .inr ⟨((i:Int)+1,g s l[i]),⟨i+1,_,rfl,e,m,?_⟩,by simp; omega,h2⟩;rw[<-j,cI e,ej]
 ·obtain rfl:i=l.length:=by omega
  rw[eT,List.foldl_nil] at j;rw[<-j];exact .inl fun d=>k s d hI
def Ky {α σ:Type} (l:AS α) (g:σ->α->σ) (I:Nat->σ->Prop) {K:σ->AN ρ} {f:σ×Int->(σ×Int->AN ρ)->AN ρ} {s0:σ} (h0:I 0 s0)
 (h:∀(i:Nat) (a:α) (s:σ),i<l.length->l[i]?=some a->I i s->I (i+1) (g s a)/\∀d,f (s,(i:Int)) d=d (g s a,(i:Int)+1)) (k:∀s d,I l.length s->f (s,(l.length:Int)) d=K s):Ù f (s0,0)=K (l.foldl g s0):=by
 refine fN (fun x=>∃(i:Nat) (s:σ),x=(s,(i:Int))/\i<=l.length/\I i s/\(l.drop i).foldl g s=l.foldl g s0) (fun x=>l.length-x.2.toNat) ?_ ⟨0,s0,rfl,b6 _,h0,rfl⟩;rintro x ⟨i,s,rfl,hi,hI,j⟩
 by_cases e:i<l.length
 ·obtain⟨m,h2⟩:=h i l[i] s e (br e) hI;refine .inr ⟨(g s l[i],(i:Int)+1),⟨i+1,_,rfl,e,m,?_⟩,by simp; omega,h2⟩;rw[<-j,cI e,ej]
 ·obtain rfl:i=l.length:=by omega
  rw[eT,List.foldl_nil] at j;rw[<-j];exact .inl fun d=>k s d hI
def jr {α β:Type} (l:AS α) (g:α->β) {K:AS β->AN ρ} {f:Int×AS β->(Int×AS β->AN ρ)->AN ρ} {out:AS β} (k:out.length+l.length<=1000000)
 (h:∀(i:Nat) (a:α) (s:AS β),i<l.length->l[i]?=some a->s.length<1000000->∀d,f ((i:Int),s) d=d ((i:Int)+1,s++[g a])) (e:∀s d,f ((l.length:Int),s) d=K s):Ù f (0,out)=K (out++l.map g):=by
 have:=Kw l (fun s a=>s++[g a]) (fun i s=>s.length=out.length+i) (K:=K) (f:=f) (s0:=out) rfl (fun i a s hi ha m=>⟨by simp; omega,h i a s hi ha (by omega)⟩) (fun s d _=>e s d);rw[this];congr 1;clear this e h k
 induction l generalizing out with
 |nil=>simp
 |cons a l j=>rw[ej,j]; simp
end
abbrev iv (ns:AS Int):AS BL:=ns.map Lib.itoa
abbrev Df (w:BL) (ws:AS BL):BL:=w++spL 32 ws
def OV (c:UInt8) (w:BL) (ws:AS BL):spL c (w::ws)=c::w++spL c ws:=by simp[spL]
def Px {a:AS Int} (d:∀n∈a,I64 n):(spL 32 (iv a)).length<=21*a.length:=by
 induction a with
 |nil=>simp[spL]
 |cons n a f =>
  have h:=BS (d n (by simp));have h2:=f fun x g=>d x (by simp[g]);have e:spL 32 (iv (n::a))=32::Lib.itoa n++spL 32 (iv a):=OV _ _ _;rw[e];simp only[bz,bJ]; omega
def KJ (a:AS Int):∀w:BL,a.foldl (fun s n=>ofL (toL s++32::Lib.itoa n)) (ofL w)=ofL (Df w (iv a)):=by
 induction a with
 |nil=>intro w; simp[spL]
 |cons n a d =>
  intro w;rw[ej,d];simp[spL]
def oH {w:BL} {a:AS Int} (h:w.length<=1000) (l:a.length<=1000) (j:∀n∈a,I64 n):fR (ofL w) a=some (ofL (Df w (iv a))):=by
 unfold fR IR;rw[Ky a (fun s n=>ofL (toL s++32::Lib.itoa n)) (fun i s=>s.size<=1000+21*i) (K:=some) (by rw[ú]; exact h) (fun i n s hi ha d=>?_) (fun s g _=>?_),KJ]
 ·have f:=j n (List.mem_of_getElem? ha);have k:=BS f;refine⟨by rw[ú]; rw[Ct] at d; simp at d ⊢; omega,fun g=>?_⟩;unfold mG;rw[Ø hi,Í ha,Sn f,À,show ByteArray.mk #[32]=ofL [32] from rfl,Ó (by simp only[ú,List.length_append,List.length_cons,List.length_nil]; omega),Am.iff_true,lu,Ó (by simp only[ú,List.length_append,List.length_cons,List.length_nil]; omega),Am.iff_true,ë (by omega) (by omega)]
  have e:s++ofL ([32]++Lib.itoa n)=ofL (toL s++32::Lib.itoa n):=by rw[<-uQ s,lu]; rfl
  rw[e]
 ·unfold mG;rw[ï]
abbrev Nc (g:ß):AS Int:=[g.1,g.2.1,g.2.2.1,g.2.2.2.1.1,g.2.2.2.1.2,g.2.2.2.2.1.1,g.2.2.2.2.1.2,g.2.2.2.2.2]
abbrev Rq (l:uC):AS Int:=[l.1,l.2.1.1,l.2.1.2,l.2.2]
abbrev cmpN (c:Cmp):AS Int:=[c.1,c.2.1,c.2.2.2.2.1,c.2.2.2.2.2.1,c.2.2.2.2.2.2.1,c.2.2.2.2.2.2.2]
def KO (s:Int×Int):BL×AS BL:=([102,105,108,109],iv [s.1,s.2])
def zb (g:ß):BL×AS BL:=([103,97,117,103,101],iv (Nc g))
def QY (u:Int×Int):BL×AS BL:=([117,115,101],iv [u.1,u.2])
def Hr (l:uC):BL×AS BL:=([108,111,97,110],iv (Rq l))
def OH (c:Cmp):BL×AS BL:=([99,111,109,112,97,114,101],iv (cmpN c)++([97]::iv c.2.2.1++[98]::iv c.2.2.2.1))
def Ho (u:Int×Int):BL×AS BL:=([108,111,111,107],iv [u.1,u.2])
def fu (b:à):AS (BL×AS BL):=KO b.1::(b.2.1.map zb++(b.2.2.1.map QY++(b.2.2.2.1.map Hr++(b.2.2.2.2.1.map OH++b.2.2.2.2.2.map Ho))))
abbrev gq (p:BL×AS BL):BL:=Df p.1 p.2
def iB (b:à):BL:=(fu b).flatMap fun p=>gq p++[10]
structure kU (I64:Int->Prop) (b:à):Prop where
 film:I64 b.1.1/\I64 b.1.2
 gauges:∀g∈b.2.1,∀n∈Nc g,I64 n
 uses:∀u∈b.2.2.1,I64 u.1/\I64 u.2
 loans:∀l∈b.2.2.2.1,∀n∈Rq l,I64 n
 cmps:∀c∈b.2.2.2.2.1,(∀n∈cmpN c,I64 n)/\(∀n∈c.2.2.1,I64 n)/\(∀n∈c.2.2.2.1,I64 n)/\c.2.2.1.length<=6/\c.2.2.2.1.length<=6
 looks:∀u∈b.2.2.2.2.2,I64 u.1/\I64 u.2
 nG:b.2.1.length<=12
 nU:b.2.2.1.length<=40
 nL:b.2.2.2.1.length<=12
 nC:b.2.2.2.2.1.length<=40
 nK:b.2.2.2.2.2.length<=10
abbrev QS:à->Prop:=kU I64
def kU.mono {P Q:Int->Prop} (a:∀n,P n->Q n) {b:à} (h:kU P b):kU Q b :=
 ⟨⟨a _ h.film.1,a _ h.film.2⟩,fun g j n d=>a _ (h.gauges g j n d),fun u e=>⟨a _ (h.uses u e).1,a _ (h.uses u e).2⟩,fun l i n d=>a _ (h.loans l i n d),fun c f=>⟨fun n d=>a _ ((h.cmps c f).1 n d),fun n d=>a _ ((h.cmps c f).2.1 n d),fun n d=>a _ ((h.cmps c f).2.2.1 n d),(h.cmps c f).2.2.2⟩,fun u e=>⟨a _ (h.looks u e).1,a _ (h.looks u e).2⟩,h.nG,h.nU,h.nL,h.nC,h.nK⟩
def uF {u:Int×Int} (h:I64 u.1/\I64 u.2):∀n∈[u.1,u.2],I64 n:=by
 intro n a;simp only[bC,cR,or_false] at a;rcases a with rfl|rfl
 ·exact h.1
 ·exact h.2
def Js {c:Cmp}:gq (OH c)=(Df [99,111,109,112,97,114,101] (iv (cmpN c))++Df [32,97] (iv c.2.2.1))++Df [32,98] (iv c.2.2.2.1):=by
 simp[gq,OH,spL]
def KD (ps:AS BL) (p:BL):Lib.join (p::ps) [10]++[10]=(p::ps).flatMap fun l=>l++[10]:=by
 rw[Lib.join_cons]
 have:∀(ps:AS BL),Lib.joinTail [10] ps++[10]=[10]++ps.flatMap fun l=>l++[10]:=by
  intro ps
  induction ps with
  |nil=>simp[Lib.joinTail]
  |cons q ps a =>
   have e:Lib.joinTail [10] (q::ps)=10::q++Lib.joinTail [10] ps:=by simp[Lib.joinTail]
   rw[e,bM,a]; simp
 rw[bM,this]; simp
def Ų {w:BL} {a:AS Int} (d:∀n∈a,I64 n):(Df w (iv a)).length<=w.length+21*a.length:=by
 have:=Px d;rw[Df,bz]; omega
def kU.len {b:à} (h:QS b):∀p∈fu b,(gq p).length<=500:=by
 intro p d;unfold fu at d;simp only[List.mem_cons,List.mem_append,List.mem_map] at d;rcases d with rfl|⟨g,f,rfl⟩|⟨u,a,rfl⟩|⟨l,e,rfl⟩|⟨c,i,rfl⟩|⟨u,a,rfl⟩
 ·have:=Ų (w:=[102,105,108,109]) (uF h.film); simp[KO] at this ⊢; omega
 ·have:=Ų (w:=[103,97,117,103,101]) (h.gauges g f); simp[zb] at this ⊢; omega
 ·have:=Ų (w:=[117,115,101]) (uF (h.uses u a)); simp[QY] at this ⊢; omega
 ·have:=Ų (w:=[108,111,97,110]) (h.loans l e); simp[Hr] at this ⊢; omega
 ·obtain⟨k,h2,j,q,o⟩:=h.cmps c i;have n:=Ų (w:=[99,111,109,112,97,114,101]) k;have m:=Ų (w:=[32,97]) h2;have a3:=Ų (w:=[32,98]) j;rw[Js,bz,bz];simp only[bJ,bZ] at n m a3; omega
 ·have:=Ų (w:=[108,111,111,107]) (uF (h.looks u a)); simp[Ho] at this ⊢; omega
def kU.count {P:Int->Prop} {b:à} (h:kU P b):(fu b).length<=115:=by
 have f:=h.nG; have h2:=h.nU; have e:=h.nL; have d:=h.nC; have a:=h.nK;unfold fu;simp; omega
def O9 {b:à} (h:QS b) (v:đ b=some 0):Τ b=some (ofL (iB b),0):=by
 have y:=h.nG; have h2:=h.nU; have F:=h.nL; have E:=h.nC; have D:=h.nK;unfold Τ tJ;rw[v,À,á (by simp[ine]),show ByteArray.mk #[102,105,108,109]=ofL [102,105,108,109] from rfl,oH (by simp) (by simp) (uF h.film),À]
 rw[jr b.2.1 (fun g=>ofL (gq (zb g))) (by simp; omega) (fun i g s hi a j d=>by
  unfold kp;dsimp only
  rw[Ø hi,Í a,show ByteArray.mk #[103,97,117,103,101]=ofL [103,97,117,103,101] from rfl,oH (by simp) (by simp) (h.gauges g (List.mem_of_getElem? a)),À,Ó (by simp; omega),Am.iff_true,Ô hi (by omega)]; rfl) (fun s d=>by unfold kp; rw[ï])]
 dsimp only
 rw[jr b.2.2.1 (fun u=>ofL (gq (QY u))) (by simp; omega) (fun i g s hi a j d=>by
  unfold km;dsimp only
  rw[Ø hi,Í a,show ByteArray.mk #[117,115,101]=ofL [117,115,101] from rfl,oH (by simp) (by simp) (uF (h.uses g (List.mem_of_getElem? a))),À,Ó (by simp; omega),Am.iff_true,Ô hi (by omega)]; rfl) (fun s d=>by unfold km; rw[ï])]
 dsimp only
 rw[jr b.2.2.2.1 (fun u=>ofL (gq (Hr u))) (by simp; omega) (fun i g s hi a j d=>by
  unfold kj;dsimp only
  rw[Ø hi,Í a,show ByteArray.mk #[108,111,97,110]=ofL [108,111,97,110] from rfl,oH (by simp) (by simp) (h.loans g (List.mem_of_getElem? a)),À,Ó (by simp; omega),Am.iff_true,Ô hi (by omega)]; rfl) (fun s d=>by unfold kj; rw[ï])]
 dsimp only
 rw[jr b.2.2.2.2.1 (fun u=>ofL (gq (OH u))) (by simp; omega) (fun i c s hi a j d=>by
  obtain⟨n,m,l,C,B⟩:=h.cmps c (List.mem_of_getElem? a);have A:=Ų (w:=[99,111,109,112,97,114,101]) n;have z:=Ų (w:=[32,97]) m;have a3:=Ų (w:=[32,98]) l;simp only[List.length_cons,List.length_nil] at A z a3;unfold ki;dsimp only
  rw[Ø hi,Í a,show ByteArray.mk #[99,111,109,112,97,114,101]=ofL [99,111,109,112,97,114,101] from rfl,oH (by simp) (by simp) n,À,show ByteArray.mk #[32,97]=ofL [32,97] from rfl,oH (by simp) (by omega) m,À,ú,ú,Ó (by omega),Am.iff_true,
   show ByteArray.mk #[32,98]=ofL [32,98] from rfl,oH (by simp) (by omega) l,À,lu,ú,ú,Ó (by rw[List.length_append]; omega),Am.iff_true,lu,Ó (by simp; omega),Am.iff_true,Ô hi (by omega),Js]) (fun s d=>by unfold ki; rw[ï])]
 dsimp only
 rw[jr b.2.2.2.2.2 (fun u=>ofL (gq (Ho u))) (by simp; omega) (fun i g s hi a j d=>by
  unfold kg;dsimp only
  rw[Ø hi,Í a,show ByteArray.mk #[108,111,111,107]=ofL [108,111,111,107] from rfl,oH (by simp) (by simp) (uF (h.looks g (List.mem_of_getElem? a))),À,Ó (by simp; omega),Am.iff_true,Ô hi (by omega)]; rfl) (fun s d=>by unfold kg; rw[ï])]
 dsimp only
 have e:[ofL (Df [102,105,108,109] (iv [b.1.1,b.1.2]))]++b.2.1.map (fun g=>ofL (gq (zb g)))++b.2.2.1.map (fun u=>ofL (gq (QY u)))++b.2.2.2.1.map (fun u=>ofL (gq (Hr u)))++b.2.2.2.2.1.map (fun u=>ofL (gq (OH u)))++b.2.2.2.2.2.map (fun u=>ofL (gq (Ho u)))=((fu b).map gq).map ofL:=by
  unfold fu;simp only[List.map_cons,List.map_append,List.map_map,List.append_assoc];rfl
 have q:Lib.join ((fu b).map gq) [10]++[10]=iB b:=by
  have:=KD ((fu b).tail.map gq) (gq (KO b.1));rw[show gq (KO b.1)::(fu b).tail.map gq=(fu b).map gq from rfl] at this;rw[this];unfold iB;rw[List.flatMap_map]
 have o:(iB b).length<=115*501:=by
  unfold iB;refine Nat.le_trans ?_ (Nat.mul_le_mul_right 501 h.count);have k:=h.len;generalize fu b=L at k
  induction L with
  |nil=>simp
  |cons p L r =>
   have y:=k p (by simp);have h2:=r fun x t=>k x (by simp[t]);rw[cn,bz,bz,bJ];simp only[bJ,bZ] at *;omega
 have f:=congrArg List.length q;rw[bz] at f;simp only[bJ,bZ] at f;rw[e,show ByteArray.mk #[10]=ofL [10] from rfl,Sm _ _ (by have:=h.count; simp; omega) (by omega),À,ú,ú,Ó (by simp only[bJ,bZ]; omega),Am.iff_true,lu,q]
def Mn {ws:AS BL} {i:Nat} {a:ByteArray} (h:(ws.map ofL)[i]?=some a):∃w,ws[i]?=some w/\a=ofL w:=by
 rw[dE] at h
 cases d:ws[i]? with
 |none=>rw[d] at h; cases h
 |some w=>rw[d] at h; cases h; exact⟨w,rfl,rfl⟩
def uR (ws:AS BL) (h:ws.length<=1000000) (g:∀w∈ws,w.length<=1000000):Ħ (ws.map ofL)=some (ws.map rQ):=by
 unfold Ħ rz;rw[jr (ws.map ofL) (fun s=>rQ (toL s)) (out:=[]) (K:=some) (by simpa using h) (fun i a s hi ha j e=>?_) (fun s e=>by unfold gG; rw[ï])]
 ·rw[cV,List.map_map]; rfl
 ·obtain⟨w,d,rfl⟩:=Mn ha;have f:=g w (List.mem_of_getElem? d);rw[List.length_map] at hi;unfold gG;dsimp only;rw[Ø (by simpa using hi),Í ha];unfold Oc;rw[show decide ((ofL w).size<=281474976710656)=true by rw[ú]; exact decide_eq_true (by omega)];simp only[À];unfold rQ
  cases Lib.atoiAll w with
  |ok v=>simp only[õ]; rw[Ó (by simp; omega),Am.iff_true,ë (by omega) (by omega)]
  |range=>simp only[mS]; rw[Ó (by simp; omega),Am.iff_true,ë (by omega) (by omega)]
  | _ => simp only [mS]; rw [Ó (by simp; omega), Am.iff_true, ë (by omega) (by omega)]
def FH {α ρ:Type} (a:α) (l:AS α) (f:α->AN ρ):Ę (a::l) 0 f=f a:=rfl
def qk (ws:AS BL):AS Int×AS Int :=
 match ws with
 |[]=>([],[])
 |w::_=>if w=[97] then match ws.findIdx? (fun v=>decide (v=[98])) with
  |some j=>(((ws.drop 1).take (j-1)).map rQ,(ws.drop (j+1)).map rQ)
  |none=>([],[]) else([],[])
def Pb (ws:AS BL) (t:ws.length<=1000000) (z:∀w∈ws,w.length<=1000000):ue (ws.map ofL)=some (qk ws):=by
 unfold ue Fh qk
 cases ws with
 |nil=>rw[ø (by simp[ieq,Þ])]
 |cons w r =>
 dsimp only;rw[á (by simp[ieq,Þ]; omega)];rw[show((w::r).map ofL)=ofL w::r.map ofL from rfl,FH,show ByteArray.mk #[97]=ofL [97] from rfl,DK]
 by_cases h:w=[97]
 case neg=>rw[if_neg h,ø (by simp[h])]
 rw[if_pos h,á (by simp[h])];have l:=fO (ρ:=AS Int×AS Int) (ofL w::r.map ofL) (fun s=>decide (toL s=[98])) (fun j=>some (((((w::r).drop 1).take (j.toNat-1)).map rQ,((w::r).drop (j.toNat+1)).map rQ))) (some ([],[])) (f:=fun u d=>gN (ofL w::r.map ofL) (ofL w::r.map ofL) (Û (ofL w::r.map ofL)) u (fun k=>d k) (fun o=>some (o.1,o.2)) (fun _=>some ([],[]))) (fun i a hi ha y=>?_) (fun y=>?_)
 ·rw[l]
  have e:(ofL w::r.map ofL).findIdx? (fun s=>decide (toL s=[98]))=(w::r).findIdx? (fun v=>decide (v=[98])):=by
   rw[show ofL w::r.map ofL=(w::r).map ofL from rfl,List.findIdx?_map]; rfl
  rw[e]
  cases(w::r).findIdx? (fun v=>decide (v=[98]))<;>simp
 ·obtain⟨v,p,rfl⟩:=Mn (ws:=w::r) ha;unfold gN;dsimp only
  have n:(ofL w::r.map ofL).length=(w::r).length:=by simp
  rw[Ø hi,Í ha,show ByteArray.mk #[98]=ofL [98] from rfl,DK,Ė]
  by_cases hb:v=[98]
  ·have B:i≠0:=fun e=>by subst e; simp only[cQ,Option.some.injEq] at p; rw[<-p,h] at hb; cases hb
   rw[n] at hi;have q:∀(m:AS BL),m ⊆ w::r->∀x∈m,x.length<=1000000:=fun m A x g=>z x (A g)
   rw[if_pos (by simp[hb]),if_pos (by simp[hb]),show(ile (1:Int) (i:Int)&&ile (i:Int) (Č (ofL w::r.map ofL)))=true by simp[ile,Č] at hi ⊢; omega,Am.iff_true,show((i:Int)-1).toNat=i-1 by omega,
    show(ofL w::r.map ofL).drop 1=((w::r).drop 1).map ofL by simp,<-List.map_take,uR _ (by simp at t hi ⊢; omega) (q _ fun x g=>List.mem_of_mem_drop (eG g)),À,ë (by omega) (by omega),show(ile (0:Int) ((i:Int)+1)&&ile ((i:Int)+1) (Č (ofL w::r.map ofL)))=true by simp[ile,Č] at hi ⊢; omega,Am.iff_true,show((i:Int)+1).toNat=i+1 by omega,
    show ofL w::r.map ofL=(w::r).map ofL from rfl,<-List.map_drop,uR _ (by simp at t hi ⊢; omega) (q _ fun x g=>List.mem_of_mem_drop g),À,bN]
  ·rw[if_neg (by simp[hb]),if_neg (by simp[hb]),ë (by omega) (by omega)]
 ·unfold gN;rw[ï]
def mZ:à:=((0,0),[],[],[],[],[])
def readW (n:Nat->Int) (ps:AS Int×AS Int) (b:à) (w:BL):à :=
 if w=[102,105,108,109] then((n 0,n 1),b.2)
 else if w=[103,97,117,103,101] then(b.1,b.2.1++[(n 0,n 1,n 2,(n 3,n 4),(n 5,n 6),n 7)],b.2.2)
 else if w=[117,115,101] then(b.1,b.2.1,b.2.2.1++[(n 0,n 1)],b.2.2.2)
 else if w=[108,111,97,110] then(b.1,b.2.1,b.2.2.1,b.2.2.2.1++[(n 0,(n 1,n 2),n 3)],b.2.2.2.2)
 else if w=[99,111,109,112,97,114,101] then(b.1,b.2.1,b.2.2.1,b.2.2.2.1,b.2.2.2.2.1++[(n 0,n 1,ps.1,ps.2,n 2,n 3,n 4,n 5)],b.2.2.2.2.2)
 else if w=[108,111,111,107] then(b.1,b.2.1,b.2.2.1,b.2.2.2.1,b.2.2.2.2.1,b.2.2.2.2.2++[(n 0,n 1)])
 else b
def Pm (w:BL):AN Nat :=
 if w=[102,105,108,109] then some 2 else if w=[103,97,117,103,101] then some 8 else if w=[117,115,101] then some 2
 else if w=[108,111,97,110] then some 4 else if w=[99,111,109,112,97,114,101] then some 6 else if w=[108,111,111,107] then some 2 else none
def nC (r:AS BL) (i:Nat):Int:=rQ (r.getD i [])
def ny (b:à) (l:BL):AN à :=
 match OG 32 (Lib.trimSuffix l [10]) with
 |[]=>none
 |w::r=>match Pm w with
  |none=>none
  |some k=>if r.length<k then none else some (readW (nC r) (qk (r.drop 6)) b w)
section
variable {ρ:Type}
def J9 (w:BL) (r:AS BL) {c:Int} {n:Nat} (g:c=n) (i:r.length<=100000) (d:∀v∈r,v.length<=100000) (A:AN ρ) (K:AS Int->AN ρ) :
 (ì (ile (1:Int) (Č ((w::r).map ofL))) (ifb (ilt (Û (List.drop 1 ((w::r).map ofL))) c) A (ì ((ile (0:Int) c)&&(ile c (Č (List.drop 1 ((w::r).map ofL))))) (Â (Ħ (List.take (Int.toNat c) (List.drop 1 ((w::r).map ofL)))) fun a=>ì ((ile (0:Int) c)&&(ile c (Č (List.drop 1 ((w::r).map ofL))))) (K a)))))=if r.length<n then A else K ((r.take n).map rQ):=by
 subst g;rw[show ile (1:Int) (Č ((w::r).map ofL))=true by simp[ile,Č]; omega,Am.iff_true,show List.drop 1 ((w::r).map ofL)=r.map ofL from rfl,Ė]
 by_cases h:r.length<n
 ·rw[if_pos (by simpa[ilt,Þ] using h),if_pos h]
 ·have e:(ile (0:Int) (n:Int)&&ile (n:Int) (Č (r.map ofL)))=true:=by simp[ile,Č]; omega
  rw[if_neg (by simpa[ilt,Þ] using h),if_neg h,e,Am.iff_true,bN,<-List.map_take,uR _ (by simp; omega) (fun v f=>by have:=d v (eG f); omega),À,Am.iff_true]
def iK {r:AS BL} {n:Nat} {c:Int} (i:Nat) (a:c=i) (hi:i<n) (d:n<=r.length) (f:Int->AN ρ):Ę ((r.take n).map rQ) c f=f (nC r i):=by
 subst a;refine Í ?_ f;rw[dE,List.getElem?_take_of_lt hi,br (by omega)];simp[nC,show i<r.length by omega]
end
abbrev StC:Type:=Int×Int×AS ß×AS (Int×Int)×AS uC×AS Cmp×AS (Int×Int)×Int×Int×Int×AS ß×AS (Int×Int)×AS uC×AS Cmp×AS (Int×Int)
abbrev EndC:Type:=Int×Int×AS ß×AS (Int×Int)×AS uC×AS Cmp×AS (Int×Int)×Int
def stC (b:à):StC:=(0,0,[],[],[],[],[],0,b.1.1,b.1.2,b.2.1,b.2.2.1,b.2.2.2.1,b.2.2.2.2.1,b.2.2.2.2.2)
def endC:EndC:=(0,0,[],[],[],[],[],7)
structure Lens (b:à) (n:Nat):Prop where
 g:b.2.1.length<=n
 u:b.2.2.1.length<=n
 l:b.2.2.2.1.length<=n
 c:b.2.2.2.2.1.length<=n
 k:b.2.2.2.2.2.length<=n
def Jq {l:BL} (e:l.length<=100000):∃w r,OG 32 l=w::r/\r.length<=100000/\(∀v∈r,v.length<=100000):=by
 obtain⟨w,r,h⟩:=Jr 32 l [];have a:=Dz 32 l [];rw[h] at a;refine⟨w,r,h,by simp at a; omega,fun v d=>?_⟩;have:=Dy 32 l [] v (by rw[h]; exact dR _ d);simp at this; omega
def st_ok {b:à} {l:BL} (B:l.length<=100000) (hb:Lens b 1000000):ĭ 2 8 2 4 6 2 (stC b) (ofL l)=some (match ny b l with|some b'=>Sum.inl (stC b')|none=>Sum.inr endC):=by
 obtain⟨F,h2,E,D,C⟩:=hb;unfold ĭ gU ny;rw[show ByteArray.mk #[10]=ofL [10] from rfl,Sh l [10] (by omega),À];have m:=If l [10];generalize Lib.trimSuffix l [10]=t at m;rw[show ByteArray.mk #[32]=ofL [32] from rfl,Qh t 32 (by omega),À];obtain⟨w,r,p,A,o⟩:=Jq (l:=t) (by omega);rw[p];dsimp only;rw[show List.map ofL (w::r)=ofL w::r.map ofL from rfl,FH];have z:=pf w [102,105,108,109];have y:=pf w [103,97,117,103,101];have x:=pf w [117,115,101];have u:=pf w [108,111,97,110];have s:=pf w [99,111,109,112,97,114,101];have q:=pf w [108,111,111,107]
 rw[show ByteArray.mk #[102,105,108,109]=ofL [102,105,108,109] from rfl,show ByteArray.mk #[103,97,117,103,101]=ofL [103,97,117,103,101] from rfl,show ByteArray.mk #[117,115,101]=ofL [117,115,101] from rfl,show ByteArray.mk #[108,111,97,110]=ofL [108,111,97,110] from rfl,show ByteArray.mk #[99,111,109,112,97,114,101]=ofL [99,111,109,112,97,114,101] from rfl,show ByteArray.mk #[108,111,111,107]=ofL [108,111,111,107] from rfl,
  z,y,x,u,s,q]
 have d:∀v∈r,v.length<=100000:=fun v k=>by have:=o v k; omega
 unfold Pm readW
 by_cases i:w=[102,105,108,109]
 ·rw[ø (decide_eq_true i),if_pos i,if_pos i];refine(J9 w r (c:=2) (n:=2) rfl (by omega) d _ _).trans ?_;dsimp only
  by_cases a:r.length<2
  ·rw[if_pos a,if_pos a]; rfl
  ·rw[if_neg a,if_neg a,iK 0 (c:=0) rfl (by omega) (by omega),iK 1 (c:=1) rfl (by omega) (by omega)]; rfl
 rw[á (decide_eq_false i),if_neg i,if_neg i]
 by_cases h:w=[103,97,117,103,101]
 ·rw[ø (decide_eq_true h),if_pos h,if_pos h];refine(J9 w r (c:=8) (n:=8) rfl (by omega) d _ _).trans ?_;dsimp only
  by_cases a:r.length<8
  ·rw[if_pos a,if_pos a]; rfl
  ·rw[if_neg a,if_neg a,iK 0 (c:=0) rfl (by omega) (by omega),iK 1 (c:=1) rfl (by omega) (by omega),iK 2 (c:=2) rfl (by omega) (by omega),iK 3 (c:=3) rfl (by omega) (by omega),iK 4 (c:=4) rfl (by omega) (by omega),iK 5 (c:=5) rfl (by omega) (by omega),iK 6 (c:=6) rfl (by omega) (by omega),iK 7 (c:=7) rfl (by omega) (by omega),Ó (by show b.2.1.length+1<=_; omega),Am.iff_true]; rfl
 rw[á (decide_eq_false h),if_neg h,if_neg h]
 by_cases g:w=[117,115,101]
 ·rw[ø (decide_eq_true g),if_pos g,if_pos g];refine(J9 w r (c:=2) (n:=2) rfl (by omega) d _ _).trans ?_;dsimp only
  by_cases a:r.length<2
  ·rw[if_pos a,if_pos a]; rfl
  ·rw[if_neg a,if_neg a,iK 0 (c:=0) rfl (by omega) (by omega),iK 1 (c:=1) rfl (by omega) (by omega),Ó (by show b.2.2.1.length+1<=_; omega),Am.iff_true]; rfl
 rw[á (decide_eq_false g),if_neg g,if_neg g]
 by_cases f:w=[108,111,97,110]
 ·rw[ø (decide_eq_true f),if_pos f,if_pos f];refine(J9 w r (c:=4) (n:=4) rfl (by omega) d _ _).trans ?_;dsimp only
  by_cases a:r.length<4
  ·rw[if_pos a,if_pos a]; rfl
  ·rw[if_neg a,if_neg a,iK 0 (c:=0) rfl (by omega) (by omega),iK 1 (c:=1) rfl (by omega) (by omega),iK 2 (c:=2) rfl (by omega) (by omega),iK 3 (c:=3) rfl (by omega) (by omega),Ó (by show b.2.2.2.1.length+1<=_; omega),Am.iff_true]; rfl
 rw[á (decide_eq_false f),if_neg f,if_neg f]
 by_cases e:w=[99,111,109,112,97,114,101]
 ·rw[ø (decide_eq_true e),if_pos e,if_pos e];refine(J9 w r (c:=6) (n:=6) rfl (by omega) d _ _).trans ?_;dsimp only
  by_cases a:r.length<6
  ·rw[if_pos a,if_pos a]; rfl
  ·rw[if_neg a,if_neg a,iK 0 (c:=0) rfl (by omega) (by omega),iK 1 (c:=1) rfl (by omega) (by omega),iK 2 (c:=2) rfl (by omega) (by omega),iK 3 (c:=3) rfl (by omega) (by omega),iK 4 (c:=4) rfl (by omega) (by omega),iK 5 (c:=5) rfl (by omega) (by omega)];rw[show List.drop (Int.toNat 6) (List.drop 1 (ofL w::r.map ofL))=(r.drop 6).map ofL by rw[List.map_drop]; rfl,Pb _ (by simp; omega) (fun v k=>by have:=o v (List.mem_of_mem_drop k); omega),À,Ó (by show b.2.2.2.2.1.length+1<=_; omega),Am.iff_true]; rfl
 rw[á (decide_eq_false e),if_neg e,if_neg e]
 by_cases j:w=[108,111,111,107]
 ·rw[ø (decide_eq_true j),if_pos j,if_pos j];refine(J9 w r (c:=2) (n:=2) rfl (by omega) d _ _).trans ?_;dsimp only
  by_cases a:r.length<2
  ·rw[if_pos a,if_pos a]; rfl
  ·rw[if_neg a,if_neg a,iK 0 (c:=0) rfl (by omega) (by omega),iK 1 (c:=1) rfl (by omega) (by omega),Ó (by show b.2.2.2.2.2.length+1<=_; omega),Am.iff_true]; rfl
 rw[á (decide_eq_false j),if_neg j];rfl
def LN {n:Nat->Int} {ps:AS Int×AS Int} {b:à} {w:BL} {k:Nat} (h:Lens b k):Lens (readW n ps b w) (k+1):=by
 obtain⟨f,h2,e,d,a⟩:=h;unfold readW
 (repeat' split)<;>constructor<;>(try simp only[bz,bJ,bZ])<;>omega
def LO {b b':à} {l:BL} {k:Nat} (h:Lens b k) (e:ny b l=some b'):Lens b' (k+1):=by
 unfold ny at e
 (repeat' split at e)<;>first|(cases e; done)|(cases e; exact LN h)
def LD {ρ:Type} {d:StC->AN ρ} {a:EndC->AN ρ}:∀(ls:AS BL) (b:à) (k:Nat),Lens b k->k+ls.length<=1000000->(∀l∈ls,l.length<=100000) ->
 OD (ĭ 2 8 2 4 6 2) (ls.map ofL) (stC b) d a=match ls.foldlM ny b with|some b'=>d (stC b')|none=>a endC
 |[],b,k,_,_,_=>rfl
 |l::ls,b,k,hb,i,e=>by
  simp only[bJ] at i;rw[cm,OD,st_ok (e l (by simp)) ⟨by have:=hb.g; omega,by have:=hb.u; omega,by have:=hb.l; omega,by have:=hb.c; omega,by have:=hb.k; omega⟩,À,eV]
  cases h:ny b l with
  |none=>rfl
  |some b'=>exact LD ls b' (k+1) (LO hb h) (by omega) fun x f=>e x (by simp[f])
def lR (t:BL):AS BL:=(qR (ofL t)).map toL
def Qk {t:BL} (j:t.length<=60000):l6 (ofL t)=match (lR t).foldlM ny mZ with
 |none=>some (mZ,7)
 |some b=>Â (Τ b) fun r=>if r.2≠0\/r.1≠ofL t then some (mZ,7) else some (b,0):=by
 obtain⟨i,h2⟩:=vh (ofL t).size (ofL t);unfold l6 yX;rw[Ó (by rw[ú]; omega),show(true&&true)=true from rfl,Am.iff_true]
 have d:qR (ofL t)=(lR t).map ofL:=by
  unfold lR; rw[List.map_map]; exact(List.map_id _).symm.trans (List.map_congr_left fun s _=>(uQ s).symm)
 rw[d];have hb:((0:Int),(0:Int),([]:AS ß),([]:AS (Int×Int)),([]:AS uC),([]:AS Cmp),([]:AS (Int×Int)),(0:Int),(0:Int),(0:Int),([]:AS ß),([]:AS (Int×Int)),([]:AS uC),([]:AS Cmp),([]:AS (Int×Int)))=stC mZ:=rfl;refine(LD (lR t) mZ 0 ⟨Nat.le_refl _,Nat.le_refl _,Nat.le_refl _,Nat.le_refl _,Nat.le_refl _⟩ (by unfold lR qR; rw[ú] at i ⊢; simp; omega) (fun l d=>?_)).trans ?_
 ·unfold lR qR at d;obtain⟨y,g,rfl⟩:=List.mem_map.1 d;have:=h2 y g;rw[<-Ct];exact Nat.le_trans this (by rw[ú]; omega)
 ·cases(lR t).foldlM ny mZ with
  |none=>rfl
  |some b =>
   dsimp only[stC]
   cases k:Τ b with
   |none=>rfl
   |some r =>
    obtain⟨s,e⟩:=r;rw[À,À];dsimp only;rw[Ė,Ė]
    by_cases f:e=0
    ·rw[if_neg (by simp[ine,f]),<-uQ s,DK]
     by_cases a:toL s=t
     ·rw[if_neg (by simp[a]),if_neg (by simp[f,a])]
     ·rw[if_pos (by simp[a]),if_pos (.inr fun h=>a (Mb h))]; rfl
    ·rw[if_pos (by simp[ine,f]),if_pos (.inl f)]; rfl
def fw (n:Int):Prop:=n.natAbs<10 ^ 17
def fw.i64 {n:Int} (h:fw n):I64 n:=by
 unfold fw at h;exact⟨by omega,by omega⟩
def il {n lo hi:Int} (h:inP n lo hi=true) (a : -1125899906842624<=lo) (h2:hi<=1125899906842624):fw n:=by
 simp only[inP,Bool.and_eq_true,decide_eq_true_eq] at h;unfold fw; omega
def kY {s:Int×Int} {lo hi:Int} (h:κ s lo hi=true) (a : -1125899906842624<=lo) (h2:hi<=1125899906842624):fw s.1/\fw s.2:=by
 simp only[κ,Bool.and_eq_true,decide_eq_true_eq] at h;unfold fw; exact⟨by omega,by omega⟩
def Ĉ.idn {b:à} (h:Ĉ b) {id:Int} {g:ß} (d:ų b id=some g):fw id:=by
 obtain⟨a,rfl⟩:=g8 d;have:=h.gauge g a;simp only[nr,bu] at this;exact il this.1.1.1.1.2 (by omega) (by omega)
def Ex {l:AS Int} (h:nX l=true):l.length<=6/\∀x∈l,fw x:=by
 unfold nX at h
 split at h
 ·cases h
 ·rename_i e;refine⟨of_decide_eq_true h,fun x d=>?_⟩;obtain⟨j,f,rfl⟩:=List.mem_iff_getElem.1 d;have:=gy.1 e j _ (List.getElem?_eq_getElem f);unfold CE at this
  split at this
  ·cases this
  ·rename_i a;exact il (by simpa using a) (by omega) (by omega)
def Ĉ.prints {b:à} (h:Ĉ b):kU fw b:=by
 have s:∀{id k:Int},JU (ĉ b) id k=0->fw id/\fw k:=fun e=>by
  obtain⟨⟨a,h2⟩,g,j,_⟩:=DY h e;exact⟨h.idn j,by unfold fw; omega⟩
 refine⟨by have:=h.film; unfold fw; exact⟨by omega,by omega⟩,fun g j=>?_,fun u p=>s (h.uses u p),fun l y=>?_,fun c z=>?_,fun u p=>s (h.looks u p),h.nG,h.nU,h.nL,h.nC,h.nK⟩
 ·have:=h.gauge g j;simp only[nr,bu,decide_eq_true_eq] at this;obtain⟨⟨⟨⟨⟨⟨⟨a,h2⟩,f⟩,r⟩,o⟩,q⟩,m⟩,A⟩:=this;simp only[zY,bu,decide_eq_true_eq] at a;intro n d;simp only[Nc,bC,cR,or_false] at d;rcases d with rfl|rfl|rfl|rfl|rfl|rfl|rfl|rfl
  ·exact il r (by omega) (by omega)
  ·exact il (show inP g.2.1 0 20000=true from o) (by omega) (by omega)
  ·exact il q (by omega) (by omega)
  ·exact(kY m (by omega) (by omega)).1
  ·exact(kY m (by omega) (by omega)).2
  ·exact il h2 (by omega) (by omega)
  ·unfold fw; omega
  ·exact il A (by omega) (by omega)
 ·obtain⟨i,hi,rfl⟩:=List.mem_iff_getElem.1 y;have e:=h.loans i _ (List.getElem?_eq_getElem hi);unfold tM at e
  split at e
  ·omega
  rename_i a
  split at e
  ·omega
  rename_i h2
  split at e
  ·rename_i f; simp[e] at f
  rename_i f;obtain⟨g,j,_⟩:=uT h (show ft (ĉ b) b.2.2.2.1[i].1 b.2.2.2.1[i].2.1.1=0 by simpa using f)
  have a:κ b.2.2.2.1[i].2.1 0 20000=true:=by simpa using a
  intro n d;simp only[Rq,bC,cR,or_false] at d;rcases d with rfl|rfl|rfl|rfl
  ·exact h.idn j
  ·exact(kY a (by omega) (by omega)).1
  ·exact(kY a (by omega) (by omega)).2
  ·exact il (lo:=0) (hi:=1048576) (by simpa using h2) (by omega) (by omega)
 ·have:=h.nums z;simp only[rm,bu] at this;obtain⟨a,h2,f,r,o,q,m⟩:=this;obtain⟨x,w⟩:=Ex q;obtain⟨v,t⟩:=Ex m;refine⟨fun n d=>?_,w,t,x,v⟩;simp only[cmpN,bC,cR,or_false] at d;rcases d with rfl|rfl|rfl|rfl|rfl|rfl
  ·exact il a (by omega) (by omega)
  ·exact il (show inP c.2.1 0 20000=true from h2) (by omega) (by omega)
  ·exact il f (by omega) (by omega)
  ·exact il r (by omega) (by omega)
  ·exact(kY o (by omega) (by omega)).1
  ·exact(kY o (by omega) (by omega)).2
def fF (c:UInt8) (a:c.toNat≠45/\¬(48<=c.toNat/\c.toNat<=57)) (d:AS Int):∀v∈iv d,∀x∈v,x≠c:=by
 intro v g x f e;obtain⟨n,_,rfl⟩:=cD.1 g;have:=KE n x f;subst e;rcases this with h|h
 ·exact a.1 h
 ·exact a.2 h
def Rs (n:Int) (c:UInt8) (a:c.toNat≠45/\¬(48<=c.toNat/\c.toNat<=57)):Lib.itoa n≠[c]:=fun e=>fF c a [n] (Lib.itoa n) (by simp) c (by rw[e]; simp) rfl
def A3 (c:UInt8) (j:c=10\/c=32) {b:à}:∀p∈fu b,(∀x∈p.1,x≠c)/\∀v∈p.2,∀x∈v,x≠c:=by
 have h:c.toNat≠45/\¬(48<=c.toNat/\c.toNat<=57):=by rcases j with rfl|rfl<;>decide
 have a:∀w:BL,(w.all fun x=>x != 10&&x != 32)=true->∀x∈w,x≠c:=fun w m x k e=>by
  have:=bR.1 m x k
  rcases j with rfl|rfl<;>subst e<;>revert this<;>decide
 intro p i;unfold fu at i;simp only[List.mem_cons,List.mem_append,List.mem_map] at i;rcases i with rfl|⟨g,q,rfl⟩|⟨u,n,rfl⟩|⟨l,o,rfl⟩|⟨d,hd,rfl⟩|⟨u,n,rfl⟩
 ·exact⟨a _ rfl,fF c h _⟩
 ·exact⟨a _ rfl,fF c h _⟩
 ·exact⟨a _ rfl,fF c h _⟩
 ·exact⟨a _ rfl,fF c h _⟩
 ·refine⟨a _ rfl,fun v f=>?_⟩;simp only[OH,bw,bC] at f;rcases f with f|(rfl|f)|rfl|f
  ·exact fF c h _ v f
  ·exact a _ rfl
  ·exact fF c h _ v f
  ·exact a _ rfl
  ·exact fF c h _ v f
 ·exact⟨a _ rfl,fF c h _⟩
def PU {b:à} {p:BL×AS BL} (a:p∈fu b):OG 32 (gq p)=p.1::p.2:=by
 obtain⟨d,h2⟩:=A3 32 (.inr rfl) p a;exact HE 32 p.2 p.1 d h2
def MR {b:à} {p:BL×AS BL} (e:p∈fu b):∀x∈gq p,x≠10:=by
 obtain⟨f,h2⟩:=A3 10 (.inl rfl) p e;intro x a;rcases bw.1 a with a|a
 ·exact f x a
 ·unfold spL at a;obtain⟨v,d,a⟩:=List.mem_flatMap.1 a;rcases List.mem_cons.1 a with rfl|a
  ·decide
  ·exact h2 v d x a
def nC_num {a:AS Int} (h:∀n∈a,fw n) (r:AS BL) {i:Nat} (hi:i<a.length):nC (iv a++r) i=a.getD i 0:=by
 unfold nC;rw[List.getD_eq_getElem?_getD,List.getElem?_append_left (by simpa using hi),List.getD_eq_getElem?_getD];simp only[List.getElem?_map,List.getElem?_eq_getElem hi,Option.map_some,Option.getD_some];exact Ch (h _ (List.getElem_mem hi)).i64
def IH {a:AS Int} (h:∀n∈a,fw n):(iv a).map rQ=a:=by
 rw[List.map_map];exact(cM fun n d=>Ch (h n d).i64).trans (List.map_id _)
def LS {A B:AS Int} (f:∀n∈A,fw n) (d:∀n∈B,fw n):qk ([97]::iv A++[98]::iv B)=(A,B):=by
 unfold qk
 have a:([97]::iv A++[98]::iv B).findIdx? (fun v=>decide (v=[98]))=some (A.length+1):=by
  rw[cq];refine⟨by simp,?_,fun j k=>?_⟩
  ·simp
  ·cases j with
   |zero=>simp
   |succ j =>
    have:j<(iv A).length:=by simp; omega
    have e:([97]::iv A++[98]::iv B)[j+1]'(by simp; omega)=Lib.itoa A[j]:=by
     simp only[cE,List.getElem_cons_succ];rw[List.getElem_append_left this,eF]
    intro h;exact Rs _ 98 (by decide) (e.symm.trans (of_decide_eq_true h))
 dsimp only[List.cons_append] at a ⊢;rw[if_pos rfl,a];dsimp only
 have i:((([97]::(iv A++[98]::iv B)).drop 1).take (A.length+1-1))=iv A:=by
  rw[List.drop_one,List.tail_cons,eO,dF (by simp),cG (by simp)]
 have g:(([97]::(iv A++[98]::iv B)).drop (A.length+1+1))=iv B:=by
  rw[List.drop_succ_cons,show A.length+1=(iv A++[[98]]).length by simp,show iv A++[98]::iv B=(iv A++[[98]])++iv B by simp,List.drop_left]
 rw[i,g,IH f,IH d]
structure Sk (R:à->BL×AS BL->AN à) (b:à):Prop where
 film:∀x:à,R x (KO b.1)=some (b.1,x.2)
 gauge:∀(x:à),∀g∈b.2.1,R x (zb g)=some (x.1,x.2.1++[g],x.2.2)
 use:∀(x:à),∀u∈b.2.2.1,R x (QY u)=some (x.1,x.2.1,x.2.2.1++[u],x.2.2.2)
 loan:∀(x:à),∀l∈b.2.2.2.1,R x (Hr l)=some (x.1,x.2.1,x.2.2.1,x.2.2.2.1++[l],x.2.2.2.2)
 cmp:∀(x:à),∀c∈b.2.2.2.2.1,R x (OH c)=some (x.1,x.2.1,x.2.2.1,x.2.2.2.1,x.2.2.2.2.1++[c],x.2.2.2.2.2)
 look:∀(x:à),∀u∈b.2.2.2.2.2,R x (Ho u)=some (x.1,x.2.1,x.2.2.1,x.2.2.2.1,x.2.2.2.2.1,x.2.2.2.2.2++[u])
def ja {β:Type} (R:à->BL×AS BL->AN à) (F:β->BL×AS BL) (G:à->AS β->à) (d:∀x a l,G (G x [a]) l=G x (a::l)) (h0:∀x,G x []=x):∀(l:AS β),(∀x,∀a∈l,R x (F a)=some (G x [a]))->∀x,(l.map F).foldlM R x=some (G x l)
 |[],_,x=>by rw[h0]; rfl
 |a::l,h,x=>by
  rw[cm,eV,h x a (by simp)];show(l.map F).foldlM R (G x [a])=_;rw[ja R F G d h0 l fun x a ha=>h x a (by simp[ha]),d]
def Sk.all {R:à->BL×AS BL->AN à} {b:à} (h:Sk R b):(fu b).foldlM R mZ=some b:=by
 unfold fu;rw[List.foldlM_cons,h.film mZ];show List.foldlM R (b.1,mZ.2) _=_;rw[List.foldlM_append,ja R zb (fun x l=>(x.1,x.2.1++l,x.2.2)) (fun x a l=>by simp) (fun x=>by simp) _ h.gauge];show List.foldlM R (b.1,[]++b.2.1,mZ.2.2) _=_;rw[List.foldlM_append,ja R QY (fun x l=>(x.1,x.2.1,x.2.2.1++l,x.2.2.2)) (fun x a l=>by simp) (fun x=>by simp) _ h.use];show List.foldlM R (b.1,[]++b.2.1,[]++b.2.2.1,mZ.2.2.2) _=_;rw[List.foldlM_append,ja R Hr (fun x l=>(x.1,x.2.1,x.2.2.1,x.2.2.2.1++l,x.2.2.2.2)) (fun x a l=>by simp) (fun x=>by simp) _ h.loan];show List.foldlM R (b.1,[]++b.2.1,[]++b.2.2.1,[]++b.2.2.2.1,mZ.2.2.2.2) _=_;rw[List.foldlM_append,ja R OH (fun x l=>(x.1,x.2.1,x.2.2.1,x.2.2.2.1,x.2.2.2.2.1++l,x.2.2.2.2.2)) (fun x a l=>by simp) (fun x=>by simp) _ h.cmp];show List.foldlM R (b.1,[]++b.2.1,[]++b.2.2.1,[]++b.2.2.2.1,[]++b.2.2.2.2.1,mZ.2.2.2.2.2) _=_;rw[ja R Ho (fun x l=>(x.1,x.2.1,x.2.2.1,x.2.2.2.1,x.2.2.2.2.1,x.2.2.2.2.2++l)) (fun x a l=>by simp) (fun x=>by simp) _ h.look];simp[mZ]
def O8 {R:à->BL×AS BL->AN à} {n:AS BL->Nat->Int} {ps:AS BL->AS Int×AS Int} {b:à} (h:kU fw b)
 (k:∀(e:AS Int) (r:AS BL) (i:Nat),(∀m∈e,fw m)->i<e.length->n (iv e++r) i=e.getD i 0)
 (y:∀A B:AS Int,(∀m∈A,fw m)->(∀m∈B,fw m)->ps ([97]::iv A++[98]::iv B)=(A,B))
 (o:∀x,∀p∈fu b,R x p=some (readW (n p.2) (ps (p.2.drop 6)) x p.1)):Sk R b:=by
 have a:∀(e:AS Int) (i:Nat),(∀m∈e,fw m)->i<e.length->n (iv e) i=e.getD i 0:=fun e i D h2=>by
  have:=k e [] i D h2
  rwa [bW] at this
 have j:∀u:Int×Int,fw u.1/\fw u.2->n (iv [u.1,u.2]) 0=u.1/\n (iv [u.1,u.2]) 1=u.2:=fun u f=>by
  have:∀m∈[u.1,u.2],fw m:=fun m d=>by
   simp only[bC,cR,or_false] at d;rcases d with rfl|rfl
   ·exact f.1
   ·exact f.2
  exact⟨a _ 0 this (by simp),a _ 1 this (by simp)⟩
 refine⟨fun x=>?_,fun x g v=>?_,fun x u f=>?_,fun x l t=>?_,fun x c w=>?_,fun x u f=>?_⟩
 ·rw[o x _ (by unfold fu; exact List.mem_cons_self)];obtain⟨s,q⟩:=j b.1 h.film;unfold readW KO;dsimp only;rw[if_pos rfl,s,q]
 ·rw[o x _ (by unfold fu; simp only[List.mem_cons,List.mem_append]; exact .inr (.inl (List.mem_map.2 ⟨g,v,rfl⟩)))];have d:=h.gauges g v;unfold readW zb;dsimp only;rw[if_neg (by decide),if_pos rfl];rw[a _ 0 d (by simp),a _ 1 d (by simp),a _ 2 d (by simp),a _ 3 d (by simp),a _ 4 d (by simp),a _ 5 d (by simp),a _ 6 d (by simp),a _ 7 d (by simp)];rfl
 ·rw[o x _ (by unfold fu; simp only[List.mem_cons,List.mem_append]; exact .inr (.inr (.inl (List.mem_map.2 ⟨u,f,rfl⟩))))];obtain⟨s,q⟩:=j u (h.uses u f);unfold readW QY;dsimp only;rw[if_neg (by decide),if_neg (by decide),if_pos rfl,s,q]
 ·rw[o x _ (by unfold fu; simp only[List.mem_cons,List.mem_append]; exact .inr (.inr (.inr (.inl (List.mem_map.2 ⟨l,t,rfl⟩)))))];have d:=h.loans l t;unfold readW Hr;dsimp only;rw[if_neg (by decide),if_neg (by decide),if_neg (by decide),if_pos rfl];rw[a _ 0 d (by simp),a _ 1 d (by simp),a _ 2 d (by simp),a _ 3 d (by simp)];rfl
 ·rw[o x _ (by unfold fu; simp only[List.mem_cons,List.mem_append]; exact .inr (.inr (.inr (.inr (.inl (List.mem_map.2 ⟨c,w,rfl⟩))))))];obtain⟨d,C,z,_⟩:=h.cmps c w;unfold readW OH;dsimp only;rw[if_neg (by decide),if_neg (by decide),if_neg (by decide),if_neg (by decide),if_pos rfl];rw[k _ _ 0 d (by simp),k _ _ 1 d (by simp),k _ _ 2 d (by simp),k _ _ 3 d (by simp),k _ _ 4 d (by simp),k _ _ 5 d (by simp)];rw[show(iv (cmpN c)++([97]::iv c.2.2.1++[98]::iv c.2.2.2.1)).drop 6=[97]::iv c.2.2.1++[98]::iv c.2.2.2.1 from rfl,y _ _ C z];rfl
 ·rw[o x _ (by unfold fu; simp only[List.mem_cons,List.mem_append]; exact .inr (.inr (.inr (.inr (.inr (List.mem_map.2 ⟨u,f,rfl⟩))))))];obtain⟨s,q⟩:=j u (h.looks u f);unfold readW Ho;dsimp only;rw[if_neg (by decide),if_neg (by decide),if_neg (by decide),if_neg (by decide),if_neg (by decide),if_pos rfl,s,q]
def J8 {b:à} {p:BL×AS BL} (a:p∈fu b) (x:à):ny x (gq p++[10])=some (readW (nC p.2) (qk (p.2.drop 6)) x p.1):=by
 unfold ny;rw[Q0,PU a];dsimp only
 have e:∃k,Pm p.1=some k/\k<=p.2.length:=by
  unfold fu at a;simp only[List.mem_cons,List.mem_append,List.mem_map] at a;rcases a with rfl|⟨g,i,rfl⟩|⟨u,d,rfl⟩|⟨l,h,rfl⟩|⟨c,j,rfl⟩|⟨u,d,rfl⟩
  ·exact⟨2,rfl,bt _⟩
  ·exact⟨8,rfl,bt _⟩
  ·exact⟨2,rfl,bt _⟩
  ·exact⟨4,rfl,bt _⟩
  ·exact⟨6,rfl,by simp[OH]⟩
  ·exact⟨2,rfl,bt _⟩
 obtain⟨k,f,h2⟩:=e;rw[f];dsimp only;rw[if_neg (by omega)]
def OS (b:à):iB b=((fu b).map gq).flatMap fun l=>l++[10]:=by unfold iB; rw[List.flatMap_map]
def vt {b:à} (h:kU fw b):(lR (iB b)).foldlM ny mZ=some b:=by
 have d:lR (iB b)=(fu b).map fun p=>gq p++[10]:=by
  unfold lR qR;rw[OS,FB _ _ (fun l d=>by obtain⟨p,a,rfl⟩:=List.mem_map.1 d; exact MR a) (by rw[ú]; exact Nat.le_refl _)];rw[List.map_map,List.map_map]; rfl
 rw[d,List.foldlM_map];exact(O8 (R:=fun x p=>ny x (gq p++[10])) (n:=nC) (ps:=qk) h (fun j r i g h2=>nC_num g r h2) (fun A B f e=>LS f e) fun x p a=>J8 a x).all
end Go.Proofs.ZzM
end

noncomputable section
namespace Go.Proofs.ZzM
open Go Go.Am
structure Oy (b:à):Prop where
 piles:Qi b
 num:∀g∈b.2.1,I64 g.2.2.2.2.1.1
def In.fine {b:à} (h:In b):Oy b:=⟨h.size.w,h.num⟩
def Oy.readW {n:Nat->Int} {ps:AS Int×AS Int} {b:à} {w:BL} (h:Oy b) (i:I64 (n 5)) (f:ps.1.length<=100000/\ps.2.length<=100000):Oy (readW n ps b w):=by
 obtain⟨a,h2⟩:=h;unfold ZzM.readW
 split
 ·exact⟨a,h2⟩
 split
 ·refine⟨a,fun g d=>?_⟩;rcases bw.1 d with d|d
  ·exact h2 g d
  ·rw[bE.1 d]; exact i
 split
 ·exact⟨a,h2⟩
 split
 ·exact⟨a,h2⟩
 split
 ·refine⟨fun c e=>?_,h2⟩;rcases bw.1 e with e|e
  ·exact a c e
  ·rw[bE.1 e]; exact f
 split
 ·exact⟨a,h2⟩
 ·exact⟨a,h2⟩
def Kb (ws:AS BL):(qk ws).1.length<=ws.length/\(qk ws).2.length<=ws.length:=by
 unfold qk
 cases ws with
 |nil=>simp
 |cons w r =>
  dsimp only
  split
  ·cases(w::r).findIdx? (fun v=>decide (v=[98]))<;>simp<;>omega
  ·simp
def fine0:Oy mZ:=⟨fun _ d=>(by cases d),fun _ a=>(by cases a)⟩
def fineC {b b':à} {l:BL} (h:Oy b) (i:l.length<=100000) (e:ny b l=some b'):Oy b':=by
 unfold ny at e;have f:=If l [10];obtain⟨w,r,d,g,_⟩:=Jq (l:=Lib.trimSuffix l [10]) (by omega);rw[d] at e;dsimp only at e
 cases a:Pm w with
 |none=>rw[a] at e; cases e
 |some k =>
  rw[a] at e;dsimp only at e
  split at e
  ·cases e
  ·cases e;have:=Kb (r.drop 6);rw[dt] at this;exact h.readW (Ob _) ⟨by omega,by omega⟩
def FQ:∀(ls:AS BL) (b b':à),Oy b->(∀l∈ls,l.length<=100000)->ls.foldlM ny b=some b'->Oy b'
 |[],b,b',h,_,e=>by cases e; exact h
 |l::ls,b,b',h,d,e=>by
  rw[eV] at e
  cases a:ny b l with
  |none=>rw[a] at e; cases e
  |some g=>rw[a] at e; exact FQ ls g b' (fineC h (d l (by simp)) a) (fun x f=>d x (by simp[f])) e
def xC {b:à} (h:Oy b):Τ b=some (if â b≠0 then(ofL [],â b) else(ofL (iB b),0)):=by
 have a:=Gr h.piles h.num
 by_cases h0:â b=0
 ·rw[if_neg (by simp[h0])];exact O9 (((ñ b).1 h0).prints.mono fun n d=>d.i64) (by rw[a,h0])
 ·rw[if_pos h0];unfold Τ tJ;rw[a,À,ø (by simpa[ine] using h0)]
def Lu {b b':à} (h:Ĉ b) (h':Ĉ b') (e:iB b=iB b'):b=b':=by
 have a:=vt h.prints;rw[e,vt h'.prints] at a;exact(Option.some.inj a).symm
open Classical in
def GZ (t:BL):AN à:=if h:∃b,Ĉ b/\iB b=t then some h.choose else none
def Iv {b:à} (h:Ĉ b):GZ (iB b)=some b:=by
 have a:∃b',Ĉ b'/\iB b'=iB b:=⟨b,h,rfl⟩;unfold GZ;rw[dif_pos a];exact congrArg some (Lu a.choose_spec.1 h a.choose_spec.2)
def Bj {t:BL} {b:à} (h:GZ t=some b):Ĉ b/\iB b=t:=by
 unfold GZ at h
 split at h
 ·rename_i a; cases h; exact a.choose_spec
 ·cases h
def Oo {t:BL} (j:t.length<=60000):l6 (ofL t)=some (match GZ t with|some b=>(b,0)|none=>(mZ,7)):=by
 have a:∀b,(lR t).foldlM ny mZ=some b->Oy b:=fun b hb=>FQ _ _ _ fine0 (fun l g=>by
  unfold lR qR at g;obtain⟨y,i,rfl⟩:=List.mem_map.1 g;have:=(vh (ofL t).size (ofL t)).2 y i;rw[<-Ct]
  exact bG this (by rw[ú]; omega)) hb
 rw[Qk j]
 cases f:GZ t with
 |some b =>
  obtain⟨h,rfl⟩:=Bj f;have hb:=vt h.prints;rw[hb];dsimp only;rw[xC (a b hb),(ñ b).2 h,À];simp
 |none =>
  cases k:(lR t).foldlM ny mZ with
  |none=>rfl
  |some b =>
   dsimp only;rw[xC (a b k),À]
   by_cases h0:â b=0
   ·have d:ofL (iB b)≠ofL t:=fun e=>by
     have:=Iv ((ñ b).1 h0);rw[Mb e,f] at this;cases this
    rw[show(if â b≠0 then(ofL [],â b) else(ofL (iB b),0))=(ofL (iB b),0) from if_neg (by simp[h0])];exact if_pos (.inr d)
   ·rw[show(if â b≠0 then(ofL [],â b) else(ofL (iB b),0))=(ofL [],â b) from if_pos h0];exact if_pos (.inl h0)
end Go.Proofs.ZzM
end

noncomputable section
namespace Go.Proofs.ZzM
open Go Go.Am
def El {α:Type} [DecidableEq α] {l m:AS α} (f:l.length=m.length) (h:Ľ (fun i a=>if m[i]?=some a then none else some false) 0 l=none):l=m:=by
 have:=gy.1 h;refine eW f fun i g h2=>?_;have d:=this i l[i] (br g);rw[bX] at d
 split at d
 ·rename_i e;rw[br h2] at e;exact(Option.some.inj e).symm
 ·cases d
def Ek {α:Type} [DecidableEq α] {l m:AS α} {b:Bool} (h:Ľ (fun i a=>if m[i]?=some a then none else some false) 0 l=some b):b=false/\l≠m:=by
 constructor
 ·have:∀(k:Nat) (x:AS α) (b:Bool),Ľ (fun i a=>if m[i]?=some a then none else some false) k x=some b->b=false:=by
   intro k x
   induction x generalizing k with
   |nil=>intro b h; cases h
   |cons a t f =>
    intro b h;unfold Ľ at h
    split at h
    ·rename_i c d
     split at d
     ·cases d
     ·cases d; cases h; rfl
    ·exact f _ _ h
  exact this _ _ _ h
 ·intro e;subst e;rw[gy.2 fun j a ha=>by rw[bX,if_pos ha]] at h;cases h
def Gm {l m:AS (Int×Int)} (k:l.length<=1000000):Ξ l m=some (decide (l=m)):=by
 unfold Ξ qv;rw[Þ,Þ]
 by_cases f:l.length=m.length
 ·rw[á (by simp[ine,f])];refine dg (iZ l (fun i a=>if m[i]?=some a then none else some false) some (some true) (fun i a hi ha j=>?_) (fun j=>?_)) ?_
  ·try dsimp only
   unfold Ź;have g:m[i]?=some m[i]:=List.getElem?_eq_getElem (by omega);rw[Ø hi,Í ha,Í g,Ô hi (by omega),g,Ė]
   have e:(!(Β a.1 m[i].1&&(Β a.2 m[i].2&&true)))=decide (¬(m[i]=a)):=by
    rw[dj];simp only[Β,Bool.and_true,cg,fc,decide_eq_false_iff_not,decide_eq_true_eq];constructor
    ·intro h e; rw[e] at h; simp at h
    ·intro h
     by_cases d:a.1=m[i].1
     ·by_cases h2:a.2=m[i].2
      ·exact absurd (Prod.ext d h2).symm h
      ·exact .inr h2
     ·exact .inl d
   rw[e]
   by_cases h:m[i]=a
   ·simp[h]
   ·simp[h]
  ·try dsimp only
   unfold Ź;rw[ï]
  ·cases h:Ľ (fun i a=>if m[i]?=some a then none else some false) 0 l with
   |none=>simp[El f h]
   |some b =>
    obtain⟨d,h2⟩:=Ek h;simp[d,h2]
 ·rw[ø (by simp[ine]; omega)];have:l≠m:=fun e=>f (by rw[e]);simp[this]
def HV {l m:AS Int} (k:l.length<=1000000):ż l m=some (decide (l=m)):=by
 unfold ż sK;rw[Þ,Þ]
 by_cases d:l.length=m.length
 ·rw[á (by simp[ine,d])];refine dg (iZ l (fun i a=>if m[i]?=some a then none else some false) some (some true) (fun i a hi ha g=>?_) (fun g=>?_)) ?_
  ·try dsimp only
   unfold δ;have f:m[i]?=some m[i]:=List.getElem?_eq_getElem (by omega);rw[Ø hi,Í ha,Í f,Ô hi (by omega),f,Ė]
   by_cases h:a=m[i]
   ·simp[ine,h]
   ·have h':¬m[i]=a:=fun e=>h e.symm;simp[ine,h,h']
  ·try dsimp only
   unfold δ;rw[ï]
  ·cases h:Ľ (fun i a=>if m[i]?=some a then none else some false) 0 l with
   |none=>simp[El d h]
   |some b =>
    obtain⟨j,h2⟩:=Ek h;simp[j,h2]
 ·rw[ø (by simp[ine]; omega)];have:l≠m:=fun e=>d (by rw[e]);simp[this]
def tK {ρ α:Type} (l:AS α) (K:AN ρ) {f:Int->(Int->AN ρ)->AN ρ} (h:∀(i:Nat) (a:α),i<l.length->l[i]?=some a->∀d,f i d=d ((i:Int)+1)) (e:∀d,f l.length d=K):Ù f 0=K:=by
 refine dg (fO l (fun _=>false) (fun _=>K) K (fun i a hi ha d=>by rw[h i a hi ha d]; rfl) e) ?_;rw[cH.2 (by simp)]
def A2 {l:AS (Int×Int)} (a:l.length<=1000000):Ξ l l=some true:=by rw[Gm a]; simp
def uz {l:AS Int} (a:l.length<=1000000):ż l l=some true:=by rw[HV a]; simp
def xb {c:Cmp} (d:c.2.2.1.length<=1000) (a:c.2.2.2.1.length<=1000):ι c c=some true:=by
 unfold ι nk;rw[uz (by omega),À,uz (by omega),À];simp[ieq,Β]
def On {b:à} (e:fU b):t7 b b=some true:=by
 have k:=e.gauges; have h2:=e.uses; have j:=e.loans; have h:=e.compares; have g:=e.looks;unfold t7 EZ;rw[á (by simp[Β]),á (show ine (Û b.2.1) (Û b.2.1)=false by simp[ine]),á (show ine (Û b.2.2.1) (Û b.2.2.1)=false by simp[ine]),á (show ine (Û b.2.2.2.1) (Û b.2.2.2.1)=false by simp[ine]),á (show ine (Û b.2.2.2.2.1) (Û b.2.2.2.2.1)=false by simp[ine])];refine tK b.2.1 _ (fun i a hi ha d=>?_) (fun d=>?_)
 ·try dsimp only
  unfold jV;rw[Ø hi,Í ha,Í ha,Ô hi (by omega)];simp[Β]
 ·try dsimp only
  unfold jV;rw[ï];dsimp only;refine tK b.2.2.1 _ (fun i a hi ha d=>?_) (fun d=>?_)
  ·try dsimp only
   unfold jU;rw[Ø hi,Í ha,Í ha,Ô hi (by omega)];simp[Β]
  ·try dsimp only
   unfold jU;rw[ï];dsimp only;refine tK b.2.2.2.1 _ (fun i a hi ha d=>?_) (fun d=>?_)
   ·try dsimp only
    unfold jT;rw[Ø hi,Í ha,Í ha,Ô hi (by omega)];simp[Β]
   ·try dsimp only
    unfold jT;rw[ï];dsimp only;refine tK b.2.2.2.2.1 _ (fun i a hi ha d=>?_) (fun d=>?_)
    ·try dsimp only
     unfold jS;have f:=e.piles a (List.mem_of_getElem? ha);rw[Ø hi,Í ha,Í ha,xb f.1 f.2,À,Ô hi (by omega)];rfl
    ·try dsimp only
     unfold jS;rw[ï];dsimp only;rw[A2 (by omega),À]
section
variable {ρ:Type}
def Dj {α:Type} {f:(α->AN ρ)->AN ρ} {k:α->AN ρ} {r:AN ρ} (Z:α) (d:∀K:α->AN ρ,K Z=r->f K=r) (a:k Z=r):Ht f k=r:=by rw[PD]; exact d k a
end
def Cz {α:Type} (d:α) (l:AS α) (t:Nat):AS α:=(List.range l.length).map fun i=>l.getD ((i+t) % l.length) d
def Cx {α:Type} (d:α) (l:AS α) (t:Nat):(Cz d l t).Perm l:=by
 have e:Cz d l t=l.drop (t % l.length)++l.take (t % l.length):=by
  by_cases h0:l.length=0
  ·have:=bL.1 h0;subst this; simp[Cz]
  have h:t % l.length<l.length:=Nat.mod_lt _ (by omega);refine eW (by simp[Cz]; omega) fun i f h2=>?_;simp only[Cz,cw,List.length_range] at f;simp only[Cz,eF,List.getElem_range];rw[eI,List.getElem_append];have a:(i+t) % l.length=(i+t % l.length) % l.length:=(Nat.add_mod_mod _ _ _).symm;rw[a]
  split
  ·rename_i hi;rw[dt] at hi;rw[Nat.mod_eq_of_lt (by omega),List.getElem_drop,br (by omega),dI];congr 1; omega
  ·rename_i hi;rw[dt] at hi
   have g:(i+t % l.length) % l.length=i-(l.length-t % l.length):=by
    rw[Nat.mod_eq_sub_mod (by omega),Nat.mod_eq_of_lt (by omega)]; omega
   rw[g,dQ,br (by omega),dI];congr 1;rw[dt]
 rw[e];exact List.perm_append_comm.trans (by rw[List.take_append_drop])
def Cy {ρ α:Type} (d:α) (l:AS α) (u:l.length<=100000) {w:Int} (p:0<=w) {K:AS α->AN ρ} {f:Int×AS α->(Int×AS α->AN ρ)->AN ρ}
 (o:∀(v:Int×AS α) (j:Int×AS α->AN ρ),f v j=ifb (ilt v.1 (Û l)) (ck (v.1+Int.tmod w 64) fun m=>ifb (Β (Û l) 0) none (Ę l (Int.tmod m (Û l)) fun h=>ì (ã (v.2.length+[h].length)) (ck (v.1+1) fun k=>j (k,v.2++[h])))) (K v.2)) :
 Ù f (0,[])=K (Cz d l (Int.tmod w 64).toNat):=by
 have q:=Int.tmod_nonneg 64 p;have h2:=Int.tmod_lt_of_pos w (show(0:Int)<64 by omega);obtain⟨t,n⟩:=dG q;have:=jr (List.range l.length) (fun i=>l.getD ((i+t) % l.length) d) (out:=[]) (K:=K) (f:=f) (by simp; omega) (fun i a s hi ha r j=>?_) (fun s j=>?_)
 ·rw[this,n,bN]; rfl
 ·rw[List.length_range] at hi
  obtain rfl:i=a:=by
   rw[dY hi] at ha; exact Option.some.inj ha
  have g:(i+t) % l.length<l.length:=Nat.mod_lt _ (by omega);rw[o];dsimp only
  rw[Ø hi,n,ë (by omega) (by omega),Þ,á (by simp[Β]; intro e; rw[e] at hi; simp at hi),show((i:Int)+(t:Int))=((i+t:Nat):Int) by omega,show Int.tmod ((i+t:Nat):Int) (l.length:Int)=(((i+t) % l.length:Nat):Int) from(Int.ofNat_tmod _ _).symm,
   Í (br g),Ó (by simp; omega),Am.iff_true,ë (by omega) (by omega)]
  rw[eI,br g,dI]
 ·rw[List.length_range,o];dsimp only;rw[ï]
def rot_L0 {ρ:Type} (l:AS (Int×Int)) (f:l.length<=100000) {w:Int} (e:0<=w) (K:AS (Int×Int)->AN ρ):Ù (fun(v:Int×AS (Int×Int)) d=>Ζ w l v.1 v.2 (fun u1 a=>d (u1,a)) K) (0,[])=K (Cz (0,0) l (Int.tmod w 64).toNat):=Cy (0,0) l f e fun v g=>rfl
def rot_L1 {ρ:Type} (l:AS uC) (f:l.length<=100000) {w:Int} (e:0<=w) (K:AS uC->AN ρ):Ù (fun(v:Int×AS uC) d=>Ε w l v.1 v.2 (fun u1 a=>d (u1,a)) K) (0,[])=K (Cz (0,(0,0),0) l (Int.tmod w 64).toNat):=Cy (0,(0,0),0) l f e fun v g=>rfl
def rot_L2 {ρ:Type} (l:AS (Int×Int)) (f:l.length<=100000) {w:Int} (e:0<=w) (K:AS (Int×Int)->AN ρ):Ù (fun(v:Int×AS (Int×Int)) d=>Δ w l v.1 v.2 (fun u1 a=>d (u1,a)) K) (0,[])=K (Cz (0,0) l (Int.tmod w 64).toNat):=Cy (0,0) l f e fun v g=>rfl
def O1 {b:à} {k:Nat} {c:Cmp} (g:b.2.2.2.2.1[k]?=some c):∀(i:Nat) (d f:Cmp),b.2.2.2.2.1[i]?=some d->(b.2.2.2.2.1.set k (kV c))[i]?=some f->Qo d f:=by
 intro i d f a h2;rw[dO] at h2
 split at h2
 ·rename_i e;subst e;rw[g] at a; cases a
  split at h2
  ·cases h2; exact .inr rfl
  ·cases h2
 ·rw[a] at h2; cases h2; exact .inl rfl
def L1 {b:à} (O:∀g∈b.2.1,I64 g.2.2.2.2.1.1) (x:AS Int) (g f t a:Int) (c:Cmp) (s:ByteArray):gz b x g f t a c s=some true:=by
 unfold gz gh;rw[OY,À,LA];simp only[À]
 by_cases S:Ee b=true
 case neg=>rw[ø (by simp[S])]
 have hI:In b:=⟨(J2 S).1,O⟩;rw[á (by simp[S]),P7,À]
 by_cases I:c.2.2.1.length<=9/\c.2.2.2.1.length<=9
 case neg=>rw[ø (by simp; omega)]
 rw[á (by simp[I.1,I.2])]
 by_cases h70:70<x.length
 ·rw[ø (by rw[Þ]; simp[igt]; omega)]
 rw[á (by rw[Þ]; simp[igt]; omega)]
 by_cases Q:a<0
 ·rw[ø (by simpa[ilt] using Q)]
 rw[á (by simp[ilt]; omega)];obtain⟨u,rfl⟩:∃u,s=ofL u:=⟨_,(uQ s).symm⟩
 by_cases hl:u.length<=3000
 case neg=>rw[ø (by rw[kH,ú]; simp[igt]; omega)]
 rw[á (by rw[kH,ú]; simp[igt]; omega),xC hI.fine,À];generalize W:(if â b≠0 then(ofL [],â b) else(ofL (iB b),0))=R
 have h:R.2=â b:=by
  rw[<-W]
  by_cases h0:â b=0
  ·rw[if_neg (by simp[h0])]; exact h0.symm
  ·rw[if_pos h0]
 refine Dj (x,g,f,t,a,ofL u,R.2,b.1.1,b.1.2,b.2.1,b.2.2.1,b.2.2.2.1,b.2.2.2.2.1,b.2.2.2.2.2,c.1,c.2.1,c.2.2.1,c.2.2.2.1,c.2.2.2.2.1,c.2.2.2.2.2.1,c.2.2.2.2.2.2.1,c.2.2.2.2.2.2.2) (fun K j=>?_) ?_
 ·by_cases h0:â b=0
  ·have E:=(ñ b).1 h0
   have Y:(iB b).length<=115*501:=by
    have T:=(E.prints.mono fun n O=>O.i64);have r:=T.len;have h2:=T.count;unfold iB;refine Nat.le_trans ?_ (Nat.mul_le_mul_right 501 h2);clear h2 T j W h;generalize fu b=L at r
    induction L with
    |nil=>simp
    |cons p L ih =>
     have X:=r p (by simp);have q2:=ih fun x hx=>r x (by simp[hx]);rw[cn,bz,bz,bJ];simp only[bJ,bZ] at *;omega
   rw[ø (by rw[h,h0]; rfl),<-W,if_neg (by simp[h0])];dsimp only;rw[Oo (by omega),Iv E,À,á (by rfl)];dsimp only;rw[On E.size,À,á (by rfl)];rw[h,h0] at j;exact j
  ·rw[á (by rw[h]; simpa[ieq] using h0)];exact j
 dsimp only;rw[Oo (by omega),À];refine Dj (x,g,f,t,a,R.2,b.1.1,b.1.2,b.2.1,b.2.2.1,b.2.2.2.1,b.2.2.2.2.1,b.2.2.2.2.2,c.1,c.2.1,c.2.2.1,c.2.2.2.1,c.2.2.2.2.1,c.2.2.2.2.2.1,c.2.2.2.2.2.2.1,c.2.2.2.2.2.2.2) (fun K j=>?_) ?_
 ·cases hr:GZ u with
  |none =>
   dsimp only;rw[á (by rfl)];exact j
  |some y =>
   obtain⟨P,rfl⟩:=Bj hr;dsimp only;rw[ø (by rfl),xC ⟨P.size.w,fun g E=>(P.prints.gauges g E _ (by simp)).i64⟩,(ñ y).2 P,À,if_neg (by simp)];dsimp only;rw[á (by rfl),DK,á (by simp)];exact j
 dsimp only;rw[h]
 by_cases h0:â b=0
 case neg=>rw[ø (by simpa[ine] using h0)]
 have hb:=(ñ b).1 h0;have n1:=hb.nU; have n2:=hb.nL; have n3:=hb.nC; have n4:=hb.nK
 have m:0<=a:=by omega
 rw[á (by rw[h0]; rfl)];rw[rot_L0 b.2.2.1 (by omega) m];rw[rot_L1 b.2.2.2.1 (by omega) m];rw[rot_L2 b.2.2.2.2.2 (by omega) m];rw[Ó (by omega),Am.iff_true]
 -- the other book
 have z:∀cs:AS Cmp,cs.length=b.2.2.2.2.1.length->(∀(i:Nat) (d v:Cmp),b.2.2.2.2.1[i]?=some d->cs[i]?=some v->Qo d v)->ğ b (b.1,b.2.1,Cz (0,0) b.2.2.1 (Int.tmod a 64).toNat,Cz (0,(0,0),0) b.2.2.2.1 (Int.tmod a 64).toNat,cs,Cz (0,0) b.2.2.2.2.2 (Int.tmod a 64).toNat) :=
  fun cs r h2=>⟨rfl,rfl,Cx _ _ _,Cx _ _ _,r,h2,Cx _ _ _⟩
 obtain⟨cs,H,G,V⟩:∃cs:AS Cmp,cs.length=b.2.2.2.2.1.length/\(∀(i:Nat) (d v:Cmp),b.2.2.2.2.1[i]?=some d->cs[i]?=some v->Qo d v)/\((b.2.2.2.2.1=[]/\cs=[])\/∃k M,Int.tmod a (b.2.2.2.2.1.length:Int)=((k:Nat):Int)/\b.2.2.2.2.1[k]?=some M/\cs=b.2.2.2.2.1.set k (kV M)):=by
  by_cases hz:b.2.2.2.2.1.length=0
  ·have:=bL.1 hz;exact⟨[],by rw[this],fun i d v r h2=>(by cases h2),.inl ⟨this,rfl⟩⟩
  ·have X:=Int.tmod_nonneg (b.2.2.2.2.1.length:Int) m;have q2:=Int.tmod_lt_of_pos a (show(0:Int)<(b.2.2.2.2.1.length:Int) by omega);obtain⟨k,U⟩:=dG X
   have D:k<b.2.2.2.2.1.length:=by omega
   exact⟨_,cW,O1 (br D),.inr ⟨k,_,U,br D,rfl⟩⟩
 have q:=z cs H G;refine Dj (x,g,f,t,b.1.1,b.1.2,b.2.1,b.2.2.1,b.2.2.2.1,b.2.2.2.2.1,b.2.2.2.2.2,c.1,c.2.1,c.2.2.1,c.2.2.2.1,c.2.2.2.2.1,c.2.2.2.2.2.1,c.2.2.2.2.2.2.1,c.2.2.2.2.2.2.2,b.1.1,b.1.2,b.2.1,Cz (0,0) b.2.2.1 (Int.tmod a 64).toNat,Cz (0,(0,0),0) b.2.2.2.1 (Int.tmod a 64).toNat,cs,Cz (0,0) b.2.2.2.2.2 (Int.tmod a 64).toNat) (fun K j=>?_) ?_
 ·rw[Þ];rcases V with⟨Z,rfl⟩|⟨k,M,U,o,rfl⟩
  ·rw[á (by rw[Z]; simp[igt])];rw[Z] at j ⊢;exact j
  ·have C:=(List.getElem?_eq_some_iff.1 o).1;have A:=(hb.prints.cmps M (List.mem_of_getElem? o)).1 M.2.2.2.2.1 (by simp);unfold fw at A
   have F:Β (b.2.2.2.2.1.length:Int) 0=false:=by
    simp[Β]; intro e; rw[e] at C; simp at C
   rw[ø (by simp[igt]; omega),á F,U,Í o,ë (by omega) (by omega),á F,cV,show(ile (0:Int) (k:Int)&&ilt (k:Int) (Č b.2.2.2.2.1))=true by simp[ile,ilt,Č]; omega,Am.iff_true,bN,pk o,Int.zero_sub];exact j
 dsimp only;have J:=q.good hb;generalize hB:(b.1,b.2.1,Cz (0,0) b.2.2.1 (Int.tmod a 64).toNat,Cz (0,(0,0),0) b.2.2.2.1 (Int.tmod a 64).toNat,cs,Cz (0,0) b.2.2.2.2.2 (Int.tmod a 64).toNat)=B at q J;have l:In B:=⟨J.size,by rw[q.gs]; exact O⟩;have ec:(c.1,c.2.1,c.2.2.1,c.2.2.2.1,c.2.2.2.2.1,c.2.2.2.2.2.1,c.2.2.2.2.2.2.1,c.2.2.2.2.2.2.2)=c:=rfl;rw[ec,DU hI.size hI.num,À,DU l.size l.num,À,HX hI,À,HX l,À,vP hI.size hI.num (by omega) (by omega),À,vP l.size l.num (by omega) (by omega),À,q.Fits hb,q.Loss hb,q.Predict hb];simp[ifb,ieq,Β]
end Go.Proofs.ZzM
end
