/- lemmas -/
import Derived.Test.YtanjeafjkgllhaaGreatDoorPlA
import Derived.Test.YtanjeafjkgllhaaGreatDoorMdPA
import Derived.Test.YtanjeafjkgllhaaGreatDoorMdTA
set_option linter.all false
noncomputable section
namespace Go.Proofs.ZzM
open Go Go.Am
section
variable {ρ:Type} {m:ε}
def giW (l:w9 Way) (i:Nat):Way:=(l[i]?).getD []
def EO {l:w9 Way} {i:Nat} (h:i<l.length) (K:Way->w8 ρ):(Ú ((ile (0:Int) (i:Int))&&(ilt (i:Int) (ï l))) (ĵ l (Int.toNat (i:Int)) K))=K (giW l i):=by
 rw[Į (by simp[ile,ilt,ï]; omega),dc,xW (cI h)];simp[giW,cI h]
def HQ {i j:Nat} (h:i+j<=10000000):IntKind.wrap .i64 (ir .u64 (IntKind.wrap .u64 ((i:Int)+(j:Int))) (1:Int))=(((i+j) / 2:Nat):Int):=by
 rw[<-agB h]; push_cast; rfl
def KOk (m:ε) (x:Way):Prop:=Ĩ m x=some (Č m x)
def Rx {x y:Way} (c:KOk m x) (a:KOk m y) (X Y:w8 ρ):(Ã (jj x y m) fun r=>ifb (!(ilt r (0:Int))) X Y)=if Č m x>=Č m y then X else Y:=by
 rw[Qv c a,Á]
 by_cases h:Č m x<Č m y
 ·rw[if_pos h,if_neg (show ¬Č m x>=Č m y by omega)]; rfl
 ·rw[if_neg h,if_pos (show Č m x>=Č m y by omega)]
  by_cases h2:Č m y<Č m x
  ·rw[if_pos h2]; rfl
  ·rw[if_neg h2]; rfl
def afY (c:acX) {l:w9 Way} {a i j:Nat} (g:i<j) (k:j<=l.length) (ha:a<l.length) (h:j<=2000000) (f:KOk m (giW l a)) (e:KOk m (giW l ((i+j) / 2))) (d:Int->Int->w8 ρ) (k0:Int->w8 ρ) :
 ô c (a:Int) l m.1.1.1 m.1.1.2 m.1.2.1 m.1.2.2.1 m.1.2.2.2.1 m.1.2.2.2.2.1 m.1.2.2.2.2.2 m.2 (i:Int) (j:Int) d k0=if Č m (giW l ((i+j) / 2))<Č m (giW l a) then d (((i+j) / 2+1:Nat):Int) j else d i (((i+j) / 2:Nat):Int):=by
 unfold ô;rw[æ (decide_eq_true (by omega)),Ù (by omega) (by omega),HQ (by omega),EO (by omega),EO ha];refine(WJ e f _ _).trans ?_;rw[Ù (by omega) (by omega)];rfl
def afX (a:acX) {l:w9 Way} {c i j:Nat} (g:i<j) (n:j<=l.length) (h:c<l.length) (k:j<=2000000) (f:KOk m (giW l c)) (e:KOk m (giW l ((i+j) / 2))) (d:Int->Int->w8 ρ) (k0:Int->w8 ρ) :
 ó a (c:Int) l m.1.1.1 m.1.1.2 m.1.2.1 m.1.2.2.1 m.1.2.2.2.1 m.1.2.2.2.2.1 m.1.2.2.2.2.2 m.2 (i:Int) (j:Int) d k0=if Č m (giW l c)>=Č m (giW l ((i+j) / 2)) then d (((i+j) / 2+1:Nat):Int) j else d i (((i+j) / 2:Nat):Int):=by
 unfold ó;rw[æ (decide_eq_true (by omega)),Ù (by omega) (by omega),HQ (by omega),EO h,EO (by omega)];refine(Rx f e _ _).trans ?_;rw[Ù (by omega) (by omega)];rfl
def afW (a:acX) {l:w9 Way} {p i j:Nat} (h:i<j) (o:j<=l.length) (k:(i+j) / 2<=p) (d:p-(i+j) / 2<l.length) (n:j<=2000000) (g:p<=4000000) (f:KOk m (giW l (p-(i+j) / 2))) (e:KOk m (giW l ((i+j) / 2))) (c:Int->Int->w8 ρ) (k0:Int->w8 ρ) :
 Þ a (p:Int) l m.1.1.1 m.1.1.2 m.1.2.1 m.1.2.2.1 m.1.2.2.2.1 m.1.2.2.2.2.1 m.1.2.2.2.2.2 m.2 (i:Int) (j:Int) c k0=if Č m (giW l (p-(i+j) / 2))>=Č m (giW l ((i+j) / 2)) then c (((i+j) / 2+1:Nat):Int) j else c i (((i+j) / 2:Nat):Int):=by
 unfold Þ;rw[æ (decide_eq_true (by omega)),Ù (by omega) (by omega),HQ (by omega),show(p:Int)-(((i+j) / 2:Nat):Int)=((p-(i+j) / 2:Nat):Int) by omega,Ù (by omega) (by omega),EO d,EO (by omega)];refine(Rx f e _ _).trans ?_;rw[Ù (by omega) (by omega)];rfl
def qm {α:Type} {l:w9 α} {n:Nat} {y:α} (h:y∈l.take n):∃j,j<n/\j<l.length/\l[j]?=some y:=by
 obtain⟨j,a,e⟩:=dg.1 h;simp only[dh] at a;refine⟨j,by omega,by omega,?_⟩;rw[f0] at e;rw[cI (by omega),e]
def qn {α:Type} {l:w9 α} {n:Nat} {y:α} (h:y∈l.drop n):∃j,n<=j/\j<l.length/\l[j]?=some y:=by
 obtain⟨j,a,e⟩:=dg.1 h;simp only[fD] at a;refine⟨n+j,by omega,by omega,?_⟩;rw[List.getElem_drop] at e;rw[cI (by omega),e]
def ZN {l:w9 Way} (h:Srt (Č m) l) {i j:Nat} {x y:Way} (hi:l[i]?=some x) (d:l[j]?=some y) (c:i<=j):Č m x<=Č m y:=by
 obtain⟨e,rfl⟩:=cQ.1 hi;obtain⟨h2,rfl⟩:=cQ.1 d;rcases gk c with a|rfl
 ·exact eX.1 h i j e h2 a
 ·exact eN _
def FP:∀(f N:Nat),N<=2 ^ f->RecOk (ę (f+1)) m N
 |0,N,hN=>fun P U V Q hU hV hn=>by simp at hN; omega
 |f+1,N,hN=>fun P U V Q hU hV hn sU sV hW hl=>by
  have M:=FP f (2 ^ f) (cJ _)
  have hpow:2 ^ (f+1)=2*2 ^ f:=by rw[Nat.pow_succ]; omega
  show Ě (ę (f+1)) _ _ _ _ m some=_;generalize ę (f+1)=rec at M;obtain⟨l,D⟩:∃l,l=P++(U++(V++Q)):=⟨_,rfl⟩
  have hll:P.length+U.length+V.length<=l.length:=by rw[D]; simp; omega
  rw[sym_eq]
  -- what lies where
  have R:∀i x,U[i]?=some x->giW l (P.length+i)=x:=fun i x r=>by
   have hi:=(List.getElem?_eq_some_iff.1 r).1;unfold giW;rw[D,List.getElem?_append_right (by omega),List.getElem?_append_left (by omega),show P.length+i-P.length=i by omega,r];rfl
  have O:∀i x,V[i]?=some x->giW l (P.length+U.length+i)=x:=fun i x r=>by
   have hi:=(List.getElem?_eq_some_iff.1 r).1;unfold giW;rw[D,List.getElem?_append_right (by omega),List.getElem?_append_right (by omega),List.getElem?_append_left (by omega),show P.length+U.length+i-P.length-U.length=i by omega,r];rfl
  have kU:∀c c',P.length<=c->c<=c'->c'<P.length+U.length->Č m (giW l c)<=Č m (giW l c'):=fun c c' h1 h2 h3=>by
   have o:U[c-P.length]?=some U[c-P.length]:=cI (by omega);have g:U[c'-P.length]?=some U[c'-P.length]:=cI (by omega);have E:=R _ _ o;have J:=R _ _ g;rw[show P.length+(c-P.length)=c by omega] at E;rw[show P.length+(c'-P.length)=c' by omega] at J;rw[E,J];exact ZN sU o g (by omega)
  have kV:∀c c',P.length+U.length<=c->c<=c'->c'<P.length+U.length+V.length->Č m (giW l c)<=Č m (giW l c'):=fun c c' h1 h2 h3=>by
   have o:V[c-(P.length+U.length)]?=some V[c-(P.length+U.length)]:=cI (by omega);have g:V[c'-(P.length+U.length)]?=some V[c'-(P.length+U.length)]:=cI (by omega);have E:=O _ _ o;have J:=O _ _ g;rw[show P.length+U.length+(c-(P.length+U.length))=c by omega] at E;rw[show P.length+U.length+(c'-(P.length+U.length))=c' by omega] at J;rw[E,J];exact ZN sV o g (by omega)
  have X:∀c,P.length<=c->c<P.length+U.length+V.length->KOk m (giW l c):=fun c h1 h2=>by
   rcases dA c (P.length+U.length) with h3|h3
   ·have o:U[c-P.length]?=some U[c-P.length]:=cI (by omega);have E:=R _ _ o;rw[show P.length+(c-P.length)=c by omega] at E;rw[E];exact hW _ (dH _ (fG _))
   ·have o:V[c-(P.length+U.length)]?=some V[c-(P.length+U.length)]:=cI (by omega);have E:=O _ _ o;rw[show P.length+U.length+(c-(P.length+U.length))=c by omega] at E;rw[E];exact hW _ (dl _ (fG _))
  have e0:((P.length+U.length:Nat):Int)-(P.length:Int)=U.length:=by omega
  have E:((P.length+U.length+V.length:Nat):Int)-((P.length+U.length:Nat):Int)=V.length:=by omega
  rw[e0,E,Ù (by omega) (by omega),Ù (by omega) (by omega),<-D];have half:YG ((P.length:Int)+((P.length+U.length+V.length:Nat):Int))=(((P.length+(P.length+U.length+V.length)) / 2:Nat):Int):=HQ (by omega)
  by_cases I:U.length=1
  ·rw[æ (beq_iff_eq.2 (by rw[I]; rfl))]
   obtain⟨x,r⟩:∃x,U=[x]:=by
    cases U with
    |nil=>simp at I
    |cons x t=>cases t with
     |nil=>exact⟨x,rfl⟩
     |cons y t=>simp at I
   have gx:giW l P.length=x:=by
    have:=R 0 x (by rw[r]; rfl);exact this
   obtain⟨s,s1,s2,s3,Z,Y⟩:=Vf (f:=fun(v:Int×Int) A=>ô rec (P.length:Int) l m.1.1.1 m.1.1.2 m.1.2.1 m.1.2.2.1 m.1.2.2.2.1 m.1.2.2.2.2.1 m.1.2.2.2.2.2 m.2 v.1 v.2 (fun x y=>A (x,y)) (fun S=>É (fun(v:Int×w9 Way) A=>ì rec S v.1 v.2 (fun x y=>A (x,y)) (fun d=>some (d,m))) ((P.length:Int),l)))
    (K:=fun S=>É (fun(v:Int×w9 Way) A=>ì rec S v.1 v.2 (fun x y=>A (x,y)) (fun d=>some (d,m))) ((P.length:Int),l)) (lo:=P.length+U.length) (hi:=P.length+U.length+V.length) (by omega)
    (fun h=>Č m (giW l h)<Č m (giW l P.length)) (fun c c' o g T q4=>by have:=kV c c' o g T; omega)
    (fun i j o g T kn=>afY rec g (by omega) (by omega) (by omega) (X _ (cJ _) (by omega)) (X _ (by omega) (by omega)) _ _)
    (fun i o g kn=>by
     dsimp only;unfold ô
     rw[Õ (decide_eq_false (by omega))])
   refine Y.trans ?_
   have hk:s-(P.length+U.length)<=V.length:=by omega
   obtain⟨k,hkk⟩:∃k,k=s-(P.length+U.length):=⟨_,rfl⟩;rw[<-hkk] at hk
   have lt:(V.take k).length=k:=by simp; omega
   have hB:∀y∈V.take k,Č m y<Č m x:=fun y p=>by
    obtain⟨j,j1,j2,F⟩:=qm p;have:=s3 (P.length+U.length+j) (by omega) (by omega);rw[O j y F,gx] at this;exact this
   have hD:∀y∈V.drop k,Č m x<=Č m y:=fun y p=>by
    obtain⟨j,j1,j2,F⟩:=qn p;have:=Z (P.length+U.length+j) (by omega) (by omega);rw[O j y F,gx] at this;omega
   have G:V=V.take k++V.drop k:=(dT _ _).symm
   have fin:Ĵ (Č m) (U++V)=V.take k++x::V.drop k:=by
    rw[G] at sV;obtain⟨v1,v2,v3⟩:=sV.parts;refine uE ?_ ?_
    ·refine v1.append (List.Pairwise.cons hD v2) fun y p z W=>?_;rcases cP.1 W with rfl|W
     ·have:=hB y p; omega
     ·exact v3 y p z W
    ·have:=(Stb.swap (key:=Č m) (u:=[x]) (v:=V.take k) (fun a ha b hb=>by simp at ha; subst ha; have:=hB b hb; omega)).append (Stb.refl (V.drop k));rw[r]
     have e:[x]++V.take k++V.drop k=[x]++V:=by rw[cS,<-G]
     rw[e] at this;simpa using this
   have hs:(s:Int)=((P.length+(V.take k).length+1:Nat):Int):=by rw[lt]; omega
   have:=Yc rec (P:=P) (B:=V.take k) (C:=V.drop k++Q) (x:=x) hs (by rw[lt]; omega) (fun d=>some (d,m))
   have J:l=P++(x::(V.take k++(V.drop k++Q))):=by
    rw[D,r,<-cS (V.take k),<-G];rfl
   rw[<-J] at this;refine this.trans ?_;rw[fin];simp
  rw[Õ (beq_eq_false_iff_ne.2 (fun h=>I (by exact_mod_cast h)))]
  by_cases H:V.length=1
  ·rw[æ (beq_iff_eq.2 (by rw[H]; rfl))]
   obtain⟨x,r⟩:∃x,V=[x]:=by
    cases V with
    |nil=>simp at H
    |cons x t=>cases t with
     |nil=>exact⟨x,rfl⟩
     |cons y t=>simp at H
   have gx:giW l (P.length+U.length)=x:=by
    have:=O 0 x (by rw[r]; rfl);exact this
   obtain⟨s,s1,s2,s3,Z,Y⟩:=Vf (f:=fun(v:Int×Int) A=>ó rec ((P.length+U.length:Nat):Int) l m.1.1.1 m.1.1.2 m.1.2.1 m.1.2.2.1 m.1.2.2.2.1 m.1.2.2.2.2.1 m.1.2.2.2.2.2 m.2 v.1 v.2 (fun x y=>A (x,y)) (fun S=>É (fun(v:Int×w9 Way) A=>ë rec S v.1 v.2 (fun x y=>A (x,y)) (fun d=>some (d,m))) (((P.length+U.length:Nat):Int),l)))
    (K:=fun S=>É (fun(v:Int×w9 Way) A=>ë rec S v.1 v.2 (fun x y=>A (x,y)) (fun d=>some (d,m))) (((P.length+U.length:Nat):Int),l)) (lo:=P.length) (hi:=P.length+U.length) (by omega)
    (fun h=>Č m (giW l (P.length+U.length))>=Č m (giW l h)) (fun c c' o g T q4=>by have:=kU c c' o g T; omega)
    (fun i j o g T kn=>afX rec g (by omega) (by omega) (by omega) (X _ (by omega) (by omega)) (X _ (by omega) (by omega)) _ _)
    (fun i o g kn=>by
     dsimp only;unfold ó
     rw[Õ (decide_eq_false (by omega))])
   refine Y.trans ?_;obtain⟨k,hkk⟩:∃k,k=s-P.length:=⟨_,rfl⟩
   have hk:k<=U.length:=by omega
   have lt:(U.take k).length=k:=by simp; omega
   have hB:∀y∈U.take k,Č m y<=Č m x:=fun y p=>by
    obtain⟨j,j1,j2,F⟩:=qm p;have:=s3 (P.length+j) (by omega) (by omega);rw[R j y F,gx] at this;exact this
   have hD:∀y∈U.drop k,Č m x<Č m y:=fun y p=>by
    obtain⟨j,j1,j2,F⟩:=qn p;have:=Z (P.length+j) (by omega) (by omega);rw[R j y F,gx] at this;omega
   have G:U=U.take k++U.drop k:=(dT _ _).symm
   have fin:Ĵ (Č m) (U++V)=U.take k++x::U.drop k:=by
    rw[G] at sU;obtain⟨v1,v2,v3⟩:=sU.parts;refine uE ?_ ?_
    ·refine v1.append (List.Pairwise.cons (fun y p=>by have:=hD y p; omega) v2) fun y p z W=>?_;rcases cP.1 W with rfl|W
     ·exact hB y p
     ·exact v3 y p z W
    ·have:=(Stb.refl (key:=Č m) (U.take k)).append (Stb.swap (key:=Č m) (u:=U.drop k) (v:=[x]) (fun a ha b hb=>by simp at hb; subst hb; have:=hD a ha; omega));rw[r]
     have e:U.take k++(U.drop k++[x])=U++[x]:=by rw[<-cS,<-G]
     rw[e] at this;simpa using this
   have hs:(s:Int)=((P++U.take k).length:Int):=by rw[cN,lt]; omega
   have ld:(U.drop k).length=U.length-k:=by simp
   have:=aaC rec (P:=P++U.take k) (B:=U.drop k) (C:=Q) (x:=x) hs (by rw[cN,lt,ld]; omega) (fun d=>some (d,m))
   have J:l=(P++U.take k)++(U.drop k++x::Q):=by
    rw[D,r,cS,<-cS (U.take k),<-G];rfl
   rw[<-J,show(((P++U.take k).length+(U.drop k).length:Nat):Int)=((P.length+U.length:Nat):Int) by rw[cN,lt,ld]; omega] at this;refine this.trans ?_;rw[fin];simp
  rw[Õ (beq_eq_false_iff_ne.2 (fun h=>H (by exact_mod_cast h))),Ù (by omega) (by omega),half];obtain⟨mid,hmid⟩:∃mid,mid=(P.length+(P.length+U.length+V.length)) / 2:=⟨_,rfl⟩;rw[<-hmid,Ù (by omega) (by omega)]
  have hm1:P.length<=mid:=by omega
  have hm2:mid<=P.length+U.length+V.length:=by omega
  -- the search, and what is behind it
  have gen:∀lo hi:Nat,P.length<=lo->lo<=hi->hi<=P.length+U.length->hi<=mid->mid+(P.length+U.length)<=lo+(P.length+U.length+V.length)->(hi=P.length+U.length\/hi=mid)->(lo=P.length\/lo+(P.length+U.length+V.length)=mid+(P.length+U.length)) ->
   É (fun(v:Int×Int) A=>Þ rec (((mid+(P.length+U.length)-1:Nat)):Int) l m.1.1.1 m.1.1.2 m.1.2.1 m.1.2.2.1 m.1.2.2.2.1 m.1.2.2.2.2.1 m.1.2.2.2.2.2 m.2 v.1 v.2 (fun x y=>A (x,y)) (afM rec l (P.length:Int) ((P.length+U.length:Nat):Int) ((P.length+U.length+V.length:Nat):Int) (mid:Int) ((mid:Int)+((P.length+U.length:Nat):Int)) m some)) ((lo:Int),(hi:Int))=some (P++(Ĵ (Č m) (U++V)++Q),m):=by
   intro lo hi h1 h2 h3 h4 h5 h6 h7
   have hmu:mid<P.length+U.length+V.length:=by omega
   obtain⟨s,s1,s2,s3,Z,Y⟩:=Vf (f:=fun(v:Int×Int) A=>Þ rec (((mid+(P.length+U.length)-1:Nat)):Int) l m.1.1.1 m.1.1.2 m.1.2.1 m.1.2.2.1 m.1.2.2.2.1 m.1.2.2.2.2.1 m.1.2.2.2.2.2 m.2 v.1 v.2 (fun x y=>A (x,y)) (afM rec l (P.length:Int) ((P.length+U.length:Nat):Int) ((P.length+U.length+V.length:Nat):Int) (mid:Int) ((mid:Int)+((P.length+U.length:Nat):Int)) m some))
    (K:=afM rec l (P.length:Int) ((P.length+U.length:Nat):Int) ((P.length+U.length+V.length:Nat):Int) (mid:Int) ((mid:Int)+((P.length+U.length:Nat):Int)) m some) (lo:=lo) (hi:=hi) h2
    (fun h=>Č m (giW l (mid+(P.length+U.length)-1-h))>=Č m (giW l h)) (fun c c' o g T q4=>by
     have a1:=kU c c' (by omega) g (by omega);have a2:=kV (mid+(P.length+U.length)-1-c') (mid+(P.length+U.length)-1-c) (by omega) (by omega) (by omega)
     omega)
    (fun i j o g T kn=>afW rec g (by omega) (by omega) (by omega) (by omega) (by omega) (X _ (by omega) (by omega)) (X _ (by omega) (by omega)) _ _)
    (fun i o g kn=>by
     dsimp only;unfold Þ
     rw[Õ (decide_eq_false (by omega))])
   refine Y.trans ?_;obtain⟨e,he⟩:∃e,e=mid+(P.length+U.length)-s:=⟨_,rfl⟩
   have lu1:(U.take (s-P.length)).length=s-P.length:=by simp; omega
   have lu2:(U.drop (s-P.length)).length=P.length+U.length-s:=by simp; omega
   have lv1:(V.take (e-(P.length+U.length))).length=e-(P.length+U.length):=by simp; omega
   have lv2:(V.drop (e-(P.length+U.length))).length=P.length+U.length+V.length-e:=by simp; omega
   have hu:U=U.take (s-P.length)++U.drop (s-P.length):=(dT _ _).symm;have G:V=V.take (e-(P.length+U.length))++V.drop (e-(P.length+U.length)):=(dT _ _).symm
   have F1:∀x∈U.drop (s-P.length),∀y∈V.take (e-(P.length+U.length)),Č m y<Č m x:=fun x r y p=>by
    obtain⟨i,i1,i2,i3⟩:=qn r;obtain⟨j,j1,j2,F⟩:=qm p;have q:=Z s (cJ _) (by omega);rw[show mid+(P.length+U.length)-1-s=e-1 by omega] at q;have a1:=kV (P.length+U.length+j) (e-1) (by omega) (by omega) (by omega);have a2:=kU s (P.length+i) (by omega) (by omega) (by omega);rw[O j y F] at a1;rw[R i x i3] at a2;omega
   have F2:∀x∈U.take (s-P.length),∀y∈V.drop (e-(P.length+U.length)),Č m x<=Č m y:=fun x r y p=>by
    obtain⟨i,i1,i2,i3⟩:=qm r;obtain⟨j,j1,j2,F⟩:=qn p;have q:=s3 (s-1) (by omega) (by omega);rw[show mid+(P.length+U.length)-1-(s-1)=e by omega] at q;have a1:=kV e (P.length+U.length+j) (by omega) (by omega) (by omega);have a2:=kU (P.length+i) (s-1) (by omega) (by omega) (by omega);rw[O j y F] at a1;rw[R i x i3] at a2;omega
   have hW':WOk m ((U.take (s-P.length)++U.drop (s-P.length))++(V.take (e-(P.length+U.length))++V.drop (e-(P.length+U.length)))):=by rw[<-hu,<-G]; exact hW
   have:=adn M (P:=P) (u1:=U.take (s-P.length)) (u2:=U.drop (s-P.length)) (v1:=V.take (e-(P.length+U.length))) (v2:=V.drop (e-(P.length+U.length))) (Q:=Q) (by omega) (by omega) (by rw[<-hu]; exact sU) (by rw[<-G]; exact sV) F1 F2 hW' (by omega)
    (a:=(P.length:Int)) (c:=((P.length+U.length:Nat):Int)) (b:=((P.length+U.length+V.length:Nat):Int)) (mid:=(mid:Int)) (n:=(mid:Int)+((P.length+U.length:Nat):Int)) (z:=(s:Int)) rfl (by omega) (by omega) (by omega) (by omega) (by omega)
   rw[<-hu,<-G,<-D] at this;exact this
  by_cases hgt:mid<P.length+U.length
  ·rw[æ (decide_eq_true (by omega)),Ù (by omega) (by omega),Ù (by omega) (by omega)];have:=gen (mid+(P.length+U.length)-(P.length+U.length+V.length)) mid (by omega) (by omega) (by omega) (cJ _) (by omega) (.inr rfl) (.inr (by omega));rw[show((mid+(P.length+U.length)-1:Nat):Int)=(mid:Int)+((P.length+U.length:Nat):Int)-1 by omega,show((mid+(P.length+U.length)-(P.length+U.length+V.length):Nat):Int)=(mid:Int)+((P.length+U.length:Nat):Int)-((P.length+U.length+V.length:Nat):Int) by omega] at this;exact this
  ·rw[Õ (decide_eq_false (by omega)),Ù (by omega) (by omega)];have:=gen P.length (P.length+U.length) (cJ _) (by omega) (cJ _) (by omega) (by omega) (.inl rfl) (.inl rfl);rw[show((mid+(P.length+U.length)-1:Nat):Int)=(mid:Int)+((P.length+U.length:Nat):Int)-1 by omega] at this;exact this
def Ie {P U V Q:w9 Way} (g:1<=U.length) (f:1<=V.length) (c:Srt (Č m) U) (a:Srt (Č m) V) (e:WOk m (U++V)) (d:P.length+U.length+V.length<=1000000) :
 Ċ (P++(U++(V++Q))) P.length ((P.length+U.length:Nat):Int) ((P.length+U.length+V.length:Nat):Int) m=some (P++(Ĵ (Č m) (U++V)++Q),m) :=
 FP 99 1000000 (by decide) P U V Q g f (by omega) c a e d
end
section
variable {ρ:Type} {m:ε}
inductive Chs (m:ε) (bs:Nat):List Way->Prop
 |last {l:List Way}:l.length<=bs->Srt (Č m) l->Chs m bs l
 |cons {u r:List Way}:u.length=bs->Srt (Č m) u->Chs m bs r->Chs m bs (u++r)
def Chs.split {bs:Nat} {l:w9 Way} (h:Chs m bs l) (d:bs<l.length):∃u r,l=u++r/\u.length=bs/\Srt (Č m) u/\Chs m bs r:=by
 cases h with
 |last a h2=>omega
 | @cons u r a h2 c=>exact⟨u,r,rfl,a,h2,c⟩
def Chs.srt {bs:Nat} {l:w9 Way} (h:Chs m bs l) (a:l.length<=bs):Srt (Č m) l:=by
 cases h with
 |last c h2=>exact h2
 | @cons u r c h2 d =>
  have:r=[]:=by
   rw[cN] at a;exact cZ.1 (by omega)
  rw[this,df];exact h2
def csR (m:ε) (bs:Nat):Nat->w9 Way->w9 Way
 |0,l=>l
 |f+1,l=>if bs<=l.length then Ĵ (Č m) (l.take bs)++csR m bs f (l.drop bs) else Ĵ (Č m) l
def mpR (m:ε) (bs:Nat):Nat->w9 Way->w9 Way
 |0,l=>l
 |f+1,l=>if 2*bs<=l.length then Ĵ (Č m) (l.take (2*bs))++mpR m bs f (l.drop (2*bs)) else if bs<l.length then Ĵ (Č m) l else l
def afr {bs:Nat} (hb:1<=bs):∀(f:Nat) (l:w9 Way),l.length<f->Chs m bs (csR m bs f l)/\Stb (Č m) l (csR m bs f l)
 |0,_,h=>by omega
 |f+1,l,h=>by
  unfold csR
  by_cases a:bs<=l.length
  ·rw[if_pos a];obtain⟨c,h2⟩:=afr hb f (l.drop bs) (by simp; omega);refine⟨.cons (by rw[pB]; simp; omega) (jJ _) c,?_⟩;have:=(ł (key:=Č m) (l.take bs)).append h2
   rwa [dT] at this
  ·rw[if_neg a];exact⟨.last (by rw[pB]; omega) (jJ _),ł _⟩
def afa {bs:Nat} (hb:1<=bs):∀(f:Nat) (l:w9 Way),l.length<f->Chs m bs l->Chs m (2*bs) (mpR m bs f l)/\Stb (Č m) l (mpR m bs f l)
 |0,_,h,_=>by omega
 |f+1,l,h,c=>by
  unfold mpR
  by_cases a:2*bs<=l.length
  ·rw[if_pos a]
   have hd:Chs m bs (l.drop (2*bs)):=by
    obtain⟨u,r,rfl,g,_,h2⟩:=c.split (by omega)
    have i:bs<=r.length:=by rw[cN] at a; omega
    have e:(u++r).drop (2*bs)=r.drop bs:=by
     rw[List.drop_append,fH (by omega),dC];congr 1; omega
    rw[e];rcases gk i with d|d
    ·obtain⟨u2,n,rfl,k,_,j⟩:=h2.split d;rw[List.drop_append,fH (by omega),dC,k,Nat.sub_self,f6];exact j
    ·rw[fH (by omega)];exact .last (by simp) List.Pairwise.nil
   obtain⟨g,h2⟩:=afa hb f (l.drop (2*bs)) (by simp; omega) hd;refine⟨.cons (by rw[pB]; simp; omega) (jJ _) g,?_⟩;have:=(ł (key:=Č m) (l.take (2*bs))).append h2
   rwa [dT] at this
  ·rw[if_neg a]
   by_cases h2:bs<l.length
   ·rw[if_pos h2];exact⟨.last (by rw[pB]; omega) (jJ _),ł _⟩
   ·rw[if_neg h2];exact⟨.last (by omega) (c.srt (by omega)),Stb.refl _⟩
abbrev StT:=Int×Int×w9 Way×Int×Int×w9 pl×w9 bl×w9 pi×w9 gf×w9 bl×w9 ek
def stM (a b:Int) (l:w9 Way) (m:ε):StT:=(a,b,l,m.1.1.1,m.1.1.2,m.1.2.1,m.1.2.2.1,m.1.2.2.2.1,m.1.2.2.2.2.1,m.1.2.2.2.2.2,m.2)
def WOk.stb {l s:w9 Way} (h:WOk m l) (c:Stb (Č m) l s):WOk m s:=fun x a=>h x (c.mem.1 a)
def afQ {xs:w9 Way} (F:WOk m xs) (H:xs.length<=100000) (K:w9 Way×ε->w8 ρ) :
 É (fun(v:StT) D=>Τ (xs.length:Int) (20:Int) v.1 v.2.1 v.2.2.1 v.2.2.2.1 v.2.2.2.2.1 v.2.2.2.2.2.1 v.2.2.2.2.2.2.1 v.2.2.2.2.2.2.2.1 v.2.2.2.2.2.2.2.2.1 v.2.2.2.2.2.2.2.2.2.1 v.2.2.2.2.2.2.2.2.2.2 (fun s r q p o n l k j i e=>D (s,r,q,p,o,n,l,k,j,i,e))
  (fun a=>Ã (ä a.2.1 a.1 (xs.length:Int) (((a.2.2.1,a.2.2.2.1),a.2.2.2.2.1,a.2.2.2.2.2.1,a.2.2.2.2.2.2.1,a.2.2.2.2.2.2.2.1,a.2.2.2.2.2.2.2.2.1),a.2.2.2.2.2.2.2.2.2)) fun t=>K t)) (stM 0 20 xs m)=K (csR m 20 (xs.length+1) xs,m):=by
 refine ġ (fun v:StT=>∃(A R:w9 Way) (f:Nat),v=stM (A.length:Int) ((A.length+20:Nat):Int) (A++R) m/\A++csR m 20 f R=csR m 20 (xs.length+1) xs/\R.length<f/\A.length+R.length=xs.length/\WOk m R) (fun v=>(xs.length+100)-v.1.toNat) ?_ ⟨[],xs,xs.length+1,rfl,rfl,by omega,by simp,F⟩;rintro v ⟨A,R,f,rfl,d,I,E,c⟩;obtain⟨f,rfl⟩:∃g,f=g+1:=⟨f-1,by omega⟩
 have G:csR m 20 (f+1) R=if 20<=R.length then Ĵ (Č m) (R.take 20)++csR m 20 f (R.drop 20) else Ĵ (Č m) R:=rfl
 rw[G] at d
 by_cases h:20<=R.length
 ·have lt:(R.take 20).length=20:=by simp; omega
  have u:(Ĵ (Č m) (R.take 20)).length=20:=by rw[pB,lt]
  refine .inr ⟨stM (((A++Ĵ (Č m) (R.take 20)).length:Nat):Int) (((A++Ĵ (Č m) (R.take 20)).length+20:Nat):Int) ((A++Ĵ (Č m) (R.take 20))++R.drop 20) m,⟨_,_,f,rfl,?_,by simp; omega,by rw[cN,u]; simp; omega,c.sub fun x y=>f9 y⟩,by simp only[stM,cN,u]; omega,fun B=>?_⟩
  ·rw[if_pos h] at d;rw[cS];exact d
  ·show ifb (ile ((A.length+20:Nat):Int) (xs.length:Int)) (Ã (ä (A++R) (A.length:Int) ((A.length+20:Nat):Int) m) fun z=>ck (((A.length+20:Nat):Int)+(20:Int)) fun C=>B (stM ((A.length+20:Nat):Int) C z.1 z.2)) _=_;have:=Gw (m:=m) (P:=A) (M:=R.take 20) (Q:=R.drop 20) (c.sub fun x y=>fg y) (by omega);rw[dT,lt] at this;rw[æ (decide_eq_true (by omega)),this,Á,Ù (by omega) (by omega)];congr 1;rw[cN,u,cS];rfl
 ·refine .inl fun B=>?_;show ifb (ile ((A.length+20:Nat):Int) (xs.length:Int)) _ (Ã (ä (A++R) (A.length:Int) (xs.length:Int) m) fun t=>K t)=_;have:=Gw (m:=m) (P:=A) (M:=R) (Q:=[]) c (by omega);rw[df,E] at this;rw[Õ (decide_eq_false (by omega)),this,Á];rw[if_neg h] at d;rw[<-d,df]
def afP {xs:w9 Way} {bs:Nat} (hb:1<=bs) (hb2:bs<=200000) (Z:Chs m bs xs) (hW:WOk m xs) (hn:xs.length<=100000) (K:w9 Way×ε->w8 ρ) :
 É (fun(v:StT) W=>Ο (xs.length:Int) (bs:Int) v.1 v.2.1 v.2.2.1 v.2.2.2.1 v.2.2.2.2.1 v.2.2.2.2.2.1 v.2.2.2.2.2.2.1 v.2.2.2.2.2.2.2.1 v.2.2.2.2.2.2.2.2.1 v.2.2.2.2.2.2.2.2.2.1 v.2.2.2.2.2.2.2.2.2.2 (fun G F E D C B z y t s p=>W (G,F,E,D,C,B,z,y,t,s,p))
  (fun a=>ck (a.1+(bs:Int)) fun c=>ifb (ilt c (xs.length:Int)) (Ã (Ċ a.2.1 a.1 c (xs.length:Int) (((a.2.2.1,a.2.2.2.1),a.2.2.2.2.1,a.2.2.2.2.2.1,a.2.2.2.2.2.2.1,a.2.2.2.2.2.2.2.1,a.2.2.2.2.2.2.2.2.1),a.2.2.2.2.2.2.2.2.2)) fun i=>K i) (K (a.2.1,(((a.2.2.1,a.2.2.2.1),a.2.2.2.2.1,a.2.2.2.2.2.1,a.2.2.2.2.2.2.1,a.2.2.2.2.2.2.2.1,a.2.2.2.2.2.2.2.2.1),a.2.2.2.2.2.2.2.2.2))))) (stM 0 ((2*bs:Nat):Int) xs m)=K (mpR m bs (xs.length+1) xs,m):=by
 refine ġ (fun v:StT=>∃(A R:w9 Way) (f:Nat),v=stM (A.length:Int) ((A.length+2*bs:Nat):Int) (A++R) m/\A++mpR m bs f R=mpR m bs (xs.length+1) xs/\R.length<f/\A.length+R.length=xs.length/\WOk m R/\Chs m bs R) (fun v=>(xs.length+1000000)-v.1.toNat) ?_ ⟨[],xs,xs.length+1,by simp[stM],rfl,by omega,by simp,hW,Z⟩;rintro v ⟨A,R,f,rfl,e,Y,n,j,l⟩;obtain⟨f,rfl⟩:∃g,f=g+1:=⟨f-1,by omega⟩
 have e0:mpR m bs (f+1) R=if 2*bs<=R.length then Ĵ (Č m) (R.take (2*bs))++mpR m bs f (R.drop (2*bs)) else if bs<R.length then Ĵ (Č m) R else R:=rfl
 rw[e0] at e
 by_cases h:2*bs<=R.length
 ·obtain⟨u,r,rfl,O,h2,o⟩:=l.split (by omega)
  have X:bs<=r.length:=by rw[cN] at h; omega
  -- the second block
  obtain⟨u2,d,rfl,I,h5,h6⟩:∃u2 d,r=u2++d/\u2.length=bs/\Srt (Č m) u2/\Chs m bs d:=by
   rcases gk X with q|q
   ·exact o.split q
   ·exact⟨r,[],by simp,q.symm,o.srt (by omega),.last (by simp) List.Pairwise.nil⟩
  have e1:(u++(u2++d)).take (2*bs)=u++u2:=by
   rw[<-cS,eE (by simp; omega),dN (by simp; omega)]
  have e2:(u++(u2++d)).drop (2*bs)=d:=by
   rw[<-cS,List.drop_append,fH (by simp; omega),dC];rw[show 2*bs-(u++u2).length=0 by simp; omega];rfl
  have H:(Ĵ (Č m) (u++u2)).length=2*bs:=by rw[pB]; simp; omega
  rw[if_pos h,e1,e2] at e;refine .inr ⟨stM (((A++Ĵ (Č m) (u++u2)).length:Nat):Int) (((A++Ĵ (Č m) (u++u2)).length+2*bs:Nat):Int) ((A++Ĵ (Č m) (u++u2))++d) m,⟨_,_,f,rfl,by rw[cS]; exact e,by simp at Y; omega,by rw[cN,H]; simp at n; omega,j.sub fun x k=>by simp[k],h6⟩,by simp only[stM,cN,H]; omega,fun M=>?_⟩;show ifb (ile ((A.length+2*bs:Nat):Int) (xs.length:Int)) (ck ((A.length:Int)+(bs:Int)) fun n6=>Ã (Ċ (A++(u++(u2++d))) (A.length:Int) n6 ((A.length+2*bs:Nat):Int) m) fun J=>ck ((2:Int)*(bs:Int)) fun T=>ck (((A.length+2*bs:Nat):Int)+T) fun S=>M (stM ((A.length+2*bs:Nat):Int) S J.1 J.2)) _=_
  have:=Ie (m:=m) (P:=A) (U:=u) (V:=u2) (Q:=d) (by omega) (by omega) h2 h5 (j.sub fun x k=>by rcases cO.1 k with k|k<;>simp[k]) (by omega)
  rw[O,I] at this;rw[List.length_append,List.length_append] at n;rw[æ (decide_eq_true (by omega)),Ù (by omega) (by omega),show(A.length:Int)+(bs:Int)=((A.length+bs:Nat):Int) by omega,show((A.length+2*bs:Nat):Int)=((A.length+bs+bs:Nat):Int) by omega,this,Á,Ù (by omega) (by omega),Ù (by omega) (by omega)];congr 1;unfold stM;rw[List.length_append,H,List.append_assoc];refine Prod.ext (by dsimp only; omega) (Prod.ext (by dsimp only; omega) rfl)
 ·refine .inl fun M=>?_;rw[if_neg h] at e;show ifb (ile ((A.length+2*bs:Nat):Int) (xs.length:Int)) _ (ck ((A.length:Int)+(bs:Int)) fun c=>ifb (ilt c (xs.length:Int)) (Ã (Ċ (A++R) (A.length:Int) c (xs.length:Int) m) fun i=>K i) (K (A++R,m)))=_;rw[Õ (decide_eq_false (by omega)),Ù (by omega) (by omega)]
  by_cases h2:bs<R.length
  ·rw[if_pos h2] at e;obtain⟨u,r,rfl,O,o,I⟩:=l.split h2;have:=Ie (m:=m) (P:=A) (U:=u) (V:=r) (Q:=[]) (by omega) (by rw[cN] at h2; omega) o (I.srt (by rw[cN] at h; omega)) j (by rw[cN] at n; omega);rw[df,df,show A.length+u.length+r.length=xs.length by rw[cN] at n; omega] at this;rw[æ (decide_eq_true (by omega)),show(A.length:Int)+(bs:Int)=((A.length+u.length:Nat):Int) by omega,this,Á,e]
  ·rw[if_neg h2] at e;rw[Õ (decide_eq_false (by omega)),e]
abbrev StQ:=Int×w9 Way×Int×Int×w9 pl×w9 bl×w9 pi×w9 gf×w9 bl×w9 ek
def stQ (b:Int) (l:w9 Way) (m:ε):StQ:=(b,l,m.1.1.1,m.1.1.2,m.1.2.1,m.1.2.2.1,m.1.2.2.2.1,m.1.2.2.2.2.1,m.1.2.2.2.2.2,m.2)
def ZM {xs:w9 Way} (B:WOk m xs) (C:xs.length<=100000):ĩ xs (xs.length:Int) m=some (Ĵ (Č m) xs,m):=by
 unfold ĩ iL;refine(afQ B C (fun y=>É (fun(a:StQ) d=>Ρ (xs.length:Int) a.1 a.2.1 a.2.2.1 a.2.2.2.1 a.2.2.2.2.1 a.2.2.2.2.2.1 a.2.2.2.2.2.2.1 a.2.2.2.2.2.2.2.1 a.2.2.2.2.2.2.2.2.1 a.2.2.2.2.2.2.2.2.2 (fun s q p o n k j i g f=>d (s,q,p,o,n,k,j,i,g,f)) (fun c=>some (c.1,(((c.2.1,c.2.2.1),c.2.2.2.1,c.2.2.2.2.1,c.2.2.2.2.2.1,c.2.2.2.2.2.2.1,c.2.2.2.2.2.2.2.1),c.2.2.2.2.2.2.2.2)))) (stQ (20:Int) y.1 y.2))).trans ?_;obtain⟨G,F⟩:=afr (m:=m) (bs:=20) (by omega) (xs.length+1) xs (by omega);refine ġ (fun v:StQ=>∃(bs:Nat) (l:w9 Way),1<=bs/\bs<=200000/\v=stQ (bs:Int) l m/\Chs m bs l/\Stb (Č m) xs l) (fun v=>400000-v.1.toNat) ?_ ⟨20,_,by omega,by omega,rfl,G,F⟩;rintro v ⟨bs,l,hb,x,rfl,u,e⟩;have A:=e.length
 by_cases h:bs<xs.length
 ·obtain⟨E,D⟩:=afa hb (l.length+1) l (by omega) u;refine .inr ⟨stQ ((2*bs:Nat):Int) (mpR m bs (l.length+1) l) m,⟨2*bs,_,by omega,by omega,rfl,E,e.trans D⟩,by simp only[stQ]; omega,fun z=>?_⟩;have:=afP (m:=m) (xs:=l) hb x u (B.stb e) (by omega) (fun r=>ck ((bs:Int)*(2:Int)) fun t=>z (stQ t r.1 r.2));rw[A] at this;show ifb (ilt (bs:Int) (xs.length:Int)) (ck ((2:Int)*(bs:Int)) fun H=>_) _=_;rw[æ (decide_eq_true (by omega)),Ù (by omega) (by omega),show(2:Int)*(bs:Int)=((2*bs:Nat):Int) by push_cast; rfl];rw[A];refine fe ?_ (this.trans ?_)
  ·rfl
  ·rw[Ù (by omega) (by omega)];congr 2;omega
 ·refine .inl fun z=>?_;show ifb (ilt (bs:Int) (xs.length:Int)) _ (some (l,m))=_;rw[Õ (decide_eq_false (by omega)),uE (u.srt (by omega)) e]
end
abbrev Mx:=Int×w9 Int
def ŏ:w9 Mx->Way->Prop
 |[],[]=>True
 |m::ms,l::ls=>l.Perm m.2/\ŏ ms ls
 |_,_=>False
def ŏ.len:∀{ms:w9 Mx} {w:Way},ŏ ms w->w.length=ms.length
 |[],[],_=>rfl
 |m::ms,l::ls,h=>by simp[h.2.len]
def ŏ.at:∀{ms:w9 Mx} {w:Way} {i:Nat} {m:Mx},ŏ ms w->ms[i]?=some m->∃l,w[i]?=some l/\l.Perm m.2
 |[],_,i,_,_,h=>by simp at h
 |m::ms,l::ls,0,x,h,a=>by
  simp at a; subst a;exact⟨l,rfl,h.1⟩
 |m::ms,l::ls,i+1,x,h,a=>by
  simp only[fV] at a ⊢;exact h.2.at a
def stp (d:Int) (m:Mx) (l:w9 Int) (x:Int):Int :=
 if m.1<d then match l.findIdx? (·==x) with|some k=>m.2.getD k 0|none=>x else x
def jD:w9 Mx->Way->Int->Int->Int
 |m::ms,l::ls,x,d=>stp d m l (jD ms ls x d)
 |_,_,x,_=>x
def adh {ms:w9 Mx} {w:Way} {i:Nat} {m:Mx} {l:w9 Int} (a:ms[i]?=some m) (c:w[i]?=some l) (x d:Int):jD (ms.drop i) (w.drop i) x d=stp d m l (jD (ms.drop (i+1)) (w.drop (i+1)) x d):=by
 obtain⟨e,rfl⟩:=cQ.1 a;obtain⟨h2,rfl⟩:=cQ.1 c;rw[du e,du h2,jD]
def who_ok {m:ε} {w:Way} (h:ŏ m.2 w) (u:m.2.length<=1000) (p:∀x∈m.2,x.2.length<=1000) (x d:Int):pG m w x d=some (jD m.2 w x d):=by
 unfold pG aaK;rw[â,Ù (by omega) (by omega)];refine ġ (fun s:Int×Int=>∃i:Nat,i<=m.2.length/\s.2=(i:Int)-1/\s.1=jD (m.2.drop i) (w.drop i) x d) (fun s=>(s.2+1).toNat) ?_ ⟨m.2.length,Nat.le_refl _,rfl,?_⟩
 ·rintro⟨t,r⟩ ⟨i,hi,g,h2⟩;simp only at g h2;subst g h2
  cases i with
  |zero =>
   refine .inl fun n=>?_
   try dsimp only
   unfold xY;rw[Õ (by simp[ige])]; rfl
  |succ i =>
   obtain⟨y,a⟩:∃y,m.2[i]?=some y:=⟨_,cI hi⟩;obtain⟨l,c,e⟩:=h.at a
   have o:l.length<=1000:=by rw[e.length_eq]; exact p y (cY a)
   have j:((i+1:Nat):Int)-1=i:=by omega
   refine .inr ⟨(jD (m.2.drop i) (w.drop i) x d,(i:Int)-1),⟨i,by omega,rfl,rfl⟩,by simp only[j]; omega,fun n=>?_⟩
   try dsimp only
   unfold xY;rw[j,æ (by simp[ige]),È c,TF (by omega),Á,adh a c];unfold stp
   cases q:l.findIdx? (·==jD (m.2.drop (i+1)) (w.drop (i+1)) x d) with
   |none =>
    dsimp only;rw[Õ (by simp[ige]),Ù (by omega) (by omega)]
    split<;>rfl
   |some k =>
    dsimp only;rw[æ (by simp[ige]),È a]
    have f:k<y.2.length:=by rw[<-e.length_eq]; exact(dK.1 q).1
    by_cases hd:y.1<d
    ·rw[æ (by simp[ilt,hd]),È a,È (cI f),Ù (by omega) (by omega),if_pos hd];rw[dZ,cI f]; rfl
    ·rw[Õ (by simp[ilt,hd]),Ù (by omega) (by omega),if_neg hd]
 ·simp only[List.drop_length];rw[<-h.len,List.drop_length];unfold jD;rfl
def TT:w9 Int->w9 Int->Int
 |x::l,y::m=>(if y=x then 0 else 1)+TT l m
 |_,_=>0
def LM:w9 Mx->Way->Int
 |m::ms,l::ls=>TT l m.2+LM ms ls
 |_,_=>0
def Qu:∀{l m:w9 Int} {k:Nat} {x y:Int},l[k]?=some x->m[k]?=some y->TT (l.take (k+1)) (m.take (k+1))=TT (l.take k) (m.take k)+if y=x then 0 else 1
 |[],_,_,_,_,h,_=>by simp at h
 |_::_,[],_,_,_,_,h=>by simp at h
 |a::l,b::m,0,x,y,c,h2=>by
  simp at c h2; subst c h2;simp[TT]
 |a::l,b::m,k+1,x,y,c,h2=>by
  simp only[fV] at c h2;have:=Qu c h2;simp only[List.take_succ_cons,TT,this]; omega
def Qt:∀{ms:w9 Mx} {w:Way} {k:Nat} {m:Mx} {l:w9 Int},ms[k]?=some m->w[k]?=some l->LM (ms.take (k+1)) (w.take (k+1))=LM (ms.take k) (w.take k)+TT l m.2
 |[],_,_,_,_,h,_=>by simp at h
 |_::_,[],_,_,_,_,h=>by simp at h
 |a::l,b::m,0,x,y,c,h2=>by
  simp at c h2; subst c h2;simp[LM]
 |a::l,b::m,k+1,x,y,c,h2=>by
  simp only[fV] at c h2;have:=Qt c h2;simp only[List.take_succ_cons,LM,this]; omega
def TS:∀l m:w9 Int,0<=TT l m/\TT l m<=m.length
 |[],m=>by simp[TT]
 |_::_,[]=>by simp[TT]
 |a::l,b::m=>by
  have:=TS l m;unfold TT;simp only[List.length_cons]
  split<;>omega
def Zq {n:Nat}:∀{ms:w9 Mx} {w:Way},(∀m∈ms,m.2.length<=n)->0<=LM ms w/\LM ms w<=(ms.length*n:Nat)
 |[],w,_=>by simp[LM]
 |m::ms,[],_=>by
  unfold LM; exact⟨Int.le_refl _,Int.natCast_nonneg _⟩
 |m::ms,l::ls,h=>by
  have d:=TS l m.2;have h2:=h m (by simp);have c:=Zq (w:=ls) fun x a=>h x (List.mem_cons_of_mem _ a);unfold LM
  have:(m::ms).length*n=ms.length*n+n:=by rw[cV,Nat.succ_mul]
  omega
def afE {n:Nat} {ms:w9 Mx} (d:ms.length<=1000) (c:∀x∈ms,x.2.length<=1000) (w:Way) (i:Nat):0<=LM (ms.take i) w/\LM (ms.take i) w<=1000000:=by
 have e:=Zq (n:=1000) (ms:=ms.take i) (w:=w) fun m a=>c m (fg a);have h2:(ms.take i).length*1000<=1000*1000:=dv _ (by rw[dh]; omega);omega
def Zr {m:ε} {w:Way} (h:ŏ m.2 w) (B:m.2.length<=1000) (z:∀x∈m.2,x.2.length<=1000):Ĩ m w=some (LM m.2 w):=by
 unfold Ĩ NJ;have f:=h.len;refine ġ (fun s:Int×Int=>∃i:Nat,i<=w.length/\s.2=(i:Int)/\s.1=LM (m.2.take i) (w.take i)) (fun s=>w.length-s.2.toNat) ?_ ⟨0,Nat.zero_le _,rfl,by simp[LM]⟩;rintro⟨I,H⟩ ⟨i,hi,g,h2⟩;simp only at g h2;subst g h2;rcases Nat.lt_or_ge i w.length with e|E
 ·obtain⟨y,j⟩:∃y,m.2[i]?=some y:=⟨_,cI (by omega)⟩;obtain⟨l,q,o⟩:=h.at j
  have C:l.length<=1000:=by rw[o.length_eq]; exact z y (cY j)
  refine .inr ⟨(LM (m.2.take (i+1)) (w.take (i+1)),(i:Int)+1),⟨i+1,e,by simp,rfl⟩,by simp only[dc]; omega,fun p=>?_⟩
  try dsimp only
  unfold nZ;rw[Ñ e,È q];have hb:=afE (n:=0) B z (w.take i) i;refine ġ (fun s:Int×Int=>∃k:Nat,k<=l.length/\s.2=(k:Int)/\s.1=LM (m.2.take i) (w.take i)+TT (l.take k) (y.2.take k)) (fun s=>l.length-s.2.toNat) ?_ ⟨0,Nat.zero_le _,rfl,by simp[TT]⟩;rintro⟨t1,t2⟩ ⟨k,J,g,h2⟩;simp only at g h2;subst g h2;have G:=TS (l.take k) (y.2.take k)
  have F:(y.2.take k).length<=1000:=by rw[dh]; omega
  rcases dA k l.length with c|D
  ·obtain⟨u,t⟩:∃u,l[k]?=some u:=⟨_,cI c⟩;obtain⟨v,r⟩:∃v,y.2[k]?=some v:=⟨_,cI (by rw[<-o.length_eq]; exact c)⟩;refine .inr ⟨(LM (m.2.take i) (w.take i)+TT (l.take (k+1)) (y.2.take (k+1)),(k:Int)+1),⟨k+1,c,by simp,rfl⟩,by simp only[dc]; omega,fun p=>?_⟩
   try dsimp only
   unfold nY;rw[Ñ c,È t,È j,È r,Qu t r]
   by_cases a:v=u
   ·rw[Õ (by simp[ine,a]),Ù (by omega) (by omega),if_pos a]; simp
   ·rw[æ (by simp[ine,a]),Ù (by omega) (by omega),Ù (by omega) (by omega),if_neg a,Int.add_assoc]
  ·refine .inl fun A=>?_
   have d:k=l.length:=by omega
   subst d
   try dsimp only
   unfold nY;rw[é];dsimp only;rw[Ù (by omega) (by omega),Qt j q,List.take_length,o.length_eq,List.take_length]
 ·refine .inl fun p=>?_
  have d:i=w.length:=by omega
  subst d
  try dsimp only
  unfold nZ;rw[é,List.take_length,f,List.take_length]
def ahh (b:ċ) (g d:Int):Bool×Int:=if LB b g [d]≠0 then(false,LB b g [d]) else((ow b g d).isSome,0)
def ahg {b:ċ} (h:In b) (g d:Int):yw b g d=some (ahh b g d):=by
 have a:=h.size.loans;unfold yw WE ahh;rw[acN h g (by simp),Á]
 by_cases ha:LB b g [d]=0
 ·rw[Õ (by simp[ine,ha]),acJ (by omega),Á,if_neg (by simpa using ha)]
  cases ow b g d<;>rfl
 ·rw[æ (by simp[ine,ha]),if_pos ha]
section
variable {ρ:Type}
def N3 {α σ:Type} (l:w9 α) (g:Nat->σ) (r:w8 ρ) {f:σ×Int->(σ×Int->w8 ρ)->w8 ρ} {s0:σ} (P:Nat->Prop) (h0:g 0=s0) (q:P 0)
 (h:∀(i:Nat) (a:α),i<l.length->l[i]?=some a->P i->∀c,f (g i,i) c=r\/(P (i+1)/\f (g i,i) c=c (g (i+1),(i:Int)+1)))
 (n:P l.length->∀c,f (g l.length,l.length) c=r):É f (s0,0)=r:=by
 subst h0;refine DM (F:=fun _=>r) (fun x=>∃i:Nat,i<=l.length/\x=(g i,(i:Int))/\P i) (fun x=>l.length-x.2.toNat) (fun x k c o=>?_) ⟨0,dI _,rfl,q⟩;obtain⟨i,hi,rfl,j⟩:=k;rcases dA i l.length with d|p
 ·rcases h i _ d (cI d) j c with e|⟨e,h2⟩
  ·exact e
  ·rw[h2,o _ ⟨i+1,d,by simp,e⟩ (by simp; omega)]
 ·have:i=l.length:=by omega
  subst this;exact n j c
def ad1 {l:w9 Int} {f:Int->(Int->w8 ρ)->w8 ρ} {K q:w8 ρ} (h:∀(i:Nat) (a b:Int),l[i]?=some a->l[i+1]?=some b->∀c,f ((i:Int)+1) c=if b<=a then K else c ((i:Int)+1+1))
 (t:∀n:Nat,l.length<=n->∀c,f n c=q):É f 1=if l.Pairwise (·<·) then q else K:=by
 have hb:=H7 (fun x:Int=>x) l;refine ġ (fun x=>∃i:Nat,x=(i:Int)+1/\∀j a,j<=i->l[j]?=some a->tO (fun x=>x) l j a=false) (fun x=>l.length-x.toNat) ?_ ⟨0,rfl,fun j a g _=>?_⟩
 ·rintro x ⟨i,rfl,hi⟩;rcases dA (i+1) l.length with o|p
  ·have ha:l[i]?=some l[i]:=cI (by omega);have k:l[i+1]?=some l[i+1]:=cI o
   by_cases d:l[i+1]<=l[i]
   ·refine .inl fun c=>?_;rw[h i _ _ ha k,if_pos d,if_neg];intro s;have:=hb.2 s (i+1) _ k;simp[tO,ha,d] at this
   ·refine .inr ⟨(i:Int)+1+1,⟨i+1,by simp,fun j a g e=>?_⟩,by omega,fun c=>by rw[h i _ _ ha k,if_neg d]⟩;rcases dA i j with r|r
    ·have:j=i+1:=by omega
     subst this;rw[k] at e; cases e;simp[tO,ha]; omega
    ·exact hi j a r e
  ·refine .inl fun c=>?_;have:=t (i+1) p c;simp only[Int.natCast_add,Int.cast_ofNat_Int] at this;rw[this,if_pos];refine hb.1 fun j a g=>hi j a ?_ g;have:=(cQ.1 g).1;omega
 ·have:j=0:=by omega
  subst this; simp[tO]
end
def mixE (b:ċ) (l:w9 Mx) (i:Nat) (x:Mx):Int :=
 if !(inP x.1 0 19999&&inP x.2.length 2 5) then 1 else
 if ¬x.2.Pairwise (·<·) then 1 else
 if x.2.any (fun g=>(Ă b g).isNone) then 5 else
 if x.2.any (fun g=>FS b g x.1 != 0) then 4 else
 if tO (fun y=>y.1) l i x then 6 else
 if x.2.any (fun g=>(ow b g x.1).isSome||(ow b g (x.1+1)).isSome) then 9 else 0
def UV:Nat->Nat
 |0=>1
 |n+1=>UV n*(n+1)
def yH:w9 Mx->Nat
 |[]=>1
 |x::r=>UV x.2.length*yH r
def No:∀{l:w9 Mx} {i:Nat} {x:Mx},l[i]?=some x->yH (l.take (i+1))=yH (l.take i)*UV x.2.length
 |[],_,_,h=>by simp at h
 |y::l,0,x,h=>by simp at h; subst h; simp[yH]
 |y::l,i+1,x,h=>by
  simp only[fV] at h;simp only[List.take_succ_cons,yH,No h,Nat.mul_assoc]
def abN:∀{n:Nat},n<=5->UV n<=120
 |0,_|1,_|2,_|3,_|4,_|5,_=>by decide
 |n+6,h=>by omega
def VQ:∀{l:w9 Mx} {n:Nat},l.length<=n->(∀x∈l,x.2.length<=5)->yH l<=120 ^ n
 |[],n,_,_=>Nat.one_le_pow _ _ (by decide)
 |x::l,0,h,_=>by simp at h
 |x::l,n+1,h,a=>by
  have d:=VQ (l:=l) (n:=n) (by simpa using h) fun y c=>a y (dF _ c);have h2:=abN (a x (by simp));rw[yH,Nat.pow_succ,Nat.mul_comm];exact fQ d h2
def NE (b:ċ) (l:w9 Mx):w8 Int:=ņ (fun i x=>agM (mixE b l i x)) 0 l
def jv (m:ε):Int :=
 if il m.1≠0 then il m.1 else if 4<m.2.length then 2 else match NE m.1 m.2 with
 |some e=>e
 |none=>if 150<yH m.2 then 2 else 0
def IQ (l:w9 Ą):w9 (Int×Int):=l.foldl (fun m g=>Pb (k:=tI) (v:=tI) g.1 g.2.1 m) []
def NF (x y n:Int):∀m:w9 (Int×Int),vd (k:=tI) (v:=tI) x (Pb (k:=tI) (v:=tI) y n m)=if x=y then some n else vd (k:=tI) (v:=tI) x m
 |[]=>by
  unfold Pb vd jh vd
  by_cases h:x=y<;>simp[h]
 |e::m=>by
  unfold Pb
  by_cases h:y=e.1
  ·have:jh tI y e.1=true:=by simp[jh,h]
   rw[this];simp only;unfold vd
   by_cases a:x=y
   ·subst a; simp[jh]
   ·have:jh tI x y=false:=by simp[jh,a]
    have h2:jh tI x e.1=false:=by simp[jh,<-h,a]
    rw[this,if_neg a];simp only[h2]
  ·have:jh tI y e.1=false:=by simp[jh,h]
   rw[this];simp only;unfold vd
   by_cases a:x=e.1
   ·subst a;rw[if_neg (fun e=>h e.symm)];simp[jh]
   ·have h2:jh tI x e.1=false:=by simp[jh,a]
    rw[h2];exact NF x y n m
def Yf (x:Int) (l:w9 Ą):vd (k:=tI) (v:=tI) x (IQ l)=(l.reverse.find? fun g=>g.1==x).map fun g=>g.2.1:=by
 have key:∀r:w9 Ą,vd (k:=tI) (v:=tI) x (IQ r.reverse)=(r.find? fun g=>g.1==x).map fun g=>g.2.1:=by
  intro r
  induction r with
  |nil=>rfl
  |cons g r a =>
   rw[List.reverse_cons,IQ,List.foldl_append];simp only[eO,List.foldl_nil];rw[NF,gj]
   by_cases h:x=g.1
   ·subst h; simp
   ·have:(g.1==x)=false:=by simp; exact fun e=>h e.symm
    rw[if_neg h,this];exact a
 have:=key l.reverse
 rwa [List.reverse_reverse] at this
def aaF {b:ċ} (h:b.2.1.Pairwise fun a b=>a.1<b.1) (x:Int):vd (k:=tI) (v:=tI) x (IQ b.2.1)=(Ă b x).map fun g=>g.2.1:=by
 rw[Yf,Gy h]; rfl
def SG {ρ:Type} {b:ċ} (h:b.2.1.Pairwise fun a b=>a.1<b.1) (x:Int) (f:Int->w8 ρ) (g:w8 ρ):N8 (k:=tI) (v:=tI) x (IQ b.2.1) f g=match Ă b x with|some y=>f y.2.1|none=>g:=by
 unfold N8;rw[aaF h]
 cases Ă b x<;>rfl
section
variable {ρ:Type} {b:ċ}
def mix_L0 {l:w9 Int} (k:l.length<=1000) (k0:Int->w8 ρ) (d:Unit->w8 ρ):É (fun(v:Int) h=>mD l v (fun u=>h u) k0 d) 1=if l.Pairwise (·<·) then d () else k0 1:=by
 refine ad1 (fun i a c ha f g=>?_) (fun n j g=>?_)
 ·have hi:=(List.getElem?_eq_some_iff.1 f).1;unfold mD
  have e:((i:Int)+1)=((i+1:Nat):Int):=by omega
  rw[e,Ñ hi,È f,Ù (by omega) (by omega),<-e,Int.add_sub_cancel,È ha,Ġ,Ù (by omega) (by omega)];simp
 ·unfold mD;rw[Õ (by simp[ilt,â]; omega)]
def mix_L1 (e:b.2.1.length<=1000) (k0:w9 (Int×Int)->w8 ρ):É (fun(v:Int×w9 (Int×Int)) d=>mC b.2.1 (Ô b.2.1) v.1 v.2 (fun u v=>d (u,v)) k0) ((0:Int),[])=k0 (IQ b.2.1):=by
 refine Ζ b.2.1 (fun i=>IQ (b.2.1.take i)) _ rfl (fun i g hi a c=>?_) (fun c=>?_)
 ·try dsimp only
  unfold mC;rw[Ñ hi,È a,Î hi (by omega)];congr 2;rw[take_succ a,IQ,IQ,List.foldl_append];rfl
 ·try dsimp only
  unfold mC;rw[é,List.take_length]
def mix_L2 (hi:b.2.1.Pairwise fun a b=>a.1<b.1) {l:w9 Int} (f:l.length<=1000) (X Y Z:w8 ρ):É (fun(v:Int) e=>mB l (Ô l) (IQ b.2.1) v (fun u=>e u) (fun z=>ifb (ige z (0:Int)) X Y) (fun _=>Z)) 0=if l.any (fun g=>(Ă b g).isNone) then X else Z:=by
 refine gS l _ (fun z=>ifb (ige z (0:Int)) X Y) X Z (fun j=>æ (by simp[ige]) _ _) (fun i a c ha d=>?_) (fun d=>?_)
 ·unfold mB;rw[Ñ c,È ha,SG hi,Î c (by omega)]
  cases Ă b a<;>rfl
 ·unfold mB;rw[é]
def mix_L3 (hi:b.2.1.Pairwise fun a b=>a.1<b.1) {l:w9 Int} (o:l.length<=1000) (k:∀x∈l,∃g,Ă b x=some g) (d:Int) (X Y Z:w8 ρ):É (fun(v:Int) f=>kp l (Ô l) d (IQ b.2.1) v (fun u=>f u) (fun z=>ifb (ige z (0:Int)) X Y) (fun _=>Z)) 0=if l.any (fun g=>FS b g d != 0) then X else Z:=by
 refine gS l _ (fun z=>ifb (ige z (0:Int)) X Y) X Z (fun j=>æ (by simp[ige]) _ _) (fun i a c ha e=>?_) (fun e=>?_)
 ·unfold kp;rw[Ñ c,È ha,SG hi,Î c (by omega)];obtain⟨g,n⟩:=k a (List.mem_of_getElem? ha);unfold FS;rw[n];dsimp only;rw[Ġ]
  by_cases h:d<g.2.1<;>simp[ilt,h]
 ·unfold kp;rw[é]
def mix_L4 (h:kE b) {l:w9 Int} (r:l.length<=1000) (p:∀x∈l,∃g,Ă b x=some g) {d:Int} (hd:0<=d/\d<20000) (X Y Z:w8 ρ):É (fun(v:Int) o=>ļ l (Ô l) b.1.1 b.1.2 b.2.1 b.2.2.1 b.2.2.2.1 b.2.2.2.2.1 b.2.2.2.2.2 d v (fun u=>o u) (fun z=>ifb (ige z (0:Int)) X Y) (fun _=>Z)) 0=if l.any (fun g=>(ow b g d).isSome||(ow b g (d+1)).isSome) then X else Z:=by
 refine gS l _ (fun z=>ifb (ige z (0:Int)) X Y) X Z (fun j=>æ (by simp[ige]) _ _) (fun i a c ha n=>?_) (fun n=>?_)
 ·unfold ļ;obtain⟨g,f⟩:=p a (List.mem_of_getElem? ha)
  have k:∀e,0<=e->e<=20000->yw ((b.1.1,b.1.2),b.2.1,b.2.2.1,b.2.2.2.1,b.2.2.2.2.1,b.2.2.2.2.2) a e=some ((ow b a e).isSome,0):=fun e h0 q=>by
   rw[show(((b.1.1,b.1.2),b.2.1,b.2.2.1,b.2.2.2.1,b.2.2.2.2.1,b.2.2.2.2.2):ċ)=b from rfl,ahg ⟨h.size,fun g f=>by have:=(h.gaugeR f).2.1; unfold I64; omega⟩]
   have:LB b a [e]=0:=by
    unfold LB;rw[if_neg (by simp[(iy b).2 h]),if_neg (by simp[Le,inP,h0,q]),xX h.ids,f]; rfl
   unfold ahh;rw[if_neg (by simp[this])]
  rw[Ñ c,È ha,k d hd.1 (by omega),Á,Ù (by omega) (by omega),k (d+1) (by omega) (by omega),Á,Î c (by omega)];dsimp only
  cases(ow b a d).isSome<;>cases(ow b a (d+1)).isSome<;>rfl
 ·unfold ļ;rw[é]
end
def aed {b:ċ} (h:kE b) {l:w9 Mx} {i:Nat} {x:Mx} (n:l[i]?=some x) (p:i<=1000):D0 b l i=some (mixE b l i x):=by
 unfold D0 Je mixE;rw[È n]
 by_cases c:inP x.1 0 19999=true/\inP (x.2.length:Int) 2 5=true
 ·obtain⟨c,h2⟩:=c;rw[if_neg (by simp[c,h2])];simp only[inP,cM,decide_eq_true_eq] at c h2
  have j:x.2.length<=1000:=by omega
  rw[Õ (by simp[ilt]; omega),Õ (by simp[ige]; omega),Õ (by simp[ilt,â]; omega),Õ (by simp[igt,â]; omega),mix_L0 j]
  by_cases d:x.2.Pairwise (·<·)
  ·rw[if_pos d,if_neg (by simpa using d)]
   try dsimp only
   rw[mix_L1 (by have:=h.nG; omega),mix_L2 h.ids j]
   by_cases a:(x.2.any fun g=>(Ă b g).isNone)=true
   ·rw[if_pos a,if_pos a]
   ·have o:∀y∈x.2,∃g,Ă b y=some g:=fun y f=>by
     simp only[dU,not_exists,not_and,Option.isNone_iff_eq_none] at a;exact Option.ne_none_iff_exists'.1 (a y f)
    rw[if_neg a,if_neg a,mix_L3 h.ids j o]
    by_cases k:(x.2.any fun g=>FS b g x.1 != 0)=true
    ·rw[if_pos k,if_pos k]
    ·rw[if_neg k,if_neg k,mix_L4 h j o (by omega)]
     cases i with
     |zero =>
      rw[Õ (by simp[igt]),if_neg (show ¬tO (fun y:Mx=>y.1) l 0 x=true by simp[tO])]
      split<;>rfl
     |succ i =>
      obtain⟨hi,_⟩:=cQ.1 n;have f:l[i]?=some l[i]:=cI (by omega)
      have e:((i+1:Nat):Int)-1=i:=by omega
      rw[æ (by simp[igt]),Ù (by omega) (by omega),e,È f,Ġ];unfold tO;simp only[Nat.add_sub_cancel,f,Option.any_some,Nat.succ_pos,decide_true,Bool.true_and,ile,decide_eq_true_eq]
      split
      ·rfl
      ·split<;>rfl
  ·rw[if_neg d,if_pos d]
 ·rw[if_pos (by simp only[dW]; cases h2:inP x.1 0 19999<;>cases d:inP (x.2.length:Int) 2 5<;>simp_all)]
  simp only[inP,cM,decide_eq_true_eq,not_and,Int.not_le] at c;simp only[Ġ,ilt,ige,igt,â,decide_eq_true_eq]
  split
  ·rfl
  split
  ·rfl
  split
  ·rfl
  rw[if_pos (by have:=c (by omega); omega)]
def Pd {b:ċ} {l:w9 Mx} {i:Nat} {x:Mx} (h:mixE b l i x=0):x.2.length<=5:=by
 unfold mixE at h
 split at h
 ·cases h
 ·rename_i a;simp[inP] at a;omega
def aen {n v:Nat} (h:n<=5) (f:v<=1000000000) {ρ:Type} (k0:Int->w8 ρ):É (fun(u:Int×Int) d=>mG (GP n) u.1 u.2 (fun a b=>d (a,b)) k0) ((v:Int),(0:Int))=k0 ((v*UV n:Nat):Int):=by
 refine N3 (List.range n) (fun i=>((v*UV i:Nat):Int)) _ (fun _=>True) (by simp[UV]) trivial (fun i a hi ha _ c=>.inr ⟨trivial,?_⟩) (fun _ c=>?_)
 ·rw[f5] at hi
  try dsimp only
  unfold mG;have g:=abN (n:=i) (by omega);have hb:v*UV i<=1000000000*120:=Nat.mul_le_mul f g;have h2:v*UV i*(i+1)<=1000000000*120*6:=Nat.mul_le_mul hb (by omega)
  have e:((v*UV i:Nat):Int)*((i:Int)+1)=((v*UV i*(i+1):Nat):Int):=by simp
  rw[afk hi,Ù (by omega) (by omega),e,Ù (by omega) (by omega),Ù (by omega) (by omega),UV,Nat.mul_assoc]
 ·rw[f5]
  try dsimp only
  unfold mG;rw[é]
def aaD {b:ċ} {l:w9 Mx} {i:Nat} {x:Mx} (f:l[i]?=some x) (h:∀j y,j<i->l[j]?=some y->mixE b l j y=0) (o:mixE b l i x≠0):NE b l=some (mixE b l i x):=by
 have key:∀(m:w9 Mx) (k:Nat),l.drop k=m->k<=i->ņ (fun i x=>agM (mixE b l i x)) k m=some (mixE b l i x):=by
  intro m
  induction m with
  |nil =>
   intro k c e;have:=List.drop_eq_nil_iff.1 c;have:=(cQ.1 f).1;omega
  |cons y m g =>
   intro k c e
   have d:l[k]?=some y:=by
    have:(l.drop k)[0]?=some y:=by rw[c]; rfl
    simpa using this
   rw[ņ];rcases dA k i with a|n
   ·rw[h k y a d];simp only[agM,if_true];refine g (k+1) ?_ a;rw[<-List.tail_drop,c]; rfl
   ·have:k=i:=by omega
    subst this;rw[f] at d; cases d;simp[agM,o]
 exact key l 0 rfl (dI _)
def IJ {b:ċ} {l:w9 Mx} (c:∀j y,l[j]?=some y->mixE b l j y=0):NE b l=none:=by
 rw[NE,gW];intro j y a;rw[dB,c j y a]; rfl
def Tl {m:ε} (g:In m.1):Œ m=some (jv m):=by
 unfold Œ RX jv;rw[Qp g.size g.num,Á]
 by_cases f:il m.1=0
 ·have q:=(iy _).1 f;rw[Õ (by simp[ine,f]),if_neg (by simp[f])]
  by_cases o:4<m.2.length
  ·rw[æ (by simp[igt,â]; omega),if_pos o]
  ·rw[Õ (by simp[igt,â]; omega),if_neg o];refine N3 m.2 (fun i=>((yH (m.2.take i):Nat):Int)) _ (fun i=>∀j y,j<i->m.2[j]?=some y->mixE m.1 m.2 j y=0) (by simp[yH]) (fun j y h _=>by omega) (fun i x hi c d p=>?_) (fun d p=>?_)
   ·try dsimp only
    unfold qL;rw[Ñ hi,È c,show(((m.1.1.1,m.1.1.2),m.1.2.1,m.1.2.2.1,m.1.2.2.2.1,m.1.2.2.2.2.1,m.1.2.2.2.2.2):ċ)=m.1 from rfl,aed q c (by omega),Á]
    by_cases e:mixE m.1 m.2 i x=0
    ·rw[Õ (by simp[ine,e])]
     have s:∀y∈m.2.take i,y.2.length<=5:=fun y a=>by
      obtain⟨j,k,rfl⟩:=dg.1 a;rw[dh] at k;rw[f0];exact Pd (d j _ (by omega) (cI (by omega)))
     have hb:=VQ (l:=m.2.take i) (n:=4) (by rw[dh]; omega) s
     have r:(120:Nat) ^ 4=207360000:=by decide
     refine .inr ⟨fun j y k a=>?_,?_⟩
     ·rcases dA j i with h|h
      ·exact d j y h a
      ·have:j=i:=by omega
       subst this;rw[c] at a; cases a;exact e
     ·rw[aen (Pd e) (by omega),Î hi (by omega),No c]
    ·refine .inl ?_;rw[æ (by simp[ine,e]),aaD c d e]
   ·try dsimp only
    unfold qL;rw[é,IJ fun j y a=>d j y (List.getElem?_eq_some_iff.1 a).1 a,List.take_length];dsimp only;rw[Ġ];simp only[igt,decide_eq_true_eq]
    by_cases h:150<yH m.2
    ·rw[if_pos (by omega),if_pos h]
    ·rw[if_neg (by omega),if_neg h]
 ·rw[æ (by simp[ine,f]),if_pos f]
def P2 {m:ε} (a:In m.1) (c:m.2.length<=1000):Œ m=some (jv m):=Tl a
def QS {α:Type} [DecidableEq α] {l m:w9 α} (e:l.length=m.length) (h:ņ (fun i a=>if m[i]?=some a then none else some false) 0 l=none):l=m:=by
 have:=gW.1 h;refine List.ext_getElem e fun i f h2=>?_;have c:=this i l[i] (cI f);rw[dB] at c
 split at c
 ·rename_i d;rw[cI h2] at d;exact(Option.some.inj d).symm
 ·cases c
def QR {α:Type} [DecidableEq α] {l m:w9 α} {b:Bool} (h:ņ (fun i a=>if m[i]?=some a then none else some false) 0 l=some b):b=false/\l≠m:=by
 constructor
 ·have:∀(k:Nat) (x:w9 α) (b:Bool),ņ (fun i a=>if m[i]?=some a then none else some false) k x=some b->b=false:=by
   intro k x
   induction x generalizing k with
   |nil=>intro b h; cases h
   |cons a t f =>
    intro b h;unfold ņ at h
    split at h
    ·rename_i c d
     split at d
     ·cases d
     ·cases d; cases h; rfl
    ·exact f _ _ h
  exact this _ _ _ h
 ·intro e;subst e;rw[gW.2 fun j a ha=>by rw[dB,if_pos ha]] at h;cases h
def Vn {l m:w9 Int} (j:l.length<=1000000):Ň l m=some (decide (l=m)):=by
 unfold Ň C4;rw[â,â]
 by_cases c:l.length=m.length
 ·rw[Õ (by simp[ine,c])];refine fe (oC l (fun i a=>if m[i]?=some a then none else some false) some (some true) (fun i a hi ha f=>?_) (fun f=>?_)) ?_
  ·try dsimp only
   unfold jW;have d:m[i]?=some m[i]:=List.getElem?_eq_getElem (by omega);rw[Ñ hi,È ha,È d,Î hi (by omega),d,Ġ]
   by_cases h:a=m[i]
   ·simp[ine,h]
   ·have h':¬m[i]=a:=fun e=>h e.symm;simp[ine,h,h']
  ·try dsimp only
   unfold jW;rw[é]
  ·cases h:ņ (fun i a=>if m[i]?=some a then none else some false) 0 l with
   |none=>simp[QS c h]
   |some b =>
    obtain⟨g,h2⟩:=QR h;simp[g,h2]
 ·rw[æ (by simp[ine]; omega)];have:l≠m:=fun e=>c (by rw[e]);simp[this]
structure MixOk (b:ċ) (x:Mx):Prop where
 day:0<=x.1/\x.1<20000
 len:2<=x.2.length/\x.2.length<=5
 asc:x.2.Pairwise (·<·)
 known:∀l∈x.2,∃g,Ă b l=some g/\g.2.1<=x.1
 home:∀l∈x.2,ow b l x.1=none/\ow b l (x.1+1)=none
def RC {b:ċ} {l:w9 Mx} {i:Nat} {x:Mx} (h:mixE b l i x=0):MixOk b x/\tO (fun y=>y.1) l i x=false:=by
 unfold mixE at h
 split at h
 ·cases h
 rename_i k
 split at h
 ·cases h
 rename_i h2
 split at h
 ·cases h
 rename_i f
 split at h
 ·cases h
 rename_i e
 split at h
 ·cases h
 rename_i j
 split at h
 ·cases h
 rename_i d;simp only[inP,Bool.not_eq_true',Bool.and_eq_false_iff,not_or,Bool.not_eq_false,decide_eq_false_iff_not,Int.not_le,Bool.and_eq_true,decide_eq_true_eq] at k;simp only[List.any_eq_true,not_exists,not_and,Option.isNone_iff_eq_none] at f;simp only[List.any_eq_true,not_exists,not_and,bne_iff_ne,ne_eq,Decidable.not_not] at e;simp only[List.any_eq_true,not_exists,not_and,Bool.or_eq_true,not_or,Option.isSome_iff_ne_none,ne_eq,Decidable.not_not] at d;refine⟨⟨by omega,by omega,Decidable.not_not.1 h2,fun y a=>?_,d⟩,by simpa using j⟩;obtain⟨g,c⟩:=Option.ne_none_iff_exists'.1 (f y a);refine⟨g,c,?_⟩;have:=e y a;unfold FS at this;rw[c] at this;dsimp only at this
 split at this
 ·cases this
 ·omega
structure MOk (m:ε):Prop where
 good:kE m.1
 n4:m.2.length<=4
 mixE:∀i x,m.2[i]?=some x->mixE m.1 m.2 i x=0
 prod:yH m.2<=150
def kz (m:ε):jv m=0↔MOk m:=by
 unfold jv;constructor
 ·intro h
  split at h
  ·rename_i d; exact absurd h d
  rename_i d
  split at h
  ·cases h
  rename_i h2
  cases a:NE m.1 m.2 with
  |some e =>
   rw[a] at h;dsimp only at h;rw[NE] at a
   have key:∀(l:w9 Mx) (k:Nat) (e:Int),ņ (fun i x=>agM (mixE m.1 m.2 i x)) k l=some e->e≠0:=by
    intro l
    induction l with
    |nil=>intro k e h; cases h
    |cons y l f =>
     intro k e h;rw[ņ] at h
     by_cases c:mixE m.1 m.2 k y=0
     ·rw[c] at h;exact f (k+1) e h
     ·simp only[agM,if_neg c,Option.some.injEq] at h;rw[<-h]; exact c
   exact absurd h (key _ _ _ a)
  |none =>
   rw[a] at h;dsimp only at h
   split at h
   ·cases h
   rename_i j;refine⟨(iy _).1 (Decidable.not_not.1 d),by omega,fun i x g=>?_,by omega⟩;have:=(gW.1 a) i x g;rw[Nat.zero_add] at this;unfold agM at this
   split at this
   ·assumption
   ·cases this
 ·intro h;rw[if_neg (by simp[(iy _).2 h.good]),if_neg (by have:=h.n4; omega),IJ h.mixE];dsimp only;rw[if_neg (by have:=h.prod; omega)]
section
variable {m:ε}
def MOk.mix (h:MOk m) {x:Mx} (a:x∈m.2):MixOk m.1 x:=by
 obtain⟨i,hi,rfl⟩:=dg.1 a;exact(RC (h.mixE i _ (cI hi))).1
def MOk.days (h:MOk m):m.2.Pairwise fun a b=>a.1<b.1:=(H7 (fun y:Mx=>y.1) m.2).1 fun i x c=>(RC (h.mixE i x c)).2
def MOk.len5 (h:MOk m):∀x∈m.2,x.2.length<=5:=fun x a=>(h.mix a).len.2
def MOk.in_ (h:MOk m):In m.1:=⟨h.good.size,fun g a=>by have:=(h.good.gaugeR a).2.1; unfold I64; omega⟩
end
def VV {l:w9 Int} {i:Nat} (hi:i<l.length):(l[i]::(l.take i++l.drop (i+1))).Perm l:=by
 have h:l=l.take i++l[i]::l.drop (i+1):=by rw[<-du hi,dT]
 exact List.Perm.trans (List.perm_middle.symm) (by rw[<-h])
def HI:∀{n:Nat} {l x:w9 Int},l.length=n->(x∈HJ n l↔x.Perm l)
 |0,l,x,h=>by
  have:l=[]:=cZ.1 h;subst this;simp[HJ]
 |n+1,l,x,h=>by
  rw[HJ,if_neg (by omega)];simp only[dz,gy,dG];constructor
  ·rintro⟨i,hi,y,c,rfl⟩;have c:=(HI (n:=n) (by simp; omega)).1 c;rw[dZ,cI hi];exact(c.cons _).trans (VV hi)
  ·intro d
   cases x with
   |nil=>have:=d.length_eq; simp at this; omega
   |cons a x =>
    have ha:a∈l:=d.subset (by simp);obtain⟨i,hi,rfl⟩:=dg.1 ha;refine⟨i,hi,x,(HI (n:=n) (by simp; omega)).2 ?_,by rw[dZ,cI hi]; rfl⟩;exact List.Perm.cons_inv (d.trans (VV hi).symm)
def PU {α β:Type} (f:α->w9 β) (n:Nat):∀l:w9 α,(∀a∈l,(f a).length=n)->(l.flatMap f).length=l.length*n
 |[],_=>by simp
 |a::l,h=>by
  rw[dE,cN,h a (by simp),PU f n l fun b hb=>h b (dF _ hb),cV,Nat.succ_mul]; omega
def Wf:∀{n:Nat} {l:w9 Int},l.length=n->(HJ n l).length=UV n
 |0,_,_=>rfl
 |n+1,l,h=>by
  rw[HJ,if_neg (by omega),PU _ (UV n) _ fun i hi=>by rw[dP]; exact Wf (by simp at hi ⊢; omega),f5,UV,h,Nat.mul_comm]
def Ed:∀{ms:w9 Mx} {w:Way},w∈jP ms↔ŏ ms w
 |[],[]=>by simp[jP,ŏ]
 |[],_::_=>by simp[jP,ŏ]
 |m::ms,[]=>by simp[jP,ŏ]
 |m::ms,l::ls=>by
  simp only[jP,dz,dG,ŏ];constructor
  ·rintro⟨x,c,y,a,e⟩;cases e;exact⟨(HI rfl).1 c,Ed.1 a⟩
  ·intro⟨d,h2⟩;exact⟨l,(HI rfl).2 d,ls,Ed.2 h2,rfl⟩
def Lf:∀ms:w9 Mx,(jP ms).length=yH ms
 |[]=>rfl
 |m::ms=>by rw[jP,PU _ (yH ms) _ fun x _=>by rw[dP,Lf],Wf rfl,yH]
def GH (ms:w9 Mx):w9 Way:=Ĵ (LM ms) (jP ms)
def YD {α:Type} {k a:α->Int} {x:α} {l:w9 α} (e:k x=a x) (h:∀y∈l,k y=a y):YE k x l=YE a x l:=by
 induction l with
 |nil=>rfl
 |cons y l c =>
  unfold YE;rw[e,h y (by simp),c fun z d=>h z (List.mem_cons_of_mem _ d)]
def KA {α:Type} {k a:α->Int}:∀{l:w9 α},(∀y∈l,k y=a y)->Ĵ k l=Ĵ a l
 |[],_=>rfl
 |x::l,h=>by
  have d:=KA fun y c=>h y (dF x c);show YE k x (Ĵ k l)=YE a x (Ĵ a l);rw[d];exact YD (h x (by simp)) fun y c=>h y (dF _ ((ł (key:=a) l).mem.1 c))
def Ib {ms:w9 Mx} {w:Way}:w∈GH ms↔ŏ ms w:=by
 rw[GH,(ł (jP ms)).mem,Ed]
def Zs (ms:w9 Mx):(GH ms).length=yH ms:=by rw[GH,(ł (jP ms)).length,Lf]
section
variable {m:ε} {ρ:Type}
def MOk.wgt (h:MOk m) {w:Way} (c:ŏ m.2 w):Ĩ m w=some (LM m.2 w) :=
 Zr c (by have:=h.n4; omega) fun x a=>by have:=h.len5 x a; omega
def PT {α:Type} {f:w9 α->α->(w9 α->w8 ρ)->w8 ρ} (h:∀v y a,v.length<=1000000->f v y a=a (v++[y])):∀{xs:w9 α} {v:w9 α} {K:w9 α->w8 ρ},v.length+xs.length<=1000000->xy f xs v K=K (v++xs)
 |[],v,K,_=>by simp[xy]
 |x::xs,v,K,c=>by
  simp only[cV] at c;rw[xy,h v x _ (by omega),PT h (by simp; omega)]; simp
def agX (h:MOk m):l8 m.2=some (jP m.2):=by
 unfold l8;rw[Į];simp only[Bool.and_eq_true,decide_eq_true_eq,List.all_eq_true];exact⟨by have:=h.n4; omega,fun x a=>by have:=h.len5 x a; omega⟩
def Xf (h:MOk m):(jP m.2).length<=150:=by rw[Lf]; exact h.prod
def ZR (h:MOk m):ĩ (jP m.2) (Ô (jP m.2)) m=some (GH m.2,m):=by
 have h2:∀w∈jP m.2,Ĩ m w=some (LM m.2 w):=fun w a=>h.wgt (Ed.1 a)
 have c:∀w∈jP m.2,Č m w=LM m.2 w:=fun w a=>by unfold Č; rw[h2 w a]; rfl
 rw[â,ZM (fun w a=>by rw[h2 w a,c w a]) (by have:=Xf h; omega),KA c]; rfl
end
def ad2 {ρ:Type} (n:Nat) (p:Nat->Bool) (d g:w8 ρ) {f:Int->(Int->w8 ρ)->w8 ρ} (h:∀i:Nat,i<n->∀c,f i c=if p i then c ((i:Int)+1) else d) (j:∀c,f n c=g):É f 0=if (List.range n).all p then g else d:=by
 have:=gS (List.range n) (fun i=>!p i) (fun _=>d) d g (f:=f) (fun _=>rfl) (fun i a hi ha c=>by
  obtain⟨_,rfl⟩:=cQ.1 ha;rw[f5] at hi;rw[h i hi c,List.getElem_range]
  cases p i<;>rfl) (fun c=>by rw[f5]; exact j c)
 rw[this]
 have e:(List.range n).any (fun i=>!p i)=!(List.range n).all p:=by rw[List.all_eq_not_any_not]; simp
 rw[e]
 cases(List.range n).all p<;>rfl
def ru:w9 Mx->Way->Bool
 |[],[]=>true
 |m::ms,l::ls=>decide (jK l=m.2)&&ru ms ls
 |_,_=>false
def N9:∀{ms:w9 Mx} {w:Way},(∀x∈ms,x.2.Pairwise (·<·))->(ru ms w=true↔ŏ ms w)
 |[],[],_=>by simp[ru,ŏ]
 |[],_::_,_=>by simp[ru,ŏ]
 |_::_,[],_=>by simp[ru,ŏ]
 |m::ms,l::ls,h=>by
  rw[ru,ŏ,cM,decide_eq_true_eq,N9 fun x c=>h x (dF _ c)];have d:=h m (by simp);refine and_congr ⟨fun e=>by rw[<-e]; exact(isortI_perm l).symm,fun e=>?_⟩ Iff.rfl;exact List.Perm.eq_of_pairwise (fun a b _ _ f h2=>Int.le_antisymm f h2) (isortI_sorted l) (d.imp fun h=>Int.le_of_lt h) ((isortI_perm l).trans e)
def abu {ms:w9 Mx} {w:Way} (a:w.length=ms.length):ru ms w=(List.range ms.length).all fun i=>match ms[i]?,w[i]? with|some m,some l=>decide (jK l=m.2)|_,_=>false:=by
 induction ms generalizing w with
 |nil =>
  have:w=[]:=cZ.1 a;subst this; rfl
 |cons m ms c =>
  cases w with
  |nil=>simp at a
  |cons l w =>
   rw[ru,c (by simpa using a),cV,List.range_succ_eq_map,fk,List.all_map];rfl
def row_eq {l m:w9 Int} (c:l.length=m.length) (n:m.length<=5):(l.getD 0 0=m.getD 0 0/\l.getD 1 0=m.getD 1 0/\l.getD 2 0=m.getD 2 0/\l.getD 3 0=m.getD 3 0/\l.getD 4 0=m.getD 4 0)↔l=m:=by
 constructor
 ·intro⟨h0,j,h2,g,f⟩;refine List.ext_getElem c fun i hi a=>?_
  have e:∀k:Nat,l.getD k 0=m.getD k 0->k=i->l[i]=m[i]:=fun k d e=>by
   subst e;simpa[dZ,cI hi,cI a] using d
  have:i=0\/i=1\/i=2\/i=3\/i=4:=by omega
  rcases this with h|h|h|h|h
  ·exact e 0 h0 h.symm
  ·exact e 1 j h.symm
  ·exact e 2 h2 h.symm
  ·exact e 3 g h.symm
  ·exact e 4 f h.symm
 ·rintro rfl; simp
def aec {m:ε} (h:MOk m) {w:Way} (k:∀l∈w,l.length<=100000):DZ m w=some (ru m.2 w):=by
 unfold DZ I8;have C:=h.n4
 by_cases o:w.length=m.2.length
 ·rw[Õ (by simp[ine,â]; omega),abu o];have q:∀i,i<m.2.length->∃x l,m.2[i]?=some x/\w[i]?=some l:=fun i hi=>⟨_,_,cI hi,cI (by omega)⟩;refine fe (ad2 m.2.length (fun i=>match m.2[i]?,w[i]? with|some m,some l=>decide (jK l=m.2)|_,_=>false) (some false) (some true) (fun i hi j=>?_) (fun j=>?_)) ?_
  ·obtain⟨x,l,g,a⟩:=q i hi
   try dsimp only
   unfold qE;have f:=h.len5 x (List.mem_of_getElem? g);have r:=k l (List.mem_of_getElem? a);rw[Ñ (by omega),È a,È g,g,a];dsimp only
   by_cases c:l.length=x.2.length
   ·rw[Õ (by simp[ine,â]; omega)];unfold yf;rw[Į (Ð (by omega)),Á,PT (fun v y j B=>by unfold wE; rw[Į (Ð (by simp; omega))]) (by simp; omega),List.nil_append,Į (Ð (by omega))];unfold DY;rw[Á,Á,OQ];have n:=row_eq (l:=jK l) (m:=x.2) (by rw[(isortI_perm l).length_eq]; exact c) f
    by_cases d:jK l=x.2
    ·obtain⟨A,z,u,t,s⟩:=n.2 d;rw[A,z,u,t,s,Õ (by simp[kI]),Ù (by omega) (by omega),if_pos (by simpa using d)]
    ·rw[æ,if_neg (by simpa using d)]
     cases hb:(!((kI ((jK l).getD 0 0) (x.2.getD 0 0))&&((kI ((jK l).getD 1 0) (x.2.getD 1 0))&&((kI ((jK l).getD 2 0) (x.2.getD 2 0))&&((kI ((jK l).getD 3 0) (x.2.getD 3 0))&&((kI ((jK l).getD 4 0) (x.2.getD 4 0))&&true)))))) with
     |true=>rfl
     |false =>
      refine absurd (n.1 ?_) d;simpa[kI] using hb
   ·rw[æ (by simp[ine,â]; omega),if_neg];intro e;simp only[decide_eq_true_eq] at e;have:=(isortI_perm l).length_eq;rw[e] at this;exact c this.symm
  ·try dsimp only
   unfold qE;rw[Õ (by simp[ilt,â]; omega)]
  ·cases(List.range m.2.length).all (fun i=>match m.2[i]?,w[i]? with|some m,some l=>decide (jK l=m.2)|_,_=>false)<;>rfl
 ·rw[æ (by simp[ine,â]; omega)];congr 1
  symm
  clear k
  have key:∀{ms:w9 Mx} {w:Way},w.length≠ms.length->ru ms w=false:=by
   intro ms
   induction ms with
   |nil=>intro w h; cases w with|nil=>exact absurd rfl h|cons _ _=>rfl
   |cons x ms p =>
    intro w h
    cases w with
    |nil=>rfl
    |cons l w=>rw[ru,p (by simpa using h),fE]
  exact key o
def LF (m:ε) (w:Way):Int:=if jv m≠0 then jv m else if ru m.2 w then 0 else 1
def acM {m:ε} (d:In m.1) (e:m.2.length<=1000) {w:Way} (c:∀l∈w,l.length<=100000):D2 m w=some (LF m w):=by
 unfold D2 RU LF;rw[P2 d e,Á]
 by_cases a:jv m=0
 ·rw[Õ (by simp[ine,a]),if_neg (by simp[a]),aec ((kz m).1 a) c,Á]
  cases ru m.2 w<;>rfl
 ·rw[æ (by simp[ine,a]),if_pos a]
def LD {m:ε} {w:Way}:LF m w=0↔MOk m/\ŏ m.2 w:=by
 unfold LF
 by_cases a:jv m=0
 ·have h:=(kz m).1 a;rw[if_neg (by simp[a])];have:=N9 (w:=w) fun x c=>(h.mix c).asc
  cases hi:ru m.2 w with
  |true=>simp[this.1 hi,h]
  |false =>
   exact⟨fun e=>absurd (show(1:Int)=0 from e) (by decide),fun e=>absurd (this.2 e.2) (by simp[hi])⟩
 ·rw[if_pos a];exact⟨fun e=>absurd e a,fun⟨e,_⟩=>absurd ((kz m).2 e) a⟩
def mixL (x:Mx):BL×w9 BL:=([109,105,120],kM (x.1::x.2))
abbrev Ku (x:Mx):BL:=iA (mixL x)++[10]
def BV (l:w9 Mx):BL:=l.flatMap Ku
def Eu (m:ε):BL:=g8 m.1++BV m.2
def QH {b:ċ} (h:acY b):(g8 b).length<=57615:=by
 unfold g8;refine Nat.le_trans ?_ (Nat.mul_le_mul_right 501 h.count);have a:=h.len;generalize iB b=L at a
 induction L with
 |nil=>simp
 |cons p L c =>
  have e:=a p (by simp);have h2:=c fun x d=>a x (by simp[d]);rw[dE,cN,cN,cV];simp only[cV,dk] at *;omega
def I64X (x:Mx):Prop:=I64 x.1/\∀n∈x.2,I64 n
def adr (ns:w9 Int):spL 32 (kM ns)=ns.flatMap fun n=>32::Lib.itoa n:=by simp[spL,List.flatMap_map]
def SF {x:Mx} (h:I64X x) (c:x.2.length<=10):(Ku x).length<=300:=by
 have:=PF (ns:=x.1::x.2) (fun n a=>by
  rcases cP.1 a with rfl|a
  ·exact h.1
  ·exact h.2 n a)
 simp only[iA,mixL,Hs,cN,cV,dk] at this ⊢;omega
section
variable {ρ:Type}
def Yd {ns:w9 Int} {s:BL} (d:∀n∈ns,I64 n) (k:ns.length<=10) (j:s.length<=1000000) (K:ByteArray->w8 ρ) :
 É (fun(v:ByteArray×Int) f=>mE ns (Ô ns) v.1 v.2 (fun a b=>f (a,b)) K) (ofL s,(0:Int))=K (ofL (s++spL 32 (kM ns))):=by
 rw[adr];refine aa7 ns (fun n=>32::Lib.itoa n) (by omega) (fun n c=>?_) (by omega) (fun i n t hi ha h e=>?_) (fun t e=>?_)
 ·have:=tz (d n c);simp only[cV]; omega
 ·have c:=d n (List.mem_of_getElem? ha);have g:=tz c;unfold mE;rw[Ñ hi,È ha,Vr c,Á,show ByteArray.mk #[32]=ofL [32] from rfl,Ð (by simp only[ã,List.length_append,List.length_cons,List.length_nil]; omega),Am.iff_true,iu,Ð (by simp only[ã,List.length_append,List.length_cons,List.length_nil]; omega),Am.iff_true,Î hi (by omega),iu];rfl
 ·unfold mE;rw[é]
def aaE {l:w9 Mx} {s:BL} (d:∀x∈l,I64X x/\x.2.length<=10) (k:l.length<=10) (j:s.length<=100000) (K:ByteArray->w8 ρ) :
 É (fun(v:ByteArray×Int) g=>mF l (Ô l) v.1 v.2 (fun a b=>g (a,b)) K) (ofL s,(0:Int))=K (ofL (s++BV l)):=by
 rw[tk l (fun t x=>ofL (toL t++Ku x)) (fun i t=>(toL t).length<=s.length+1000*i) (K:=K) (by simp) (fun i x t hi ha n=>?_) (fun t f _=>?_)]
 ·congr 1;unfold BV;clear j d k
  induction l generalizing s with
  |nil=>simp
  |cons a l h=>rw[eO,h]; simp
 ·obtain⟨⟨c,h2⟩,e⟩:=d x (List.mem_of_getElem? ha);have r:=SF ⟨c,h2⟩ e;have q:=tz c;refine⟨by rw[show toL (ofL (toL t++Ku x))=toL t++Ku x from rfl,List.length_append]; omega,fun f=>?_⟩;have p:t.size=(toL t).length:=B0 t;unfold mF;rw[Ñ hi,È ha,Vr c,Á,show ByteArray.mk #[109,105,120,32]=ofL [109,105,120,32] from rfl,Ð (by simp only[ã,List.length_append,List.length_cons,List.length_nil]; omega),Am.iff_true,iu,Ð (by simp only[ã,List.length_append,List.length_cons,List.length_nil]; omega),Am.iff_true];rw[show t++ofL ([109,105,120,32]++Lib.itoa x.1)=ofL (toL t++([109,105,120,32]++Lib.itoa x.1)) by have:=iu (toL t) ([109,105,120,32]++Lib.itoa x.1); rwa [tT] at this];refine(Yd h2 e (by simp only[List.length_append,List.length_cons,List.length_nil]; omega) _).trans ?_;have o:=PF h2;rw[show ByteArray.mk #[10]=ofL [10] from rfl,Ð (by simp only[ã,List.length_append,List.length_cons,List.length_nil]; omega),Am.iff_true,Î hi (by omega),iu];congr 2;simp[Ku,iA,mixL,Hs,spL,kM]
 ·unfold mF;rw[é]
end
def MOk.short {m:ε} (h:MOk m):∀x∈m.2,x.2.length<=10:=fun x a=>by
 obtain⟨i,hi,rfl⟩:=dg.1 a;have:=Pd (h.mixE i _ (cI hi)); omega
def MOk.nums {m:ε} (h:MOk m):∀x∈m.2,I64X x:=fun x c=>by
 have a:=h.mix c;refine⟨by have:=a.day; unfold I64; omega,fun n d=>?_⟩;obtain⟨g,e,_⟩:=a.known n d;exact(h.good.idn e).i64
def FI {m:ε} (a:In m.1):ő m=some (if jv m≠0 then(ofL [],jv m) else(ofL (Eu m),0)):=by
 unfold ő RV;rw[Tl a,Á]
 by_cases h0:jv m=0
 ·have h:=(kz m).1 h0;have d:=(h.good.prints.mono fun n e=>e.i64);have f:=QH d;have g:=h.n4;rw[Õ (by simp[ine,h0]),if_neg (by simp[h0]),Ql a.fine,(iy m.1).2 h.good,if_neg (by simp),Á,Õ (by simp[ine])];dsimp only;exact aaE (fun x c=>⟨h.nums x c,h.short x c⟩) (by omega) (by omega) _
 ·rw[æ (by simpa[ine] using h0),if_pos h0]
def M5 (w:BL):w8 Int:=match Lib.atoiAll w with|.ok v=>some v|_=>none
def goM:Nat->Mx->w9 BL->w8 Mx
 |_,s,[]=>some s
 |0,s,_::ws=>goM 1 s ws
 |1,s,w::ws=>match M5 w with
  |none=>none
  |some v=>goM 2 (v,s.2) ws
 |n+2,s,w::ws=>match M5 w with
  |none=>none
  |some v=>goM (n+3) (s.1,s.2++[v]) ws
def XU (l:BL):w8 Mx:=goM 0 (0,[]) (YT 32 (Lib.trimSuffix l [10]))
abbrev StX:Type:=Int×Int×w9 Ą×w9 (Int×Int)×w9 Ep×w9 Cmp×w9 (Int×Int)×w9 Mx×Int×w9 Mx
abbrev EndX:Type:=Int×Int×w9 Ą×w9 (Int×Int)×w9 Ep×w9 Cmp×w9 (Int×Int)×w9 Mx×Int
abbrev WdX:Type:=Int×Int×w9 Ą×w9 (Int×Int)×w9 Ep×w9 Cmp×w9 (Int×Int)×w9 Mx×Int×Int×w9 Int
def stX (l:w9 Mx):StX:=(0,0,[],[],[],[],[],[],0,l)
def endX:EndX:=(0,0,[],[],[],[],[],[],7)
def wdX (x:Mx):WdX:=(0,0,[],[],[],[],[],[],0,x.1,x.2)
section
variable {ρ:Type}
def adg {ws:w9 BL} (P:ws.length<=100000) (M:∀w∈ws,w.length<=100000) {k0 C:WdX->w8 ρ} {A:w8 ρ} (E:∀d l,k0 (0,0,[],[],[],[],[],[],7,d,l)=A) :
 É (fun(v:Int×WdX) F=>kq (Ô (ws.map ofL)) (ws.map ofL) v.1 v.2.1 v.2.2.1 v.2.2.2.1 v.2.2.2.2.1 v.2.2.2.2.2.1 v.2.2.2.2.2.2.1 v.2.2.2.2.2.2.2.1 v.2.2.2.2.2.2.2.2.1 v.2.2.2.2.2.2.2.2.2.1 v.2.2.2.2.2.2.2.2.2.2.1 v.2.2.2.2.2.2.2.2.2.2.2 (fun B z y u q p o n k j g e=>F (B,z,y,u,q,p,o,n,k,j,g,e)) k0 C) ((0:Int),wdX (0,[]))=match goM 0 (0,[]) ws with
  |some x=>C (wdX x)
  |none=>A:=by
 have key:=PB (σ:=WdX) (ws.map ofL) (f:=fun(v:Int×WdX) F=>kq (Ô (ws.map ofL)) (ws.map ofL) v.1 v.2.1 v.2.2.1 v.2.2.2.1 v.2.2.2.2.1 v.2.2.2.2.2.1 v.2.2.2.2.2.2.1 v.2.2.2.2.2.2.2.1 v.2.2.2.2.2.2.2.2.1 v.2.2.2.2.2.2.2.2.2.1 v.2.2.2.2.2.2.2.2.2.2.1 v.2.2.2.2.2.2.2.2.2.2.2 (fun B z y u q p o n k j g e=>F (B,z,y,u,q,p,o,n,k,j,g,e)) k0 C)
  (fun i s r=>match goM i (s.2.2.2.2.2.2.2.2.2.1,s.2.2.2.2.2.2.2.2.2.2) (r.map toL) with
   |some x=>C (wdX x)
   |none=>A) (fun i s=>(∃x,s=wdX x/\x.2.length<=i)) (fun s ⟨x,c,_⟩ J=>?_) (fun i a t s hd hi ha ⟨x,c,D⟩ J O=>?_) (s:=wdX (0,[])) ⟨(0,[]),rfl,by simp⟩
 ·rw[key,List.map_map];have:(toL ∘ ofL)=id:=funext fun l=>rfl;rw[this,List.map_id];rfl
 ·subst c;unfold kq;dsimp only;rw[é]
  cases h:(ws.map ofL).length<;>rfl
 ·subst c;obtain⟨w,G,rfl⟩:=Us ha;have K:=M w (cY G)
  have H:i<ws.length:=by simpa using hi
  unfold kq;dsimp only[wdX];rw[Ñ hi,show((ile (0:Int) (i:Int))&&(ilt (i:Int) (ï (ws.map ofL))))=true by simp only[ile,ilt,ï,Bool.and_eq_true,decide_eq_true_eq]; exact⟨by omega,by simpa using hi⟩,Am.iff_true,Μ ha];unfold Vi;rw[show decide ((ofL w).size<=281474976710656)=true by rw[ã]; exact decide_eq_true (by omega)];simp only[Á,List.map_cons];have c:=fun x D=>O (wdX x) ⟨x,rfl,D⟩;dsimp only[wdX] at c;have I:∀f:Int->w8 ρ,ck ((i:Int)+1) f=f ((i:Int)+1):=fun f=>Î H (by omega) f;rcases i with _|_|i
  ·rw[æ (by simp[ieq]),I];exact c x (by omega)
  ·rw[Õ (by simp[ieq])]
   show _=match (match M5 w with|none=>none|some v=>goM 2 (v,x.2) (t.map toL)) with|some x=>C (wdX x)|none=>A
   unfold M5;show (ifb (match Lib.atoiAll w with | .ok v => (v, false) | .range => (Lib.atoiSat w, true) | _ => (0, true)).2 _ _) = _
   cases Lib.atoiAll w with
   |ok v =>
    dsimp only;rw[Õ rfl,æ (by simp[ieq]),I];exact c (v,x.2) (by simp only at D ⊢; omega)
   |range=>dsimp only; rw[æ rfl]; exact E _ _
   | _ => dsimp only; rw [æ rfl]; exact E _ _
  ·rw[Õ (by simp[ieq]; omega)]
   show _=match (match M5 w with|none=>none|some v=>goM (i+3) (x.1,x.2++[v]) (t.map toL)) with|some x=>C (wdX x)|none=>A
   unfold M5;show (ifb (match Lib.atoiAll w with | .ok v => (v, false) | .range => (Lib.atoiSat w, true) | _ => (0, true)).2 _ _) = _
   cases Lib.atoiAll w with
   |ok v =>
    dsimp only;rw[Õ rfl,Õ (by simp[ieq]; omega),Ð (by simp only[List.length_cons,List.length_nil]; omega),Am.iff_true,I];exact c (x.1,x.2++[v]) (by simp only[List.length_append,List.length_cons,List.length_nil] at D ⊢; omega)
   |range=>dsimp only; rw[æ rfl]; exact E _ _
   | _ => dsimp only; rw [æ rfl]; exact E _ _
def adD {l:BL} (g:l.length<=60000) {acc:w9 Mx} (ha:acc.length<=1000000) (c:StX->w8 ρ) (a:EndX->w8 ρ) :
 ĕ (stX acc) (ofL l) c a=match XU l with|some x=>c (stX (acc++[x]))|none=>a endX:=by
 unfold ĕ wQ;have f:=OI l [10];rw[show ByteArray.mk #[10]=ofL [10] from rfl,acS l [10] (by omega),Á,show ByteArray.mk #[32]=ofL [32] from rfl,show yZ (ofL (Lib.trimSuffix l [10])) (ofL [32])=some ((YT 32 (Lib.trimSuffix l [10])).map ofL) from Xy _ 32 (by omega),Á];refine(adg (A:=a endX) ?_ ?_ (fun d l=>rfl)).trans ?_
 ·have:=H5 32 (Lib.trimSuffix l [10]) [];show(Ti 32 [] (Lib.trimSuffix l [10])).length<=_;omega
 ·intro w e;have:=H4 32 (Lib.trimSuffix l [10]) [] w e;simp only[dk] at this; omega
 ·unfold XU
  cases goM 0 (0,[]) (YT 32 (Lib.trimSuffix l [10])) with
  |none=>rfl
  |some x =>
   dsimp only;rw[Ð (by dsimp only[stX]; simp only[List.length_cons,List.length_nil]; omega),Am.iff_true];rfl
def vS:w9 BL->w8 (w9 Mx)
 |[]=>some []
 |l::ls=>match XU l with
  |none=>none
  |some x=>match vS ls with
   |none=>none
   |some r=>some (x::r)
def Gu (d:StX->w8 ρ) (c:EndX->w8 ρ):∀(a:w9 BL) (acc:w9 Mx),acc.length+a.length<=100000->(∀l∈a,l.length<=60000) ->
 TM ĕ (a.map ofL) (stX acc) d c=match vS a with|some r=>d (stX (acc++r))|none=>c endX
 |[],acc,h,f=>by simp[TM,vS]
 |l::a,acc,h,f=>by
  simp only[List.length_cons] at h;have e:TM ĕ ((l::a).map ofL) (stX acc) d c=ĕ (stX acc) (ofL l) (fun v=>TM ĕ (a.map ofL) v d c) c:=rfl;rw[e,adD (f l (by simp)) (by omega)];unfold vS
  cases XU l with
  |none=>rfl
  |some x =>
   dsimp only;rw[Gu d c a (acc++[x]) (by simp only[List.length_append,List.length_cons,List.length_nil]; omega) fun y g=>f y (by simp[g])]
   cases vS a with
   |none=>rfl
   |some r=>dsimp only; rw[List.append_assoc]; rfl
end
abbrev Ye:ε:=(tN,[])
def GJ (t:BL) (b:ċ) (a:BL):ε×Int:=match vS (ζ a) with
 |none=>(Ye,7)
 |some l=>if jv (b,l)=0/\Eu (b,l)=t then((b,l),0) else(Ye,7)
def abj {t:BL}:(ζ t).length<=t.length/\∀l∈ζ t,l.length<=t.length:=by
 obtain⟨c,h2⟩:=yc (ofL t).size (ofL t);rw[ã] at c;refine⟨by unfold ζ ks; rw[List.length_map,ã]; exact c,fun l a=>?_⟩;unfold ζ ks at a;obtain⟨y,d,rfl⟩:=List.mem_map.1 a;have:=h2 y d;rw[<-B0,<-ã t]; exact this
def OJ {b:ċ} (hb:In b) {t a:BL} (n:a.length<=60000) {γ:Type} (k:ε×Int->w8 γ) {f:EndX->w8 γ} (i:f endX=k (Ye,7)) :
 (Ú (Ý (ByteArray.size (ofL a))&&true) (TM ĕ (ks (ofL a)) ((0:Int),(0:Int),[],[],[],[],[],[],(0:Int),[]) (fun c=>Ã (ő (b,c.2.2.2.2.2.2.2.2.2)) fun d=>ifb (ine d.2 (0:Int)) (k (((((0:Int),(0:Int)),[],[],[],[],[]),[]),(7:Int))) (ifb (!(d.1.toList==(ofL t).toList)) (k (((((0:Int),(0:Int)),[],[],[],[],[]),[]),(7:Int))) (k ((b,c.2.2.2.2.2.2.2.2.2),(0:Int))))) f))=k (GJ t b a):=by
 obtain⟨o,h2⟩:=abj (t:=a)
 have g:ks (ofL a)=(ζ a).map ofL:=by
  unfold ζ; rw[List.map_map]; exact(List.map_id _).symm.trans (List.map_congr_left fun s _=>(tT s).symm)
 rw[Ð (by rw[ã]; omega),show(true&&true)=true from rfl,Am.iff_true,g];refine(Gu _ f (ζ a) [] (by simp only[List.length_nil]; omega) (fun l g=>by have:=h2 l g; omega)).trans ?_;unfold GJ
 cases j:vS (ζ a) with
 |none=>exact i
 |some l =>
  dsimp only[stX];rw[List.nil_append,FI hb,Á]
  by_cases h0:jv (b,l)=0
  ·rw[if_neg (by simp[h0])];dsimp only;rw[Õ (by simp[ine]),FE]
   by_cases e:Eu (b,l)=t
   ·rw[Õ (by simp[e]),if_pos ⟨h0,e⟩]
   ·rw[æ (by simp[e]),if_neg fun h=>e h.2]; rfl
  ·rw[if_pos h0];dsimp only;rw[æ (by simpa[ine] using h0),if_neg fun h=>h0 h.1]; rfl
abbrev Pc:BL:=[109,105,120,32]
def Nr (t:BL):ε×Int :=
 if t.take 4=Pc then(match A0 [] with|none=>(Ye,7)|some b=>GJ t b t) else
 if 0<=Lib.index t (10::Pc) then(match A0 (t.take ((Lib.index t (10::Pc)).toNat+1)) with|none=>(Ye,7)|some b=>GJ t b (t.drop ((Lib.index t (10::Pc)).toNat+1)))
 else match A0 t with|none=>(Ye,7)|some b=>GJ t b []
def kE.in_ {b:ċ} (h:kE b):In b:=⟨h.size,fun g a=>(h.prints.gauges g a _ (by simp[WQ])).i64⟩
def Qm (l p:BL) (a:l.length<=1000000):gZ (ofL l) (ofL p)=some (decide (l.take p.length=p)):=by
 unfold gZ o8 ľ Β;rw[lT,lT,ã,ã]
 by_cases h:p.length<=l.length
 ·rw[æ (by simpa[ige] using h),dc,Į (by simp[ile]; omega),j9,FE]; simp
 ·rw[Õ (by simp[ige]; omega)]
  have:l.take p.length≠p:=fun e=>by have:=congrArg List.length e; simp at this; omega
  simp[this]
def OG {t:BL} (f:t.length<=60000):jL (ofL t)=some (Nr t):=by
 unfold jL Jt Nr;rw[show ByteArray.mk #[109,105,120,32]=ofL Pc from rfl,Qm t Pc (by omega),Á,show ByteArray.mk #[]=ofL [] from rfl]
 by_cases d:t.take 4=Pc
 ·rw[æ (by simpa using d),if_pos d,Vp (t:=[]) (by simp),Á]
  cases c:A0 [] with
  |none=>rw[æ (by simp[ine])]; rfl
  |some b =>
   dsimp only;rw[Õ (by simp[ine])];exact OJ (sa c).1.in_ f some rfl
 ·rw[Õ (by simpa using d),if_neg d,show ByteArray.mk #[10,109,105,120,32]=ofL (10::Pc) from rfl,show xA (ofL t) (ofL (10::Pc))=some (Lib.index t (10::Pc)) by
   show EB _ _=_;unfold EB
   rw[if_pos (by rw[ã]; omega)],Á]
  by_cases hi:0<=Lib.index t (10::Pc)
  ·obtain⟨i,e⟩:=Int.eq_ofNat_of_zero_le hi;have a:=Lib.index_room t (10::Pc) hi;rw[e] at a ⊢;simp only[cV,dk] at a;rw[æ (by simp[ige]),Ù (by omega) (by omega),Į (by simp only[ile,ã,cM,decide_eq_true_eq]; omega),Ù (by omega) (by omega),Į (by simp only[ile,ã,cM,decide_eq_true_eq]; omega),if_pos (by omega),dc,show((i:Int)+1).toNat=i+1 by omega,j9,f6,Vp (t:=t.take (i+1)) (by rw[dh]; omega),Á]
   cases c:A0 (t.take (i+1)) with
   |none=>rw[æ (by simp[ine])]; rfl
   |some b =>
    dsimp only;rw[Õ (by simp[ine]),show ByteArray.extract (ofL t) (i+1) (ByteArray.size (ofL t))=ofL (t.drop (i+1)) by rw[ã,j9,List.take_length]];exact OJ (sa c).1.in_ (by rw[List.length_drop]; omega) some rfl
  ·rw[Õ (by simp[ige]; omega),if_neg hi,Vp f,Á]
   cases c:A0 t with
   |none=>rw[æ (by simp[ine])]; rfl
   |some b =>
    dsimp only;rw[Õ (by simp[ine])];exact OJ (sa c).1.in_ (by simp) some rfl
def Vl {t:BL} (g:t.length<=60000):∃y e,jL (ofL t)=some (y,e)/\((e=7/\y=Ye)\/(e=0/\ő y=some (ofL t,0))):=by
 have key:∀(b:ċ) (a:BL),kE b->(GJ t b a=(Ye,7)\/∃y,GJ t b a=(y,0)/\ő y=some (ofL t,0)):=fun b a hb=>by
  unfold GJ
  cases d:vS (ζ a) with
  |none=>exact .inl rfl
  |some l =>
   dsimp only
   by_cases h:jv (b,l)=0/\Eu (b,l)=t
   ·rw[if_pos h];refine .inr ⟨_,rfl,?_⟩;rw[FI hb.in_,if_neg (by simp[h.1]),h.2]
   ·rw[if_neg h]; exact .inl rfl
 have fin:∀r:ε×Int,Nr t=r->(r=(Ye,7)\/∃y,r=(y,0)/\ő y=some (ofL t,0))->∃y e,jL (ofL t)=some (y,e)/\((e=7/\y=Ye)\/(e=0/\ő y=some (ofL t,0))):=fun r d h=>by
  rw[OG g,d];rcases h with rfl|⟨y,rfl,h⟩
  ·exact⟨_,_,rfl,.inl ⟨rfl,rfl⟩⟩
  ·exact⟨_,_,rfl,.inr ⟨rfl,h⟩⟩
 have c:∀(u a:BL),((match A0 u with|none=>(Ye,7)|some b=>GJ t b a)=(Ye,7)\/∃y,(match A0 u with|none=>(Ye,7)|some b=>GJ t b a)=(y,0)/\ő y=some (ofL t,0)):=fun u a=>by
  cases d:A0 u with
  |none=>exact .inl rfl
  |some b=>exact key b a (sa d).1
 refine fin _ rfl ?_;unfold Nr
 by_cases f:t.take 4=Pc
 ·rw[if_pos f]; exact c _ _
 ·rw[if_neg f]
  by_cases hi:0<=Lib.index t (10::Pc)
  ·rw[if_pos hi]; exact c _ _
  ·rw[if_neg hi]; exact c _ _
def XE {b:ċ}:∀p∈iB b,∃c r,p.1=c::r/\c≠109:=by
 intro p a;unfold iB at a;simp only[List.mem_cons,List.mem_append,List.mem_map] at a
 rcases a with rfl|⟨g,_,rfl⟩|⟨g,_,rfl⟩|⟨g,_,rfl⟩|⟨g,_,rfl⟩|⟨g,_,rfl⟩<;>exact⟨_,_,rfl,by decide⟩
def agm:∀(a:w9 BL) (R:BL) (j:Nat),(∀l∈a,(∀x∈l,x≠10)/\∃c r,l=c::r/\c≠109)->j+1<(a.flatMap fun l=>l++[10]).length->Lib.occAt ((a.flatMap fun l=>l++[10])++R) (10::Pc) j=false
 |[],R,j,_,e=>by simp at e
 |l::a,R,j,h,e=>by
  rw[List.flatMap_cons,List.length_append,List.length_append] at e;simp only[List.length_cons,List.length_nil] at e;rw[List.flatMap_cons,List.append_assoc,List.append_assoc];unfold Lib.occAt;rcases Nat.lt_trichotomy j l.length with d|g|p
  ·rw[fZ (by omega),du d,dV];have:=(h l (by simp)).1 l[j] (fG d);simp only[List.isPrefixOf,fm];exact .inl (by simpa using this.symm)
  ·subst g;rw[gw]
   cases a with
   |nil=>simp at e
   |cons n i =>
    obtain⟨c,r,q,f⟩:=(h n (by simp)).2;rw[dE,q];simp only[dV,dC,List.isPrefixOf,fm];exact .inr (.inl (by simpa using f.symm))
  ·obtain⟨k,rfl⟩:∃k,j=l.length+(1+k):=⟨j-l.length-1,by omega⟩;rw[<-List.drop_drop,List.drop_left,<-List.drop_drop];have:=agm a R k (fun x o=>h x (by simp[o])) (by omega);unfold Lib.occAt at this;exact this
def N6 (b:ċ):∀l∈(iB b).map iA,(∀x∈l,x≠10)/\∃c r,l=c::r/\c≠109:=fun l d=>by
 obtain⟨p,a,rfl⟩:=List.mem_map.1 d;obtain⟨c,r,e,h2⟩:=XE p a;exact⟨SE a,c,r++spL 32 p.2,by unfold iA Hs; rw[e]; rfl,h2⟩
def XJ (b:ċ):∃r,g8 b=102::r:=by
 unfold g8 iB;rw[List.flatMap_cons];exact⟨_,rfl⟩
def ZG (b:ċ):∃r,g8 b=r++[10]:=by
 rw[xS]
 have:(iB b).map iA≠[]:=by unfold iB; simp
 generalize (iB b).map iA=L at this
 induction L with
 |nil=>exact absurd rfl this
 |cons l c d =>
  cases c with
  |nil=>exact⟨l,by simp⟩
  |cons f a =>
   obtain⟨r,e⟩:=d (by simp);exact⟨l++[10]++r,by rw[dE,e,<-cS]⟩
def YF (b:ċ):Lib.index (g8 b) (10::Pc) = -1:=by
 refine Lib.index_none fun j c=>?_
 by_cases h:j+1<(g8 b).length
 ·have:=agm _ [] j (N6 b) (by rw[<-xS]; exact h)
  rwa [<-xS,df] at this
 ·unfold Lib.occAt
  cases a:(10::Pc).isPrefixOf ((g8 b).drop j) with
  |false=>rfl
  |true =>
   have:=(List.isPrefixOf_iff_prefix.1 a).length_le;rw[fD] at this;simp only[cV,dk] at this;omega
def XI (x:Mx) (l:w9 Mx):∃r,BV (x::l)=Pc++r:=⟨_,rfl⟩
def aby (b:ċ) (x:Mx) (l:w9 Mx):Lib.index (g8 b++BV (x::l)) (10::Pc)=(((g8 b).length-1:Nat):Int):=by
 obtain⟨r,a⟩:=ZG b;obtain⟨q,c⟩:=XI x l
 have d:(g8 b).length-1=r.length:=by rw[a]; simp
 refine Lib.index_first (by rw[cN]; omega) ?_ fun j e=>?_
 ·unfold Lib.occAt;rw[d,a,c,List.append_assoc,List.drop_left];rfl
 ·have:=agm _ (BV (x::l)) j (N6 b) (by rw[<-xS]; omega)
  rwa [<-xS] at this
def OA {n:Int} (h:I64 n):M5 (Lib.itoa n)=some n:=by unfold M5; rw[Tz h]
def WP:∀(ns:w9 Int) (i:Nat) (x:Mx),(∀n∈ns,I64 n)->goM (i+2) x (kM ns)=some (x.1,x.2++ns)
 |[],i,x,_=>by simp[goM]
 |n::ns,i,x,h=>by
  show(match M5 (Lib.itoa n) with|none=>none|some v=>goM (i+3) (x.1,x.2++[v]) (kM ns))=_;rw[OA (h n (by simp))];dsimp only;rw[WP ns (i+1) _ fun y a=>h y (by simp[a]),List.append_assoc];rfl
def RA {c:UInt8} (a:c=10\/c=32) (ns:w9 Int):(∀x∈([109,105,120]:BL),x≠c)/\∀v∈kM ns,∀x∈v,x≠c :=
 ⟨by rcases a with rfl|rfl<;>decide,jF c (by rcases a with rfl|rfl<;>decide) _⟩
def RB (x:Mx):∀y∈iA (mixL x),y≠10:=by
 intro y a;obtain⟨d,h2⟩:=RA (.inl rfl) (x.1::x.2);rcases cO.1 a with a|a
 ·exact d y a
 ·obtain⟨v,c,a⟩:=dz.1 a;rcases cP.1 a with rfl|a
  ·decide
  ·exact h2 v c y a
def XT {x:Mx} (h:I64X x):XU (Ku x)=some x:=by
 unfold XU Ku;rw[ZB];obtain⟨a,h2⟩:=RA (.inr rfl) (x.1::x.2);rw[show iA (mixL x)=[109,105,120]++spL 32 (kM (x.1::x.2)) from rfl,P1 32 _ _ a h2];show(match M5 (Lib.itoa x.1) with|none=>none|some v=>goM 2 (v,[]) (kM x.2))=_;rw[OA h.1];exact WP x.2 0 (x.1,[]) h.2
def SB (l:w9 Mx):ζ (BV l)=l.map Ku:=by
 have e:BV l=(l.map fun x=>iA (mixL x)).flatMap fun l=>l++[10]:=by unfold BV; rw[List.flatMap_map]
 unfold ζ ks;rw[e,Kt _ _ (fun l a=>by obtain⟨p,c,rfl⟩:=List.mem_map.1 a; exact RB p) (by rw[ã]; exact Nat.le_refl _),List.map_map,List.map_map];rfl
def Ir:∀(l:w9 Mx),(∀x∈l,I64X x)->vS (l.map Ku)=some l
 |[],_=>rfl
 |x::l,h=>by
  rw[List.map_cons];unfold vS;rw[XT (h x (by simp)),Ir l fun y a=>h y (by simp[a])]
def ZE {m:ε} (h:MOk m):(Eu m).length<=60000:=by
 have j:=QH (h.good.prints.mono fun n f=>f.i64)
 have h2:∀l:w9 Mx,(∀x∈l,(Ku x).length<=300)->(BV l).length<=300*l.length:=fun l c=>by
  induction l with
  |nil=>simp[BV]
  |cons x l d =>
   have:=d fun y e=>c y (by simp[e]);have h0:=c x (by simp);unfold BV at this ⊢;rw[List.flatMap_cons,List.length_append,List.length_cons]; omega
 have i:=h2 m.2 fun x a=>SF (h.nums x a) (h.short x a);have g:=h.n4;unfold Eu;rw[List.length_append]; omega
def XZ {m:ε} (h:MOk m):Nr (Eu m)=(m,0):=by
 obtain⟨r,c⟩:=XJ m.1;have f:=VP h.good;have h0:=(kz m).2 h;unfold Nr;rw[if_neg (by unfold Eu; rw[c]; simp)]
 cases a:m.2 with
 |nil =>
  have e:Eu m=g8 m.1:=by unfold Eu; rw[a]; simp[BV]
  rw[e,YF,if_neg (by decide),f];dsimp only
  have em:m=(m.1,[]):=by rw[<-a]
  unfold GJ;rw[show ζ []=[] from rfl];dsimp only[vS];rw[if_pos ⟨by rw[<-em]; exact h0,by rw[<-em,e]⟩,<-em]
 |cons x l =>
  have e:Eu m=g8 m.1++BV (x::l):=by unfold Eu; rw[a]
  have d:0<(g8 m.1).length:=by rw[c]; simp
  rw[e,aby,if_pos (by omega),Int.toNat_natCast,show(g8 m.1).length-1+1=(g8 m.1).length by omega,List.take_left,List.drop_left,f];dsimp only
  have em:m=(m.1,x::l):=by rw[<-a]
  unfold GJ;rw[SB,Ir _ (by rw[<-a]; exact h.nums)];dsimp only;rw[if_pos ⟨by rw[<-em]; exact h0,by rw[<-em,e]⟩,<-em]
def TD {m:ε} (h:MOk m):jL (ofL (Eu m))=some (m,0):=by rw[OG (ZE h),XZ h]
section
variable {ρ:Type}
def DL {α β:Type} (l:w9 α) (g:α->β) (K:w9 β->w8 ρ) {f:Int×w9 β->(Int×w9 β->w8 ρ)->w8 ρ}
 (h:∀(i:Nat) (a:α),i<l.length->l[i]?=some a->∀(v:w9 β) c,v.length=i->f (i,v) c=c ((i:Int)+1,v++[g a])) (d:∀(v:w9 β) c,f (l.length,v) c=K v):É f (0,[])=K (l.map g):=by
 refine Ζ l (fun i=>(l.take i).map g) _ rfl (fun i a hi ha c=>?_) (fun c=>?_)
 ·rw[h i a hi ha _ c (by simp; omega),take_succ ha,fW]; rfl
 ·rw[d,gH]
end
def mw (m:ε) (w:Way) (d:Int) (l:w9 Int):w9 Int:=jK (l.map fun x=>jD m.2 w x d)
def ada (m:ε) (w:Way) (c:Cmp):Cmp:=(c.1,c.2.1,mw m w c.2.1 c.2.2.1,mw m w c.2.1 c.2.2.2.1,c.2.2.2.2)
def trP (m:ε) (w:Way):ċ :=
 (m.1.1,m.1.2.1,m.1.2.2.1.map (fun u=>(jD m.2 w u.1 u.2,u.2)),m.1.2.2.2.1.map (fun l=>(jD m.2 w l.1 l.2.1.1,l.2)),m.1.2.2.2.2.1.map (ada m w),m.1.2.2.2.2.2.map (fun n=>(jD m.2 w n.1 n.2,n.2)))
section
variable {ρ:Type} {m:ε} {w:Way}
def MOk.who (h:MOk m) (c:ŏ m.2 w) (x d:Int):pG m w x d=some (jD m.2 w x d) :=
 who_ok c (by have:=h.n4; omega) (fun y a=>by have:=h.len5 y a; omega) x d
def tr_L0 (h:MOk m) (e:ŏ m.2 w) (k0:w9 (Int×Int)->w8 ρ):É (fun(v:Int×w9 (Int×Int)) d=>jV m w m.1.2.2.1 (Ô m.1.2.2.1) v.1 v.2 (fun a b=>d (a,b)) k0) ((0:Int),[])=k0 (m.1.2.2.1.map fun u=>(jD m.2 w u.1 u.2,u.2)):=by
 have g:=h.good.nU
 refine DL m.1.2.2.1 (fun u:Int×Int=>((jD m.2 w u.1 u.2,u.2):Int×Int)) k0 (fun i a hi ha v c f=>?_) (fun v c=>?_)<;>(try dsimp only)<;>unfold jV
 ·rw[Ñ hi,È ha,h.who e,Á,Į (Ð (by simp; omega)),Î hi (by omega)]
 ·rw[é]
def tr_L1 (h:MOk m) (e:ŏ m.2 w) (k0:w9 Ep->w8 ρ):É (fun(v:Int×w9 Ep) d=>jU m w m.1.2.2.2.1 (Ô m.1.2.2.2.1) v.1 v.2 (fun a b=>d (a,b)) k0) ((0:Int),[])=k0 (m.1.2.2.2.1.map fun l=>(jD m.2 w l.1 l.2.1.1,l.2)):=by
 have g:=h.good.nL
 refine DL m.1.2.2.2.1 (fun l:Ep=>((jD m.2 w l.1 l.2.1.1,l.2):Ep)) k0 (fun i a hi ha v c f=>?_) (fun v c=>?_)<;>(try dsimp only)<;>unfold jU
 ·rw[Ñ hi,È ha,h.who e,Á,Į (Ð (by simp; omega)),Î hi (by omega)]
 ·rw[é]
def BU (h:MOk m) (e:ŏ m.2 w) (d:Int) {l:w9 Int} (g:l.length<=1000):iU l d m w=some (mw m w d l):=by
 unfold iU wB;rw[DL l (fun x:Int=>(jD m.2 w x d:Int)) (fun z=>Ú (Ý z.length) (some (Ex z))) (fun i a hi ha v c f=>?_) (fun v c=>?_),Į (Ð (by simp; omega)),OQ]; rfl
 ·try dsimp only
  unfold iF;rw[Ñ hi,È ha,h.who e,Á,Į (Ð (by simp; omega)),Î hi (by omega)]
 ·try dsimp only
  unfold iF;rw[é]
def tr_L2 (h:MOk m) (c:ŏ m.2 w) (k0:w9 Cmp->w8 ρ):É (fun(v:Int×w9 Cmp) g=>jT m w m.1.2.2.2.2.1 (Ô m.1.2.2.2.2.1) v.1 v.2 (fun a b=>g (a,b)) k0) ((0:Int),[])=k0 (m.1.2.2.2.2.1.map (ada m w)):=by
 have k:=h.good.nC
 refine DL m.1.2.2.2.2.1 (ada m w) k0 (fun i a hi ha v f j=>?_) (fun v f=>?_)<;>(try dsimp only)<;>unfold jT
 ·obtain⟨e,d⟩:=h.good.size.piles a (cY ha);rw[Ñ hi,È ha,BU h c _ e,Á,BU h c _ d,Á,Į (Ð (by simp; omega)),Î hi (by omega)];rfl
 ·rw[é]
def tr_L3 (h:MOk m) (e:ŏ m.2 w) (k0:w9 (Int×Int)->w8 ρ):É (fun(v:Int×w9 (Int×Int)) d=>jS m w m.1.2.2.2.2.2 (Ô m.1.2.2.2.2.2) v.1 v.2 (fun a b=>d (a,b)) k0) ((0:Int),[])=k0 (m.1.2.2.2.2.2.map fun n=>(jD m.2 w n.1 n.2,n.2)):=by
 have g:=h.good.nK
 refine DL m.1.2.2.2.2.2 (fun n:Int×Int=>((jD m.2 w n.1 n.2,n.2):Int×Int)) k0 (fun i a hi ha v c f=>?_) (fun v c=>?_)<;>(try dsimp only)<;>unfold jS
 ·rw[Ñ hi,È ha,h.who e,Á,Į (Ð (by simp; omega)),Î hi (by omega)]
 ·rw[é]
def QF (h:MOk m) (a:ŏ m.2 w):gX m w=some (trP m w):=by
 have c:=h.good.nG;unfold gX t7 trP;rw[Į (Ð (by omega)),tr_L0 h a,tr_L1 h a,tr_L2 h a,tr_L3 h a]
end
def UT {l:w9 Int} {x:Int} (h:x∈l):∃k,l.findIdx? (·==x)=some k/\l[k]?=some x:=by
 cases a:l.findIdx? (·==x) with
 |none =>
  have:=d8.1 a x h;simp at this
 |some k =>
  obtain⟨c,d,_⟩:=dK.1 a;exact⟨k,rfl,by rw[cI c]; simpa using d⟩
def PL {l:w9 Int} {x:Int} (h:x∉l):l.findIdx? (·==x)=none:=by
 rw[d8];intro y a;simp only[beq_eq_false_iff_ne];exact fun e=>h (e▸a)
def idx_at {l:w9 Int} (c:l.Nodup) {k:Nat} {x:Int} (h:l[k]?=some x):l.findIdx? (·==x)=some k:=by
 obtain⟨j,d,a⟩:=UT (cY h);obtain⟨g,f⟩:=cQ.1 h;obtain⟨h2,e⟩:=cQ.1 a;rw[d,(List.getElem_inj c).1 (e.trans f.symm)]
def VC {d d0:Int} {l k:w9 Int} (f:l.Nodup) (j:k.Nodup) (c:l.Perm k) (x:Int):stp d (d0,k) l (stp d (d0,l) k x)=x:=by
 unfold stp
 by_cases hd:d0<d
 ·simp only[if_pos hd]
  by_cases a:x∈k
  ·obtain⟨i,g,h2⟩:=UT a;rw[g];dsimp only
   have hi:i<l.length:=by rw[c.length_eq]; exact(cQ.1 h2).1
   have e:l[i]?=some (l.getD i 0):=by rw[dZ,cI hi]; rfl
   rw[idx_at f e];dsimp only;rw[List.getD_eq_getElem?_getD,h2]; rfl
  ·rw[PL a];dsimp only;rw[PL fun h=>a (c.subset h)]
 ·simp only[if_neg hd]
def ZK {d:Int} {m:Mx} {l:w9 Int} (c:l.Perm m.2) (x:Int):stp d m l x=x\/(m.1<d/\x∈m.2/\stp d m l x∈m.2):=by
 unfold stp
 by_cases hd:m.1<d
 ·simp only[if_pos hd]
  by_cases a:x∈l
  ·obtain⟨i,e,h2⟩:=UT a;rw[e];dsimp only
   have hi:i<m.2.length:=by rw[<-c.length_eq]; exact(cQ.1 h2).1
   exact .inr ⟨hd,c.subset a,by rw[dZ,cI hi]; exact fG hi⟩
  ·rw[PL a];exact .inl rfl
 ·simp only[if_neg hd];exact .inl trivial
def afh:w9 Mx->Way->Int->Int->Int
 |m::ms,l::ls,x,d=>afh ms ls (stp d (m.1,l) m.2 x) d
 |_,_,x,_=>x
def acO {l:w9 Int} (h:l.Pairwise (·<·)):l.Nodup:=h.imp fun h=>Int.ne_of_lt h
def Zo:∀{ms:w9 Mx} {w:Way},ŏ ms w->(∀x∈ms,x.2.Nodup)->∀x d,jD ms w (afh ms w x d) d=x
 |[],[],_,_,x,d=>rfl
 |m::ms,l::ls,h,a,x,d=>by
  rw[afh,jD,Zo h.2 fun y c=>a y (dF _ c)];exact VC (d0:=m.1) (h.1.nodup_iff.2 (a m (by simp))) (a m (by simp)) h.1 x
def UL:∀{ms:w9 Mx} {w:Way},ŏ ms w->(∀x∈ms,x.2.Nodup)->∀x d,afh ms w (jD ms w x d) d=x
 |[],[],_,_,x,d=>rfl
 |m::ms,l::ls,h,a,x,d=>by
  rw[afh,jD];have:=VC (d:=d) (d0:=m.1) (l:=m.2) (k:=l) (a m (by simp)) (h.1.nodup_iff.2 (a m (by simp))) h.1.symm (jD ms ls x d);rw[show stp d (m.1,l) m.2 (stp d m l (jD ms ls x d))=_ from this];exact UL h.2 (fun y c=>a y (dF _ c)) x d
def Zp:∀{ms:w9 Mx} {w:Way} (Q:Int->Prop) {d:Int},ŏ ms w->(∀m∈ms,m.1<d->∀x∈m.2,Q x)->∀{x:Int},Q x->Q (jD ms w x d)
 |[],[],Q,d,_,_,x,a=>a
 |m::ms,l::ls,Q,d,h,c,x,a=>by
  have:=Zp (x:=x) Q h.2 (fun y f=>c y (dF _ f)) a;rw[jD];rcases ZK (d:=d) h.1 (jD ms ls x d) with e|⟨i,_,g⟩
  ·rw[e]; exact this
  ·exact c m (by simp) i _ g
def HA:∀{ms:w9 Mx} {w:Way} {d:Int},ŏ ms w->∀{x:Int},(∀m∈ms,m.1<d->x∉m.2)->jD ms w x d=x
 |[],[],d,_,x,_=>rfl
 |m::ms,l::ls,d,h,x,a=>by
  rw[jD,HA h.2 fun y c=>a y (dF _ c)];rcases ZK (d:=d) h.1 x with e|⟨g,f,_⟩
  ·exact e
  ·exact absurd f (a m (by simp) g)
def Qs:∀{ms:w9 Mx} {w:Way} {d e:Int},ŏ ms w->ms.Pairwise (fun a b=>a.1<b.1)->d<=e->∀{x:Int},(∀m∈ms,d<=m.1->m.1<e->x∉m.2)->jD ms w x e=jD ms w x d
 |[],[],d,e,_,_,_,x,_=>rfl
 |m::ms,l::ls,d,e,h,i,o,x,j=>by
  rw[dD] at i;rcases Int.lt_or_le m.1 d with k|n
  ·rw[jD,jD,Qs h.2 i.2 o fun y f=>j y (dF _ f)]
   have p:∀y,stp e m l y=stp d m l y:=fun y=>by unfold stp; rw[if_pos k,if_pos (by omega)]
   exact p _
  ·have p:jD (m::ms) (l::ls) x e=x:=HA h fun y f g=>by
    rcases cP.1 f with rfl|c
    ·exact j y (by simp) n g
    ·exact j y f (by have:=i.1 y c; omega) g
   have r:jD (m::ms) (l::ls) x d=x:=HA h fun y f q=>by
    rcases cP.1 f with rfl|c
    ·omega
    ·have:=i.1 y c; omega
   rw[p,r]
def Cr {b:ċ} (hi:b.2.1.Pairwise fun a b=>a.1<b.1) {id day:Int}:lU (κ b) id day=0↔∃g,Ă b id=some g/\g.2.1<=day:=by
 rw[<-T3 hi];unfold FS
 cases Ă b id with
 |none=>simp
 |some g =>
  dsimp only
  by_cases h:day<g.2.1
  ·rw[if_pos h]; simp; omega
  ·rw[if_neg h]; simp; omega
def BP {b:ċ} (hi:b.2.1.Pairwise fun a b=>a.1<b.1) {id day:Int}:Zw (κ b) id day=0↔Le day=true/\∃g,Ă b id=some g/\g.2.1<=day:=by
 unfold Zw
 cases Le day with
 |false=>simp
 |true=>simp[Cr hi]
def Sy {b:ċ} (hi:b.2.1.Pairwise fun a b=>a.1<b.1) {i:Nat} {l:Ep}:Sz b (κ b) i l=0↔lP l.2.1 0 20000=true/\inP l.2.2 0 1048576=true/\(∃g,Ă b l.1=some g/\g.2.1<=l.2.1.1) /\
 (∀x∈b.2.2.2.1.take i,x.1=l.1->¬(x.2.1.1<=l.2.1.2/\l.2.1.1<=x.2.1.2))/\∀u∈b.2.2.1,u.1=l.1->inP u.2 l.2.1.1 l.2.1.2=false:=by
 unfold Sz;rw[<-Cr hi]
 cases lP l.2.1 0 20000 with
 |false=>simp
 |true =>
  cases inP l.2.2 0 1048576 with
  |false=>simp
  |true =>
   by_cases h:lU (κ b) l.1 l.2.1.1=0
   ·simp only[h,dJ,dj,if_false,bne_self_eq_false,true_and]
    split
    ·rename_i c;simp only[dU,cM,beq_iff_eq,decide_eq_true_eq] at c;obtain⟨x,d,k,j⟩:=c;exact⟨fun e=>absurd e (by decide),fun e=>absurd j (e.1 x d k)⟩
    ·rename_i c;simp only[dU,cM,beq_iff_eq,decide_eq_true_eq,not_exists,not_and] at c
     split
     ·rename_i h2;simp only[dU,cM,beq_iff_eq] at h2;obtain⟨u,f,k,j⟩:=h2;exact⟨fun e=>absurd e (by decide),fun e=>by have:=e.2 u f k; rw[j] at this; cases this⟩
     ·rename_i h2;simp only[dU,cM,beq_iff_eq,not_exists,not_and] at h2;exact⟨fun _=>⟨fun x d e ⟨p,q⟩=>c x d e p q,fun u f e=>by simpa using h2 u f e⟩,fun _=>rfl⟩
   ·simp[h]
def Np {b:ċ} (hi:b.2.1.Pairwise fun a b=>a.1<b.1) {c:Cmp}:vT b (κ b) c=0↔(∀x∈c.2.2.1++c.2.2.2.1,(∃g,Ă b x=some g/\g.2.1<=c.2.1)/\ow b x c.2.1=none) /\
 (ğ c.2.2.1 c.2.2.2.1).length<=1/\(ğ c.2.2.2.1 c.2.2.1).length<=1/\(ğ c.2.2.1 c.2.2.2.1).length+(ğ c.2.2.2.1 c.2.2.1).length≠0:=by
 unfold vT;constructor
 ·intro h
  split at h
  ·cases h
  rename_i f
  split at h
  ·cases h
  rename_i h2
  split at h
  ·cases h
  rename_i i
  split at h
  ·cases h
  split at h
  ·cases h
  split at h
  ·cases h
  simp only[dU,not_exists,not_and,beq_iff_eq] at f h2;simp only[dU,not_exists,not_and,Option.isSome_iff_ne_none,ne_eq,Decidable.not_not] at i;refine⟨fun x d=>⟨(Cr hi).1 ?_,i x d⟩,by omega,by omega,by omega⟩;rcases IR (κ b) x c.2.1 with e|e|e
  ·exact e
  ·exact absurd e (h2 x d)
  ·exact absurd e (f x d)
 ·intro⟨f,h2,i,k⟩;have j:∀x∈c.2.2.1++c.2.2.2.1,lU (κ b) x c.2.1=0:=fun x d=>(Cr hi).2 (f x d).1;rw[if_neg,if_neg,if_neg,if_neg (by omega),if_neg (by omega),if_neg k]
  ·simp only[dU,not_exists,not_and,Option.isSome_iff_ne_none,ne_eq,Decidable.not_not];exact fun x d=>(f x d).2
  ·simp only[dU,not_exists,not_and,beq_iff_eq]
   exact fun x d e=>by rw[j x d] at e; cases e
  ·simp only[dU,not_exists,not_and,beq_iff_eq]
   exact fun x d e=>by rw[j x d] at e; cases e
def FG {b:ċ} {x d:Int}:ow b x d=none↔∀l∈b.2.2.2.1,l.1=x->inP d l.2.1.1 l.2.1.2=false:=by
 unfold ow;rw[List.find?_eq_none];simp
def vU {m:ε} {w:Way} {d:Int} {l:w9 Int} {y:Int}:y∈mw m w d l↔∃x∈l,jD m.2 w x d=y:=by
 unfold mw;rw[(isortI_perm _).mem_iff,List.mem_map]
section
variable {m:ε} {w:Way}
def MOk.nd (h:MOk m):∀x∈m.2,x.2.Nodup:=fun x a=>acO (h.mix a).asc
def MOk.inj (h:MOk m) (a:ŏ m.2 w) {d x y:Int} (e:jD m.2 w x d=jD m.2 w y d):x=y:=by
 rw[<-UL a h.nd x d,e,UL a h.nd]
def MOk.whoG (h:MOk m) (f:ŏ m.2 w) {d x:Int} (e:∃g,Ă m.1 x=some g/\g.2.1<=d):∃g,Ă m.1 (jD m.2 w x d)=some g/\g.2.1<=d :=
 Zp (fun y=>∃g,Ă m.1 y=some g/\g.2.1<=d) f (fun y c hd z a=>by
  obtain⟨g,i,h2⟩:=(h.mix c).known z a
  exact⟨g,i,by omega⟩) e
def MOk.made (h:MOk m) (e:ŏ m.2 w) {x:Int} {g:Ą} (f:Ă m.1 x=some g):jD m.2 w x g.2.1=x :=
 HA e fun y c hd d=>by
  obtain⟨g',a,h2⟩:=(h.mix c).known x d;rw[f] at a; cases a;omega
def MOk.loan (h:MOk m) (e:ŏ m.2 w) {l:Ep} (f:l∈m.1.2.2.2.1) {d:Int} (hd:inP d l.2.1.1 l.2.1.2=true):jD m.2 w l.1 d=jD m.2 w l.1 l.2.1.1:=by
 simp only[inP,cM,decide_eq_true_eq] at hd;refine Qs e h.days hd.1 fun y a g h2 c=>?_;have:=(FG.1 ((h.mix a).home _ c).1) l f rfl;simp only[inP,fm,decide_eq_false_iff_not] at this;omega
def abo (h:MOk m) (c:ŏ m.2 w) (d:Int) (A B:w9 Int):(ğ (mw m w d A) (mw m w d B)).Perm ((ğ A B).map fun x=>jD m.2 w x d):=by
 unfold ğ;refine((isortI_perm _).filter _).trans ?_;rw[List.filter_map];refine List.Perm.of_eq ?_;congr 1;refine List.filter_congr fun x f=>?_;simp only[Function.comp];congr 1;rw[Bool.eq_iff_iff,List.contains_iff_mem,List.contains_iff_mem,vU];exact⟨fun⟨y,a,e⟩=>h.inj c e▸a,fun a=>⟨x,a,rfl⟩⟩
def VT (h:MOk m) (f:ŏ m.2 w) {d:Int} {l:w9 Int} (k:yI l=true) (o:∀x∈l,∃g,Ă m.1 x=some g/\g.2.1<=d):yI (mw m w d l)=true:=by
 obtain⟨t,h2,q⟩:=(Q4 l).1 k;refine(Q4 _).2 ⟨fun y i=>?_,?_,by unfold mw; rw[(isortI_perm _).length_eq,List.length_map]; exact q⟩
 ·obtain⟨x,j,rfl⟩:=vU.1 i;obtain⟨g,p,_⟩:=h.whoG f (o x j);obtain⟨s,r⟩:=ku p;have:=(h.good.gaugeR s).2.2.2.1;rw[<-r]; exact this
 ·have c:(mw m w d l).Nodup:=by
   unfold mw;rw[(isortI_perm _).nodup_iff];exact List.pairwise_map.2 (h2.imp fun n e=>by have:=h.inj f e; omega)
  exact((isortI_sorted _).and c).imp fun⟨a,b⟩=>Int.lt_iff_le_and_ne.2 ⟨a,b⟩
def afJ (h:MOk m) (c:ŏ m.2 w) {x d:Int} (ha:ow m.1 x d=none):ow (trP m w) (jD m.2 w x d) d=none:=by
 rw[FG];intro g a e;obtain⟨l,f,rfl⟩:=dG.1 a
 cases hd:inP d l.2.1.1 l.2.1.2 with
 |false=>rfl
 |true =>
  rw[<-h.loan c f hd] at e;have:=FG.1 ha l f (h.inj c e);rw[hd] at this; cases this
def IG {b:ċ} (hi:b.2.1.Pairwise fun a b=>a.1<b.1):(î b).Nodup:=by
 unfold î List.Nodup;rw[List.pairwise_flatMap];refine⟨fun g _=>List.pairwise_map.2 ((UZ b g).imp fun h e=>by cases e; omega),hi.imp fun i x f y c e=>?_⟩;obtain⟨d,_,rfl⟩:=List.mem_map.1 f;obtain⟨j,_,rfl⟩:=List.mem_map.1 c;simp only[Prod.mk.injEq] at e;omega
def wi {b:ċ} {x d:Int}:(x,d)∈î b↔∃g∈b.2.1,g.1=x/\d∈Ğ b g:=by
 unfold î;simp only[List.mem_flatMap,List.mem_map];constructor
 ·rintro⟨g,a,c,hd,e⟩;cases e;exact⟨g,a,rfl,hd⟩
 ·rintro⟨g,a,rfl,hd⟩;exact⟨g,a,d,hd,rfl⟩
def yz (h:MOk m) (c:ŏ m.2 w) {d:Int} {A:w9 Int} {x:Int}:(mw m w d A).contains (jD m.2 w x d)=A.contains x:=by
 rw[fX,f7,f7,vU];exact⟨fun⟨y,a,e⟩=>h.inj c e▸a,fun a=>⟨x,a,rfl⟩⟩
def afI (h:MOk m) (e:ŏ m.2 w) {x d:Int} (o:(x,d)∈î m.1):(jD m.2 w x d,d)∈î (trP m w):=by
 obtain⟨g,l,rfl,hd⟩:=wi.1 o;have a:=md h.good.ids l;obtain⟨g',k,_⟩:=h.whoG e (x:=g.1) (d:=d) ⟨g,a,(h.good.day l hd).1⟩;obtain⟨q,j⟩:=ku k;refine wi.2 ⟨g',q,j,nh.2 ?_⟩;rcases nh.1 hd with rfl|⟨c,p,i,rfl⟩|⟨n,f,i,rfl⟩
 ·rw[h.made e a,a] at k;cases k;exact .inl rfl
 ·refine .inr (.inl ⟨ada m w c,dG.2 ⟨c,p,rfl⟩,?_,rfl⟩);rw[j];show(mw m w c.2.1 c.2.2.1).contains _≠(mw m w c.2.1 c.2.2.2.1).contains _;rw[yz h e,yz h e];exact i
 ·exact .inr (.inr ⟨_,dG.2 ⟨n,f,rfl⟩,by rw[j,i],rfl⟩)
def QG (h:MOk m) (j:ŏ m.2 w) {y d:Int} (s:(y,d)∈î (trP m w)):∃x,jD m.2 w x d=y/\(x,d)∈î m.1:=by
 obtain⟨g,k,rfl,hd⟩:=wi.1 s;have k:g∈m.1.2.1:=k;have o:=md h.good.ids k;have q:jD m.2 w (afh m.2 w g.1 d) d=g.1:=Zo j h.nd _ _
 have fin:∀x,jD m.2 w x d=g.1->(∃g',Ă m.1 x=some g')->(∀g':Ą,g'.1=x->d∈Ğ m.1 g')->∃x,jD m.2 w x d=g.1/\(x,d)∈î m.1:=fun x e ⟨g',A⟩ z=>by
  obtain⟨v,a⟩:=ku A;exact⟨x,e,wi.2 ⟨g',v,a,z g' a⟩⟩
 rcases nh.1 hd with e|⟨c',p,a,f⟩|⟨B,l,a,f⟩
 ·subst e;exact⟨g.1,h.made j o,wi.2 ⟨g,k,rfl,Eb g⟩⟩
 ·obtain⟨c,r,rfl⟩:=dG.1 p;have f:c.2.1=d:=f;subst f;have a:(mw m w c.2.1 c.2.2.1).contains g.1≠(mw m w c.2.1 c.2.2.2.1).contains g.1:=a;rw[<-q,yz h j,yz h j] at a;refine fin _ q ?_ fun g' e=>nh.2 (.inr (.inl ⟨c,r,by rw[e]; exact a,rfl⟩))
  have:afh m.2 w g.1 c.2.1∈c.2.2.1++c.2.2.2.1:=by
   rw[cO,<-f7,<-f7]
   cases t:c.2.2.1.contains (afh m.2 w g.1 c.2.1) with
   |true=>exact .inl rfl
   |false =>
    rw[t] at a;exact .inr (by simpa using a)
  obtain⟨⟨g',e,_⟩,_⟩:=h.good.pile r this;exact⟨g',e⟩
 ·obtain⟨n,i,rfl⟩:=dG.1 l;have f:n.2=d:=f;have a:jD m.2 w n.1 n.2=g.1:=a;subst f;obtain⟨_,g',e,_⟩:=(BP h.good.ids).1 (h.good.looks n i);exact fin n.1 a ⟨g',e⟩ fun u e=>nh.2 (.inr (.inr ⟨n,i,e.symm,rfl⟩))
def adM (m:ε) (w:Way) (n:Int×Int):Int×Int:=(jD m.2 w n.1 n.2,n.2)
def ae5 (h:MOk m):(trP m w).2.1.Pairwise fun a b=>a.1<b.1:=h.good.ids
def tr_len (h:MOk m) (f:ŏ m.2 w):(î (trP m w)).length=(î m.1).length:=by
 have o:(î (trP m w)).length<=((î m.1).map (adM m w)).length:=List.Nodup.length_le_of_subset (IG (ae5 h)) fun n j=>by
  obtain⟨x,e,c⟩:=QG (y:=n.1) (d:=n.2) h f j;exact dG.2 ⟨(x,n.2),c,Prod.ext e rfl⟩
 have h2:((î m.1).map (adM m w)).length<=(î (trP m w)).length:=by
  have i:((î m.1).map (adM m w)).Nodup:=by
   refine List.pairwise_map.2 ((IG h.good.ids).imp ?_);intro a b g e;unfold adM at e;simp only[Prod.mk.injEq] at e;obtain⟨l,k⟩:=e;rw[k] at l;exact g (Prod.ext (h.inj f l) k)
  refine List.Nodup.length_le_of_subset i fun n j=>?_;obtain⟨⟨x,d⟩,c,rfl⟩:=dG.1 j;exact afI h f c
 rw[dP] at o h2;omega
def TU (h:MOk m) (j:ŏ m.2 w):kE (trP m w):=by
 have a:=h.good;have f:=ae5 (w:=w) h;have X:κ (trP m w)=κ m.1:=rfl;have Z:∀x,Ă (trP m w) x=Ă m.1 x:=fun _=>rfl;have o:=tr_len h j;refine⟨a.film,a.nG,by simpa[trP] using a.nU,by simpa[trP] using a.nL,by simpa[trP] using a.nC,by simpa[trP] using a.nK,a.gauge,f,?_,?_,?_,?_,by rw[o]; exact a.nodes,by rw[o]; simpa[trP] using a.links⟩
 ·intro u' q;obtain⟨u,F,rfl⟩:=dG.1 q;obtain⟨C,B⟩:=(BP a.ids).1 (a.uses u F);exact(BP f).2 ⟨C,h.whoG j B⟩
 ·intro i O I
  obtain⟨l,P,rfl⟩:∃l,m.1.2.2.2.1[i]?=some l/\(jD m.2 w l.1 l.2.1.1,l.2)=O:=by
   have:(m.1.2.2.2.1.map (fun l:Ep=>(jD m.2 w l.1 l.2.1.1,l.2)))[i]?=some O:=I;rw[eI] at this
   cases d:m.1.2.2.2.1[i]? with
   |none=>rw[d] at this; cases this
   |some l=>rw[d] at this; exact⟨l,rfl,by simpa using this⟩
  have r:=cY P;obtain⟨C,B,e3,e4,e5⟩:=(Sy a.ids).1 (a.loans i l P);refine(Sy f).2 ⟨C,B,h.whoG j e3,fun R k ex z=>?_,fun u' q M=>?_⟩
  ·have k:R∈(m.1.2.2.2.1.map (fun l:Ep=>(jD m.2 w l.1 l.2.1.1,l.2))).take i:=k;rw[<-List.map_take] at k;obtain⟨x,d,rfl⟩:=List.mem_map.1 k;have t:=List.mem_of_mem_take d;have s1:=(tp a t).1;have s2:=(tp a r).1;dsimp only at ex z
   have d1:inP (max x.2.1.1 l.2.1.1) x.2.1.1 x.2.1.2=true:=by simp[inP]; omega
   have d2:inP (max x.2.1.1 l.2.1.1) l.2.1.1 l.2.1.2=true:=by simp[inP]; omega
   rw[<-h.loan j t d1,<-h.loan j r d2] at ex;exact e4 x d (h.inj j ex) z
  ·obtain⟨u,F,rfl⟩:=List.mem_map.1 q;dsimp only at M ⊢
   cases hd:inP u.2 l.2.1.1 l.2.1.2 with
   |false=>rfl
   |true =>
    rw[<-h.loan j r hd] at M;have:=e5 u F (h.inj j M);rw[hd] at this; cases this
 ·intro i c' K
  obtain⟨c,Q,rfl⟩:∃c,m.1.2.2.2.2.1[i]?=some c/\ada m w c=c':=by
   have:(m.1.2.2.2.2.1.map (ada m w))[i]?=some c':=K;rw[eI] at this
   cases d:m.1.2.2.2.2.1[i]? with
   |none=>rw[d] at this; cases this
   |some l=>rw[d] at this; exact⟨l,rfl,by simpa using this⟩
  have s:=cY Q;obtain⟨n1,V,U,n4,T,n6,S⟩:=(mz c).1 (a.nums s);have v:=(Np a.ids).1 (a.pilesOf s);have J:∀x∈c.2.2.1++c.2.2.2.1,∃g,Ă m.1 x=some g/\g.2.1<=c.2.1:=fun x d=>(v.1 x d).1;have A:O7 (ada m w c)=true:=(mz _).2 ⟨n1,V,U,n4,T,VT h j n6 fun x d=>J x (dH _ d),VT h j S fun x d=>J x (dl _ d)⟩;have E:=(abo h j c.2.1 c.2.2.1 c.2.2.2.1).length_eq;have D:=(abo h j c.2.1 c.2.2.2.1 c.2.2.1).length_eq;rw[dP] at E D
  have G:vT (trP m w) (κ (trP m w)) (ada m w c)=0:=by
   refine(Np f).2 ⟨fun y p=>?_,?_,?_,?_⟩
   ·have p:y∈mw m w c.2.1 c.2.2.1++mw m w c.2.1 c.2.2.2.1:=p
    obtain⟨x,d,rfl⟩:∃x∈c.2.2.1++c.2.2.2.1,jD m.2 w x c.2.1=y:=by
     rcases cO.1 p with p|p
     ·obtain⟨x,d,e⟩:=vU.1 p;exact⟨x,dH _ d,e⟩
     ·obtain⟨x,d,e⟩:=vU.1 p;exact⟨x,dl _ d,e⟩
    exact⟨h.whoG j (J x d),afJ h j (v.1 x d).2⟩
   ·show(ğ (mw m w c.2.1 c.2.2.1) (mw m w c.2.1 c.2.2.2.1)).length<=1;rw[E]; exact v.2.1
   ·show(ğ (mw m w c.2.1 c.2.2.2.1) (mw m w c.2.1 c.2.2.1)).length<=1;rw[D]; exact v.2.2.1
   ·show(ğ (mw m w c.2.1 c.2.2.1) (mw m w c.2.1 c.2.2.2.1)).length+(ğ (mw m w c.2.1 c.2.2.2.1) (mw m w c.2.1 c.2.2.1)).length≠0;rw[E,D]; exact v.2.2.2
  have h0:=a.compares i c Q;unfold ol at h0 ⊢;rw[a.nums s] at h0;rw[A,G]
  have W:((trP m w).2.2.2.2.1.take i).any (fun x=>x.1==(ada m w c).1)=(m.1.2.2.2.2.1.take i).any fun x=>x.1==c.1:=by
   show((m.1.2.2.2.2.1.map (ada m w)).take i).any _=_;rw[<-List.map_take,List.any_map]; rfl
  rw[W];simp only[dJ,dj,if_false] at h0 ⊢
  split at h0
  ·cases h0
  ·rename_i h1; rw[if_neg h1]
 ·intro n' H;obtain⟨n,Y,rfl⟩:=dG.1 H;obtain⟨C,B⟩:=(BP a.ids).1 (a.looks n Y);exact(BP f).2 ⟨C,h.whoG j B⟩
end
section
variable {L:w9 Lk} {N:Nat}
def Qo (h:acV L N):mr ((N:Int),L)=some (IE L N,0):=by
 have h2:=h.n60;unfold mr zT;rw[Qq h,Á];dsimp only;rw[Õ (by rfl),T0 h.links h.n1 (by omega),Á]
 cases IE L N<;>rfl
end
section
variable {ρ α:Type}
def delK (a:α) (K:w9 α->w8 ρ) (z:Int×w9 α):w8 ρ :=
 Ú ((ile (0:Int) z.1)&&(ile z.1 (ï z.2))) (Ú ((ile (0:Int) z.1)&&(ile z.1 (ï (List.take (Int.toNat z.1) z.2++List.replicate (List.length z.2-(Int.toNat z.1)) a++List.drop ((Int.toNat z.1)+(List.length z.2-(Int.toNat z.1))) z.2))))
  (K (List.take (Int.toNat z.1) (List.drop 0 (List.take (Int.toNat z.1) z.2++List.replicate (List.length z.2-(Int.toNat z.1)) a++List.drop ((Int.toNat z.1)+(List.length z.2-(Int.toNat z.1))) z.2)))))
def agU (a:α) (K:w9 α->w8 ρ) {i:Nat} {s:w9 α} (h:i<=s.length):delK a K ((i:Int),s)=K (s.take i):=by
 unfold delK
 have d:((ile (0:Int) (i:Int))&&(ile (i:Int) (ï s)))=true:=by simp[ile,ï]; omega
 dsimp only;rw[Į d]
 have c:((ile (0:Int) (i:Int))&&(ile (i:Int) (ï (List.take (Int.toNat (i:Int)) s++List.replicate (List.length s-(Int.toNat (i:Int))) a++List.drop ((Int.toNat (i:Int))+(List.length s-(Int.toNat (i:Int)))) s))))=true:=by
  simp[ile,ï]; omega
 rw[Į c,dc,f6,cS,eE (by simp; omega),List.take_take,Nat.min_self]
def YR (p:α->Bool) {a:w9 α} {F:Int->Int->w9 α->(Int->Int->w9 α->w8 ρ)->w8 ρ} {k0:Int×w9 α->w8 ρ} {K:w9 α->w8 ρ}
 (J:∀(i j:Nat) (s:w9 α) (x:α),s.length=a.length->i<j->j<s.length->s[j]?=some x->x∈a->∀d,F i j s d=if p x then d ((i:Int)+1) ((j:Int)+1) (s.set i x) else d i ((j:Int)+1) s)
 (M:∀(i:Nat) (s:w9 α) d,i<=s.length->s.length=a.length->F i s.length s d=k0 ((i:Int),s)) (G:∀(i:Nat) (s:w9 α),i<=s.length->k0 ((i:Int),s)=K (s.take i))
 {z:Nat} (D:z<a.length) (E:∀x∈a.take z,p x=true) (I:∀c,a[z]?=some c->p c=false) :
 É (fun(v:Int×Int×w9 α) C=>F v.1 v.2.1 v.2.2 (fun x y w=>C (x,y,w))) ((z:Int),((z:Int)+1),a)=K (a.filter p):=by
 refine ġ (fun x:Int×Int×w9 α=>∃i j:Nat,x.1=i/\x.2.1=j/\i<j/\j<=a.length/\x.2.2.length=a.length/\x.2.2.take i=(a.take j).filter p/\x.2.2.drop j=a.drop j) (fun x=>a.length-x.2.1.toNat) ?_
  ⟨z,z+1,rfl,by simp,by omega,by omega,rfl,?_,rfl⟩
 ·rintro⟨P,O,s⟩ ⟨i,j,B,h2,t,H,g,l,hd⟩;simp only at B h2 g l hd;subst B h2;rcases dA j a.length with n|n
  ·refine .inr ?_
   have o:s[j]?=some a[j]:=by
    have A:(s.drop j)[0]?=(a.drop j)[0]?:=by rw[hd]
    rw[eA,eA] at A;simpa[cI n] using A
   have f:(a.take (j+1)).filter p=(a.take j).filter p++if p a[j] then[a[j]] else[]:=by
    rw[take_succ (cI n),eP];congr 1
    cases h:p a[j]<;>simp[h]
   have k:s.drop (j+1)=a.drop (j+1):=by
    have:=congrArg (List.drop 1) hd;simpa[fR,Nat.add_comm] using this
   have u:=J i j s a[j] g t (by omega) o (fG n)
   cases h:p a[j] with
   |false =>
    refine⟨(i,(j:Int)+1,s),⟨i,j+1,rfl,by simp,by omega,by omega,g,?_,k⟩,by simp; omega,fun d=>by dsimp only; rw[u,h]; rfl⟩;rw[f,h]; simpa using l
   |true =>
    have r:i<s.length:=by omega
    refine⟨((i:Int)+1,(j:Int)+1,s.set i a[j]),⟨i+1,j+1,by simp,by simp,by omega,by omega,by simpa using g,?_,?_⟩,by simp; omega,fun d=>by dsimp only; rw[u,h]; rfl⟩
    ·show List.take (i+1) (s.set i a[j])=_;rw[f,h,List.take_add_one,fN,List.take_set_of_le (cJ i),l];simp[r]
    ·show List.drop (j+1) (s.set i a[j])=_;rw[List.drop_set_of_lt (by omega)];exact k
  ·refine .inl fun d=>?_
   have q:j=s.length:=by omega
   try dsimp only
   rw[q,M i s _ (by omega) g,G i s (by omega),l,dN (by omega)]
 ·show List.take z a=(a.take (z+1)).filter p;have e:a[z]?=some a[z]:=cI D;rw[take_succ e,eP,gh.2 E];simp[I _ e]
def agT (p:α->Bool) {a:w9 α} {o:Int->(Int->w8 ρ)->w8 ρ} {F:Int->Int->w9 α->(Int->Int->w9 α->w8 ρ)->w8 ρ} {k0:Int×w9 α->w8 ρ} {K:w9 α->w8 ρ} {kf:Int->w8 ρ} {kend:w8 ρ}
 (D:∀(i:Nat) (x:α),i<a.length->a[i]?=some x->∀d,o i d=if !p x then kf i else d ((i:Int)+1)) (n:∀d,o a.length d=kend) (e:kend=K a)
 (k:∀z:Nat,z<a.length->kf z=É (fun(v:Int×Int×w9 α) t=>F v.1 v.2.1 v.2.2 (fun x y w=>t (x,y,w))) ((z:Int),((z:Int)+1),a))
 (B:∀(i j:Nat) (s:w9 α) (x:α),s.length=a.length->i<j->j<s.length->s[j]?=some x->x∈a->∀d,F i j s d=if p x then d ((i:Int)+1) ((j:Int)+1) (s.set i x) else d i ((j:Int)+1) s)
 (C:∀(i:Nat) (s:w9 α) d,i<=s.length->s.length=a.length->F i s.length s d=k0 ((i:Int),s)) (u:∀(i:Nat) (s:w9 α),i<=s.length->k0 ((i:Int),s)=K (s.take i)):É o 0=K (a.filter p):=by
 rw[lm a (fun x=>!p x) kf kend D n]
 cases q:a.findIdx? (fun x=>!p x) with
 |none =>
  dsimp only;rw[e,List.filter_eq_self.2];intro x g;have:=List.findIdx?_eq_none_iff.1 q x g;simpa using this
 |some z =>
  obtain⟨f,l,h⟩:=List.findIdx?_eq_some_iff_getElem.1 q;dsimp only;rw[k z f];refine YR p B C u f (fun x g=>?_) (fun c r=>?_)
  ·obtain⟨j,A,rfl⟩:=dg.1 g;rw[dh] at A;rw[f0];have:=h j (by omega);simpa using this
  ·rw[cI f] at r;cases r;simpa using l
end
def abP (m:ε) (w:Way):Bool:=IE (AD (trP m w)) ((î (trP m w)).length+1)
def Fm (m:ε):w9 Way:=(GH m.2).filter (abP m)
section
variable {m:ε} {w:Way} {ρ:Type}
def In_tr (h:MOk m) (a:ŏ m.2 w):In (trP m w):=⟨(TU h a).size,h.in_.num⟩
def acT (h:MOk m) (a:ŏ m.2 w):jk (trP m w)=some ((((î (trP m w)).length:Int)+1,AD (trP m w)),OO (trP m w),0):=by
 rw[acU (In_tr h a),Vk,if_neg (by simp[(iy _).2 (TU h a)])]
def K7 (h:MOk m) (a:ŏ m.2 w):θ m w=some (abP m w):=by
 unfold θ F7;rw[QF h a,Á,acT h a,Á];have:=Qo (TU h a).sys;simp only[Int.natCast_add,Int.cast_ofNat_Int] at this;rw[this]; rfl
def afF {i:Nat} (hi:(GH m.2)[i]?=some w):ŏ m.2 w:=Ib.1 (cY hi)
def Vv (h:MOk m):(GH m.2).length<=150:=by rw[Zs]; exact h.prod
def abC (h:MOk m):yp m=some (Fm m):=by
 unfold yp Pj;have G:=Xf h;have C:=Vv h;have t:((((m.1.1.1,m.1.1.2),m.1.2.1,m.1.2.2.1,m.1.2.2.2.1,m.1.2.2.2.2.1,m.1.2.2.2.2.2),m.2):ε)=m:=rfl;rw[agX h,Á,PT (fun v y e E=>by unfold Bk; rw[Į (Ð (by simp; omega))]) (by simp; omega),List.nil_append,ZR h,Á]
 refine agT (a:=GH m.2) (abP m) (K:=fun l=>some l) (k0:=delK [] fun l=>some l) (kf:=fun n=>ifb (ieq n (-1:Int)) (some (GH m.2)) (ck (n+(1:Int)) fun u=>É (fun(d:Int×Int×w9 Way) f=>lW m.1.1.1 m.1.1.2 m.1.2.1 m.1.2.2.1 m.1.2.2.2.1 m.1.2.2.2.2.1 m.1.2.2.2.2.2 m.2 d.1 d.2.1 d.2.2 (fun q p o=>f (q,p,o)) (delK [] fun l=>some l)) (n,u,GH m.2)))
  (F:=fun a b c e=>lW m.1.1.1 m.1.1.2 m.1.2.1 m.1.2.2.1 m.1.2.2.2.1 m.1.2.2.2.2.1 m.1.2.2.2.2.2 m.2 a b c e (delK [] fun l=>some l)) (kend:=some (GH m.2)) (fun i x hi g e=>?_) (fun e=>?_) rfl (fun z A=>?_) (fun i j s x B D k g r e=>?_) (fun i s e hi B=>?_) (fun i s hi=>agU _ _ hi)
 ·try dsimp only
  unfold t8;rw[Ñ hi,mc hi,Μ g,t,K7 h (afF g),Á,Î hi (by omega),Ġ];rfl
 ·try dsimp only
  unfold t8;rw[é]
 ·rw[Õ (by simp[ieq]),Î A (by omega)]
 ·try dsimp only
  unfold lW;rw[Ñ k,show ï s=((s.length:Nat):Int) from rfl,mc k,Μ g,t,K7 h (Ib.1 r),Á];cases abP m x
  ·simp only[gA,dJ,ê,dj,if_false];rw[Î k (by omega)]
  ·simp only[gA,dJ,mq,if_true];rw[mc (by omega),Μ (cI (by omega)),Î (show i<s.length by omega) (by omega),Î k (by omega),dc]
 ·try dsimp only
  unfold lW;rw[é]
def All_ok (c:In m.1) (d:m.2.length<=1000):BD m=some (if jv m≠0 then([],jv m) else(Fm m,0)):=by
 unfold BD aaQ;rw[P2 c d,Á]
 by_cases a:jv m=0
 ·rw[Õ (by simp[ine,a]),if_neg (by simp[a]),abC ((kz m).1 a)]; rfl
 ·rw[æ (by simp[ine,a]),if_pos a]
end
section
variable {m:ε} {ρ:Type}
def Kw (b:ċ) (id d:Int):Int:=if !Le d then 1 else if (Ă b id).isNone then 5 else 0
def ad9 (n:m.1.2.1.length<=1000) (id d:Int):tD m id d=some (Kw m.1 id d):=by
 unfold tD RQ Kw
 by_cases h:Le d=true
 ·have h':=h;simp only[Le,inP,cM,decide_eq_true_eq] at h';rw[h,Õ (by simp[ilt]; omega),Õ (by simp[igt]; omega),if_neg (by simp)];refine fe (gS m.1.2.1 (fun g=>g.1==id) (fun z=>ifb (!(ige z (0:Int))) (some 5) (some 0)) (some 0) (some 5) (fun j=>Õ (by simp[ige]) _ _) (fun i a hi ha f=>?_) (fun f=>?_)) ?_
  ·try dsimp only
   unfold qD;rw[Ñ hi,È ha,Î hi (by omega),Ġ]
  ·try dsimp only
   unfold qD;rw[é]
  ·unfold Ă
   cases c:m.1.2.1.find? (fun g=>g.1==id) with
   |none =>
    rw[if_neg]
    ·rfl
    rw[dU];rintro⟨g,l,e⟩;exact absurd e (by simpa using(eZ.1 c) g l)
   |some g =>
    rw[if_pos]
    ·rfl
    have k:=List.find?_some c;exact dU.2 ⟨g,List.mem_of_find?_eq_some c,k⟩
 ·have h':=h;simp only[Le,inP,cM,decide_eq_true_eq,not_and,Int.not_le] at h';rw[if_pos (by simp[h])];rw[Ġ,Ġ];simp only[ilt,igt,decide_eq_true_eq]
  split
  ·rfl
  ·rw[if_pos (by have:=h' (by omega); omega)]
end
def TE {l m:w9 (Int×Int)} (j:l.length<=1000000):jN l m=some (decide (l=m)):=by
 unfold jN zO;rw[â,â]
 by_cases d:l.length=m.length
 ·rw[Õ (by simp[ine,d])];refine fe (oC l (fun i a=>if m[i]?=some a then none else some false) some (some true) (fun i a hi ha g=>?_) (fun g=>?_)) ?_
  ·try dsimp only
   unfold jg;have f:m[i]?=some m[i]:=List.getElem?_eq_getElem (by omega);rw[Ñ hi,È ha,È f,Î hi (by omega),f,Ġ]
   have e:(!(kI a.1 m[i].1&&(kI a.2 m[i].2&&true)))=decide (¬(m[i]=a)):=by
    rw[fX];simp only[kI,Bool.and_true,dW,fm,decide_eq_false_iff_not,decide_eq_true_eq];constructor
    ·intro h e; rw[e] at h; simp at h
    ·intro h
     by_cases c:a.1=m[i].1
     ·by_cases h2:a.2=m[i].2
      ·exact absurd (Prod.ext c h2).symm h
      ·exact .inr h2
     ·exact .inl c
   rw[e]
   by_cases h:m[i]=a
   ·simp[h]
   ·simp[h]
  ·try dsimp only
   unfold jg;rw[é]
  ·cases h:ņ (fun i a=>if m[i]?=some a then none else some false) 0 l with
   |none=>simp[QS d h]
   |some b =>
    obtain⟨c,h2⟩:=QR h;simp[c,h2]
 ·rw[æ (by simp[ine]; omega)];have:l≠m:=fun e=>d (by rw[e]);simp[this]
section
variable {m:ε} {w:Way} {ρ:Type}
def WhoP (m:ε) (w:Way) (x d:Int):Int×Int:=if LF m w≠0 then(0,LF m w) else if Kw m.1 x d≠0 then(0,Kw m.1 x d) else(jD m.2 w x d,0)
def aha (e:In m.1) (i:m.2.length<=1000) (f:∀l∈w,l.length<=100000) (x d:Int):KX m w x d=some (WhoP m w x d):=by
 unfold KX aaM WhoP;rw[acM e i f,Á]
 by_cases a:LF m w=0
 ·obtain⟨h,g⟩:=LD.1 a;rw[Õ (by simp[ine,a]),if_neg (by simp[a]),ad9 e.size.gauges,Á]
  by_cases c:Kw m.1 x d=0
  ·rw[Õ (by simp[ine,c]),if_neg (by simp[c]),h.who g]; rfl
  ·rw[æ (by simp[ine,c]),if_pos c]
 ·rw[æ (by simp[ine,a]),if_pos a]
def afi (b:ċ) (x:Int):Prop:=∃g,Ă b x=some g
def UM {b:ċ} {x d:Int}:Kw b x d=0↔(0<=d/\d<=20000)/\afi b x:=by
 unfold Kw afi;rw[<-Option.isSome_iff_exists]
 cases hd:Le d with
 |false =>
  simp only[gA,if_true];simp only[Le,inP,fm,decide_eq_false_iff_not] at hd;constructor
  ·intro e; cases e
  ·rintro⟨e,_⟩; omega
 |true =>
  simp only[Le,inP,cM,decide_eq_true_eq] at hd
  cases Ă b x<;>simp[hd]
def WO (a:w∈Fm m):ŏ m.2 w/\abP m w=true:=by
 obtain⟨c,h2⟩:=d9.1 a;exact⟨Ib.1 c,h2⟩
def PN (h:MOk m):(Fm m).length<=150:=cW (ej _ _) (Vv h)
end
def tj {ρ α:Type} (l:w9 α) (K:w8 ρ) {f:Int->(Int->w8 ρ)->w8 ρ} (h:∀(i:Nat) (a:α),i<l.length->l[i]?=some a->∀c,f i c=c ((i:Int)+1)) (d:∀c,f l.length c=K):É f 0=K:=by
 refine fe (lm l (fun _=>false) (fun _=>K) K (fun i a hi ha c=>by rw[h i a hi ha c]; rfl) d) ?_;rw[d8.2 (by simp)]
def M6 {l:w9 (Int×Int)} (a:l.length<=1000000):jN l l=some true:=by rw[TE a]; simp
def uW {l:w9 Int} (a:l.length<=1000000):Ň l l=some true:=by rw[Vn a]; simp
def Hz {c:Cmp} (d:c.2.2.1.length<=1000) (a:c.2.2.2.1.length<=1000):jY c c=some true:=by
 unfold jY vn;rw[uW (by omega),Á,uW (by omega),Á];simp[ieq,kI]
def acW {b:ċ} (d:rD b):D4 b b=some true:=by
 have j:=d.gauges; have h2:=d.uses; have h:=d.loans; have g:=d.compares; have f:=d.looks;unfold D4 R0;rw[Õ (by simp[kI]),Õ (show ine (Ô b.2.1) (Ô b.2.1)=false by simp[ine]),Õ (show ine (Ô b.2.2.1) (Ô b.2.2.1)=false by simp[ine]),Õ (show ine (Ô b.2.2.2.1) (Ô b.2.2.2.1)=false by simp[ine]),Õ (show ine (Ô b.2.2.2.2.1) (Ô b.2.2.2.2.1)=false by simp[ine])];refine tj b.2.1 _ (fun i a hi ha c=>?_) (fun c=>?_)
 ·try dsimp only
  unfold qR;rw[Ñ hi,È ha,È ha,Î hi (by omega)];simp[kI]
 ·try dsimp only
  unfold qR;rw[é];dsimp only;refine tj b.2.2.1 _ (fun i a hi ha c=>?_) (fun c=>?_)
  ·try dsimp only
   unfold qQ;rw[Ñ hi,È ha,È ha,Î hi (by omega)];simp[kI]
  ·try dsimp only
   unfold qQ;rw[é];dsimp only;refine tj b.2.2.2.1 _ (fun i a hi ha c=>?_) (fun c=>?_)
   ·try dsimp only
    unfold qP;rw[Ñ hi,È ha,È ha,Î hi (by omega)];simp[kI]
   ·try dsimp only
    unfold qP;rw[é];dsimp only;refine tj b.2.2.2.2.1 _ (fun i a hi ha c=>?_) (fun c=>?_)
    ·try dsimp only
     unfold qO;have e:=d.piles a (List.mem_of_getElem? ha);rw[Ñ hi,È ha,È ha,Hz e.1 e.2,Á,Î hi (by omega)];rfl
    ·try dsimp only
     unfold qO;rw[é];dsimp only;rw[M6 (by omega),Á]
def bigP (c:Cmp):Bool:=decide (9<c.2.2.1.length)||decide (9<c.2.2.2.1.length)
def Ii (m:ε):Bool:=decide (m.1.2.1.length<=6)&&(decide (m.1.2.2.1.length<=20)&&(decide (m.1.2.2.2.1.length<=6)&&(decide (m.1.2.2.2.2.1.length<=8)&&(decide (m.1.2.2.2.2.2.length<=6)&&decide (m.2.length<=6)))))
def QP (m:ε):Bool:=!((m.1.2.2.2.2.1.take 60).any bigP)&&(!((m.2.take 8).any fun x=>decide (9<x.2.length))&&Ii m)
def ZS (m:ε):yn m=some (QP m):=by
 unfold yn NI
 have last:(ifb (ile (Ô m.1.2.1) (6:Int)) (ifb (ile (Ô m.1.2.2.1) (20:Int)) (ifb (ile (Ô m.1.2.2.2.1) (6:Int)) (ifb (ile (Ô m.1.2.2.2.2.1) (8:Int)) (ifb (ile (Ô m.1.2.2.2.2.2) (6:Int)) (some (ile (Ô m.2) (6:Int))) (some false)) (some false)) (some false)) (some false)) (some false))=some (Ii m):=by
  have e:∀(n m:Nat),ile (n:Int) (m:Int)=decide (n<=m):=fun n m=>by simp[ile]
  unfold Ii;rw[â,â,â,â,â,â,show(6:Int)=((6:Nat):Int) from rfl,show(20:Int)=((20:Nat):Int) from rfl,show(8:Int)=((8:Nat):Int) from rfl,e,e,e,e,e,e];generalize decide (m.1.2.1.length<=6)=s;generalize decide (m.1.2.2.1.length<=20)=r;generalize decide (m.1.2.2.2.1.length<=6)=q;generalize decide (m.1.2.2.2.2.1.length<=8)=p;generalize decide (m.1.2.2.2.2.2.length<=6)=o
  cases s<;>cases r<;>cases q<;>cases p<;>cases o<;>rfl
 rw[last];refine fe (gS (m.1.2.2.2.2.1.take 60) bigP (fun _=>some false) (some false) (some (!((m.2.take 8).any fun x=>decide (9<x.2.length))&&Ii m)) (fun _=>rfl) (fun i c hi l t=>?_) (fun t=>?_)) ?_
 ·try dsimp only
  unfold nX;rw[List.length_take] at hi
  have a:m.1.2.2.2.2.1[i]?=some c:=by rw[dR] at l; split at l<;>simp_all
  rw[Ñ (show i<m.1.2.2.2.2.1.length by omega),æ (by simp[ilt]; omega),È a,È a,Ù (by omega) (by omega),Ġ,â,â];unfold bigP
  by_cases d:9<c.2.2.1.length
  ·rw[if_pos (by simp[igt]; omega),if_pos (by simp[d])]
  ·rw[if_neg (by simp[igt]; omega),Ġ]
   by_cases h2:9<c.2.2.2.1.length
   ·rw[if_pos (by simp[igt]; omega),if_pos (by simp[h2])]
   ·rw[if_neg (by simp[igt]; omega),if_neg (by simp[d,h2])]
 ·refine fe ?_ (fe (gS (m.2.take 8) (fun x=>decide (9<x.2.length)) (fun _=>some false) (some false) (some (Ii m)) (f:=fun v y=>kO m.2 v (fun u=>y u) (fun z=>some z) (fun _=>some (Ii m))) (fun _=>rfl) (fun i x hi k g=>?_) (fun g=>?_)) ?_)
  ·try dsimp only
   unfold nX;rw[List.length_take,Ġ]
   split
   ·rename_i h
    have h':60<m.1.2.2.2.2.1.length:=by rw[â] at h; simp[ilt] at h; omega
    rw[Õ (by simp[ilt]; omega)]
   ·rfl
  ·try dsimp only
   unfold kO;rw[List.length_take] at hi
   have j:m.2[i]?=some x:=by rw[dR] at k; split at k<;>simp_all
   rw[Ñ (show i<m.2.length by omega),æ (by simp[ilt]; omega),È j,Ù (by omega) (by omega),Ġ,â]
   by_cases d:9<x.2.length
   ·rw[if_pos (by simp[igt]; omega),if_pos (by simp[d])]
   ·rw[if_neg (by simp[igt]; omega),if_neg (by simp[d])]
  ·try dsimp only
   unfold kO;rw[List.length_take,Ġ]
   split
   ·rename_i h
    have h':8<m.2.length:=by rw[â] at h; simp[ilt] at h; omega
    rw[Õ (by simp[ilt]; omega)]
   ·rfl
  ·cases List.any (List.take 8 m.2) (fun x=>decide (9<x.2.length))<;>rfl
 ·unfold QP
  cases List.any (List.take 60 m.1.2.2.2.2.1) bigP<;>rfl
structure Small7 (m:ε):Prop where
 inn:In m.1
 n6:m.2.length<=6
 l9:∀x∈m.2,x.2.length<=9
 c8:m.1.2.2.2.2.1.length<=8
def ZT {m:ε} (h:QP m=true) (e:∀g∈m.1.2.1,I64 g.2.2.2.2.1.1):Small7 m:=by
 simp only[QP,Ii,cM,dW,decide_eq_true_eq] at h;obtain⟨h0,a,h2,n,l,j,k,i⟩:=h;refine⟨⟨⟨by omega,by omega,by omega,by omega,by omega,fun c f=>?_⟩,e⟩,i,fun x d=>?_,j⟩
 ·rw[dN (by omega)] at h0;have:=eV.1 h0 c f;simp[bigP] at this;omega
 ·rw[dN (by omega)] at a;have:=eV.1 a x d;simp at this;omega
def Zt {m:ε} (h:MOk m) {w:Way} (c:ŏ m.2 w):∀l∈w,l.length<=100000:=by
 intro l e;obtain⟨i,hi,rfl⟩:=dg.1 e;obtain⟨x,a⟩:∃x,m.2[i]?=some x:=⟨_,cI (by rw[<-c.len]; exact hi)⟩;obtain⟨f,d,h2⟩:=c.at a;rw[cI hi] at d;cases d;have:=h.len5 x (cY a);rw[h2.length_eq]; omega
section
variable {m:ε} {w:Way} {ρ:Type}
def BW (m:ε) (g:Ą):Bool:=(Fm m).all fun w=>decide (jD m.2 w g.1 20000=g.1)
def ZJ (m:ε):w9 Int:=(m.1.2.1.filter (BW m)).map fun g=>g.1
def ahc (m:ε):w9 Int×Int:=if jv m≠0 then([],jv m) else if Fm m=[] then([],5) else(ZJ m,0)
def ZH {l:w9 Ą} {i:Nat} {g:Ą} (a:l[i]?=some g) (p:Ą->Bool):((l.take (i+1)).filter p).map (fun g=>g.1)=((l.take i).filter p).map (fun g=>g.1)++if p g then[g.1] else[]:=by
 rw[take_succ a,eP,fW]
 cases h:p g<;>simp[h]
def ahb (n:In m.1) (r:m.2.length<=1000):yq m=some (ahc m):=by
 unfold yq Wn ahc;rw[P2 n r,Á]
 by_cases f:jv m=0
 case neg=>rw[æ (by simp[ine,f]),if_pos f]
 have h:=(kz m).1 f;have s:((((m.1.1.1,m.1.1.2),m.1.2.1,m.1.2.2.1,m.1.2.2.2.1,m.1.2.2.2.2.1,m.1.2.2.2.2.2),m.2):ε)=m:=rfl;have v:=n.size.gauges;have u:=PN h;rw[Õ (by simp[ine,f]),if_neg (by simp[f]),abC h,Á]
 by_cases d:Fm m=[]
 ·rw[if_pos d,d,â]; rfl
 ·have:(Fm m).length≠0:=fun e=>d (cZ.1 e);rw[if_neg d,Õ (by simp[ieq,â,d])];refine Ζ m.1.2.1 (fun i=>((m.1.2.1.take i).filter (BW m)).map fun g=>g.1) _ rfl (fun i g hi c a=>?_) (fun a=>?_)
  ·have t:(((m.1.2.1.take i).filter (BW m)).map fun g=>g.1).length<=1000:=by
    rw[dP];exact cW (ej _ _) (by rw[dh]; omega)
   try dsimp only
   unfold ue;rw[Ñ hi,È c,ZH c]
   refine fe (gS (Fm m) (fun w=>!decide (jD m.2 w g.1 20000=g.1)) (fun z=>ifb (!(ige z (0:Int))) (Ú (Ý ((((m.1.2.1.take i).filter (BW m)).map fun g=>g.1).length+([g.1]:w9 Int).length)) (ck ((i:Int)+1) fun q=>a (q,(((m.1.2.1.take i).filter (BW m)).map fun g=>g.1)++[g.1]))) (ck ((i:Int)+1) fun p=>a (p,((m.1.2.1.take i).filter (BW m)).map fun g=>g.1)))
    (a ((i:Int)+1,((m.1.2.1.take i).filter (BW m)).map fun g=>g.1)) (a ((i:Int)+1,(((m.1.2.1.take i).filter (BW m)).map fun g=>g.1)++[g.1])) (fun j=>?_) (fun j w o l k=>?_) (fun k=>?_)) ?_
   ·rw[Õ (by simp[ige]),Î hi (by omega)]
   ·try dsimp only
    unfold ud;rw[Ñ o,È l,s,h.who (WO (List.mem_of_getElem? l)).1,Á,Î o (by omega),Ġ]
    by_cases e:jD m.2 w g.1 20000=g.1<;>simp[ine,e]
   ·try dsimp only
    unfold ud;rw[é];rw[Į (Ð (by simp only[List.length_singleton]; omega)),Î hi (by omega)]
   ·have:((Fm m).any fun w=>!decide (jD m.2 w g.1 20000=g.1))=!BW m g:=by unfold BW; rw[List.all_eq_not_any_not]; simp
    rw[this]
    cases BW m g<;>simp
  ·try dsimp only
   unfold ue;rw[â];rw[show ilt ((m.1.2.1.length:Nat):Int) (m.1.2.1.length:Int)=false by simp[ilt],ê,List.take_length];rfl
end
def Zd {m:ε} (d:rD m.1) (e:m.2.length<=1000) (h2:∀x∈m.2,x.2.length<=1000):tE m m=some true:=by
 unfold tE RZ;rw[acW d,Á,Õ (by rfl),Õ (show ine (Ô m.2) (Ô m.2)=false by simp[ine])];refine tj m.2 _ (fun i a hi ha c=>?_) (fun c=>?_)
 ·try dsimp only
  unfold qN;rw[Ñ hi,È ha,È ha,uW (by have:=h2 a (List.mem_of_getElem? ha); omega),Á,Õ (by rfl),È ha,È ha,Õ (show ine a.1 a.1=false by simp[ine]),Î hi (by omega)]
 ·try dsimp only
  unfold qN;rw[é]
section
variable {ρ:Type} {m:ε}
def SW {α:Type} (p:α->Bool):∀(l:w9 α) (b:Bool),l.foldl (fun b x=>b&&p x) b=(b&&l.all p)
 |[],b=>by simp
 |x::l,b=>by rw[eO,SW p l,fk,Bool.and_assoc]
def WX {α:Type} (p:α->Bool):∀(l:w9 α) (b:Bool),l.foldl (fun b x=>b||p x) b=(b||l.any p)
 |[],b=>by simp
 |x::l,b=>by rw[eO,WX p l,List.any_cons,Bool.or_assoc]
def afO (h:MOk m) {g:Ą} (n:g∈m.1.2.1) (K k0:Bool->w8 ρ):É (fun(v:Bool×Int) k=>ig (Fm m) g.1 m.1.1.1 m.1.1.2 m.1.2.1 m.1.2.2.1 m.1.2.2.2.1 m.1.2.2.2.2.1 m.1.2.2.2.2.2 m.2 v.1 v.2 (fun a b=>k (a,b)) k0 K) (true,(0:Int))=K (BW m g):=by
 have f:=PN h;have o:=h.n4;rw[tk (Fm m) (fun b w=>b&&decide (jD m.2 w g.1 20000=g.1)) (fun _ _=>True) (K:=K) trivial (fun i w s hi e _=>⟨trivial,fun j=>?_⟩) (fun s j _=>?_),SW]
 ·rw[eJ]; rfl
 ·obtain⟨c,l⟩:=WO (List.mem_of_getElem? e);unfold ig;rw[Ñ hi,È e,show((((m.1.1.1,m.1.1.2),m.1.2.1,m.1.2.2.1,m.1.2.2.2.1,m.1.2.2.2.2.1,m.1.2.2.2.2.2),m.2):ε)=m from rfl,aha h.in_ (by omega) (Zt h c),Á,WhoP,if_neg (by simp[LD.2 ⟨h,c⟩]),if_neg (by simp[(UM (b:=m.1) (x:=g.1) (d:=20000)).2 ⟨⟨by decide,by decide⟩,g,md h.good.ids n⟩]),Õ (by rfl)]
  cases s with
  |true=>rw[mq,Î hi (by omega)]; rfl
  |false=>rw[ê,Î hi (by omega)]; rfl
 ·unfold ig;rw[é]
def afN {l:w9 Int} (f:l.length<=1000) (id:Int) (K:Bool->w8 ρ):É (fun(v:Bool×Int) d=>ic l id v.1 v.2 (fun a b=>d (a,b)) K) (false,(0:Int))=K (l.any fun x=>decide (x=id)):=by
 rw[tk l (fun b x=>b||decide (x=id)) (fun _ _=>True) (K:=K) trivial (fun i x s hi e _=>⟨trivial,fun c=>?_⟩) (fun s c _=>?_),WX]
 ·rw[Bool.false_or]
 ·unfold ic;rw[Ñ hi]
  cases s with
  |true=>rw[mq,Î hi (by omega)]; rfl
  |false=>rw[ê,È e,Î hi (by omega)]; rfl
 ·unfold ic;rw[é]
def ZI (h:MOk m) {g:Ą} (a:g∈m.1.2.1):((ZJ m).any fun x=>decide (x=g.1))=BW m g:=by
 unfold ZJ;rw[List.any_map]
 cases hb:BW m g with
 |true =>
  refine dU.2 ⟨g,d9.2 ⟨a,hb⟩,by simp⟩
 |false =>
  rw[eV];intro y d e;obtain⟨f,h2⟩:=d9.1 d
  have i:y.1=g.1:=by simpa using e
  have c:=md h.good.ids f;rw[i,md h.good.ids a] at c;cases c;rw[hb] at h2; cases h2
end
def ado (d:Ž=some true) {m:ε} (H:∀g∈m.1.2.1,I64 g.2.2.2.2.1.1) (s:ByteArray):uH m s=some true:=by
 unfold uH tZ;rw[ZS,Á,d]
 by_cases A:QP m=true
 case neg=>rw[fO.2 A]; rfl
 have a:=ZT A H;rw[A,Õ (by rfl),lT]
 by_cases z:2000<s.size
 ·rw[æ (by simp[igt]; omega)]; rfl
 rw[Õ (by simp[igt]; omega)];obtain⟨t,rfl⟩:∃t,s=ofL t:=⟨toL s,(tT s).symm⟩;rw[ã] at z;obtain⟨y,e,J,h2⟩:=Vl (t:=t) (by omega)
 have rest:∀X:w8 Bool,X=(Ã (ő m) fun D=>ifb (ine D.2 (0:Int)) (Ã (some true) fun E=>some E) (Ã (jL D.1) fun C=>Ã (yq m) fun n=>Ã (BD m) fun c=>ifb (ine C.2 (0:Int)) (some false) (Ã (tE C.1 m) fun v=>ifb (!v) (some false) (ifb (ine c.2 (0:Int)) (some false) (ifb (!((ieq n.2 (0:Int))==(igt (Ô c.1) (0:Int)))) (some false) (ifb (ine n.2 (0:Int)) (Ã (some true) fun u=>ifb u (some (ieq n.2 (5:Int))) (some false)) (É (fun(p:Int) f=>ů n.1 c.1 m.1.1.1 m.1.1.2 m.1.2.1 m.1.2.2.1 m.1.2.2.2.1 m.1.2.2.2.2.1 m.1.2.2.2.2.2 m.2 p (fun q=>f q) (fun o=>some o) (fun _=>Ã (some true) fun r=>some r)) (0:Int))))))))->X=some true:=by
  intro X I;rw[I,FI a.inn,Á]
  by_cases h0:jv m=0
  case neg=>rw[if_pos h0,æ (by simpa[ine] using h0)]; rfl
  have h:=(kz m).1 h0;have K:=PN h;rw[if_neg (by simp[h0]),Õ (by simp[ine]),TD h,Á,ahb a.inn (by have:=a.n6; omega),Á,All_ok a.inn (by have:=a.n6; omega),Á,Õ (by simp[ine]),Zd a.inn.size (by have:=a.n6; omega) (fun x G=>by have:=a.l9 x G; omega),Á,Õ (by rfl),if_neg (by simp[h0]),Õ (by simp[ine])];unfold ahc;rw[if_neg (by simp[h0])];dsimp only
  cases B:Fm m with
  |nil=>rw[if_pos rfl,Õ (by simp[ieq,igt,â]),æ (by simp[ine])]; rfl
  |cons w ws =>
   rw[if_neg (by simp)];dsimp only;rw[Õ (by simp[ieq,igt,â]),Õ (by simp[ine]),<-B];refine tj m.1.2.1 _ (fun i g hi k F=>?_) (fun F=>?_)
   ·have j:=List.mem_of_getElem? k;have M:=a.inn.size.gauges;unfold ů;rw[Ñ hi,È k];refine(afO h j _ _).trans ?_;refine(afN (l:=ZJ m) (by unfold ZJ; rw[List.length_map]; exact Nat.le_trans (List.length_filter_le _ _) (by omega)) g.1 _).trans ?_;rw[ZI h j,Õ (by simp),Î hi (by omega)]
   ·unfold ů;rw[é];rfl
 rw[J,Á];dsimp only;rcases h2 with⟨rfl,rfl⟩|⟨rfl,h2⟩
 ·rw[Õ (by simp[ieq])];exact rest _ rfl
 ·rw[æ (by simp[ieq]),h2,Á];dsimp only;rw[Õ (by simp[ine]),FE,Õ (by simp)];exact rest _ rfl
end Go.Proofs.ZzM
end
