/- lemmas -/
import Derived.Test.YtenljaeklhlanaaGreatPlB
import Derived.Test.YtenljaeklhlanaaGreatPlA
import Derived.Test.YtenljaeklhlanaaGreatMdTA
set_option linter.all false
noncomputable section
namespace Go.Proofs.ZzM
open Go Go.Am
structure anq (b:ø) (c:Cmp):Prop where
 ok:ajA b c
 ids:b.2.1.Pairwise fun a b=>a.1<b.1
 pile:∀x∈c.2.2.1++c.2.2.2.1,∃g,î b x=some g
def Ŧ.cmpIn {b:ø} (h:Ŧ b) {c:Cmp} (a:c∈b.2.2.2.2.1):anq b c:=⟨h.cmp a,h.ids,fun x e=>by obtain⟨⟨g,f,_⟩,_⟩:=h.pile a e; exact⟨g,f⟩⟩
def ajA.ne {b:ø} {c:Cmp} (h:ajA b c):∀x∈c.2.2.1++c.2.2.2.1,x≠0:=by
 intro x a;have e:=(Ŷ c).1 h.nums;have f:=((yY _).1 e.2.2.2.2.2.1).1;have h2:=((yY _).1 e.2.2.2.2.2.2).1;rcases dg.1 a with a|a
 ·have:=f x a; omega
 ·have:=h2 x a; omega
def ZS {b:ø} (k:jp b) (hi:b.2.1.Pairwise fun a b=>a.1<b.1) {p q:CK Int} (i:∀x∈p,x≠0/\∃g,î b x=some g):wg b (KL p q)=some (Ft (ŝ b) (á p q)):=by
 have o:=k.gauges;unfold wg S8
 cases c:á p q with
 |nil =>
  have:KL p q=0:=by unfold KL; rw[c]; rfl
  rw[this];rfl
 |cons x t =>
  have e:KL p q=x:=by unfold KL; rw[c]; rfl
  have l:x∈p:=(lf.1 (show x∈á p q by rw[c]; simp)).1;obtain⟨h0,g,h⟩:=i x l;rw[e,Í (by simpa[ieq] using h0),B7 (by omega),À];rcases qI (b:=b) (id:=x) with⟨j,g',h2,f,n⟩|⟨h2,f⟩
  ·rw[h2]
   try dsimp only
   rw[Æ f];unfold Ft;dsimp only;rw[vc hi,n]
  ·rw[f] at h; cases h
def afx {b:ø} (f:jp b) {c:Cmp} (h:anq b c):xO b c=some (iM b c):=by
 have e:=(Ŷ c).1 h.ok.nums;have ha:=œ e.2.2.2.2.2.1;have hb:=œ e.2.2.2.2.2.2;have j:∀x∈c.2.2.1,x≠0/\∃g,î b x=some g:=fun x a=>⟨h.ok.ne x (by simp[a]),h.pile x (by simp[a])⟩;have i:∀x∈c.2.2.2.1,x≠0/\∃g,î b x=some g:=fun x a=>⟨h.ok.ne x (by simp[a]),h.pile x (by simp[a])⟩;unfold xO OA;rw[JZ (by omega) (by omega),À,ZS f h.ids j,À,JZ (by omega) (by omega),À,ZS f h.ids i,À,anj h.ok.r1 h.ok.r2,À]
 try dsimp only
 rw[ajs (heat:=c.2.2.2.2.2.2) (MD h.ok.r1 h.ok.r2) e.2.2.2.2.1,À];rfl
def ajv {b:ø} {c:Cmp} (f:c.2.2.1.length<=1000) (a:c.2.2.2.1.length<=1000) (i:0<=b.1.1) (h2:b.1.1<=1000000) (h:0<=b.1.2) (g:b.1.2<=1000000):BI b c=some (pH b c):=by
 unfold BI Te pH
 have e:∀n:Nat,Qu 0 ((n:Int)-1)=((n-1:Nat):Int):=by
  intro n;unfold Qu
  split<;>omega
 have bd:∀(n:Nat) (x:Int),n<=1000->0<=x->x<=1000000->0<=((n-1:Nat):Int)*x/\((n-1:Nat):Int)*x<=1000000000:=by
  intro n x k h0 j;refine⟨fW (by omega) h0,?_⟩;have:=fI (show((n-1:Nat):Int)<=1000 by omega) j h0 (by omega);omega
 have p:=bd _ _ f i h2;have o:=bd _ _ f h g;have b3:=bd _ _ a i h2;have l:=bd _ _ a h g;simp only[Î];rw[Ï (by omega) (by omega),Ï (by omega) (by omega)];simp only[e];rw[Ï (by omega) (by omega),Ï (by omega) (by omega),Ï (by omega) (by omega),Ï (by omega) (by omega),Ï (by omega) (by omega),Ï (by omega) (by omega)]
def alv {b:ø} (g:jp b) (i:0<=b.1.1/\b.1.1<=b.1.2/\b.1.2<=1000000) {c:Cmp} (h:anq b c):wi b c=some (wJ b c):=by
 have a:=(Ŷ c).1 h.ok.nums;have ha:=œ a.2.2.2.2.2.1;have hb:=œ a.2.2.2.2.2.2;obtain⟨f,e,o,n,b3⟩:=WV i h.ok;have l:=BX f;have k:=xH e;have j:=xJ (b:=b) (c:=c) (by omega) (by omega) (by omega) (by omega) (by omega) (by omega);have hd:=a.2.2.1;unfold wi Yt wJ;rw[afx g h,À,ajv (by omega) (by omega) (by omega) (by omega) (by omega) (by omega),À,ajo e.rat,alr f.rat];simp only[À];rw[Ï (by omega) (by omega),Ï (by omega) (by omega),Ï (by omega) (by omega),Ï (by omega) (by omega),Ï (by omega) (by omega),Ï (by omega) (by omega)]
section
variable {b:ø}
def alx (h:Ŧ b) {id:Int} {g:æ} (i:î b id=some g) {f t:Int} (r:0<=f/\f<=100000) (E:t<=100000):wj b id f t=some (jD b g f t):=by
 have H:=h.nG;have F:=h.nU;have G:=h.nL;obtain⟨a,k⟩:=δ i;unfold wj Yw;rw[B7 (by omega),À];rcases qI (b:=b) (id:=id) with⟨j,g',h2,o,u⟩|⟨h2,o⟩
 ·rw[h2]
  have:g'=g:=by rw[i] at u; exact(Option.some.inj u).symm
  subst this
  try dsimp only
  rw[Æ o];refine ñ (fun x:Int×Int=>f<=x.2/\(x.2<=t\/x.2=f)/\x.1=jD b g' f x.2) (fun x=>(t-x.2).toNat) ?_ ⟨dQ _,.inr rfl,(AG g' (dQ _)).symm⟩;rintro⟨s,d⟩ ⟨c,n,q⟩;simp only at c n q;subst q
  by_cases hd:d<t
  ·refine .inr ⟨(jD b g' f (d+1),d+1),⟨by simp only; omega,.inl (by simp only; omega),rfl⟩,by simp only; omega,fun y=>?_⟩;have e:=Pk h g' c;have D:=jQ h a (f:=f) (t:=d) r.1;have v:=jQ h a (f:=f) (t:=d+1) r.1;unfold tN;rw[Ñ (by simpa[ilt] using hd),Mr (b:=((b.1.1,b.1.2),b.2.1,b.2.2.1,b.2.2.2.1,b.2.2.2.2.1,b.2.2.2.2.2)) (by simp only; omega),À];have C:ś ((b.1.1,b.1.2),b.2.1,b.2.2.1,b.2.2.2.1,b.2.2.2.2.1,b.2.2.2.2.2) id d=ś b id d:=rfl;rw[C];unfold abe at e;rw[k] at e
   cases ha:ś b id d with
   |some l =>
    rw[ha] at e;simp only at e;rw[Ñ rfl]
    try dsimp only
    rw[<-e,Ï (by omega) (by omega),Ï (by omega) (by omega)]
   |none =>
    rw[ha] at e;simp only at e;rw[Í rfl,alu (b:=((b.1.1,b.1.2),b.2.1,b.2.2.1,b.2.2.2.1,b.2.2.2.2.1,b.2.2.2.2.2)) (by simp only; omega),À];have B:KH ((b.1.1,b.1.2),b.2.1,b.2.2.1,b.2.2.2.1,b.2.2.2.2.1,b.2.2.2.2.2) id d=KH b id d:=rfl;rw[B]
    cases p:KH b id d with
    |true =>
     rw[p,if_pos rfl] at e;rw[Ñ rfl]
     try dsimp only
     rw[<-e,Ï (by omega) (by omega),Ï (by omega) (by omega)]
    |false =>
     rw[p,if_neg (by simp)] at e;rw[Í rfl,Ï (by omega) (by omega),e,gG]
  ·refine .inl fun y=>?_;unfold tN;rw[Í (by simpa[ilt] using hd)]
   have:jD b g' f d=jD b g' f t:=by
    rcases gS t f with z|A
    ·have:d=f:=by omega
     rw[this,AG g' (dQ _),AG g' (by omega)]
    ·have:d=t:=by omega
     rw[this]
   rw[this]
 ·rw[o] at i; cases i
end
def Ix {b:ø} (h:Pre b) (n:Int×Int):iO b n=some (L7 b n.1 n.2):=by
 have f:=I2 h.size;unfold iO Tc;rw[Iw h,À];refine Eq.trans (Χ (Ò b) (fun m=>decide (n.1=m.1)&&decide (n.2=m.2)) (fun z=>some (z+1)) (some 0) (fun i a hi ha c=>?_) (fun c=>?_)) ?_
 ·try dsimp only
  unfold p8;rw[Ì hi,Æ ha,È hi (by omega),È hi (by omega),õ,Bool.and_true]
  have e:(mX a.1 n.1&&mX a.2 n.2)=(decide (n.1=a.1)&&decide (n.2=a.2)):=by
   rw[eM];simp only[mX,cY,decide_eq_true_eq];exact and_congr eq_comm eq_comm
  rw[e]
 ·try dsimp only
  unfold p8;rw[Ó]
 ·unfold L7 iZ
  cases List.findIdx? (fun m=>decide (n.1=m.1)&&decide (n.2=m.2)) (Ò b)<;>rfl
def ahM {b:ø} (h:Pre b) (p q:CK Int) (d:Int):L7 b (KL p q) d=atP (Ò b) (á p q) d:=by
 unfold L7 atP KL
 cases f:á p q with
 |nil =>
  simp only[List.head?_nil,Option.getD_none]
  have:iZ (Ò b) 0 d=none:=by
   unfold iZ;rw[List.findIdx?_eq_none_iff];intro n a;obtain⟨g,c,a⟩:=List.mem_flatMap.1 a;obtain⟨e,_,rfl⟩:=List.mem_map.1 a;have:=((vY g).1 (h.gauge g c)).2.2.2.1
   have:¬((0:Int)=g.1):=by omega
   simp[this]
  rw[this]
 |cons x t=>rfl
section
variable {b:ø}
def aj8 {k:Nat} (e:k<(Ò b).length):∃(i:Nat) (g:æ) (j:Nat) (d:Int),b.2.1[i]?=some g/\(Ý b g)[j]?=some d/\k=off b i+j/\(Ò b)[k]?=some (g.1,d):=by
 obtain⟨i,g,j,c,h2,a⟩:=acA (b:=b) b.2.1.length (cZ _) k (by rw[agL]; exact e);have hd:(Ý b g)[j]?=some (Ý b g)[j]:=cX h2;exact⟨i,g,j,_,c,hd,a,by rw[a]; exact LY c hd⟩
def aea (h:Ŧ b) {i j:Nat} {g g':æ} (hi:b.2.1[i]?=some g) (f:b.2.1[j]?=some g') (k:g.1=g'.1):i=j/\g=g':=by
 obtain⟨e,rfl⟩:=de.1 hi;obtain⟨h2,rfl⟩:=de.1 f;have c:=dM.1 h.ids;rcases Nat.lt_trichotomy i j with a|rfl|a
 ·have:=c i j e h2 a; omega
 ·exact⟨rfl,rfl⟩
 ·have:=c j i h2 e a; omega
def rS (b:ø) (i:Nat) (g:æ) (k:Nat):CK Lk :=
 if k<=off b i then[] else[(0,(off b i:Int)+1,g.2.2.1+g.2.2.2.1.2),((off b i:Int)+1,0,-(g.2.2.1+g.2.2.2.1.1))] ++
  (List.range (min (k-off b i-1) ((Ý b g).length-1))).flatMap fun(k:Nat)=>[((off b i:Int)+1+k,(off b i:Int)+1+k+1,0),((off b i:Int)+1+k+1,(off b i:Int)+1+k,jD b g ((Ý b g)[k]?.getD 0) ((Ý b g)[k+1]?.getD 0))]
def je (b:ø) (i:Nat) (g:æ) (k:Nat):CK (Int×Int) :=
 if k<=off b i then[] else[(1,(i:Int)),(1,(i:Int))]++(List.range (min (k-off b i-1) ((Ý b g).length-1))).flatMap fun _=>[(2,(i:Int)),(2,(i:Int))]
def aeR (h:Ŧ b) {i:Nat} {g:æ} (a:b.2.1[i]?=some g):rS b i g (Ò b).length=ù b g/\je b i g (Ò b).length=Ĕ b i g:=by
 have f:=agK h a;have c:=gB (om (b:=b) g)
 have e:min ((Ò b).length-off b i-1) ((Ý b g).length-1)=(Ý b g).length-1:=by omega
 unfold rS je ù Ĕ;rw[if_neg (by omega),if_neg (by omega),e,adL h a];exact⟨rfl,rfl⟩
def Zh {i:Nat} {g:æ} {k:Nat} (a:k<off b i\/off b i+(Ý b g).length<=k) (c:0<(Ý b g).length):rS b i g (k+1)=rS b i g k/\je b i g (k+1)=je b i g k:=by
 unfold rS je;rcases a with a|a
 ·rw[if_pos (by omega),if_pos (by omega),if_pos (by omega),if_pos (by omega)];exact⟨rfl,rfl⟩
 ·have e:min (k+1-off b i-1) ((Ý b g).length-1)=min (k-off b i-1) ((Ý b g).length-1):=by omega
  rw[if_neg (by omega),if_neg (by omega),if_neg (by omega),if_neg (by omega),e];exact⟨rfl,rfl⟩
def Zi {i:Nat} {g:æ}:rS b i g (off b i+1)=rS b i g (off b i)++[(0,(off b i:Int)+1,g.2.2.1+g.2.2.2.1.2),((off b i:Int)+1,0,-(g.2.2.1+g.2.2.2.1.1))]/\je b i g (off b i+1)=je b i g (off b i)++[(1,(i:Int)),(1,(i:Int))]:=by
 unfold rS je;rw[if_neg (by omega),if_pos (Nat.le_refl _),if_neg (by omega),if_pos (Nat.le_refl _),show off b i+1-off b i-1=0 by omega,Nat.zero_min];exact⟨by simp,by simp⟩
def aa3 {i:Nat} {g:æ} {j:Nat} (a:j+1<(Ý b g).length):rS b i g (off b i+(j+1)+1)=rS b i g (off b i+(j+1))++[((off b i:Int)+1+j,(off b i:Int)+1+j+1,0),((off b i:Int)+1+j+1,(off b i:Int)+1+j,jD b g ((Ý b g)[j]?.getD 0) ((Ý b g)[j+1]?.getD 0))] /\
 je b i g (off b i+(j+1)+1)=je b i g (off b i+(j+1))++[(2,(i:Int)),(2,(i:Int))]:=by
 unfold rS je;rw[if_neg (by omega),if_neg (by omega),if_neg (by omega),if_neg (by omega),show min (off b i+(j+1)+1-off b i-1) ((Ý b g).length-1)=j+1 by omega,show min (off b i+(j+1)-off b i-1) ((Ý b g).length-1)=j by omega,uP,uP];exact⟨by simp,by simp⟩
def aeQ (i:Nat) (g:æ) (k:Nat) (hd:(Ý b g).length<=59):(rS b i g k).length<=120/\(je b i g k).length<=120:=by
 unfold rS je;constructor
 ·split
  ·simp
  ·rw[dc,iW _ _ (fun _=>rfl)];simp only[dk,dK]; omega
 ·split
  ·simp
  ·rw[dc,iW _ _ (fun _=>rfl)];simp only[dk,dK]; omega
set_option maxHeartbeats 1000000 in
def af0 (h:Ŧ b) {i:Nat} {g:æ} (B:b.2.1[i]?=some g) {L:CK Lk} {S:CK (Int×Int)} (hL:L.length<=100000) (hS:S.length<=100000) (K:CK Lk×CK (Int×Int)->BY (CK Lk×CK (Int×Int))) :
 Ê (fun(p:Int×CK Lk×CK (Int×Int)) s=>rJ (Ò b) (i:Int) b.1.1 b.1.2 b.2.1 b.2.2.1 b.2.2.2.1 b.2.2.2.2.1 b.2.2.2.2.2 g.1 g.2.1 g.2.2.1 g.2.2.2.1.1 g.2.2.2.1.2 p.1 p.2.1 p.2.2 (fun E D C=>s (E,D,C)) K) ((0:Int),L,S)=K (L++ù b g,S++Ĕ b i g):=by
 have hN:=h.nodes;have c:=df B;have P:=If h c;have Z:=gB (om (b:=b) g);have U:=h.gaugeR c;have r1:=U.2.2.2.2.2.1;have r2:=U.2.2.2.2.2.2.1;obtain⟨tl,u⟩:=PU h c;refine ê (Ò b) (fun k=>(L++rS b i g k,S++je b i g k)) _ (by simp[rS,je]) (fun k n f z X=>?_) (fun X=>?_)
 ·try dsimp only
  unfold rJ;have gl:=aeQ (b:=b) i g k P;rw[Ì f,Æ z];obtain⟨Y,g',j,d,R,h2,W,V⟩:=aj8 f
  have y:n=(g'.1,d):=by rw[z] at V; exact Option.some.inj V
  by_cases a:n.1=g.1
  ·obtain⟨M,O⟩:=aea h R B (by rw[y] at a; exact a);subst O;have J:Y=i:=M;rw[J] at W R;rw[Í (by simp[ine,a]),Æ z]
   have A:n.2=d:=by rw[y]
   rw[A]
   cases j with
   |zero =>
    have r:d=g'.2.1:=by rw[u] at h2; simpa using h2.symm
    have q:k=off b i:=by omega
    rw[Ñ (by simp[ieq,r])];obtain⟨o,l⟩:=Zi (b:=b) (i:=i) (g:=g');rw[<-q] at o l;rw[È f (by omega),Ï (by omega) (by omega),È f (by omega),Ï (by omega) (by omega),Ï (by omega) (by omega),Ð (by simp only[dc,dk,dK]; omega),Am.iff_true,Ð (by simp only[dc,dk,dK]; omega),Am.iff_true,È f (by omega),o,l]
    have T:0-g'.2.2.1-g'.2.2.2.1.1 = -(g'.2.2.1+g'.2.2.2.1.1):=by omega
    rw[T];simp only[di]
   |succ j =>
    have I:=(de.1 h2).1
    have r:d≠g'.2.1:=by
     have v:=sg b g';rw[u] at h2 v;rw[fB] at h2;have:=(dJ.1 v).1 d (df h2);omega
    rw[Í (by simpa[ieq] using r)]
    have e:(Ý b g')[j]?=some ((Ý b g')[j]?.getD 0):=by rw[cX (by omega)]; rfl
    have Q:d=(Ý b g')[j+1]?.getD 0:=by rw[h2]; rfl
    have F:=LY R e;have d1:=h.day c (df e);have d2:=h.day c (df h2);have q:k=off b i+(j+1):=W;obtain⟨o,l⟩:=aa3 (b:=b) (i:=i) (g:=g') I;rw[<-q] at o l
    have H:((k:Int)-1)=((off b i+j:Nat):Int):=by omega
    have lb:=jQ h c (t:=d) d1.2.1;rw[PX (by omega) (by omega),H,Æ F,Æ z,A]
    try dsimp only
    rw[show wj ((b.1.1,b.1.2),b.2.1,b.2.2.1,b.2.2.2.1,b.2.2.2.2.1,b.2.2.2.2.2) g'.1 ((Ý b g')[j]?.getD 0) d=wj b g'.1 ((Ý b g')[j]?.getD 0) d from rfl,alx h (rR h.ids c) ⟨by omega,by omega⟩ (by omega),À,È f (by omega),È f (by omega),Ð (by simp only[dc,dk,dK]; omega),Am.iff_true,Ð (by simp only[dc,dk,dK]; omega),Am.iff_true,È f (by omega),o,l,<-Q]
    have T:(off b i:Int)+1+(j:Int)=(k:Int):=by omega
    rw[T];simp only[di]
  ·rw[Ñ (by simp[ine,a]),È f (by omega)]
   have x:k<off b i\/off b i+(Ý b g).length<=k:=by
    rcases dq k (off b i) with G|hge
    ·exact .inl G
    ·rcases dq k (off b i+(Ý b g).length) with hlt2|hge2
     ·have:=LY B (k:=k-off b i) (cX (by omega));rw[show off b i+(k-off b i)=k by omega,z] at this;exact absurd (by rw[Option.some.inj this]) a
     ·exact .inr hge2
   obtain⟨o,l⟩:=Zh x Z;rw[o,l]
 ·try dsimp only
  unfold rJ;rw[Ó];obtain⟨o,l⟩:=aeR h B;rw[o,l]
end
def Zm {α β:Type} {e:Nat->α->BY β}:∀{l:CK α} {k i:Nat} {a:α} {b:β},(∀j c,j<i->l[j]?=some c->e (k+j) c=none)->l[i]?=some a->e (k+i) a=some b->Ĝ e k l=some b
 |[],_,_,_,_,_,ha,_=>by simp at ha
 |c::t,k,0,a,b,_,ha,hb=>by
  simp only[List.getElem?_cons_zero,Option.some.injEq] at ha;subst ha;unfold Ĝ;rw[Nat.add_zero] at hb;rw[hb]
 |c::t,k,i+1,a,b,h,ha,hb=>by
  unfold Ĝ;have h0:=h 0 c (by omega) rfl;rw[Nat.add_zero] at h0;rw[h0];refine Zm (i:=i) (fun j d f hd=>?_) (by simpa using ha) (by rw[<-hb]; congr 1; omega);have:=h (j+1) d (by omega) (by simpa using hd);rw[<-this];congr 1;omega
def EU {ρ α β:Type} (l:CK α) (e:Nat->α->BY β) (k0:β->BY ρ) (k1:BY ρ) {f:Int->(Int->BY ρ)->BY ρ}
 (h:∀(i:Nat) (a:α),i<l.length->l[i]?=some a->∀o,f i o=match e i a with|some b=>k0 b|none=>o ((i:Int)+1))
 (u:(∀j a,l[j]?=some a->e j a=none)->∀o,f l.length o=k1):Ê f 0=match Ĝ e 0 l with|some b=>k0 b|none=>k1:=by
 refine ñ (fun x:Int=>∃i:Nat,i<=l.length/\x=i/\∀j a,j<i->l[j]?=some a->e j a=none) (fun x=>l.length-x.toNat) ?_ ⟨0,by omega,rfl,fun j a s=>by omega⟩;rintro x ⟨i,hi,rfl,r⟩;rcases dq i l.length with n|v
 ·have ha:l[i]?=some l[i]:=cX n
  cases q:e i l[i] with
  |some b =>
   refine .inl fun o=>?_;rw[h i _ n ha,q,Zm (k:=0) (b:=b) (fun j c s q=>by rw[dL]; exact r j c s q) ha (by rw[dL]; exact q)]
  |none =>
   refine .inr ⟨((i+1:Nat):Int),⟨i+1,n,rfl,fun j a s g=>?_⟩,by simp only[dl]; omega,fun o=>?_⟩
   ·rcases dq j i with t|t
    ·exact r j a t g
    ·have:j=i:=by omega
     subst this;rw[ha] at g;rw[<-Option.some.inj g]; exact q
   ·rw[h i _ n ha,q];simp
 ·have:i=l.length:=by omega
  subst this;refine .inl fun o=>?_;have p:∀j a,l[j]?=some a->e j a=none:=fun j a g=>r j a (de.1 g).1 g;rw[u p o,Α.2 fun j a g=>by rw[dL]; exact p j a g]
def Zq {e:Int}:Ff e=none↔e=0:=by
 unfold Ff
 split<;>simp_all
section
variable {b:ø}
def TR (h:Ŧ b):∀i,((b.2.1.take i).flatMap (ù b)).length<=1440/\(((b.2.1.take i).mapIdx (Ĕ b)).flatten).length<=1440:=by
 have j:=h.nG
 have f:∀g∈b.2.1,(ù b g).length<=120/\∀i,(Ĕ b i g).length<=120:=by
  intro g a;have:=If h a;constructor
  ·unfold ù;rw[List.length_append,iW _ _ (fun _=>rfl)];simp only[List.length_cons,List.length_nil]; omega
  ·intro i;unfold Ĕ;rw[List.length_append,iW _ _ (fun _=>rfl)];simp only[List.length_cons,List.length_nil]; omega
 have key:∀i,i<=b.2.1.length->((b.2.1.take i).flatMap (ù b)).length<=i*120/\(((b.2.1.take i).mapIdx (Ĕ b)).flatten).length<=i*120:=by
  intro i
  induction i with
  |zero=>intro _; simp
  |succ i c =>
   intro hi;have c:=c (by omega);have a:b.2.1[i]?=some b.2.1[i]:=cX hi;have h2:=f _ (df a);have k:=h2.2 i;rw[jE _ a,take_succ a,eP,gM,dc,dc];simp only[dB,gh,du,ig,ip];omega
 intro i;rcases dq b.2.1.length i with e|e
 ·rw[dZ (by omega)];have:=key b.2.1.length (cZ _);rw[fo] at this;omega
 ·have:=key i e;omega
set_option maxHeartbeats 1000000 in
def ajr (h:Ŧ b):xN b=some (Ŕ b,LR b):=by
 have q:=h.nC;have p:=h.nG;unfold xN acK;rw[Iw h.pre,À];refine ê b.2.1 (fun i=>((b.2.1.take i).flatMap (ù b),((b.2.1.take i).mapIdx (Ĕ b)).flatten)) _ rfl (fun i g hi f k=>?_) (fun k=>?_)
 ·try dsimp only
  unfold xd;have e:=TR h i;rw[Ì hi,Æ f];refine Eq.trans (af0 h f (by omega) (by omega) _) ?_;rw[È hi (by omega),jE _ f,take_succ f,List.flatMap_append,List.flatten_append];simp only[List.flatMap_cons,List.flatMap_nil,List.append_nil,List.flatten_cons,List.flatten_nil]
 ·try dsimp only
  unfold xd;rw[Ó,List.take_length];dsimp only;have e:=TR h b.2.1.length;rw[List.take_length] at e;refine ê b.2.2.2.2.1 (fun i=>(b.2.1.flatMap (ù b)++(b.2.2.2.2.1.take i).flatMap (ļ b),(b.2.1.mapIdx (Ĕ b)).flatten++((b.2.2.2.2.1.take i).mapIdx fun i _=>[((3:Int),(i:Int)),((3:Int),(i:Int))]).flatten)) _ (by simp) (fun i c hi j k=>?_) (fun k=>?_)
  ·try dsimp only
   unfold xc;have a:=List.mem_of_getElem? j;have l:=(Ŷ c).1 (h.nums a);have ha:=œ l.2.2.2.2.2.1;have hb:=œ l.2.2.2.2.2.2;have n:=afq (b:=b) i (by omega);have o:=wI h a;rw[Ì hi,Æ j,JZ (by omega) (by omega),À];rw[show iO ((b.1.1,b.1.2),b.2.1,b.2.2.1,b.2.2.2.1,b.2.2.2.2.1,b.2.2.2.2.2) (KL c.2.2.1 c.2.2.2.1,c.2.1)=iO b (KL c.2.2.1 c.2.2.2.1,c.2.1) from rfl,Ix h.pre,À,JZ (by omega) (by omega),À];rw[show iO ((b.1.1,b.1.2),b.2.1,b.2.2.1,b.2.2.2.1,b.2.2.2.2.1,b.2.2.2.2.2) (KL c.2.2.2.1 c.2.2.1,c.2.1)=iO b (KL c.2.2.2.1 c.2.2.1,c.2.1) from rfl,Ix h.pre,À];rw[show wi ((b.1.1,b.1.2),b.2.1,b.2.2.1,b.2.2.2.1,b.2.2.2.2.1,b.2.2.2.2.2) c=wi b c from rfl,alv h.size h.film (h.cmpIn a),À];rw[Ï (by omega) (by omega),Ð (by simp only[List.length_append,List.length_cons,List.length_nil]; omega),Am.iff_true,Ð (by simp only[List.length_append,List.length_cons,List.length_nil]; omega),Am.iff_true,È hi (by omega)];rw[jE _ j,take_succ j,List.flatMap_append,List.flatten_append,ahM h.pre,ahM h.pre];simp only[List.flatMap_cons,List.flatMap_nil,List.append_nil,List.flatten_cons,List.flatten_nil,List.append_assoc];rw[Int.zero_sub];rfl
  ·try dsimp only
   unfold xc;rw[Ó,List.take_length];rfl
def lO (b:ø) (i:Nat) (c:Cmp):Int:=if !I1 c then 1 else if (b.2.2.2.2.1.take i).any (fun x=>x.1==c.1) then 6 else CB b c
def T4 (hi:b.2.1.Pairwise fun a b=>a.1<b.1) (i:Nat) (c:Cmp):lO b i c=lP b (ŝ b) i c:=by
 unfold lO lP;rw[aj3 hi]
def ame (b:ø):Int:=match (b.2.2.2.2.1.mapIdx (lO b)).find? (fun e=>e != 0) with
 |some e=>e
 |none=>match (b.2.2.2.2.2.map (WB b)).find? (fun e=>e != 0) with
  |some e=>e
  |none=>if 59<(Ò b).length then 2 else if 300<2*b.2.1.length+2*((Ò b).length-b.2.1.length:Int)+2*b.2.2.2.2.1.length then 2 else 0
def ahU {α:Type} {l:CK α} {E:α->Int} (h:(l.map E).find? (fun e=>e != 0)=none):∀a∈l,E a=0:=by
 intro a ha;have:=ew.1 h (E a) (dE.2 ⟨a,ha,rfl⟩);simpa using this
def aeT {α:Type} {l:CK α} {E:Nat->α->Int} (h:(l.mapIdx E).find? (fun e=>e != 0)=none):∀i a,l[i]?=some a->E i a=0:=by
 intro i a ha;obtain⟨hi,rfl⟩:=de.1 ha;have:=ew.1 h (E i l[i]) (iw.2 ⟨i,hi,rfl⟩);simpa using this
def V4 {i:Nat} {c:Cmp} (h:lO b i c=0):I1 c=true/\(á c.2.2.1 c.2.2.2.1).length<=1/\(á c.2.2.2.1 c.2.2.1).length<=1:=by
 unfold lO at h
 split at h
 ·omega
 rename_i a
 split at h
 ·omega
 unfold CB at h
 (repeat' split at h)<;>first|omega|exact⟨by simpa using a,by omega,by omega⟩
set_option maxHeartbeats 4000000 in
def amd (O:jp b) (t:0<=b.1.1/\b.1.1<=b.1.2/\b.1.2<=1000000) (nG:b.2.1.length<=12) (nU:b.2.2.1.length<=40) (nL:b.2.2.2.1.length<=12) (nC:b.2.2.2.2.1.length<=40) (nK:b.2.2.2.2.2.length<=10)
 (X:∀g∈b.2.1,rQ g=true) (hi:b.2.1.Pairwise fun a b=>a.1<b.1) (Z:∀u∈b.2.2.1,WB b u=0) (hl:∀i l,b.2.2.2.1[i]?=some l->RK b i l=0) :
 Ê (fun(F:Int) v=>kp b.1.1 b.1.2 b.2.1 b.2.2.1 b.2.2.2.1 b.2.2.2.2.1 b.2.2.2.2.2 F (fun H=>v H) (fun E=>some E) (fun _=>Ê (fun(G:Int) y=>km b.1.1 b.1.2 b.2.1 b.2.2.1 b.2.2.2.1 b.2.2.2.2.1 b.2.2.2.2.2 G (fun I=>y I) (fun D=>some D) (fun _=>Ä (kv b) fun K=>ifb (igt (Õ K) (59:Int)) (some (2:Int)) (Ä (xN b) fun J=>ifb (igt (Õ J.1) (300:Int)) (some (2:Int)) (some (0:Int))))) (0:Int))) (0:Int)=some (ame b):=by
 unfold ame
 refine dY (EU b.2.2.2.2.1 (fun i c=>Ff (lO b i c)) some (some (match (b.2.2.2.2.2.map (WB b)).find? (fun e=>e != 0) with
  |some e=>e
  |none=>if 59<(Ò b).length then 2 else if 300<2*b.2.1.length+2*((Ò b).length-b.2.1.length:Int)+2*b.2.2.2.2.1.length then 2 else 0)) (fun i c B p V=>?_) (fun T V=>?_)) ?_
 ·try dsimp only
  unfold kp;have W:=O.piles c (List.mem_of_getElem? p);rw[Ì B,Æ p,ajl (by omega) (by omega),À];unfold lO Ff
  cases I1 c with
  |false=>rfl
  |true =>
   rw[Í (by rfl)]
   have z:(b.2.2.2.2.1.take i).length=i:=by rw[dm]; omega
   refine dY (Ē (b.2.2.2.2.1.take i) (fun x=>x.1==c.1) (fun _=>some 6) (some 6) (if CB b c=0 then V ((i:Int)+1) else some (CB b c)) (fun _=>rfl) (fun j a s ha r=>?_) (fun r=>?_)) ?_
   ·try dsimp only
    unfold p9;rw[z] at s
    have U:b.2.2.2.2.1[j]?=some a:=by rwa [List.getElem?_take_of_lt s] at ha
    rw[Ñ (show ilt (j:Int) (i:Int)=true by simp[ilt]; omega),Æ U,Æ p,È s (by omega),õ]
   ·try dsimp only
    unfold p9;rw[z,Í (show ilt (i:Int) (i:Int)=false by simp[ilt])];dsimp only;rw[Æ p,show ku ((b.1.1,b.1.2),b.2.1,b.2.2.1,b.2.2.2.1,b.2.2.2.2.1,b.2.2.2.2.2) c=ku b c from rfl,ZT O W.1 W.2,À,È B (by omega)]
    by_cases f:CB b c=0
    ·rw[Í (by simp[ine,f]),if_pos f]
    ·rw[Ñ (by simp[ine,f]),if_neg f]
   ·cases Y:(b.2.2.2.2.1.take i).any (fun x=>x.1==c.1) with
    |true=>simp
    |false =>
     by_cases f:CB b c=0
     ·simp[f]
     ·simp[f]
 ·try dsimp only
  unfold kp;rw[Ó];dsimp only;have o:∀i c,b.2.2.2.2.1[i]?=some c->lO b i c=0:=fun i c p=>Zq.1 (T i c p);refine Eq.trans (EU b.2.2.2.2.2 (fun _ u=>Ff (WB b u)) some (some (if 59<(Ò b).length then 2 else if 300<2*b.2.1.length+2*((Ò b).length-b.2.1.length:Int)+2*b.2.2.2.2.1.length then 2 else 0)) (fun i a A ha r=>?_) (fun P r=>?_)) ?_
  ·try dsimp only
   unfold km;rw[Ì A,Æ ha,Qp,À];unfold WB Ff
   cases yH a.2 with
   |false=>rfl
   |true =>
    rw[Í (by rfl),Æ ha,Æ ha,Bb (b:=((b.1.1,b.1.2),b.2.1,b.2.2.1,b.2.2.2.1,b.2.2.2.2.1,b.2.2.2.2.2)) (by simp only; omega),À,È A (by omega)];have e:ŋ ((b.1.1,b.1.2),b.2.1,b.2.2.1,b.2.2.2.1,b.2.2.2.2.1,b.2.2.2.2.2) a.1 a.2=ŋ b a.1 a.2:=rfl;rw[e]
    by_cases f:ŋ b a.1 a.2=0
    ·rw[Í (by simp[ine,f])]; simp[f]
    ·rw[Ñ (by simp[ine,f])]; simp[f]
  ·try dsimp only
   unfold km;rw[Ó];dsimp only
   have k:∀u∈b.2.2.2.2.2,WB b u=0:=fun u h=>by
    obtain⟨j,s,rfl⟩:=dp.1 h;exact Zq.1 (P j _ (cX s))
   have M:Pre b:=⟨O,X,fun c p=>by
    obtain⟨j,s,rfl⟩:=dp.1 p;have q:=V4 (o j _ (cX s))
    exact⟨XP q.1,q.2⟩,fun n hn=>by
    have:=k n hn;unfold WB at this
    split at this
    ·omega
    ·rename_i hd; simpa using hd⟩
   rw[Iw M,À,Î]
   by_cases C:59<(Ò b).length
   ·rw[Ñ (by simp[igt]; omega),if_pos C]
   ·rw[Í (by simp[igt]; omega),if_neg C];have good:Ŧ b:=⟨t,nG,nU,nL,nC,nK,X,hi,fun u h=>by rw[<-abR hi]; exact Z u h,fun i l R=>by rw[<-ahu hi]; exact hl i l R,fun i c S=>by rw[<-T4 hi]; exact o i c S,fun u h=>by rw[<-abR hi]; exact k u h,by omega,by omega⟩;have Q:=Y9 good;rw[ajr good,À,Î];dsimp only;rw[Q,Í (by simp[igt]; omega),if_neg (by omega)]
  ·rw[PG]
   cases(b.2.2.2.2.2.map (WB b)).find? (fun e=>e != 0)<;>rfl
 ·rw[PF (lO b)]
  cases(b.2.2.2.2.1.mapIdx (lO b)).find? (fun e=>e != 0)<;>rfl
end
def VO {l m:CK Int}:(l++m).find? (fun e=>e != 0)=match l.find? (fun e=>e != 0) with|some e=>some e|none=>m.find? (fun e=>e != 0):=by
 rw[List.find?_append]
 cases l.find? (fun e=>e != 0)<;>rfl
set_option maxHeartbeats 4000000 in
def ZU {b:ø} (r:jp b):nP b=some (ŏ b):=by
 unfold nP Jj ŏ;rw[yd,À]
 cases n:j7 b.1 0 1000000 with
 |false=>rfl
 |true =>
 have f:0<=b.1.1/\b.1.1<=b.1.2/\b.1.2<=1000000:=by
  simp only[j7,cY,decide_eq_true_eq] at n;exact n
 rw[Í (show(!true)=false from rfl),if_neg (by simp)];rw[Î b.2.1,Î b.2.2.1,Î b.2.2.2.1,Î b.2.2.2.2.1,Î b.2.2.2.2.2]
 by_cases c0:12<b.2.1.length
 ·rw[Ñ (by simp[igt]; omega),if_pos c0]
 rw[Í (by simp[igt]; omega),if_neg c0]
 by_cases C:40<b.2.2.1.length
 ·rw[Ñ (by simp[igt]; omega),if_pos C]
 rw[Í (by simp[igt]; omega),if_neg C]
 by_cases B:12<b.2.2.2.1.length
 ·rw[Ñ (by simp[igt]; omega),if_pos B]
 rw[Í (by simp[igt]; omega),if_neg B]
 by_cases A:40<b.2.2.2.2.1.length
 ·rw[Ñ (by simp[igt]; omega),if_pos A]
 rw[Í (by simp[igt]; omega),if_neg A]
 by_cases z:10<b.2.2.2.2.2.length
 ·rw[Ñ (by simp[igt]; omega),if_pos z]
 rw[Í (by simp[igt]; omega),if_neg z]
 refine dY (EU b.2.1 (pG b.2.1) some (some (match (y0 b (ŝ b)).find? (fun e=>e != 0) with
  |some e=>e
  |none=>if 59<(Ò b).length then 2 else if 300<2*b.2.1.length+2*((Ò b).length-b.2.1.length:Int)+2*b.2.2.2.2.1.length then 2 else 0)) (fun i g hi p D=>?_) (fun E D=>?_)) ?_
 ·try dsimp only
  unfold qd;rw[Ì hi,Æ p,ajn,À];unfold pG
  cases rQ g with
  |false=>rfl
  |true =>
   rw[Í (by rfl)];rcases fK i with h0|h0
   ·subst h0
    have:igt ((0:Nat):Int) 0=false:=by simp[igt]
    rw[Í this,È hi (by omega)];simp[lU]
   ·obtain⟨q,y⟩:=uQ hi h0
    have x:igt (i:Int) 0=true:=by simp[igt]; omega
    rw[Ñ x,Æ p,PX h0 (by omega),HE h0 y];simp only[lU,h0,decide_true,Bool.true_and,y,Option.any_some];unfold ile
    cases h2:decide (g.1<=q.1) with
    |true=>simp
    |false=>rw[ä,È hi (by omega)]; simp
 ·try dsimp only
  unfold qd;rw[Ó];dsimp only
  have t:jR b=0:=by
   unfold jR;rw[Α.2 fun j a ha=>by rw[Nat.zero_add]; exact E j a ha];rfl
  obtain⟨p,hi⟩:=(xF b).1 t;have H:b.2.2.1.map (WB b)=b.2.2.1.map fun u=>Z7 (ŝ b) u.1 u.2:=List.map_congr_left fun u _=>abR hi u;have I:b.2.2.2.1.mapIdx (RK b)=b.2.2.2.1.mapIdx fun i l=>LD b (ŝ b) i l:=List.mapIdx_eq_mapIdx_iff.2 fun i M=>ahu hi i _;have K:b.2.2.2.2.1.mapIdx (lO b)=b.2.2.2.2.1.mapIdx fun i c=>lP b (ŝ b) i c:=List.mapIdx_eq_mapIdx_iff.2 fun i O=>T4 hi i _;have J:b.2.2.2.2.2.map (WB b)=b.2.2.2.2.2.map fun u=>Z7 (ŝ b) u.1 u.2:=List.map_congr_left fun u _=>abR hi u;unfold y0;rw[<-H,<-I,<-K,<-J,VO,VO,VO,alo r,À]
  cases k:(b.2.2.1.map (WB b)).find? (fun e=>e != 0) with
  |some e =>
   have h:e≠0:=by have:=fM k; simpa using this
   simp only[fZ];rw[Í (by simpa[ieq] using h),Ñ (by simpa[ine] using h)]
  |none =>
   simp only[Option.getD_none];rw[Ñ (by rfl),ajm r,À]
   cases o:(b.2.2.2.1.mapIdx (RK b)).find? (fun e=>e != 0) with
   |some e =>
    have h:e≠0:=by have:=fM o; simpa using this
    simp only[fZ];rw[Ñ (by simpa[ine] using h)]
   |none =>
    simp only[Option.getD_none];rw[Í (by rfl)];refine Eq.trans (amd r f (by omega) (by omega) (by omega) (by omega) (by omega) p hi (ahU k) (aeT o)) ?_;unfold ame
    cases(b.2.2.2.2.1.mapIdx (lO b)).find? (fun e=>e != 0)<;>rfl
 ·unfold jR
  cases v:Ĝ (pG b.2.1) 0 b.2.1 with
  |none =>
   simp
   cases(y0 b (ŝ b)).find? (fun e=>e != 0)<;>rfl
  |some e =>
   have h:jR b=e:=by unfold jR; rw[v]; rfl
   have s:e≠0:=by
    intro h0;rw[h0] at h;obtain⟨x,h2⟩:=(xF b).1 h
    have G:∀j a,b.2.1[j]?=some a->pG b.2.1 j a=none:=by
     intro j a ha;have F:=(Iq (fun g:æ=>g.1) b.2.1).2 h2 j a ha;simp[pG,x a (df ha),F]
    rw[Α.2 fun j a ha=>by rw[dL]; exact G j a ha] at v;cases v
   simp[s]
def ahm {ρ α:Type} (l:CK α) (K:BY ρ) {f:Int->(Int->BY ρ)->BY ρ} (h:∀(i:Nat) (a:α),i<l.length->l[i]?=some a->∀c,f i c=c ((i:Int)+1)) (e:∀c,f l.length c=K):Ê f 0=K:=by
 refine dY (Χ l (fun _=>false) (fun _=>K) K (fun i a hi ha c=>by rw[h i a hi ha c]; rfl) e) ?_;rw[dU.2 (by simp)]
def Iv {l:CK Int} (a:l.length<=1000000):η l l=some true:=by rw[Fc a]; simp
def aly {b:ø} (h:Ŧ b) (n:Int×Int):H5 b n=some (if ŏ (nI b n)≠0 then(ai6,ŏ (nI b n)) else(nI b n,0)):=by
 have c:=h.nK;unfold H5 Yx;rw[Ð (by omega),Am.iff_true,List.nil_append,Ð (by simp only[List.length_singleton]; omega),Am.iff_true];rw[show nP (b.1,b.2.1,b.2.2.1,b.2.2.2.1,b.2.2.2.2.1,b.2.2.2.2.2++[n])=nP (nI b n) from rfl,ZU (Y5 h n),À]
 by_cases a:ŏ (nI b n)=0
 ·rw[Í (by simp[ine,a]),if_neg (show ¬(ŏ (nI b n)≠0) from fun h=>h a)];rfl
 ·rw[Ñ (by simp[ine,a]),if_pos a];rfl
def bigP (c:Cmp):Bool:=decide (9<c.2.2.1.length)||decide (9<c.2.2.2.1.length)
def MI (m:ł):Bool:=decide (m.1.2.1.length<=6)&&(decide (m.1.2.2.1.length<=20)&&(decide (m.1.2.2.2.1.length<=6)&&(decide (m.1.2.2.2.2.1.length<=8)&&(decide (m.1.2.2.2.2.2.length<=6)&&decide (m.2.length<=6)))))
def WT (m:ł):Bool:=!((m.1.2.2.2.2.1.take 60).any bigP)&&(!((m.2.take 8).any fun x=>decide (9<x.2.length))&&MI m)
def aga (m:ł):Bz m=some (WT m):=by
 unfold Bz SQ
 have last:(ifb (ile (Õ m.1.2.1) (6:Int)) (ifb (ile (Õ m.1.2.2.1) (20:Int)) (ifb (ile (Õ m.1.2.2.2.1) (6:Int)) (ifb (ile (Õ m.1.2.2.2.2.1) (8:Int)) (ifb (ile (Õ m.1.2.2.2.2.2) (6:Int)) (some (ile (Õ m.2) (6:Int))) (some false)) (some false)) (some false)) (some false)) (some false))=some (MI m):=by
  have e:∀(n m:Nat),ile (n:Int) (m:Int)=decide (n<=m):=fun n m=>by simp[ile]
  unfold MI;rw[Î,Î,Î,Î,Î,Î,show(6:Int)=((6:Nat):Int) from rfl,show(20:Int)=((20:Nat):Int) from rfl,show(8:Int)=((8:Nat):Int) from rfl,e,e,e,e,e,e];generalize decide (m.1.2.1.length<=6)=t;generalize decide (m.1.2.2.1.length<=20)=s;generalize decide (m.1.2.2.2.1.length<=6)=r;generalize decide (m.1.2.2.2.2.1.length<=8)=q;generalize decide (m.1.2.2.2.2.2.length<=6)=p
  cases t<;>cases s<;>cases r<;>cases q<;>cases p<;>rfl
 rw[last];refine dY (Ē (m.1.2.2.2.2.1.take 60) bigP (fun _=>some false) (some false) (some (!((m.2.take 8).any fun x=>decide (9<x.2.length))&&MI m)) (fun _=>rfl) (fun i c hi o y=>?_) (fun y=>?_)) ?_
 ·try dsimp only
  unfold pL;rw[List.length_take] at hi
  have a:m.1.2.2.2.2.1[i]?=some c:=by rw[eA] at o; split at o<;>simp_all
  rw[Ì (show i<m.1.2.2.2.2.1.length by omega),Ñ (by simp[ilt]; omega),Æ a,Æ a,Ï (by omega) (by omega),õ,Î,Î];unfold bigP
  by_cases g:9<c.2.2.1.length
  ·rw[if_pos (by simp[igt]; omega),if_pos (by simp[g])]
  ·rw[if_neg (by simp[igt]; omega),õ]
   by_cases h2:9<c.2.2.2.1.length
   ·rw[if_pos (by simp[igt]; omega),if_pos (by simp[h2])]
   ·rw[if_neg (by simp[igt]; omega),if_neg (by simp[g,h2])]
 ·refine dY ?_ (dY (Ē (m.2.take 8) (fun x=>decide (9<x.2.length)) (fun _=>some false) (some false) (some (MI m)) (f:=fun v A=>mw m.2 v (fun u=>A u) (fun z=>some z) (fun _=>some (MI m))) (fun _=>rfl) (fun i x hi l j=>?_) (fun j=>?_)) ?_)
  ·try dsimp only
   unfold pL;rw[List.length_take,õ]
   split
   ·rename_i h
    have h':60<m.1.2.2.2.2.1.length:=by rw[Î] at h; simp[ilt] at h; omega
    rw[Í (by simp[ilt]; omega)]
   ·rfl
  ·try dsimp only
   unfold mw;rw[List.length_take] at hi
   have k:m.2[i]?=some x:=by rw[eA] at l; split at l<;>simp_all
   rw[Ì (show i<m.2.length by omega),Ñ (by simp[ilt]; omega),Æ k,Ï (by omega) (by omega),õ,Î]
   by_cases g:9<x.2.length
   ·rw[if_pos (by simp[igt]; omega),if_pos (by simp[g])]
   ·rw[if_neg (by simp[igt]; omega),if_neg (by simp[g])]
  ·try dsimp only
   unfold mw;rw[List.length_take,õ]
   split
   ·rename_i h
    have h':8<m.2.length:=by rw[Î] at h; simp[ilt] at h; omega
    rw[Í (by simp[ilt]; omega)]
   ·rfl
  ·cases List.any (List.take 8 m.2) (fun x=>decide (9<x.2.length))<;>rfl
 ·unfold WT
  cases List.any (List.take 60 m.1.2.2.2.2.1) bigP<;>rfl
structure Small7 (m:ł):Prop where
 inn:In m.1
 n6:m.2.length<=6
 l9:∀x∈m.2,x.2.length<=9
 c8:m.1.2.2.2.2.1.length<=8
def agb {m:ł} (h:WT m=true) (f:∀g∈m.1.2.1,I64 g.2.2.2.2.1.1):Small7 m:=by
 simp only[WT,MI,cY,eQ,decide_eq_true_eq] at h;obtain⟨h0,a,h2,o,n,k,l,j⟩:=h;refine⟨⟨⟨by omega,by omega,by omega,by omega,by omega,fun c i=>?_⟩,f⟩,j,fun x e=>?_,k⟩
 ·rw[dZ (by omega)] at h0;have:=eh.1 h0 c i;simp[bigP] at this;omega
 ·rw[dZ (by omega)] at a;have:=eh.1 a x e;simp at this;omega
def SM (x y:Int) (s:Int×Int):∀M:Fnd,pk (k:=tI) (v:=Ç) x (Nh (k:=tI) (v:=Ç) y s M)=if x=y then some s else pk (k:=tI) (v:=Ç) x M
 |[]=>by
  unfold Nh pk Ž pk
  by_cases h:x=y<;>simp[h]
 |e::M=>by
  unfold Nh
  by_cases h:y=e.1
  ·have:Ž tI y e.1=true:=by simp[Ž,h]
   rw[this];simp only;unfold pk
   by_cases a:x=y
   ·subst a; simp[Ž]
   ·have:Ž tI x y=false:=by simp[Ž,a]
    have h2:Ž tI x e.1=false:=by simp[Ž,<-h,a]
    rw[this,if_neg a];simp only[h2]
  ·have:Ž tI y e.1=false:=by simp[Ž,h]
   rw[this];simp only;unfold pk
   by_cases a:x=e.1
   ·subst a;rw[if_neg (fun e=>h e.symm)];simp[Ž]
   ·have h2:Ž tI x e.1=false:=by simp[Ž,a]
    rw[h2];exact SM x y s M
section
variable {m:ł} {label d:Int}
def aeS (l:CK Way) (w:Way):vZ m label d (l++[w])=ahV m label d (vZ m label d l) w:=by rw[vZ,List.foldl_append]; rfl
end
section
variable {ρ:Type}
def At7_ok {l:CK Int} (e:l.length<=1000000) (x:Int):VS l x=some (match l.findIdx? (·==x) with|some j=>(j:Int)|none=>-1):=by
 unfold VS ag8;refine Eq.trans (Χ l (·==x) (fun z=>some z) (some (-1)) (fun i a hi ha c=>?_) (fun c=>?_)) ?_
 ·try dsimp only
  unfold Bp;rw[Ì hi,Æ ha,È hi (by omega),õ]
  try (by_cases h:a=x<;>simp[ieq,h])
 ·try dsimp only
  unfold Bp;rw[Ó]
 ·cases List.findIdx? (·==x) l<;>rfl
def amD (b:ø) (x:Mx):Int :=
 if !(inP x.1 0 19999&&inP x.2.length 2 5) then 1 else
 if ¬x.2.Pairwise (·<·) then 1 else
 if x.2.any (fun g=>(î b g).isNone) then 5 else
 if x.2.any (fun g=>ŋ b g x.1 != 0) then 4 else 0
def mixE_F (b:ø) (l:CK Mx) (i:Nat) (x:Mx):mixE b l i x=if amD b x≠0 then amD b x else if lU (fun y=>y.1) l i x then 6 else if x.2.any (fun g=>(ś b g x.1).isSome||(ś b g (x.1+1)).isSome) then 9 else 0:=by
 unfold mixE amD
 split
 ·rfl
 ·split
  ·rfl
  ·split
   ·rfl
   ·split<;>rfl
def amE {b:ø} (t:jp b) {x:Mx} (u:x.2.length<=1000000):Me b x=some (amD b x):=by
 have y:=t.gauges;unfold Me acG amD;rw[wA,À,wA,À,Î]
 cases z:inP x.1 0 19999 with
 |false=>rfl
 |true =>
  cases h2:inP (x.2.length:Int) 2 5 with
  |false=>rfl
  |true =>
   rw[Í (by rfl),Í (by rfl),if_neg (by simp)];refine(Vu (l:=x.2) (K:=some 1) (k1:=if x.2.any (fun g=>(î b g).isNone) then some 5 else if x.2.any (fun g=>ŋ b g x.1 != 0) then some 4 else some 0) (fun i a c ha s h=>?_) (fun n v h=>?_)).trans ?_
   ·have hi:=(de.1 s).1
    try dsimp only
    unfold wV;rw[Î,Ñ (decide_eq_true (by omega)),show((i:Int)+1)=((i+1:Nat):Int) by omega,Æ s,show ∀f:Int->BY Int,ck (((i+1:Nat):Int)-1) f=f (i:Int) from fun f=>by rw[Ï (by omega) (by omega)]; congr 1; omega,Æ ha,Ï (by omega) (by omega),õ];simp[ile]
   ·try dsimp only
    unfold wV;rw[Î,Í (decide_eq_false (by omega))]
    refine(Ē x.2 (fun g=>(î b g).isNone) (fun _=>some 5) (some 5) _ (fun _=>rfl) (fun i a hi ha h=>?_) (fun h=>?_))<;>(try dsimp only)<;>unfold EE
    ·rw[Ì hi,Æ ha,show jm ((b.1.1,b.1.2),b.2.1,b.2.2.1,b.2.2.2.1,b.2.2.2.2.1,b.2.2.2.2.2) a=jm b a from rfl,B7 (by omega),À,È hi (by omega),õ];rcases qI (b:=b) (id:=a) with⟨j,g,r,_,q⟩|⟨r,q⟩
     ·rw[r,q]; simp[ilt]; omega
     ·rw[r,q]; simp[ilt]
    ·rw[Ó]
     refine(Ē x.2 (fun g=>ŋ b g x.1 != 0) (fun _=>some 4) (some 4) _ (fun _=>rfl) (fun i a hi ha h=>?_) (fun h=>?_))<;>(try dsimp only)<;>unfold ED
     ·rw[Ì hi,Æ ha,show jv ((b.1.1,b.1.2),b.2.1,b.2.2.1,b.2.2.2.1,b.2.2.2.2.1,b.2.2.2.2.2) a x.1=jv b a x.1 from rfl,Bb (by omega),À,È hi (by omega),õ]
      try simp[ine]
     ·rw[Ó]
   ·by_cases k:x.2.Pairwise (·<·)
    ·rw[if_pos k,if_neg (show ¬¬x.2.Pairwise (·<·) from fun e=>e k)]
     by_cases p:x.2.any (fun g=>(î b g).isNone)=true
     ·rw[if_pos p,if_pos p]
     ·rw[if_neg p,if_neg p]
      by_cases o:x.2.any (fun g=>ŋ b g x.1 != 0)=true
      ·rw[if_pos o,if_pos o]
      ·rw[if_neg o,if_neg o]
    ·rw[if_neg k,if_pos k]
def r7_L1 {b:ø} (j:b.2.2.2.1.length<=1000000) {x:Mx} (t:x.2.length<=5) (hd:0<=x.1/\x.1<=19999) {p:Nat} (r:p<=1000000000) (k0:Int->BY ρ) (k1:Int->BY ρ) :
 Ê (fun(v:Int×Int) q=>ja b.1.1 b.1.2 b.2.1 b.2.2.1 b.2.2.2.1 b.2.2.2.2.1 b.2.2.2.2.2 x.1 x.2 v.1 v.2 (fun a b=>q (a,b)) k0 k1) ((p:Int),(0:Int)) =
  if x.2.any (fun g=>(ś b g x.1).isSome||(ś b g (x.1+1)).isSome) then k0 9 else k1 ((p*IB x.2.length:Nat):Int):=by
 refine vQ x.2 (fun i=>((p*IB i:Nat):Int)) _ (fun i=>(x.2.take i).any (fun g=>(ś b g x.1).isSome||(ś b g (x.1+1)).isSome)=false) (by simp[IB]) (by simp) (fun i g hi c f o=>?_) (fun f o=>?_)
 ·have s:=PM (n:=i) (by omega);have hb:p*IB i<=1000000000*120:=fJ r s;have h2:p*IB i*(i+1)<=1000000000*120*6:=fJ hb (by omega)
  have e:((p*IB i:Nat):Int)*((i:Int)+1)=((p*IB i*(i+1):Nat):Int):=by simp
  try dsimp only
  unfold ja
  rw[Ì hi,Æ c,show ∀d,jV ((b.1.1,b.1.2),b.2.1,b.2.2.1,b.2.2.2.1,b.2.2.2.2.1,b.2.2.2.2.2) g d=jV b g d from fun _=>rfl,Mr j,À,Æ c,Ï (by omega) (by omega),
   show ∀d,jV ((b.1.1,b.1.2),b.2.1,b.2.2.1,b.2.2.2.1,b.2.2.2.2.1,b.2.2.2.2.2) g d=jV b g d from fun _=>rfl,Mr j,À]
  cases h:ś b g x.1 with
  |some l =>
   refine .inl ?_;rw[if_pos (dA.2 ⟨g,df c,by rw[h]; rfl⟩)];rfl
  |none =>
   cases k:ś b g (x.1+1) with
   |some l =>
    refine .inl ?_;rw[if_pos (dA.2 ⟨g,df c,by rw[h,k]; rfl⟩)];rfl
   |none =>
    refine .inr ⟨by rw[take_succ c,List.any_append,f]; simp[h,k],?_⟩;dsimp only;rw[Í (by rfl),Í (by rfl),Ï (by omega) (by omega),e,Ï (by omega) (by omega),Ï (by omega) (by omega),IB,Nat.mul_assoc]
 ·try dsimp only
  unfold ja;rw[List.take_length] at f;rw[Ó,f]; rfl
def afy {m:ł} (J:jp m.1) (hn:m.2.length<=1000) (S:∀x∈m.2,x.2.length<=1000000):BD m=some (ī m):=by
 unfold BD SZ ī;rw[ZU J,À]
 by_cases D:ŏ m.1=0
 ·have T:=(Ο _).1 D;have W:=T.nL;rw[Í (by simp[ine,D]),if_neg (by simp[D])]
  by_cases P:4<m.2.length
  ·rw[Ñ (by simp[igt,Î]; omega),if_pos P]
  ·rw[Í (by simp[igt,Î]; omega),if_neg P];refine vQ m.2 (fun i=>((mY (m.2.take i):Nat):Int)) _ (fun i=>∀j y,j<i->m.2[j]?=some y->mixE m.1 m.2 j y=0) (by simp[mY]) (fun j y h _=>by omega) (fun i x hi r t G=>?_) (fun t G=>?_)
   ·have Y:∀y∈m.2.take i,y.2.length<=5:=fun y o=>by
     obtain⟨j,K,rfl⟩:=dp.1 o;rw[dm] at K;rw[fj];exact UT (t j _ (by omega) (cX (by omega)))
    have hb:=Uv (l:=m.2.take i) (n:=4) (by rw[dm]; omega) Y
    have V:(120:Nat) ^ 4=207360000:=by decide
    try dsimp only
    unfold pT;rw[Ì hi,Æ r,show(((m.1.1.1,m.1.1.2),m.1.2.1,m.1.2.2.1,m.1.2.2.2.1,m.1.2.2.2.2.1,m.1.2.2.2.2.2):ø)=m.1 from rfl,amE J (S x (List.mem_of_getElem? r)),À];have k:=mixE_F m.1 m.2 i x
    by_cases p:amD m.1 x=0
    case neg =>
     rw[if_pos p] at k;refine .inl ?_;rw[Ñ (by simp[ine,p]),FM r t (by rw[k]; exact p),k]
    rw[if_neg (by simp[p])] at k;rw[Í (by simp[ine,p])]
    have B:x.2.length<=5/\0<=x.1/\x.1<=19999:=by
     unfold amD at p
     split at p
     ·simp at p
     ·rename_i I;simp only[eQ,Bool.not_eq_false,cY,inP,decide_eq_true_eq] at I
      have H:x.2.length<=5:=by omega
      exact⟨H,I.1.1,I.1.2⟩
    have s:∀Z R:BY Int,(∀e,Ni m.1 m.2=some e->R=some e)->(∀(c:lU (fun y=>y.1) m.2 i x=false),Z=Ê (fun(v:Int×Int) Q=>ja m.1.1.1 m.1.1.2 m.1.2.1 m.1.2.2.1 m.1.2.2.2.1 m.1.2.2.2.2.1 m.1.2.2.2.2.2 x.1 x.2 v.1 v.2 (fun a b=>Q (a,b)) (fun z=>some z) (fun E=>ck ((i:Int)+1) fun F=>G (E,F))) (((mY (m.2.take i):Nat):Int),(0:Int)))->(lU (fun y=>y.1) m.2 i x=true->Z=some 6) ->
     Z=R\/((∀j y,j<i+1->m.2[j]?=some y->mixE m.1 m.2 j y=0)/\Z=G (((mY (m.2.take (i+1)):Nat):Int),(i:Int)+1)):=by
     intro Z R M X H
     cases c:lU (fun y=>y.1) m.2 i x with
     |true =>
      rw[c,if_pos rfl] at k;refine .inl ?_;rw[H c,M _ (FM r t (by rw[k]; simp)),k]
     |false =>
      rw[c,if_neg (by simp)] at k;rw[X c,r7_L1 (by omega) B.1 B.2 (by omega)]
      cases O:x.2.any (fun g=>(ś m.1 g x.1).isSome||(ś m.1 g (x.1+1)).isSome) with
      |true =>
       rw[O,if_pos rfl] at k;refine .inl ?_;rw[if_pos rfl,M _ (FM r t (by rw[k]; simp)),k]
      |false =>
       rw[O,if_neg (by simp)] at k;refine .inr ⟨fun j y K o=>?_,?_⟩
       ·rcases dq j i with h|h
        ·exact t j y h o
        ·have:j=i:=by omega
         subst this;rw[r] at o; cases o;exact k
       ·rw[if_neg (by simp),È hi (by omega),Bi r]
    refine s _ _ (fun e U=>by rw[U]) (fun c=>?_) (fun c=>?_)
    ·by_cases h0:0<i
     ·obtain⟨q,C⟩:=uQ hi h0
      have u:¬x.1<=q.1:=by
       intro e;unfold lU at c;rw[C] at c;simp[h0,e] at c
      have A:∀f:Int->BY Int,ck ((i:Int)-1) f=f ((i-1:Nat):Int):=fun f=>by rw[Ï (by omega) (by omega)]; congr 1; omega
      rw[Ñ (decide_eq_true (by omega)),A,Æ C,Í (decide_eq_false u)]
     ·rw[Í (decide_eq_false (by omega))]
    ·have h0:0<i:=by
      unfold lU at c;simp only[Bool.and_eq_true,decide_eq_true_eq] at c;exact c.1
     obtain⟨q,C⟩:=uQ hi h0
     have u:x.1<=q.1:=by
      unfold lU at c;rw[C] at c;simpa[h0] using c
     have A:∀f:Int->BY Int,ck ((i:Int)-1) f=f ((i-1:Nat):Int):=fun f=>by rw[Ï (by omega) (by omega)]; congr 1; omega
     rw[Ñ (decide_eq_true (by omega)),A,Æ C,Ñ (decide_eq_true u)]
   ·try dsimp only
    unfold pT;rw[Ó,Eg fun j y o=>t j y (List.getElem?_eq_some_iff.1 o).1 o,List.take_length];dsimp only;rw[õ];simp only[igt,decide_eq_true_eq]
    by_cases h:150<mY m.2
    ·rw[if_pos (by omega),if_pos h]
    ·rw[if_neg (by omega),if_neg h]
 ·rw[Ñ (by simp[ine,D]),if_pos D]
end
def JY {m:ł} {w:Way} (h:Ĵ m.2 w) (u:m.2.length<=1000) (p:∀x∈m.2,x.2.length<=1000) (x d:Int):qm m w x d=some (ţ m.2 w x d):=by
 unfold qm acH;rw[Î,Ï (by omega) (by omega)];refine ñ (fun s:Int×Int=>∃i:Nat,i<=m.2.length/\s.2=(i:Int)-1/\s.1=ţ (m.2.drop i) (w.drop i) x d) (fun s=>(s.2+1).toNat) ?_ ⟨m.2.length,Nat.le_refl _,rfl,?_⟩
 ·rintro⟨t,r⟩ ⟨i,hi,g,h2⟩;simp only at g h2;subst g h2
  cases i with
  |zero =>
   refine .inl fun n=>?_
   try dsimp only
   unfold wW;rw[Í (by simp[ige])]; rfl
  |succ i =>
   obtain⟨y,a⟩:∃y,m.2[i]?=some y:=⟨_,cX hi⟩;obtain⟨l,c,e⟩:=h.at a
   have o:l.length<=1000:=by rw[e.length_eq]; exact p y (df a)
   have j:((i+1:Nat):Int)-1=i:=by omega
   refine .inr ⟨(ţ (m.2.drop i) (w.drop i) x d,(i:Int)-1),⟨i,by omega,rfl,rfl⟩,by simp only[j]; omega,fun n=>?_⟩
   try dsimp only
   unfold wW;rw[j,Ñ (by simp[ige]),Æ a,abO a c];unfold stp
   by_cases hd:y.1<d
   ·rw[Ñ (by simp[ilt,hd]),if_pos hd,Æ c,At7_ok (by omega),À]
    cases q:l.findIdx? (·==ţ (m.2.drop (i+1)) (w.drop (i+1)) x d) with
    |none =>
     dsimp only;rw[Í (by simp[ige]),Ï (by omega) (by omega)]
    |some k =>
     dsimp only
     have f:k<y.2.length:=by rw[<-e.length_eq]; exact(dN.1 q).1
     rw[Ñ (by simp[ige]),Æ a,Æ (cX f),Ï (by omega) (by omega)];rw[ej,cX f]; rfl
   ·rw[Í (by simp[ilt,hd]),Ï (by omega) (by omega),if_neg hd]
 ·simp only[List.drop_length];rw[<-h.len,List.drop_length];unfold ţ;rfl
def afu {m:ł} {w:Way} (h:Ĵ m.2 w) (D:m.2.length<=1000) (B:∀x∈m.2,x.2.length<=1000):xL m w=some (uL m.2 w):=by
 unfold xL NV;have j:=h.len;refine ñ (fun s:Int×Int=>∃i:Nat,i<=w.length/\s.2=(i:Int)/\s.1=uL (m.2.take i) (w.take i)) (fun s=>w.length-s.2.toNat) ?_ ⟨0,Nat.zero_le _,rfl,by simp[uL]⟩;rintro⟨M,K⟩ ⟨i,hi,o,h2⟩;simp only at o h2;subst o h2;rcases Nat.lt_or_ge i w.length with g|G
 ·obtain⟨y,p⟩:∃y,m.2[i]?=some y:=⟨_,cX (by omega)⟩;obtain⟨l,q,r⟩:=h.at p
  have E:l.length<=1000:=by rw[r.length_eq]; exact B y (df p)
  refine .inr ⟨(uL (m.2.take (i+1)) (w.take (i+1)),(i:Int)+1),⟨i+1,g,by simp,rfl⟩,by simp only[dl]; omega,fun t=>?_⟩
  try dsimp only
  unfold od;rw[Ì g];have hb:=afQ (n:=0) D B (w.take i) i;refine ñ (fun s:Int×Int=>∃k:Nat,k<=l.length/\s.2=(k:Int)/\s.1=uL (m.2.take i) (w.take i)+Wu (l.take k) (y.2.take k)) (fun s=>l.length-s.2.toNat) ?_ ⟨0,Nat.zero_le _,rfl,by simp[Wu]⟩;rintro⟨J,t2⟩ ⟨k,O,o,h2⟩;simp only at o h2;subst o h2;have I:=My (l.take k) (y.2.take k)
  have H:(y.2.take k).length<=1000:=by rw[dm]; omega
  rcases dq k l.length with c|F
  ·obtain⟨u,A⟩:∃u,l[k]?=some u:=⟨_,cX c⟩;obtain⟨v,z⟩:∃v,y.2[k]?=some v:=⟨_,cX (by rw[<-r.length_eq]; exact c)⟩;refine .inr ⟨(uL (m.2.take i) (w.take i)+Wu (l.take (k+1)) (y.2.take (k+1)),(k:Int)+1),⟨k+1,c,by simp,rfl⟩,by simp only[dl]; omega,fun t=>?_⟩
   try dsimp only
   unfold oc;rw[Æ q,Ì c,Æ q,Æ A,Æ p,Æ z,Mw A z]
   by_cases a:v=u
   ·rw[Í (by simp[ine,a]),Ï (by omega) (by omega),if_pos a]; simp
   ·rw[Ñ (by simp[ine]; exact fun e=>a e.symm),Ï (by omega) (by omega),Ï (by omega) (by omega),if_neg a,Int.add_assoc]
  ·refine .inl fun C=>?_
   have f:k=l.length:=by omega
   subst f
   try dsimp only
   unfold oc;rw[Æ q,Ó];dsimp only;rw[Ï (by omega) (by omega),Mv p q,List.take_length,r.length_eq,List.take_length]
 ·refine .inl fun t=>?_
  have f:i=w.length:=by omega
  subst f
  try dsimp only
  unfold od;rw[Ó,List.take_length,j,List.take_length]
def TL (a:Int):∀{l:CK Int} {k:Nat},l.Pairwise (·<=·)->k<=l.length->(∀j x,j<k->l[j]?=some x->x<a)->(∀x,l[k]?=some x->a<=x)->aeN a l=l.take k++[a]++l.drop k
 |[],k,_,e,_,_=>by simp[aeN]
 |b::t,0,_,_,_,h2=>by
  have:=h2 b rfl;unfold aeN;rw[if_pos this]; rfl
 |b::t,k+1,g,e,f,h2=>by
  have hb:=f 0 b (by omega) rfl;unfold aeN;rw[if_neg (by omega),TL a (List.pairwise_cons.1 g).2 (by simpa using e) (fun j x h c=>f (j+1) x (by omega) c) (fun x c=>h2 x c)];rfl
def ace {m:ł} {w:Way} (h:Ĵ m.2 w) (B:m.2.length<=1000) (E:∀x∈m.2,x.2.length<=1000) (d:Int) {l:CK Int} (D:l.length<=1000000):AP m w l d=some (nq m w d l):=by
 unfold AP Yh;refine ê l (fun i=>lh ((l.take i).map fun x=>ţ m.2 w x d)) _ rfl (fun i a hi ha u=>?_) (fun u=>?_)
 ·have C:((((m.1.1.1,m.1.1.2),m.1.2.1,m.1.2.2.1,m.1.2.2.2.1,m.1.2.2.2.2.1,m.1.2.2.2.2.2),m.2):ł)=m:=rfl
  try dsimp only
  unfold tr;rw[Ì hi,Æ ha,C,JY h B E,À];generalize y:lh ((l.take i).map fun x=>ţ m.2 w x d)=V
  have v:V.Pairwise (·<=·):=by rw[<-y]; exact Ω _
  have I:V.length=i:=by rw[<-y,(ĵ _).length_eq,dC,dm]; omega
  have n:lh ((l.take (i+1)).map fun x=>ţ m.2 w x d)=aeN (ţ m.2 w a d) V:=by
   rw[<-y];refine gX (le:=(·<=·)) (fun a b _ _ t h2=>Int.le_antisymm t h2) (Ω _) (EX _ (Ω _)) ?_;rw[take_succ ha,fc,eX,fF];exact(ĵ _).trans (List.perm_append_comm.trans ((List.Perm.cons _ (ĵ _).symm).trans (HC _ _).symm))
  rw[n];generalize ţ m.2 w a d=g;refine ñ (fun s:Int=>∃k:Nat,k<=V.length/\s=(k:Int)/\∀j x,j<k->V[j]?=some x->x<g) (fun s=>V.length-s.toNat) ?_ ⟨0,ee _,rfl,fun j x H _=>by omega⟩;rintro s ⟨k,G,rfl,A⟩
  have fin:∀(z:∀x,V[k]?=some x->g<=x),(fun c:Int=>Û ((ile (0:Int) c)&&(ile c (ç V))) (Û (ß (List.length (List.take (Int.toNat c) (List.drop 0 V)))) (Û (ß ((List.length (List.take (Int.toNat c) (List.drop 0 V)))+(List.length ([g])))) (Û ((ile (0:Int) c)&&(ile c (ç V))) (Û (ß ((List.length ((List.take (Int.toNat c) (List.drop 0 V))++([g])))+(List.length (List.take (List.length V-(Int.toNat c)) (List.drop (Int.toNat c) V))))) (ck ((i:Int)+(1:Int)) fun n6=>u (n6,((List.take (Int.toNat c) (List.drop 0 V))++([g]))++(List.take (List.length V-(Int.toNat c)) (List.drop (Int.toNat c) V)))))))) ) (k:Int)=u ((i:Int)+1,aeN g V):=fun z=>by
   dsimp only
   rw[TL g v G A z,dl,à (by simp[ile,ç]; omega),à (Ð (by simp; omega)),à (Ð (by simp; omega)),à (by simp[ile,ç]; omega),à (Ð (by simp; omega)),È hi (by omega),
    dZ (l:=V.drop k) (by simp),gE]
  rcases dq k V.length with f|F
  ·have r:V[k]?=some V[k]:=cX f
   by_cases o:V[k]<g
   ·refine .inr ⟨(k:Int)+1,⟨k+1,f,by simp,fun j x H p=>?_⟩,by omega,fun q=>?_⟩
    ·rcases dq j k with t|t
     ·exact A j x t p
     ·have:j=k:=by omega
      subst this;rw[r] at p; cases p;exact o
    ·try dsimp only
     unfold oJ;rw[Ì f,à (by simp[ile,ilt,ç]; omega),Int.toNat_natCast,Δ r,Ñ (decide_eq_true o),Ï (by omega) (by omega)]
   ·refine .inl fun q=>?_
    try dsimp only
    unfold oJ;rw[Ì f,à (by simp[ile,ilt,ç]; omega),Int.toNat_natCast,Δ r,Í (decide_eq_false o)]
    exact fin fun x e=>by rw[r] at e; cases e; omega
  ·refine .inl fun q=>?_
   have:k=V.length:=by omega
   subst this
   try dsimp only
   unfold oJ;rw[Ó]
   exact fin fun x e=>by simp at e
 ·try dsimp only
  unfold tr;rw[Ó,List.take_length]; rfl
section
variable {m:ł} {w:Way}
def t7_L0 (h:MOk m) (g:Ĵ m.2 w) {ρ:Type} (k0:CK (Int×Int)->BY ρ):Ê (fun(v:Int×CK (Int×Int)) e=>kj w m.1.1.1 m.1.1.2 m.1.2.1 m.1.2.2.1 m.1.2.2.2.1 m.1.2.2.2.2.1 m.1.2.2.2.2.2 m.2 v.1 v.2 (fun a b=>e (a,b)) k0) ((0:Int),[])=k0 (m.1.2.2.1.map fun u=>(ţ m.2 w u.1 u.2,u.2)):=by
 have j:m.2.length<=1000:=by have:=h.n4; omega
 have l:∀x∈m.2,x.2.length<=1000:=fun y f=>by have:=h.len5 y f; omega
 have k:((((m.1.1.1,m.1.1.2),m.1.2.1,m.1.2.2.1,m.1.2.2.2.1,m.1.2.2.2.2.1,m.1.2.2.2.2.2),m.2):ł)=m:=rfl;have o:=h.good.nU
 refine oi m.1.2.2.1 (fun u:Int×Int=>((ţ m.2 w u.1 u.2,u.2):Int×Int)) k0 (fun i a hi ha v c n=>?_) (fun v c=>?_)<;>(try dsimp only)<;>unfold kj
 ·rw[Ì hi,Æ ha,k,JY g j l,À,à (Ð (by simp; omega)),È hi (by omega)]
 ·rw[Ó]
def t7_L1 (h:MOk m) (g:Ĵ m.2 w) {ρ:Type} (k0:CK IE->BY ρ):Ê (fun(v:Int×CK IE) e=>ki w m.1.1.1 m.1.1.2 m.1.2.1 m.1.2.2.1 m.1.2.2.2.1 m.1.2.2.2.2.1 m.1.2.2.2.2.2 m.2 v.1 v.2 (fun a b=>e (a,b)) k0) ((0:Int),[])=k0 (m.1.2.2.2.1.map fun l=>(ţ m.2 w l.1 l.2.1.1,l.2)):=by
 have j:m.2.length<=1000:=by have:=h.n4; omega
 have n:∀x∈m.2,x.2.length<=1000:=fun y f=>by have:=h.len5 y f; omega
 have k:((((m.1.1.1,m.1.1.2),m.1.2.1,m.1.2.2.1,m.1.2.2.2.1,m.1.2.2.2.2.1,m.1.2.2.2.2.2),m.2):ł)=m:=rfl;have p:=h.good.nL
 refine oi m.1.2.2.2.1 (fun l:IE=>((ţ m.2 w l.1 l.2.1.1,l.2):IE)) k0 (fun i a hi ha v c o=>?_) (fun v c=>?_)<;>(try dsimp only)<;>unfold ki
 ·rw[Ì hi,Æ ha,k,JY g j n,À,à (Ð (by simp; omega)),È hi (by omega)]
 ·rw[Ó]
def t7_L2 (h:MOk m) (c:Ĵ m.2 w) {ρ:Type} (k0:CK Cmp->BY ρ):Ê (fun(v:Int×CK Cmp) j=>kh w m.1.1.1 m.1.1.2 m.1.2.1 m.1.2.2.1 m.1.2.2.2.1 m.1.2.2.2.2.1 m.1.2.2.2.2.2 m.2 v.1 v.2 (fun a b=>j (a,b)) k0) ((0:Int),[])=k0 (m.1.2.2.2.2.1.map (afF m w)):=by
 have e:m.2.length<=1000:=by have:=h.n4; omega
 have f:∀x∈m.2,x.2.length<=1000:=fun y k=>by have:=h.len5 y k; omega
 have l:((((m.1.1.1,m.1.1.2),m.1.2.1,m.1.2.2.1,m.1.2.2.2.1,m.1.2.2.2.2.1,m.1.2.2.2.2.2),m.2):ł)=m:=rfl;have q:=h.good.nC
 refine oi m.1.2.2.2.2.1 (afF m w) k0 (fun i a hi ha v g p=>?_) (fun v g=>?_)<;>(try dsimp only)<;>unfold kh
 ·obtain⟨o,n⟩:=h.good.size.piles a (df ha);rw[Ì hi,Æ ha,l,ace c e f _ (by omega),À,ace c e f _ (by omega),À,à (Ð (by simp; omega)),È hi (by omega)];rfl
 ·rw[Ó]
def t7_L3 (h:MOk m) (g:Ĵ m.2 w) {ρ:Type} (k0:CK (Int×Int)->BY ρ):Ê (fun(v:Int×CK (Int×Int)) e=>kg w m.1.1.1 m.1.1.2 m.1.2.1 m.1.2.2.1 m.1.2.2.2.1 m.1.2.2.2.2.1 m.1.2.2.2.2.2 m.2 v.1 v.2 (fun a b=>e (a,b)) k0) ((0:Int),[])=k0 (m.1.2.2.2.2.2.map fun n=>(ţ m.2 w n.1 n.2,n.2)):=by
 have j:m.2.length<=1000:=by have:=h.n4; omega
 have l:∀x∈m.2,x.2.length<=1000:=fun y f=>by have:=h.len5 y f; omega
 have k:((((m.1.1.1,m.1.1.2),m.1.2.1,m.1.2.2.1,m.1.2.2.2.1,m.1.2.2.2.2.1,m.1.2.2.2.2.2),m.2):ł)=m:=rfl;have p:=h.good.nK
 refine oi m.1.2.2.2.2.2 (fun n:Int×Int=>((ţ m.2 w n.1 n.2,n.2):Int×Int)) k0 (fun i a hi ha v c o=>?_) (fun v c=>?_)<;>(try dsimp only)<;>unfold kg
 ·rw[Ì hi,Æ ha,k,JY g j l,À,à (Ð (by simp; omega)),È hi (by omega)]
 ·rw[Ó]
def Iu (h:MOk m) (a:Ĵ m.2 w):ln m w=some (trP m w):=by
 unfold ln uF trP;rw[t7_L0 h a,t7_L1 h a,t7_L2 h a,t7_L3 h a]
end
section
variable {ρ:Type}
def amy {c:CK Int->BY (CK (CK Int))} {c0:CK Int} {i:Nat} {a:Int} (ha:c0[i]?=some a) {r v1:CK (CK Int)} (k:∀y∈r,y.length<=1000) (l:v1.length+r.length<=1000000) (K:CK (CK Int)->BY ρ) :
 Ê (fun(v:Int×CK (CK Int)) h=>kT c c0 i r v.1 v.2 (fun a b=>h (a,b)) K) ((0:Int),v1)=K (v1++r.map (a::·)):=by
 refine ê r (fun j=>v1++(r.take j).map (a::·)) _ (by simp) (fun j y f e g=>?_) (fun g=>?_)
 ·have:=k y (df e)
  try dsimp only
  unfold kT;rw[Ì f,Æ ha,Æ e,à (Ð (by simp; omega)),à (Ð (by simp; omega)),È f (by omega),take_succ e,List.map_append,List.append_assoc]; rfl
 ·try dsimp only
  unfold kT;rw[Ó,List.take_length]
def acz:∀(n:Nat) {l y:CK Int},l.length=n->y∈uX n l->y.length=n
 |0,l,y,_,h=>by simp[uX] at h; simp[h]
 |n+1,l,y,e,h=>by
  have a:¬l.length=0:=by omega
  simp only[uX,if_neg a,dD,fh,dE] at h;obtain⟨i,hi,z,c,rfl⟩:=h;have:=acz n (l:=l.take i++l.drop (i+1)) (by simp; omega) c;simp[this]
def PE {α β:Type} {f:α->CK β} {c:Nat}:∀{l:CK α},(∀x∈l,(f x).length=c)->(l.flatMap f).length=l.length*c
 |[],_=>by simp
 |x::l,h=>by
  rw[dB,dc,h x (by simp),PE fun y a=>h y (dS _ a),dk,dG,ft,Nat.add_comm]
def SH:∀(n:Nat) {l:CK Int},l.length<n->l.length<=5->qS n l=some (uX l.length l)
 |0,l,h,_=>by omega
 |n+1,l,h,v=>by
  show nD (qS n) l some=_;unfold nD
  by_cases h0:l.length=0
  ·obtain rfl:l=[]:=List.eq_nil_of_length_eq_zero h0;rw[Ñ (by rw[Î]; rfl)]; rfl
  ·obtain⟨k,p⟩:∃k,l.length=k+1:=⟨l.length-1,by omega⟩
   have u:uX l.length l=(List.range l.length).flatMap fun i=>(uX k (l.take i++l.drop (i+1))).map (l.getD i 0::·):=by
    rw[p];show(if l.length=0 then[[]] else _)=_;rw[if_neg h0,p]
   have o:=PM (n:=k) (by omega);rw[Í (by rw[Î]; exact decide_eq_false (by omega)),u]
   have e:∀i,i<=l.length->((List.range i).flatMap fun i=>(uX k (l.take i++l.drop (i+1))).map (l.getD i 0::·)).length=i*IB k:=fun i hi=>by
    rw[PE (c:=IB k) fun j t=>by
     rw[fh] at t
     rw[dC,FI (n:=k) (by simp; omega)],fi]
   refine ê l (fun i=>(List.range i).flatMap fun i=>(uX k (l.take i++l.drop (i+1))).map (l.getD i 0::·)) _ rfl (fun i a hi ha q=>?_) (fun q=>?_)
   ·have f:(l.take i++l.drop (i+1)).length=k:=by simp; omega
    have g:l.getD i 0=a:=by rw[ej,ha]; rfl
    have s:(List.range (i+1)).flatMap (fun i=>(uX k (l.take i++l.drop (i+1))).map (l.getD i 0::·))=(List.range i).flatMap (fun i=>(uX k (l.take i++l.drop (i+1))).map (l.getD i 0::·))++(uX k (l.take i++l.drop (i+1))).map (a::·):=by
     rw[fE,eP,dB,gh,du,g]
    have x:i*IB k<=5*120:=fJ (by omega) o
    try dsimp only
    unfold ob
    rw[Ì hi,à (by simp[ile,ç]; omega),à (Ð (by simp; omega)),È hi (by omega),à (by simp[ile,ç]; omega),à (Ð (by simp; omega)),dl,show Int.toNat ((i:Int)+1)=i+1 by omega,d8,
     SH n (by omega) (by omega),À,f,s]
    refine(amy ha (fun y r=>by rw[acz k f r]; omega) (by rw[e i (by omega),FI f]; omega) _).trans ?_;dsimp only;rw[È hi (by omega)]
   ·try dsimp only
    unfold ob;rw[Ó]
def rU {α β:Type} {f g:α->CK β}:∀{l:CK α},(∀a∈l,f a=g a)->l.flatMap f=l.flatMap g
 |[],_=>rfl
 |a::l,h=>by rw[dB,dB,h a (by simp),rU fun x c=>h x (by simp[c])]
def Zw (all:CK Way) (ms:CK Mx):CK Way:=ms.foldl (fun all m=>all.flatMap fun w=>(uX m.2.length m.2).map fun x=>w++[x]) all
def adv:∀(ms:CK Mx) (all:CK Way),Zw all ms=all.flatMap fun w=>(ω ms).map fun v=>w++v
 |[],all=>by
  show all=all.flatMap fun w=>[w++[]];simp
 |m::ms,all=>by
  show Zw (all.flatMap fun w=>(uX m.2.length m.2).map fun x=>w++[x]) ms=_;rw[adv ms,List.flatMap_assoc];refine rU fun w _=>?_;show((uX m.2.length m.2).map fun x=>w++[x]).flatMap (fun w=>(ω ms).map fun v=>w++v)=((uX m.2.length m.2).flatMap fun x=>(ω ms).map (x::·)).map fun v=>w++v;rw[List.flatMap_map,List.map_flatMap];refine rU fun x _=>?_;rw[List.map_map];refine fk fun v _=>?_;simp
def PV (ms:CK Mx):Zw [[]] ms=ω ms:=by rw[adv]; simp
def ae2 (all:CK Way) (ms:CK Mx) (m:Mx):Zw all (ms++[m])=(Zw all ms).flatMap fun w=>(uX m.2.length m.2).map fun x=>w++[x]:=by unfold Zw; rw[List.foldl_append]; rfl
def w7_L2 {r:CK (CK Int)} {c v1:CK Way} {k:Nat} {w:Way} (f:c[k]?=some w) (l:w.length<=1000) (n:v1.length+r.length<=1000000) (K:CK Way->BY ρ) :
 Ê (fun(v:Int×CK Way) i=>oL r k c v.1 v.2 (fun a b=>i (a,b)) K) ((0:Int),v1)=K (v1++r.map fun x=>w++[x]):=by
 have o:=(de.1 f).1;refine ê r (fun j=>v1++(r.take j).map fun x=>w++[x]) _ (by simp) (fun j y g e h=>?_) (fun h=>?_)
 ·try dsimp only
  unfold oL;rw[Ì g,à (by simp[ile,ilt,ç]; omega),Int.toNat_natCast,Δ f,à (Ð (by omega)),Æ e,à (Ð (by simp; omega)),à (Ð (by simp; omega)),È g (by omega),take_succ e,List.map_append,List.append_assoc,List.nil_append]; rfl
 ·try dsimp only
  unfold oL;rw[Ó,List.take_length]
def w7_L1 {r:CK (CK Int)} {all:CK Way} (i:∀w∈all,w.length<=1000) (l:all.length*r.length<=100000) (j:r.length<=1000) (ha:all.length<=100000) (K:CK Way->BY ρ) :
 Ê (fun(v:Int×CK Way) h=>oM r all v.1 v.2 (fun a b=>h (a,b)) K) ((0:Int),[])=K (all.flatMap fun w=>r.map fun x=>w++[x]):=by
 refine ê all (fun k=>(all.take k).flatMap fun w=>r.map fun x=>w++[x]) _ (by simp) (fun k w f e g=>?_) (fun g=>?_)
 ·have n:((all.take k).flatMap fun w=>r.map fun x=>w++[x]).length=k*r.length:=by
   rw[PE (c:=r.length) fun w _=>dC ..,dm,Nat.min_eq_left (by omega)]
  have h2:k*r.length<=all.length*r.length:=dF _ (by omega)
  try dsimp only
  unfold oM;rw[Ì f];refine(w7_L2 e (i w (List.mem_of_getElem? e)) (by omega) _).trans ?_;dsimp only;rw[È f (by omega),take_succ e,List.flatMap_append];simp
 ·try dsimp only
  unfold oM;rw[Ó,List.take_length]
def ail:∀(ms:CK Mx),(Zw [[]] ms).length=mY ms:=fun ms=>by rw[PV,Ih]
def TK {α:Type} {key:α->Int} {x:α}:∀{A R:CK α},(∀y∈A,key y<key x)->VE key x (A++R)=A++VE key x R
 |[],R,_=>rfl
 |a::A,R,h=>by
  have:=h a (by simp);simp only[fe];rw[VE,if_neg (by omega),TK fun y c=>h y (by simp[c])]
def ahK {α:Type} {key:α->Int} {x:α} {R:CK α} (h:∀y∈R,key x<=key y):VE key x R=x::R:=by
 cases R with
 |nil=>rfl
 |cons y R=>rw[VE,if_pos (h y (by simp))]
def LL {α:Type} (key:α->Int) (n:Nat) (l:CK α):CK α:=(List.range n).flatMap fun k:Nat=>l.filter fun y=>decide (key y=(k:Int))
def afr {α:Type} {key:α->Int} {n k:Nat} {x:α} (f:key x=(k:Int)) (i:k<n) (l:CK α):LL key n (x::l)=VE key x (LL key n l):=by
 have e:List.range n=List.range k++k::(List.range (n-k-1)).map (k+1+·):=by
  rw[show n=(k+1)+(n-k-1) by omega,List.range_add,fE,di];simp[show k+1+(n-k-1)-k-1=n-k-1 by omega]
 unfold LL;rw[e,List.flatMap_append,List.flatMap_cons,List.flatMap_append,List.flatMap_cons]
 have h:(List.range k).flatMap (fun j:Nat=>(x::l).filter fun y=>decide (key y=(j:Int)))=(List.range k).flatMap fun j:Nat=>l.filter fun y=>decide (key y=(j:Int)):=rU fun j c=>by
  rw[fh] at c;rw[fC (by simp[f]; omega)]
 have g:((List.range (n-k-1)).map (k+1+·)).flatMap (fun j:Nat=>(x::l).filter fun y=>decide (key y=(j:Int)))=((List.range (n-k-1)).map (k+1+·)).flatMap fun j:Nat=>l.filter fun y=>decide (key y=(j:Int)):=rU fun j c=>by
  obtain⟨q,_,rfl⟩:=dE.1 c;rw[fC (by simp[f]; omega)]
 rw[h,g,fS (by simp[f]),TK fun y a=>?_,ahK fun y a=>?_]
 ·rfl
 ·rcases dg.1 a with a|a
  ·have:=of_decide_eq_true (dX.1 a).2; omega
  ·obtain⟨j,c,a⟩:=dD.1 a;obtain⟨q,_,rfl⟩:=dE.1 c;have:=of_decide_eq_true (dX.1 a).2;omega
 ·obtain⟨j,c,a⟩:=dD.1 a;rw[fh] at c;have:=of_decide_eq_true (dX.1 a).2;omega
def Qf {α:Type} {key:α->Int} {n:Nat}:∀{l:CK α},(∀y∈l,0<=key y/\key y<n)->LL key n l=ĸ key l
 |[],_=>by unfold LL; simp[ĸ]
 |x::l,h=>by
  have c:=h x (by simp);rw[afr (k:=(key x).toNat) (by omega) (by omega),Qf fun y a=>h y (by simp[a])];rfl
def adr:∀n:Nat,1<=IB n
 |0=>cZ _
 |n+1=>by
  have:=adr n;unfold IB;exact Nat.le_trans this (Nat.le_mul_of_pos_right _ (by omega))
def Xd:∀l:CK Mx,1<=mY l
 |[]=>cZ _
 |x::l=>by
  unfold mY;exact Nat.mul_le_mul (adr _) (Xd l)
def MT:∀(l:CK Mx) (i:Nat),mY (l.take i)<=mY l
 |[],i=>by simp
 |x::l,0=>Xd _
 |x::l,i+1=>by
  simp only[gk,mY];exact Nat.mul_le_mul_left _ (MT l i)
def afP:∀{ms:CK Mx} (w:Way),(∀x∈ms,x.2.length<=5)->0<=uL ms w/\uL ms w<=5*ms.length
 |[],w,_=>by cases w<;>simp[uL]
 |m::ms,[],_=>by simp[uL]; omega
 |m::ms,l::w,h=>by
  have e:=My l m.2;have h2:=h m (by simp);have c:=afP (ms:=ms) w fun x a=>h x (by simp[a]);simp only[uL,dk];omega
variable {m:ł}
def w7_L4 (h:MOk m) {all:CK Way} (n:∀w∈all,Ĵ m.2 w) (ha:all.length<=150) (k:Nat) {v1:CK Way} (s:v1.length<=1000000) (K:CK Way->BY ρ) :
 Ê (fun(v:Int×CK Way) i=>oK k m.1.1.1 m.1.1.2 m.1.2.1 m.1.2.2.1 m.1.2.2.2.1 m.1.2.2.2.2.1 m.1.2.2.2.2.2 m.2 all v.1 v.2 (fun a b=>i (a,b)) K) ((0:Int),v1)=K (v1++all.filter fun w=>decide (uL m.2 w=(k:Int))):=by
 have o:m.2.length<=1000:=by have:=h.n4; omega
 have q:∀x∈m.2,x.2.length<=1000:=fun y l=>by have:=h.len5 y l; omega
 have p:((((m.1.1.1,m.1.1.2),m.1.2.1,m.1.2.2.1,m.1.2.2.2.1,m.1.2.2.2.2.1,m.1.2.2.2.2.2),m.2):ł)=m:=rfl;refine ê all (fun j=>v1++(all.take j).filter fun w=>decide (uL m.2 w=(k:Int))) _ (by simp) (fun j w f c g=>?_) (fun g=>?_)
 ·have r:=dP (fun w=>decide (uL m.2 w=(k:Int))) (all.take j);rw[dm] at r
  try dsimp only
  unfold oK;rw[Ì f,à (by simp[ile,ilt,ç]; omega),Int.toNat_natCast,Δ c,p,afu (n w (List.mem_of_getElem? c)) o q,À,take_succ c,List.filter_append]
  by_cases e:uL m.2 w=(k:Int)
  ·rw[Ñ (by simp[ieq,e]),à (by simp[ile,ilt,ç]; omega),Δ c,à (Ð (by simp only[dc,dk,dK]; omega)),È f (by omega),fS (by simp[e]),eJ,di]
  ·rw[Í (by simp[ieq,e]),È f (by omega),fC (by simp[e]),eJ,du]
 ·try dsimp only
  unfold oK;rw[Ó,List.take_length]
def ali (h:MOk m):HU m=some (Ŋ m.2):=by
 have z:=h.n4;have q:mY m.2<=150:=h.prod;unfold HU Yi;refine ê m.2 (fun i=>Zw [[]] (m.2.take i)) _ rfl (fun i x hi c f=>?_) (fun f=>?_)
 ·have p:=h.len5 x (df c);have t:=MT m.2 (i+1);have s:=MT m.2 i;rw[Bi c] at t;have y:=PM (n:=x.2.length) p;have g:=FI (n:=x.2.length) (l:=x.2) rfl;have a:=ail (m.2.take i)
  try dsimp only
  unfold tx;rw[Ì hi,Æ c,show E4 x.2=some (uX x.2.length x.2) from SH 100 (by omega) p,À,take_succ c,ae2];refine(w7_L1 (fun w e=>?_) (by rw[a,g]; omega) (by omega) (by omega) _).trans ?_
  ·rw[PV] at e;have:=(wu.1 e).len;rw[this,dm]; omega
  ·dsimp only;rw[È hi (by omega)]
 ·try dsimp only
  unfold tx;rw[Ó,List.take_length,PV];have a:(ω m.2).length<=150:=Mo h;refine(ê (List.range 21) (fun k=>LL (uL m.2) k (ω m.2)) (some (LL (uL m.2) 21 (ω m.2))) rfl (fun k j u v f=>?_) (fun f=>?_)).trans ?_
  ·rw[fi] at u
   have o:(LL (uL m.2) k (ω m.2)).length<=1000000:=by
    have:∀n:Nat,(LL (uL m.2) n (ω m.2)).length<=n*150:=fun n=>by
     induction n with
     |zero=>simp[LL]
     |succ n r =>
      unfold LL at r ⊢;rw[List.range_succ,List.flatMap_append,List.length_append,List.flatMap_cons,List.flatMap_nil,List.append_nil];have:=List.length_filter_le (fun w=>decide (uL m.2 w=(n:Int))) (ω m.2);omega
    have:=this k;omega
   try dsimp only
   unfold tv;rw[Ñ (decide_eq_true (by omega))];refine(w7_L4 h (fun w e=>wu.1 e) a k o _).trans ?_;dsimp only;rw[Ï (by omega) (by omega)];congr 2;unfold LL;rw[List.range_succ,List.flatMap_append,List.flatMap_cons,List.flatMap_nil,List.append_nil]
  ·rw[fi]
   try dsimp only
   unfold tv;rw[Í (by rfl)]
  ·rw[Qf fun w _=>?_]
   ·rfl
   ·have:=afP (ms:=m.2) w h.len5;omega
end
section
variable {L:CK Lk} {N:Nat}
def qU:∀(A B:CK Lk),lZ (A++B)=lZ A+lZ B
 |[],B=>by simp[lZ,Ca]
 |l::A,B=>by
  have:=qU A B;simp only[lZ,Ca,if_true,fe] at this ⊢;omega
def agU (k:Nat) (L:CK Lk):lZ L<=lZ (L.take k):=by
 have h:=qU (L.take k) (L.drop k);rw[List.take_append_drop] at h;have:=nu (fun _=>true) (L.drop k);unfold lZ at *;omega
def Nc (L:CK Lk):lZ L<=0:=nu _ _
def Sk (L:CK Lk) (l:Lk) (x:CK Int):Ĭ (L++[l]) x=Ũ (Ĭ L x) l:=by
 unfold Ĭ;rw[List.foldl_append];rfl
def Uw:∀{L:CK Lk},InR L N->∀{x:CK Int} {B:Int},x.length=N->B<=0->(∀v:Int,0<=v->v<N->B<=gv x v)->∀v:Int,0<=v->v<N->B+lZ L<=gv (Ĭ L x) v
 |[],_,x,B,_,_,c,v,h0,a=>by have:=c v h0 a; simp[lZ,Ca,Ĭ]; omega
 |l::t,g,x,B,h,j,c,v,h0,a=>by
  have f:=g l (by simp)
  have key:∀v:Int,0<=v->v<N->B+min l.2.2 0<=gv (Ũ x l) v:=by
   intro v h0 a;have h2:=c v h0 a;have k:=c l.1 f.1.1 f.1.2;unfold Ũ
   split
   ·rw[pF f.2.1 h0 (by omega)]
    split<;>omega
   ·omega
  have:=Uw (L:=t) (fun m i=>g m (by simp[i])) (x:=Ũ x l) (B:=B+min l.2.2 0) (by rw[mj]; exact h) (by omega) key v h0 a;show B+lZ (l::t)<=gv (Ĭ t (Ũ x l)) v
  have e:lZ (l::t)=min l.2.2 0+lZ t:=by simp[lZ,Ca]
  rw[e];omega
def ab9 {f x:CK Int} {l:Lk} (c:(0<=l.1/\l.1<N)/\(0<=l.2.1/\l.2.1<N)) (h:x.length=N) (a:∀v:Int,0<=v->gv x v<=gv f v) (g:gv x l.1+l.2.2<gv x l.2.1):x.set l.2.1.toNat (gv x l.1+l.2.2)≠f:=by
 intro e;have i:=a l.2.1 c.2.1
 have h2:gv (x.set l.2.1.toNat (gv x l.1+l.2.2)) l.2.1=gv x l.1+l.2.2:=by rw[pF c.2.1 c.2.1 (by omega),if_pos rfl]
 rw[e] at h2;omega
def DR {ρ:Type} {x:CK Int} {v:Int} (h0:0<=v) (a:v<x.length) (f:Int->BY ρ):Û ((ile (0:Int) v)&&(ilt v (ç x))) (Ħ x (Int.toNat v) f)=f (gv x v):=by
 rw[show ç x=((x.length:Nat):Int) from rfl,ž h0 a,kK (by omega)]
set_option maxHeartbeats 1000000 in
def agI (A:InR L N) (I:∀l∈L,-4503599627370496<=l.2.2/\l.2.2<=4503599627370496) (z:L.length<=1000000) {a:CK Int} (t:a.length=N) (h0:∀v:Int,0<=v->v<N->gv a v<=0) {B:Int} (J:B<=0) (i:∀v:Int,0<=v->v<N->B<=gv a v) (hb : -9000000000000000000<=B+lZ L) (K:Bool×CK Int->BY Bool) :
 Ê (fun(f:Bool×Int×CK Int) g=>oP L f.1 f.2.1 f.2.2 (fun r q p=>g (r,q,p)) K) (false,(0:Int),a)=K (decide (Ĭ L a≠a),Ĭ L a):=by
 refine ñ (fun s:Bool×Int×CK Int=>∃k:Nat,k<=L.length/\s=(decide (Ĭ (L.take k) a≠a),(k:Int),Ĭ (L.take k) a)) (fun s=>L.length-s.2.1.toNat) ?_ ⟨0,by omega,by simp[Ĭ]⟩;rintro s ⟨k,O,rfl⟩;rcases dq k L.length with e|H
 ·have ha:L[k]?=some L[k]:=cX e;have c:=A _ (df ha);have M:=I _ (df ha);have o:InR (L.take k) N:=fun l c=>A l (ff c)
  have x:(Ĭ (L.take k) a).length=N:=by rw[oq,t]
  have j:=sJ o t;have E:=agU k L;have G:=Uw o t J i L[k].1 c.1.1 c.1.2;have D:=j L[k].1 c.1.1;have y:=h0 L[k].1 c.1.1 c.1.2;have F:=Nc L;refine .inr ⟨(decide (Ĭ (L.take (k+1)) a≠a),((k+1:Nat):Int),Ĭ (L.take (k+1)) a),⟨k+1,e,rfl⟩,by simp only[dl]; omega,fun C=>?_⟩
  try dsimp only
  unfold oP;rw[Ì e,Æ ha,DR c.1.1 (by omega),Ï (by omega) (by omega),DR c.2.1 (by omega),õ,take_succ ha,Sk]
  by_cases n:gv (Ĭ (L.take k) a) L[k].1+L[k].2.2<gv (Ĭ (L.take k) a) L[k].2.1
  ·have u:Ũ (Ĭ (L.take k) a) L[k]=(Ĭ (L.take k) a).set L[k].2.1.toNat (gv (Ĭ (L.take k) a) L[k].1+L[k].2.2):=by
    unfold Ũ;rw[if_pos ⟨by unfold Ŗ; omega,n⟩]
   rw[if_pos (by simpa[ilt] using n),DR c.1.1 (by omega),Ï (by omega) (by omega),DR c.2.1 (by omega),È e (by omega),u];have:decide ((Ĭ (L.take k) a).set L[k].2.1.toNat (gv (Ĭ (L.take k) a) L[k].1+L[k].2.2)≠a)=true:=decide_eq_true (ab9 c x j n);rw[this];rfl
  ·have u:Ũ (Ĭ (L.take k) a) L[k]=Ĭ (L.take k) a:=by
    unfold Ũ;rw[if_neg (fun h=>n h.2)]
   rw[if_neg (by simpa[ilt] using n),È e (by omega),u];rfl
 ·have:k=L.length:=by omega
  subst this;refine .inl fun C=>?_
  try dsimp only
  unfold oP;rw[Ó,List.take_length]
def Xg {x:CK Int} {n:Nat} (h:Ĭ L (Ą L n x)=Ą L n x):∀m,n<=m->Ą L m x=Ą L n x:=by
 intro m e
 induction m with
 |zero =>
  have:n=0:=by omega
  subst this; rfl
 |succ m c =>
  rcases dq m n with a|a
  ·have:n=m+1:=by omega
   subst this; rfl
  ·rw[ņ,c a,h]
def MO:List.replicate N (0:Int)=Ņ (yK N) N:=by
 refine TO (by simp[ë]) fun v h0 c=>?_
 have a:v<N:=by simpa using c
 rw[ū _ h0 a,if_pos (by simp[yK,h0,a])];unfold gv;rw[List.getElem?_replicate]
 split<;>rfl
set_option maxHeartbeats 1000000 in
def alw (h:jo L N) (t : -140000000000000000<=lZ L):H4 ((N:Int),L)=some (j8 L N):=by
 have h2:=h.n60;have H:=h.n1;have G:=h.len;have A:=Nc L;unfold H4 Yv;dsimp only;rw[xE (by omega),Int.toNat_natCast,MO]
 have bd:∀n:Nat,(∀v:Int,0<=v->v<N->gv (Ą L n (Ņ (yK N) N)) v<=0)/\(∀v:Int,0<=v->v<N->(n:Int)*lZ L<=gv (Ą L n (Ņ (yK N) N)) v):=by
  intro n
  induction n with
  |zero =>
   constructor
   ·intro v h0 c;show gv (Ņ (yK N) N) v<=0;rw[ū _ h0 c,if_pos (by simp[yK,h0,c])]; omega
   ·intro v h0 c;show _<=gv (Ņ (yK N) N) v;rw[ū _ h0 c,if_pos (by simp[yK,h0,c])]; simp
  |succ n r =>
   have k:(Ą L n (Ņ (yK N) N)).length=N:=by rw[Ė,ë]
   rw[ņ];constructor
   ·intro v h0 c;have:=sJ h.inr k v h0;have:=r.1 v h0 c;omega
   ·intro v h0 c;have:=Uw h.inr k (B:=(n:Int)*lZ L) (by have:=fW (show(0:Int)<=n by omega) (show 0<=-lZ L by omega); rw[Int.mul_neg] at this; omega) r.2 v h0 c;rw[fY,f0,gd];exact this
 refine ñ (fun s:Bool×Int×CK Int=>∃n:Nat,n<=N+1/\s.2.1=(n:Int)/\s.2.2=Ą L n (Ņ (yK N) N)/\s.1=(if n=0 then true else decide (Ą L n (Ņ (yK N) N)≠Ą L (n-1) (Ņ (yK N) N)))) (fun s=>N+1-s.2.1.toNat) ?_ ⟨0,by omega,rfl,rfl,rfl⟩;rintro⟨I,i,x⟩ ⟨n,F,z,y,u⟩;dsimp only at z y u ⊢;subst z y u
 have k:(Ą L n (Ņ (yK N) N)).length=N:=by rw[Ė,ë]
 by_cases C:n<=N
 ·by_cases j:(if n=0 then true else decide (Ą L n (Ņ (yK N) N)≠Ą L (n-1) (Ņ (yK N) N)))=true
  ·refine .inr ⟨(decide (Ĭ L (Ą L n (Ņ (yK N) N))≠Ą L n (Ņ (yK N) N)),((n+1:Nat):Int),Ĭ L (Ą L n (Ņ (yK N) N))),⟨n+1,by omega,rfl,(ņ L n _).symm,?_⟩,by simp only[dl]; omega,fun q=>?_⟩
   ·rw[if_neg (by omega),gY,ņ]
   ·unfold oQ;rw[j,Ñ (by simp[ile]; omega),jd]
    have D : -9000000000000000000<=(n:Int)*lZ L+lZ L:=by
     have E:(n:Int)*(-lZ L)<=60*140000000000000000:=fI (by omega) (by omega) (by omega) (by omega);rw[Int.mul_neg] at E;omega
    have p:(n:Int)*lZ L<=0:=by
     have:=fW (show(0:Int)<=n by omega) (show 0<=-lZ L by omega);rw[Int.mul_neg] at this;omega
    refine Eq.trans (agI h.inr h.most (by omega) k (bd n).1 p (bd n).2 D _) ?_;dsimp only;rw[Ï (by omega) (by omega)];rfl
  ·refine .inl fun q=>?_;have a:=Bool.eq_false_iff.2 j;unfold oQ;rw[a,Ñ (by simp[ile]; omega),ä]
   have l:n≠0:=by intro e; rw[e] at a; simp at a
   rw[if_neg l] at a
   have o:Ą L n (Ņ (yK N) N)=Ą L (n-1) (Ņ (yK N) N):=by simpa using a
   have f:Ĭ L (Ą L (n-1) (Ņ (yK N) N))=Ą L (n-1) (Ņ (yK N) N):=by
    rw[<-ņ,Nat.sub_add_cancel (by omega)];exact o
   have g:=Xg f N (by omega)
   have:j8 L N=true:=by
    unfold j8 iS;rw[g];exact decide_eq_true f
   rw[this];rfl
 ·refine .inl fun q=>?_
  have:n=N+1:=by omega
  subst this;unfold oQ;rw[Í (by simp[ile]; omega),if_neg (by omega),Nat.add_sub_cancel,ņ];unfold j8 iS
  by_cases hd:Ĭ L (Ą L N (Ņ (yK N) N))=Ą L N (Ņ (yK N) N)
  ·simp[hd]
  ·simp[hd]
end
section
variable {L:CK Lk} {N:Nat}
def akb (h:jo L N) : -1400000000000000000<=lZ L:=by
 have c:=UR (L:=L) (fun l a=>(h.links.most l a).1) h.links.m0;have h2:=h.len;omega
set_option maxHeartbeats 1000000 in
def abA (h:jo L N) {p:Int->Int} (G:Pot L p) {S:Int->Prop} {a:CK Int} (x:a.length=N) (h0:∀v:Int,0<=v->v<N->gv a v<=Ŗ) (A:Att L S N a) (K:Bool×CK Int->BY (CK Int)) :
 Ê (fun(f:Bool×Int×CK Int) i=>kZ L f.1 f.2.1 f.2.2 (fun u t r=>i (u,t,r)) K) (false,(0:Int),a)=K (decide (Ĭ L a≠a),Ĭ L a):=by
 have C:=h.len;have B:=akb h;refine ñ (fun s:Bool×Int×CK Int=>∃k:Nat,k<=L.length/\s=(decide (Ĭ (L.take k) a≠a),(k:Int),Ĭ (L.take k) a)) (fun s=>L.length-s.2.1.toNat) ?_ ⟨0,by omega,by simp[Ĭ]⟩;rintro s ⟨k,M,rfl⟩;rcases dq k L.length with c|I
 ·have ha:L[k]?=some L[k]:=cX c;have e:=h.inr _ (df ha);have J:=h.most _ (df ha);have q:InR (L.take k) N:=fun l e=>h.inr l (ff e)
  have y:(Ĭ (L.take k) a).length=N:=by rw[oq,x]
  have z:=sJ q x;have o:Att L S N (Ĭ (L.take k) a):=MV q (fun l e=>ff e) x A;refine .inr ⟨(decide (Ĭ (L.take (k+1)) a≠a),((k+1:Nat):Int),Ĭ (L.take (k+1)) a),⟨k+1,c,rfl⟩,by simp only[dl]; omega,fun D=>?_⟩
  try dsimp only
  unfold kZ;rw[Ì c,Æ ha,DR e.1.1 (by omega),õ,take_succ ha,Sk]
  by_cases g:gv (Ĭ (L.take k) a) L[k].1<Ŗ
  ·obtain⟨vs,E⟩:=o L[k].1 e.1.1 e.1.2 g;have H:=E.low' G;have F:gv (Ĭ (L.take k) a) L[k].1<1152921504606846976:=g;rw[if_pos (by simpa[ilt] using g),DR e.1.1 (by omega),Ï (by omega) (by omega),DR e.2.1 (by omega),õ]
   by_cases n:gv (Ĭ (L.take k) a) L[k].1+L[k].2.2<gv (Ĭ (L.take k) a) L[k].2.1
   ·have j:Ũ (Ĭ (L.take k) a) L[k]=(Ĭ (L.take k) a).set L[k].2.1.toNat (gv (Ĭ (L.take k) a) L[k].1+L[k].2.2):=by
     unfold Ũ;rw[if_pos ⟨g,n⟩]
    rw[if_pos (by simpa[ilt] using n),DR e.1.1 (by omega),Ï (by omega) (by omega),DR e.2.1 (by omega),È c (by omega),j];have:decide ((Ĭ (L.take k) a).set L[k].2.1.toNat (gv (Ĭ (L.take k) a) L[k].1+L[k].2.2)≠a)=true:=decide_eq_true (ab9 e y z n);rw[this];rfl
   ·have j:Ũ (Ĭ (L.take k) a) L[k]=Ĭ (L.take k) a:=by
     unfold Ũ;rw[if_neg (fun h=>n h.2)]
    rw[if_neg (by simpa[ilt] using n),È c (by omega),j];rfl
  ·have j:Ũ (Ĭ (L.take k) a) L[k]=Ĭ (L.take k) a:=by
    unfold Ũ;rw[if_neg (fun h=>g h.1)]
   rw[if_neg (by simpa[ilt] using g),È c (by omega),j];rfl
 ·have:k=L.length:=by omega
  subst this;refine .inl fun D=>?_
  try dsimp only
  unfold kZ;rw[Ó,List.take_length]
def af5 {S:Int->Bool}:Att L (fun v=>S v=true) N (Ņ S N):=by
 intro v h0 e a;rw[ū _ h0 e] at a ⊢
 split at a
 ·rename_i c;rw[if_pos c];exact⟨[],.nil c⟩
 ·exact absurd a (by omega)
set_option maxHeartbeats 1000000 in
def Uh (h:jo L N) (H:j8 L N=true) {s:Int} (t:0<=s/\s<N):rZ ((N:Int),L) s=some (kP L N s):=by
 have h2:=h.n60;have O:=h.n1;have D:=h.len;obtain⟨p,B⟩:=(kQ h.links (by omega)).1 H;unfold rZ OI;dsimp only;rw[xE (by omega),Int.toNat_natCast];refine ê (List.replicate N (0:Int)) (fun i=>List.replicate i Ŗ++List.replicate (N-i) 0) _ (by simp) (fun i a hi ha r=>?_) (fun r=>?_)
 ·dsimp only;unfold oe
  have z:i<N:=by simpa using hi
  have f:i<(List.replicate i Ŗ++List.replicate (N-i) (0:Int)).length:=by simp; omega
  rw[Ñ (show ilt (i:Int) (N:Int)=true by simp[ilt]; omega),ő f,é (cX f),È z (by omega),dl];congr 2;rw[f7 _ _ (by simp)]
  have:N-i=(N-(i+1))+1:=by omega
  rw[this,fm,gI,fT,List.set_cons_zero,List.replicate_succ'];simp
 ·try dsimp only
  unfold oe
  have J:List.replicate (List.replicate N (0:Int)).length Ŗ++List.replicate (N-(List.replicate N (0:Int)).length) 0=List.replicate N Ŗ:=by simp
  rw[Í (show ilt ((List.replicate N (0:Int)).length:Int) (N:Int)=false by simp[ilt]),J];dsimp only;rw[DR t.1 (by simpa using t.2),WO t]
  have bd:∀n:Nat,(∀v:Int,0<=v->v<N->gv (Ą L n (Ņ (CG s) N)) v<=Ŗ)/\Att L (fun v=>CG s v=true) N (Ą L n (Ņ (CG s) N)):=by
   intro n;constructor
   ·intro v h0 u;have M:=yZ h.inr n (ë (CG s) N) v h0
    have K:gv (Ņ (CG s) N) v<=Ŗ:=by rw[ū _ h0 u]; unfold Ŗ; split<;>omega
    omega
   ·exact IR h.inr n (ë _ _) af5
  have q:Ĭ L (Ą L N (Ņ (CG s) N))=Ą L N (Ņ (CG s) N):=by
   rw[<-ņ];have hd:=fun n C=>D9 (S:=CG s) B h.inr (fun v A=>by simp[CG] at A; subst A; exact t) (fun l f=>(h.links.most l f).2) h.links.m0 (agS h.links (by omega)) n C;refine TO (by rw[Ė,Ė]) fun v h0 u=>?_;rw[Ė,ë] at u;exact(hd (N+1) (by omega)).uniq (hd N (by omega)) h0 u
  refine ñ (fun st:Bool×Int×CK Int=>∃n:Nat,n<=N+1/\st.2.1=(n:Int)/\st.2.2=Ą L n (Ņ (CG s) N)/\st.1=(if n=0 then true else decide (Ą L n (Ņ (CG s) N)≠Ą L (n-1) (Ņ (CG s) N)))) (fun st=>N+1-st.2.1.toNat) ?_ ⟨0,by omega,rfl,rfl,rfl⟩;rintro⟨P,i,x⟩ ⟨n,C,G,F,E⟩;dsimp only at G F E ⊢;subst G F E
  have f:(Ą L n (Ņ (CG s) N)).length=N:=by rw[Ė,ë]
  by_cases I:n<=N
  ·by_cases o:(if n=0 then true else decide (Ą L n (Ņ (CG s) N)≠Ą L (n-1) (Ņ (CG s) N)))=true
   ·refine .inr ⟨(decide (Ĭ L (Ą L n (Ņ (CG s) N))≠Ą L n (Ņ (CG s) N)),((n+1:Nat):Int),Ĭ L (Ą L n (Ņ (CG s) N))),⟨n+1,by omega,rfl,(ņ L n _).symm,?_⟩,by simp only[dl]; omega,fun r=>?_⟩
    ·rw[if_neg (by omega),gY,ņ]
    ·unfold la;rw[o,Ñ (by simp[ile]; omega),jd];refine Eq.trans (abA h B f (bd n).1 (bd n).2 _) ?_;dsimp only;rw[Ï (by omega) (by omega)];rfl
   ·refine .inl fun r=>?_;have c:=Bool.eq_false_iff.2 o;unfold la;rw[c,Ñ (by simp[ile]; omega),ä]
    have y:n≠0:=by intro e; rw[e] at c; simp at c
    rw[if_neg y] at c
    have j:Ą L n (Ņ (CG s) N)=Ą L (n-1) (Ņ (CG s) N):=by simpa using c
    have g:Ĭ L (Ą L (n-1) (Ņ (CG s) N))=Ą L (n-1) (Ņ (CG s) N):=by
     rw[<-ņ,Nat.sub_add_cancel (by omega)];exact j
    have k:=Xg g N (by omega);unfold kP;rw[k,j]
  ·refine .inl fun r=>?_
   have:n=N+1:=by omega
   subst this;unfold la;rw[Í (by simp[ile]; omega),ņ,q];rfl
end
def Nd {α:Type} (F:α->CK Lk) (B:Int):∀l:CK α,(∀a∈l,-B<=lZ (F a))->-(l.length*B)<=lZ (l.flatMap F)
 |[],_=>by simp[lZ,Ca]
 |a::l,h=>by
  rw[dB,qU];have f:=h a (by simp);have h2:=Nd F B l fun c e=>h c (by simp[e]);rw[dk,fY,f0,gd];omega
def agT {L:CK Lk} (h:∀l∈L,0<=l.2.2):lZ L=0:=by
 induction L with
 |nil=>rfl
 |cons l t a =>
  have f:=h l (by simp);have h2:=a fun m c=>h m (by simp[c])
  have e:lZ (l::t)=min l.2.2 0+lZ t:=by simp[lZ,Ca]
  rw[e,h2];omega
def Ŧ.neg {b:ø} (h:Ŧ b) : -140000000000000000<=lZ (Ŕ b):=by
 have t:=h.nG;have u:=h.nC
 have p:∀g∈b.2.1,-1130000000000000<=lZ (ù b g):=by
  intro g e;have f:=h.gaugeR e;have r1:=f.2.2.2.2.2.1;have r2:=f.2.2.2.2.2.2.1;unfold ù
  rw[qU,agT (L:=(List.range ((Ý b g).length-1)).flatMap _) (fun l a=>by
   obtain⟨k,j,a⟩:=dD.1 a;have i:=fh.1 j;simp only[dh,ik,or_false] at a;rcases a with rfl|rfl
   ·exact dQ _
   ·have hd:(Ý b g)[k]?=some ((Ý b g)[k]?.getD 0):=by rw[cX (by omega)]; rfl
    exact(jQ h e (h.day e (df hd)).2.1).1)]
  simp only[lZ,Ca,if_true];omega
 have o:∀c∈b.2.2.2.2.1,-2260000000000000<=lZ (ļ b c):=by
  intro c n;have q:=wI h n;unfold ļ;simp only[lZ,Ca,if_true];omega
 have s:=Nd (ù b) 1130000000000000 b.2.1 p;have r:=Nd (ļ b) 2260000000000000 b.2.2.2.2.1 o;unfold Ŕ;rw[qU];omega
def Ug {b:ø} (h:Ŧ b):rY b=some (((Ò b).length:Int)+1,Ŕ b):=by
 have a:=h.nodes;unfold rY Oh;rw[Iw h.pre,À,Î,Ï (by omega) (by omega),ajr h,À]
section
variable {m:ł} {w:Way}
def ZY (h:MOk m) (c:Ĵ m.2 w):qn m w=some (mR m w):=by
 have a:=wD h c;unfold qn GB;rw[Iu h c,À,Ug a,À];have:=alw a.sys a.neg;rw[show((((Ò (trP m w)).length:Int)+1,Ŕ (trP m w)):Sys)=((((Ò (trP m w)).length+1:Nat):Int),Ŕ (trP m w)) from by push_cast; rfl,this];rfl
def ajD (h:MOk m):HW m=some (į m):=by
 have j:=sF h;have f:((((m.1.1.1,m.1.1.2),m.1.2.1,m.1.2.2.1,m.1.2.2.2.1,m.1.2.2.2.2.1,m.1.2.2.2.2.2),m.2):ł)=m:=rfl;unfold HW acI į;rw[ali h,À];refine ê (Ŋ m.2) (fun i=>((Ŋ m.2).take i).filter (mR m)) _ rfl (fun i w hi a e=>?_) (fun e=>?_)
 ·have g:=dP (mR m) ((Ŋ m.2).take i);rw[dm] at g
  try dsimp only
  unfold wZ;rw[Ì hi,Æ a,f,ZY h (qO a),À,take_succ a,List.filter_append]
  cases c:mR m w with
  |true=>rw[Ñ (by rfl),Æ a,à (Ð (by simp only[dk,dK]; omega)),È hi (by omega),fS c,eJ]
  |false=>rw[Í (by rfl),È hi (by omega),fC (by simp[c]),eJ,du]
 ·try dsimp only
  unfold wZ;rw[Ó,List.take_length]
end
section
variable {m:ł} {w:Way} {ρ:Type}
def afO:∀{ms:CK Mx} {w:Way} (x:Int),(∀y∈ms,y.1<20000)->ţ ms w x 20001=ţ ms w x 20000
 |[],w,x,_=>by cases w<;>rfl
 |y::ms,[],x,_=>rfl
 |y::ms,l::ls,x,h=>by
  have c:=h y (by simp);have h2:=afO (ms:=ms) (w:=ls) x fun z a=>h z (List.mem_cons_of_mem _ a);unfold ţ;rw[h2];unfold stp;rw[if_pos (show y.1<20001 by omega),if_pos c]
def uw (m:ł) (g:æ):Bool:=(į m).all fun w=>decide (ţ m.2 w g.1 20000=g.1)
def af1 (m:ł):CK Int:=(m.1.2.1.filter (uw m)).map fun g=>g.1
def alk (m:ł):CK Int×Int:=if ī m≠0 then([],ī m) else if į m=[] then([],5) else(af1 m,0)
def WL {l:CK æ} {i:Nat} {g:æ} (a:l[i]?=some g) (p:æ->Bool):((l.take (i+1)).filter p).map (fun g=>g.1)=((l.take i).filter p).map (fun g=>g.1)++if p g then[g.1] else[]:=by
 rw[take_succ a,eS,fc]
 cases h:p g<;>simp[h]
def ani (o:In m.1) (s:m.2.length<=1000):Mc m=some (alk m):=by
 unfold Mc acE alk;rw[mS o s,À]
 by_cases k:ī m=0
 case neg=>rw[Ñ (by simp[ine,k]),if_pos k]
 have h:=(Ľ m).1 k;have t:((((m.1.1.1,m.1.1.2),m.1.2.1,m.1.2.2.1,m.1.2.2.2.1,m.1.2.2.2.2.1,m.1.2.2.2.2.2),m.2):ł)=m:=rfl;have x:=o.size.gauges;have v:=HH h;rw[Í (by simp[ine,k]),if_neg (by simp[k]),aa2 h,À]
 by_cases f:į m=[]
 ·rw[if_pos f,f,Î]; rfl
 ·have:(į m).length≠0:=fun e=>f (dv.1 e);rw[if_neg f,Í (by simp[ieq,Î,f])];refine ê m.1.2.1 (fun i=>((m.1.2.1.take i).filter (uw m)).map fun g=>g.1) _ rfl (fun i g hi c a=>?_) (fun a=>?_)
  ·have u:(((m.1.2.1.take i).filter (uw m)).map fun g=>g.1).length<=1000:=by
    rw[dC];exact dw (dP _ _) (by rw[dm]; omega)
   try dsimp only
   unfold wR;rw[Ì hi,Æ c,WL c]
   refine dY (Ē (į m) (fun w=>!decide (ţ m.2 w g.1 20000=g.1)) (fun z=>ifb (!(ige z (0:Int))) (Û (ß ((((m.1.2.1.take i).filter (uw m)).map fun g=>g.1).length+([g.1]:CK Int).length)) (ck ((i:Int)+1) fun r=>a (r,(((m.1.2.1.take i).filter (uw m)).map fun g=>g.1)++[g.1]))) (ck ((i:Int)+1) fun q=>a (q,((m.1.2.1.take i).filter (uw m)).map fun g=>g.1)))
    (a ((i:Int)+1,((m.1.2.1.take i).filter (uw m)).map fun g=>g.1)) (a ((i:Int)+1,(((m.1.2.1.take i).filter (uw m)).map fun g=>g.1)++[g.1])) (fun j=>?_) (fun j w p n l=>?_) (fun l=>?_)) ?_
   ·rw[Í (by simp[ige]),È hi (by omega)]
   ·try dsimp only
    unfold wQ;rw[Ì p,Æ n,t,h.who (HG (List.mem_of_getElem? n)).1,À,È p (by omega),õ]
    by_cases e:ţ m.2 w g.1 20000=g.1<;>simp[ine,e]
   ·try dsimp only
    unfold wQ;rw[Ó];rw[à (Ð (by simp only[List.length_singleton]; omega)),È hi (by omega)]
   ·have:((į m).any fun w=>!decide (ţ m.2 w g.1 20000=g.1))=!uw m g:=by unfold uw; rw[List.all_eq_not_any_not]; simp
    rw[this]
    cases uw m g<;>simp
  ·try dsimp only
   unfold wR;rw[Î];rw[show ilt ((m.1.2.1.length:Nat):Int) (m.1.2.1.length:Int)=false by simp[ilt],ä,List.take_length];rfl
def alm (z:In m.1) (h:MOk m):HV m=some (if į m=[] then([],false) else(af1 m,true)):=by
 have A:((((m.1.1.1,m.1.1.2),m.1.2.1,m.1.2.2.1,m.1.2.2.2.1,m.1.2.2.2.2.1,m.1.2.2.2.2.2),m.2):ł)=m:=rfl;have C:=z.size.gauges;have B:=HH h;have D:=h.n4
 have n:∀(w:Way) (x:Int),ţ m.2 w x 20001=ţ m.2 w x 20000:=fun w x=>afO x fun y r=>by have:=(h.mix r).day; omega
 unfold HV Yj;rw[ajD h,À];refine(ê m.1.2.1 (fun i=>if į m=[] then[] else((m.1.2.1.take i).filter (uw m)).map fun g=>g.1) (some (if į m=[] then[] else af1 m,igt (Õ (į m)) (0:Int))) (by simp) (fun i g hi l v=>?_) (fun v=>?_)).trans ?_
 ·have t:(if į m=[] then[] else((m.1.2.1.take i).filter (uw m)).map fun g=>g.1).length<=1000:=by
   split
   ·simp
   rw[dC];exact dw (dP _ _) (by rw[dm]; omega)
  try dsimp only
  unfold tz;rw[Ì hi,Æ l]
  have k:(if į m=[] then[] else((m.1.2.1.take (i+1)).filter (uw m)).map fun g=>g.1)=(if į m=[] then[] else((m.1.2.1.take i).filter (uw m)).map fun g=>g.1)++(if į m=[] then[] else if uw m g then[g.1] else[]):=by
   split
   ·rfl
   ·rw[WL l]
  generalize (if į m=[] then[] else((m.1.2.1.take i).filter (uw m)).map fun g=>g.1)=V at t k;rw[k]
  have key:∀(K:Bool->BY ((CK Int)×Bool)),Ê (fun(c:Bool×Int) f=>oN (į m) g.1 m.1.1.1 m.1.1.2 m.1.2.1 m.1.2.2.1 m.1.2.2.2.1 m.1.2.2.2.2.1 m.1.2.2.2.2.2 m.2 c.1 c.2 (fun p o=>f (p,o)) K) (true,(0:Int))=K (uw m g):=fun K=>by
   refine vQ (į m) (fun j=>((į m).take j).all fun w=>decide (ţ m.2 w g.1 20000=g.1)) _ (fun _=>True) rfl trivial (fun j w u s _ q=>.inr ⟨trivial,?_⟩) (fun _ q=>?_)
   ·try dsimp only
    unfold oN;rw[Ì u,take_succ s,List.all_append]
    cases(((į m).take j).all fun w=>decide (ţ m.2 w g.1 20000=g.1)) with
    |true =>
     rw[jd,Æ s,A,JY (HG (df s)).1 (by omega) (fun y r=>by have:=h.len5 y r; omega),À,È u (by omega),n];simp[ieq];congr 1
    |false=>rw[ä,È u (by omega)]; rfl
   ·try dsimp only
    unfold oN;rw[Ó,List.take_length]; rfl
  rw[key]
  by_cases a:į m=[]
  ·have:uw m g=true:=by unfold uw; rw[a]; rfl
   rw[this,jd,Í (by rw[a,Î]; rfl),È hi (by omega),if_pos a,du]
  ·have:(į m).length≠0:=fun e=>a (dv.1 e);rw[if_neg a]
   cases uw m g with
   |true=>rw[jd,Ñ (by simp[igt,Î]; omega),à (Ð (by simp only[dH]; omega)),È hi (by omega)]; rfl
   |false=>rw[ä,È hi (by omega)]; simp
 ·try dsimp only
  unfold tz;rw[Ó,List.take_length]; rfl
 ·by_cases a:į m=[]
  ·rw[if_pos a,if_pos a,a,Î]; rfl
  ·have:(į m).length≠0:=fun e=>a (dv.1 e);rw[if_neg a,if_neg a,show igt (Õ (į m)) 0=true by simp[igt,Î]; omega]
def afz {b:ø} (h:Ŧ b) (n:Int×Int):xM b n=some (qP b n):=by
 unfold xM N3 qP;have a:=aaX b n;rw[Ix h.pre,À]
 by_cases hi:L7 b n.1 n.2=0
 ·rw[Í (by simp[igt,hi]),aly h,À,if_neg (show ¬(L7 b n.1 n.2≠0) from fun e=>e hi)]
 ·rw[Ñ (by simp[igt]; omega),if_pos hi]
def qi (G:CK æ) (f:Int->BY (Int×Int)):CK (Int×Int×Int):=G.filterMap fun g=>(f g.1).map fun s=>(g.1,s)
def Y8 {G:CK æ} {f:Int->BY (Int×Int)} {c:Int×Int×Int} (h:c∈qi G f):∃g∈G,g.1=c.1:=by
 obtain⟨g,i,e⟩:=List.mem_filterMap.1 h
 cases a:f g.1 with
 |none=>rw[a] at e; cases e
 |some s=>rw[a] at e; simp only[d9,Option.some.injEq] at e; exact⟨g,i,by rw[<-e]⟩
def EV {f a:Int->BY (Int×Int)}:∀{G:CK æ},(∀g∈G,f g.1=a g.1)->qi G f=qi G a
 |[],_=>rfl
 |g::G,h=>by
  have:=EV (G:=G) fun y c=>h y (List.mem_cons_of_mem _ c);unfold qi at this ⊢;rw[List.filterMap_cons,List.filterMap_cons,h g (by simp),this]
def akh (G:CK æ) (f:Int->BY (Int×Int)):(qi G f).length<=G.length:=List.length_filterMap_le _ _
def adH {A R:CK (Int×Int×Int)} {c:Int} (n:∀x∈A,x.1<c) (l:∀x,R[0]?=some x->¬x.1<c) (o:(A++R).length<=1000000) (K:Int->BY ρ) :
 Ê (fun(f:Int) a=>kX c (A++R) f (fun g=>a g) K) (0:Int)=K (A.length:Int):=by
 refine dY (Χ (A++R) (fun x=>!decide (x.1<c)) K (K (A++R).length) (fun i x hi h j=>?_) (fun j=>?_)) ?_
 ·try dsimp only
  unfold kX;rw[Ì hi,show ç (A++R)=(((A++R).length:Nat):Int) from rfl,ő hi,é h,È hi (by omega),õ]
  by_cases e:x.1<c<;>simp[ilt,e]
 ·try dsimp only
  unfold kX;rw[Ó]
 ·have k:A.findIdx? (fun x=>!decide (x.1<c))=none:=dU.2 fun x h=>by simp[n x h]
  rw[List.findIdx?_append,k]
  cases R with
  |nil=>simp
  |cons y t =>
   have:=l y rfl;rw[List.findIdx?_cons,show(!decide (y.1<c))=true by simp[this]];simp
def c7_put {G:CK æ} (n:G.Pairwise fun a b=>a.1<b.1) {y:æ} (l:y∈G) (f:Int->BY (Int×Int)) (t:Int×Int):∃A B:CK (Int×Int×Int),(∀x∈A,x.1<y.1)/\(∀x∈B,y.1<x.1) /\
 qi G f=A++(((f y.1).map fun s=>(y.1,s)).toList++B)/\qi G (fun x=>if x=y.1 then some t else f x)=A++(y.1,t)::B:=by
 obtain⟨P,Q,rfl⟩:=List.append_of_mem l;obtain⟨_,i,j⟩:=gb.1 n;rw[dJ] at i;have k:∀g∈P,g.1<y.1:=fun g c=>j g c y (by simp)
 have key:∀f:Int->BY (Int×Int),qi (P++y::Q) f=qi P f++(((f y.1).map fun s=>(y.1,s)).toList++qi Q f):=fun f=>by
  unfold qi;rw[List.filterMap_append,List.filterMap_cons]
  cases f y.1<;>simp
 refine⟨qi P f,qi Q f,fun x h=>?_,fun x h=>?_,key f,?_⟩
 ·obtain⟨g,c,e⟩:=Y8 h;rw[<-e]; exact k g c
 ·obtain⟨g,c,e⟩:=Y8 h;rw[<-e]; exact i.1 g c
 ·rw[key,if_pos rfl]
  have p:qi P (fun x=>if x=y.1 then some t else f x)=qi P f:=EV fun g c=>by have:=k g c; rw[if_neg (by omega)]
  have o:qi Q (fun x=>if x=y.1 then some t else f x)=qi Q f:=EV fun g c=>by have:=i.1 g c; rw[if_neg (by omega)]
  rw[p,o]; rfl
end
section
variable {m:ł} {w:Way} {ρ:Type}
def afE (m:ł) (label d:Int) (l:CK Way) (x:Int):BY (Int×Int):=pk (k:=tI) (v:=Ç) x (vZ m label d l)
def akx (label d:Int) (l:CK Way) (w:Way):afE m label d (l++[w])=fun x=>if x=ţ m.2 w label d then some (match afE m label d l (ţ m.2 w label d) with|some s=>aku (uI (trP m w) (ţ m.2 w label d,d)).1 s|none=>(uI (trP m w) (ţ m.2 w label d,d)).1) else afE m label d l x:=by
 funext x;unfold afE;rw[aeS];unfold ahV;rw[SM];rfl
def am9 (h:MOk m) {label d:Int} (hk:TF m.1 label) {i:Nat} (hi:i<(į m).length) {x:Way} (I:(į m)[i]?=some x) (k0:Int×CK (Int×Int×Int)->BY ρ) (k1:CK (Int×Int×Int)->BY ρ) (H:Int->CK (Int×Int×Int)->BY ρ) :
 kY label d (į m) m.1.1.1 m.1.1.2 m.1.2.1 m.1.2.2.1 m.1.2.2.2.1 m.1.2.2.2.2.1 m.1.2.2.2.2.2 m.2 (i:Int) (qi m.1.2.1 (afE m label d ((į m).take i))) H k0 k1 =
 if Wv m label d x≠0 then k0 (Wv m label d x,qi m.1.2.1 (afE m label d ((į m).take i))) else H ((i:Int)+1) (qi m.1.2.1 (afE m label d ((į m).take (i+1)))):=by
 have Y:((((m.1.1.1,m.1.1.2),m.1.2.1,m.1.2.2.1,m.1.2.2.2.1,m.1.2.2.2.2.1,m.1.2.2.2.2.2),m.2):ł)=m:=rfl;have hgl:=HH h;have h4:=h.n4;obtain⟨G,X⟩:=HG (List.mem_of_getElem? I);have l:=agi h G X;have hG:=h.good.size.gauges;unfold kY;rw[Ì hi,Æ I,Y,JY G (by omega) (fun y z=>by have:=h.len5 y z; omega),À,Æ I,Iu h G,À,afz l.good,À];obtain⟨g,hg⟩:=h.whoK G (d:=d) hk;obtain⟨g1,g2⟩:=δ hg
 have S:Wv m label d x=(qP (trP m x) (ţ m.2 x label d,d)).2:=by
  unfold Wv uI
  by_cases e:(qP (trP m x) (ţ m.2 x label d,d)).2=0
  ·rw[if_neg (by simp[e]),e]
  ·rw[if_pos e]
 by_cases J:Wv m label d x=0
 case neg =>
  rw[if_pos J,Ñ (by rw[<-S]; simp[ine,J]),<-S]
 have t:(qP (trP m x) (ţ m.2 x label d,d)).2=0:=by rw[<-S]; exact J
 obtain⟨r1,r2⟩:=WN l t
 have hL:(uI (trP m x) (ţ m.2 x label d,d)).1=ivR (qP (trP m x) (ţ m.2 x label d,d)).1 (ţ m.2 x label d,d):=by
  unfold uI;rw[if_neg (by simp[t])]
 rw[if_neg (by simp[J]),Í (by rw[t]; rfl),take_succ I,akx,hL];generalize (qP (trP m x) (ţ m.2 x label d,d)).1=B at r1 r2;generalize hq:ţ m.2 x label d=q at *;have o:=aaX B (q,d);have C:=ajI B;have F:=ah6 r1 o C;have E:=ah6 r1 C o;have j:=r1.good.sys;have hN:=j.n60;obtain⟨k,n⟩:∃k:Nat,L7 B q d=k:=⟨(L7 B q d).toNat,by have:=o.1; dsimp only at this; omega⟩
 have Z:k<(Ò B).length+1:=by have:=o.2; dsimp only at this; rw[n] at this; omega
 have O:(kP (Ŕ B) ((Ò B).length+1) (k:Int)).length=(Ò B).length+1:=ya _;have M:(kP (Ŕ B) ((Ò B).length+1) 0).length=(Ò B).length+1:=ya _;have e1:(kP (Ŕ B) ((Ò B).length+1) (k:Int))[0]?=some (ah7 B k 0):=TN (v:=0) (by rw[O]; simp);have e2:(kP (Ŕ B) ((Ò B).length+1) 0)[k]?=some (ah7 B 0 k):=TN (v:=(k:Int)) (by rw[M]; simp; omega)
 have P:ivR B (q,d)=(-(ah7 B k 0),ah7 B 0 k):=by unfold ivR; rw[n]
 rw[P];dsimp only at F E;rw[n] at F E;rw[Ix r1.good.pre,À];dsimp only;rw[n,Ug r1.good,À,show((((Ò B).length:Int)+1,Ŕ B):Sys)=((((Ò B).length+1:Nat):Int),Ŕ B) by simp,Uh j r1.op ⟨by omega,by omega⟩,À];rw[show ï (kP (Ŕ B) ((Ò B).length+1) (k:Int)) (0:Int)=ï (kP (Ŕ B) ((Ò B).length+1) (k:Int)) ((0:Nat):Int) from rfl,Æ e1,Ï (by omega) (by omega),Uh j r1.op ⟨by omega,by omega⟩,À,Æ e2,Int.zero_sub];generalize -(ah7 B k 0)=lo;generalize ah7 B 0 k=c;obtain⟨A,R,V,U,Q,D⟩:=c7_put h.good.ids g1 (afE m label d ((į m).take i)) (match afE m label d ((į m).take i) q with|some s=>aku (lo,c) s|none=>(lo,c));rw[g2] at V U Q D;rw[D,Q];have a:(qi m.1.2.1 (afE m label d ((į m).take i))).length<=1000:=Nat.le_trans (akh _ _) hG;rw[Q] at a
 cases r:afE m label d ((į m).take i) q with
 |none =>
  rw[r] at a;simp only[Option.map_none,Option.toList_none,d8] at a ⊢
  rw[adH V (fun y z=>by
   have:=U y (df z)
   omega) (by omega)]
  have p:(Û ((ile (0:Int) (A.length:Int))&&(ile (A.length:Int) (ç (A++R)))) (Û (ß (List.length (List.take (Int.toNat (A.length:Int)) (List.drop 0 (A++R))))) (Û (ß ((List.length (List.take (Int.toNat (A.length:Int)) (List.drop 0 (A++R))))+(List.length ([(q,lo,c)])))) (Û ((ile (0:Int) (A.length:Int))&&(ile (A.length:Int) (ç (A++R)))) (Û (ß ((List.length ((List.take (Int.toNat (A.length:Int)) (List.drop 0 (A++R)))++([(q,lo,c)])))+(List.length (List.take (List.length (A++R)-(Int.toNat (A.length:Int))) (List.drop (Int.toNat (A.length:Int)) (A++R)))))) (ck ((i:Int)+(1:Int)) fun K=>H K (((List.take (Int.toNat (A.length:Int)) (List.drop 0 (A++R)))++([(q,lo,c)]))++(List.take (List.length (A++R)-(Int.toNat (A.length:Int))) (List.drop (Int.toNat (A.length:Int)) (A++R))))))))))=H ((i:Int)+1) (A++(q,lo,c)::R):=by
   have W:((ile (0:Int) (A.length:Int))&&(ile (A.length:Int) (ç (A++R))))=true:=by simp[ile,ç]; omega
   rw[à W,gE,dl,List.take_left',List.drop_left',à (Ð (by rw[dc] at a; omega)),à (Ð (by rw[dc] at a; simp only[dH]; omega)),à W,dZ (by simp),à (Ð (by rw[dc] at a ⊢; simp only[dH]; omega)),È hi (by omega)]
   ·simp
   ·rfl
   ·rfl
  by_cases T:R.length=0
  ·rw[Í (by rw[Î]; simp[ilt,T])];exact p
  ·rw[Ñ (by rw[Î]; simp[ilt]; omega)]
   have u:((ile (0:Int) (A.length:Int))&&(ilt (A.length:Int) (ç (A++R))))=true:=by simp[ile,ilt,ç]; omega
   have f:(A++R)[A.length]?=some R[0]:=by rw[fg (cZ _),gI,cX (by omega)]
   have:=U R[0] (fq _);rw[à u,é f,Í (by simp[ieq]; omega)];exact p
 |some s =>
  rw[r] at a;simp only[Option.map_some,Option.toList_some,List.singleton_append] at a ⊢;rw[adH V (fun y z=>by simp at z; rw[<-z]; dsimp only; omega) (by omega)]
  have u:((ile (0:Int) (A.length:Int))&&(ilt (A.length:Int) (ç (A++(q,s)::R))))=true:=by simp[ile,ilt,ç]; omega
  have f:(A++(q,s)::R)[A.length]?=some (q,s):=by rw[fg (cZ _),gI]; rfl
  rw[Ñ (by rw[Î]; simp[ilt]; omega),à u,é f,Ñ (by simp[ieq]),à u,é f,à u,é f,à u,é f,È hi (by omega),Ps,aaW,Int.toNat_natCast];congr 1;rw[List.set_append_right _ _ (Nat.le_refl _),Nat.sub_self];unfold aku;rw[Int.min_comm,Int.max_comm];rfl
def afC (h:MOk m) {label d:Int} (o:kI m.1 label d=0):rX m label d=some (j6 m label d):=by
 have r:((((m.1.1.1,m.1.1.2),m.1.2.1,m.1.2.2.1,m.1.2.2.2.1,m.1.2.2.2.2.1,m.1.2.2.2.2.2),m.2):ł)=m:=rfl;have q:=HH h;have l:=(aaR.1 o).2;unfold rX N5 j6;rw[ajD h,À,if_neg (by simp[(Ľ m).2 h]),if_neg (by simp[o])]
 by_cases a:į m=[]
 ·rw[if_pos a,a,Î]; rfl
 ·have:(į m).length≠0:=fun e=>a (dv.1 e);rw[if_neg a,Í (by simp[ieq,Î,a])];refine AH (į m) (fun i=>qi m.1.2.1 (afE m label d ((į m).take i))) _ (fun i=>∀w∈(į m).take i,Ff (Wv m label d w)=none) ?_ (fun w c=>by simp at c) (fun i x hi k f p=>?_) (fun f p=>?_)
  ·show qi m.1.2.1 (fun x=>none)=[];unfold qi;exact List.filterMap_eq_nil_iff.2 fun g s=>rfl
  ·try dsimp only
   rw[am9 h l hi k]
   by_cases j:Wv m label d x=0
   ·refine .inr ⟨fun w c=>?_,?_⟩
    ·rw[take_succ k] at c;rcases dg.1 c with c|c
     ·exact f w c
     ·rw[dj.1 c,j]; rfl
    ·rw[if_neg (by simp[j])]
   ·refine .inl ?_
    have n:(į m).findSome? (fun w=>Ff (Wv m label d w))=some (Wv m label d x):=by
     exact aa5 k f (by simp[Ff,j])
    rw[if_pos j,n]
  ·rw[fo] at f
   try dsimp only
   unfold kY;rw[Ó,List.take_length,List.findSome?_eq_none_iff.2 f];rfl
end
def aae {l:CK (Int×Int×Int)} (j:l.length<=1000000) (K:BY Bool):Ê (fun(e:Int) a=>Ť l l e (fun f=>a f) (fun c=>some c) (fun _=>K)) (0:Int)=K:=by
 refine ahm l _ (fun i v hi g h=>?_) (fun h=>?_)
 ·try dsimp only
  unfold Ť;rw[Ì hi,Æ g,Æ g,Í (by simp[mX]),È hi (by omega)]
 ·try dsimp only
  unfold Ť;rw[Ó]
def abh {m:ł} (E:∀g∈m.1.2.1,I64 g.2.2.2.2.1.1) (label d:Int):rV m label d=some true:=by
 unfold rV qW;rw[aga,À,ad9]
 by_cases u:WT m=true
 case neg=>rw[eG.2 u]; rfl
 have f:=agb u E;have G:=f.n6
 have y:∀x∈m.2,x.2.length<=1000000:=fun x D=>by have:=f.l9 x D; omega
 have F:((((m.1.1.1,m.1.1.2),m.1.2.1,m.1.2.2.1,m.1.2.2.2.1,m.1.2.2.2.2.1,m.1.2.2.2.2.2),m.2):ł)=m:=rfl;rw[u,Í (by rfl),ZZ f.inn (by omega),À,ani f.inn (by omega),À,afy f.inn.size (by omega) y,À]
 by_cases e:ī m=0
 case neg =>
  rw[j6,alk,if_pos e,if_pos e,Ñ (by simp[ine,e]),À,jd,Ñ (by simp[ieq]),Ñ (by simp[ieq])];rw[Î,Î,Ï (by simp) (by simp)];rfl
 have h:=(Ľ m).1 e;have H:=f.inn.size.gauges;rw[Í (by simp[ine,e]),alm f.inn h,À];simp only[akm,F]
 have fin:∀Z:BY Bool,Z=(Ä (qp d) fun t=>ifb (!t) (Ä (some true) fun s=>ifb s (ifb (ieq (j6 m label d).2 (1:Int)) (some (ieq (Õ (j6 m label d).1) (0:Int))) (some false)) (some false)) (Ä (jm ((m.1.1.1,m.1.1.2),m.1.2.1,m.1.2.2.1,m.1.2.2.2.1,m.1.2.2.2.2.1,m.1.2.2.2.2.2) label) fun r=>ifb (ilt r (0:Int)) (Ä (some true) fun q=>ifb q (ifb (ieq (j6 m label d).2 (5:Int)) (some (ieq (Õ (j6 m label d).1) (0:Int))) (some false)) (some false)) (Ä (rX m label d) fun c=>ifb (ine (j6 m label d).2 c.2) (some false) (ifb (ine (Õ (j6 m label d).1) (Õ c.1)) (some false) (Ê (fun(n:Int) i=>Ť (j6 m label d).1 c.1 n (fun o=>i o) (fun l=>some l) (fun _=>Ä (some true) fun p=>some p)) (0:Int))))))->Z=some true:=by
  rintro Z rfl;rw[Qp,À]
  have C:kI m.1 label d≠0->j6 m label d=([],kI m.1 label d):=fun a=>by
   unfold j6;rw[if_neg (by simp[e]),if_pos a]
  cases hd:yH d with
  |false =>
   have a:kI m.1 label d=1:=by unfold kI; rw[hd]; rfl
   rw[C (by rw[a]; simp),a,Î]; rfl
  |true =>
   rw[Í (by rfl),show(((m.1.1.1,m.1.1.2),m.1.2.1,m.1.2.2.1,m.1.2.2.2.1,m.1.2.2.2.2.1,m.1.2.2.2.2.2):ø)=m.1 from rfl,B7 (by omega),À];rcases qI (b:=m.1) (id:=label) with⟨j,g,B,_,A⟩|⟨B,A⟩
   ·have a:kI m.1 label d=0:=by unfold kI; rw[hd,A]; rfl
    rw[B];dsimp only;rw[Í (by simp[ilt]),afC h a,À,Í (by simp[ine]),Í (by simp[ine])]
    have v:(j6 m label d).1.length<=1000000:=by
     unfold j6
     split
     ·simp
     split
     ·simp
     split
     ·simp
     split
     ·simp
     ·exact dw (List.length_filterMap_le _ _) (by omega)
    rw[aae v,À]
   ·have a:kI m.1 label d=5:=by unfold kI; rw[hd,A]; rfl
    rw[B,C (by rw[a]; simp),a,Î]; rfl
 rw[fin _ rfl]
 have z:(af1 m).length<=1000000:=by
  unfold af1;rw[List.length_map];exact Nat.le_trans (List.length_filter_le _ _) (by omega)
 unfold alk;rw[if_neg (by simp[e])]
 by_cases k:į m=[]
 ·rw[if_pos k,if_pos k];dsimp only;rw[Iv (by simp),À];rfl
 ·rw[if_neg k,if_neg k];dsimp only;rw[Iv z,À];rfl
end Go.Proofs.ZzM
end
