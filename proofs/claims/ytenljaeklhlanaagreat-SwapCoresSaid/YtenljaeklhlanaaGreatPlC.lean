/- lemmas -/
import Derived.Test.YtenljaeklhlanaaGreatPlB
import Derived.Test.YtenljaeklhlanaaGreatPlA
import Derived.Test.YtenljaeklhlanaaGreatMdTA
set_option linter.all false
noncomputable section
namespace Go.Proofs.ZzM
open Go Go.Am
structure anS (b:ø) (c:Cmp):Prop where
 ok:ajT b c
 ids:b.2.1.Pairwise fun a b=>a.1<b.1
 pile:∀x∈c.2.2.1++c.2.2.2.1,∃g,ï b x=some g
def ţ.cmpIn {b:ø} (h:ţ b) {c:Cmp} (a:c∈b.2.2.2.2.1):anS b c:=⟨h.cmp a,h.ids,fun x d=>by obtain⟨⟨g,e,_⟩,_⟩:=h.pile a d; exact⟨g,e⟩⟩
def ajT.ne {b:ø} {c:Cmp} (h:ajT b c):∀x∈c.2.2.1++c.2.2.2.1,x≠0:=by
 intro x a;have d:=(ų c).1 h.nums;have e:=((y0 _).1 d.2.2.2.2.2.1).1;have h2:=((y0 _).1 d.2.2.2.2.2.2).1;rcases df.1 a with a|a
 ·have:=e x a; omega
 ·have:=h2 x a; omega
def aac {b:ø} (i:jz b) (hi:b.2.1.Pairwise fun a b=>a.1<b.1) {p q:CK Int} (h:∀x∈p,x≠0/\∃g,ï b x=some g):wt b (KU p q)=some (FD (ř b) (Ü p q)):=by
 have n:=i.gauges;unfold wt Tr
 cases c:Ü p q with
 |nil =>
  have:KU p q=0:=by unfold KU; rw[c]; rfl
  rw[this];rfl
 |cons x t =>
  have e:KU p q=x:=by unfold KU; rw[c]; rfl
  have k:x∈p:=(lz.1 (show x∈Ü p q by rw[c]; simp)).1;obtain⟨h0,g,f⟩:=h x k;rw[e,Ì (by simpa[ieq] using h0),Cc (by omega),À];rcases qL (b:=b) (id:=x) with⟨j,g',h2,d,l⟩|⟨h2,d⟩
  ·rw[h2]
   try dsimp only
   rw[Æ d];unfold FD;dsimp only;rw[vn hi,l]
  ·rw[d] at f; cases f
def afQ {b:ø} (e:jz b) {c:Cmp} (h:anS b c):xW b c=some (ο b c):=by
 have d:=(ų c).1 h.ok.nums;have ha:=ő d.2.2.2.2.2.1;have hb:=ő d.2.2.2.2.2.2;have i:∀x∈c.2.2.1,x≠0/\∃g,ï b x=some g:=fun x a=>⟨h.ok.ne x (by simp[a]),h.pile x (by simp[a])⟩;have f:∀x∈c.2.2.2.1,x≠0/\∃g,ï b x=some g:=fun x a=>⟨h.ok.ne x (by simp[a]),h.pile x (by simp[a])⟩;unfold xW OP;rw[J7 (by omega) (by omega),À,aac e h.ids i,À,J7 (by omega) (by omega),À,aac e h.ids f,À,anL h.ok.r1 h.ok.r2,À]
 try dsimp only
 rw[ajH (heat:=c.2.2.2.2.2.2) (MM h.ok.r1 h.ok.r2) d.2.2.2.2.1,À];rfl
def ajK {b:ø} {c:Cmp} (d:c.2.2.1.length<=1000) (a:c.2.2.2.1.length<=1000) (h:0<=b.1.1) (h2:b.1.1<=1000000) (g:0<=b.1.2) (f:b.1.2<=1000000):BK b c=some (pn b c):=by
 unfold BK Tx pn
 have e:∀n:Nat,R0 0 ((n:Int)-1)=((n-1:Nat):Int):=by
  intro n;unfold R0
  split<;>omega
 have bd:∀(n:Nat) (x:Int),n<=1000->0<=x->x<=1000000->0<=((n-1:Nat):Int)*x/\((n-1:Nat):Int)*x<=1000000000:=by
  intro n x j h0 i;refine⟨fY (by omega) h0,?_⟩;have:=fI (show((n-1:Nat):Int)<=1000 by omega) i h0 (by omega);omega
 have o:=bd _ _ d h h2;have l:=bd _ _ d g f;have b3:=bd _ _ a h h2;have k:=bd _ _ a g f;simp only[Ï];rw[Î (by omega) (by omega),Î (by omega) (by omega)];simp only[e];rw[Î (by omega) (by omega),Î (by omega) (by omega),Î (by omega) (by omega),Î (by omega) (by omega),Î (by omega) (by omega),Î (by omega) (by omega)]
def alT {b:ø} (f:jz b) (g:0<=b.1.1/\b.1.1<=b.1.2/\b.1.2<=1000000) {c:Cmp} (h:anS b c):wu b c=some (sl b c):=by
 have a:=(ų c).1 h.ok.nums;have ha:=ő a.2.2.2.2.2.1;have hb:=ő a.2.2.2.2.2.2;obtain⟨e,d,n,l,b3⟩:=Xi g h.ok;have k:=B6 e;have j:=xM d;have i:=xO (b:=b) (c:=c) (by omega) (by omega) (by omega) (by omega) (by omega) (by omega);have hd:=a.2.2.1;unfold wu YP sl;rw[afQ f h,À,ajK (by omega) (by omega) (by omega) (by omega) (by omega) (by omega),À,ajD d.rat,alQ e.rat];simp only[À];rw[Î (by omega) (by omega),Î (by omega) (by omega),Î (by omega) (by omega),Î (by omega) (by omega),Î (by omega) (by omega),Î (by omega) (by omega)]
section
variable {b:ø}
def alV (h:ţ b) {id:Int} {g:é} (i:ï b id=some g) {f t:Int} (r:0<=f/\f<=100000) (E:t<=100000):ww b id f t=some (jk b g f t):=by
 have H:=h.nG;have F:=h.nU;have G:=h.nL;obtain⟨a,k⟩:=iZ i;unfold ww YS;rw[Cc (by omega),À];rcases qL (b:=b) (id:=id) with⟨j,g',h2,o,u⟩|⟨h2,o⟩
 ·rw[h2]
  have:g'=g:=by rw[i] at u; exact(Option.some.inj u).symm
  subst this
  try dsimp only
  rw[Æ o];refine è (fun x:Int×Int=>f<=x.2/\(x.2<=t\/x.2=f)/\x.1=jk b g' f x.2) (fun x=>(t-x.2).toNat) ?_ ⟨dT _,.inr rfl,(AH g' (dT _)).symm⟩;rintro⟨s,d⟩ ⟨c,n,q⟩;simp only at c n q;subst q
  by_cases hd:d<t
  ·refine .inr ⟨(jk b g' f (d+1),d+1),⟨by simp only; omega,.inl (by simp only; omega),rfl⟩,by simp only; omega,fun y=>?_⟩;have e:=Pw h g' c;have D:=jZ h a (f:=f) (t:=d) r.1;have v:=jZ h a (f:=f) (t:=d+1) r.1;unfold tU;rw[Ð (by simpa[ilt] using hd),MB (b:=((b.1.1,b.1.2),b.2.1,b.2.2.1,b.2.2.2.1,b.2.2.2.2.1,b.2.2.2.2.2)) (by simp only; omega),À];have C:Ř ((b.1.1,b.1.2),b.2.1,b.2.2.1,b.2.2.2.1,b.2.2.2.2.1,b.2.2.2.2.2) id d=Ř b id d:=rfl;rw[C];unfold abt at e;rw[k] at e
   cases ha:Ř b id d with
   |some l =>
    rw[ha] at e;simp only at e;rw[Ð rfl]
    try dsimp only
    rw[<-e,Î (by omega) (by omega),Î (by omega) (by omega)]
   |none =>
    rw[ha] at e;simp only at e;rw[Ì rfl,alS (b:=((b.1.1,b.1.2),b.2.1,b.2.2.1,b.2.2.2.1,b.2.2.2.2.1,b.2.2.2.2.2)) (by simp only; omega),À];have B:KS ((b.1.1,b.1.2),b.2.1,b.2.2.1,b.2.2.2.1,b.2.2.2.2.1,b.2.2.2.2.2) id d=KS b id d:=rfl;rw[B]
    cases p:KS b id d with
    |true =>
     rw[p,if_pos rfl] at e;rw[Ð rfl]
     try dsimp only
     rw[<-e,Î (by omega) (by omega),Î (by omega) (by omega)]
    |false =>
     rw[p,if_neg (by simp)] at e;rw[Ì rfl,Î (by omega) (by omega),e,gJ]
  ·refine .inl fun y=>?_;unfold tU;rw[Ì (by simpa[ilt] using hd)]
   have:jk b g' f d=jk b g' f t:=by
    rcases gD t f with z|A
    ·have:d=f:=by omega
     rw[this,AH g' (dT _),AH g' (by omega)]
    ·have:d=t:=by omega
     rw[this]
   rw[this]
 ·rw[o] at i; cases i
end
def aae {b:ø} (h:Pre b) (n:Int×Int):kL b n=some (T4 b n.1 n.2):=by
 have d:=Jg h.size;unfold kL Tv;rw[IR h,À];refine Eq.trans (jw (Ô b) (fun m=>decide (n.1=m.1)&&decide (n.2=m.2)) (fun z=>some (z+1)) (some 0) (fun i a hi ha c=>?_) (fun c=>?_)) ?_
 ·try dsimp only
  unfold qi;rw[Í hi,Æ ha,È hi (by omega),È hi (by omega),õ,Bool.and_true]
  have e:(oy a.1 n.1&&oy a.2 n.2)=(decide (n.1=a.1)&&decide (n.2=a.2)):=by
   rw[eN];simp only[oy,cY,decide_eq_true_eq];exact and_congr eq_comm eq_comm
  rw[e]
 ·try dsimp only
  unfold qi;rw[Ò]
 ·unfold T4 jb
  cases List.findIdx? (fun m=>decide (n.1=m.1)&&decide (n.2=m.2)) (Ô b)<;>rfl
def ah4 {b:ø} (h:Pre b) (p q:CK Int) (d:Int):T4 b (KU p q) d=atP (Ô b) (Ü p q) d:=by
 unfold T4 atP KU
 cases f:Ü p q with
 |nil =>
  simp only[List.head?_nil,Option.getD_none]
  have:jb (Ô b) 0 d=none:=by
   unfold jb;rw[List.findIdx?_eq_none_iff];intro n a;obtain⟨g,c,a⟩:=List.mem_flatMap.1 a;obtain⟨e,_,rfl⟩:=List.mem_map.1 a;have:=((wo g).1 (h.gauge g c)).2.2.2.1
   have:¬((0:Int)=g.1):=by omega
   simp[this]
  rw[this]
 |cons x t=>rfl
section
variable {b:ø}
def akw {k:Nat} (e:k<(Ô b).length):∃(i:Nat) (g:é) (j:Nat) (d:Int),b.2.1[i]?=some g/\(Ý b g)[j]?=some d/\k=off b i+j/\(Ô b)[k]?=some (g.1,d):=by
 obtain⟨i,g,j,c,h2,a⟩:=acI (b:=b) b.2.1.length (cX _) k (by rw[ag2]; exact e);have hd:(Ý b g)[j]?=some (Ý b g)[j]:=cW h2;exact⟨i,g,j,_,c,hd,a,by rw[a]; exact L8 c hd⟩
def aep (h:ţ b) {i j:Nat} {g g':é} (hi:b.2.1[i]?=some g) (e:b.2.1[j]?=some g') (f:g.1=g'.1):i=j/\g=g':=by
 obtain⟨d,rfl⟩:=dc.1 hi;obtain⟨h2,rfl⟩:=dc.1 e;have c:=dM.1 h.ids;rcases Nat.lt_trichotomy i j with a|rfl|a
 ·have:=c i j d h2 a; omega
 ·exact⟨rfl,rfl⟩
 ·have:=c j i h2 d a; omega
def rZ (b:ø) (i:Nat) (g:é) (k:Nat):CK Lk :=
 if k<=off b i then[] else[(0,(off b i:Int)+1,g.2.2.1+g.2.2.2.1.2),((off b i:Int)+1,0,-(g.2.2.1+g.2.2.2.1.1))] ++
  (List.range (min (k-off b i-1) ((Ý b g).length-1))).flatMap fun(k:Nat)=>[((off b i:Int)+1+k,(off b i:Int)+1+k+1,0),((off b i:Int)+1+k+1,(off b i:Int)+1+k,jk b g ((Ý b g)[k]?.getD 0) ((Ý b g)[k+1]?.getD 0))]
def jl (b:ø) (i:Nat) (g:é) (k:Nat):CK (Int×Int) :=
 if k<=off b i then[] else[(1,(i:Int)),(1,(i:Int))]++(List.range (min (k-off b i-1) ((Ý b g).length-1))).flatMap fun _=>[(2,(i:Int)),(2,(i:Int))]
def ae7 (h:ţ b) {i:Nat} {g:é} (a:b.2.1[i]?=some g):rZ b i g (Ô b).length=ö b g/\jl b i g (Ô b).length=ē b i g:=by
 have d:=ag1 h a;have c:=gC (oz (b:=b) g)
 have e:min ((Ô b).length-off b i-1) ((Ý b g).length-1)=(Ý b g).length-1:=by omega
 unfold rZ jl ö ē;rw[if_neg (by omega),if_neg (by omega),e,adX h a];exact⟨rfl,rfl⟩
def ZC {i:Nat} {g:é} {k:Nat} (a:k<off b i\/off b i+(Ý b g).length<=k) (c:0<(Ý b g).length):rZ b i g (k+1)=rZ b i g k/\jl b i g (k+1)=jl b i g k:=by
 unfold rZ jl;rcases a with a|a
 ·rw[if_pos (by omega),if_pos (by omega),if_pos (by omega),if_pos (by omega)];exact⟨rfl,rfl⟩
 ·have e:min (k+1-off b i-1) ((Ý b g).length-1)=min (k-off b i-1) ((Ý b g).length-1):=by omega
  rw[if_neg (by omega),if_neg (by omega),if_neg (by omega),if_neg (by omega),e];exact⟨rfl,rfl⟩
def ZD {i:Nat} {g:é}:rZ b i g (off b i+1)=rZ b i g (off b i)++[(0,(off b i:Int)+1,g.2.2.1+g.2.2.2.1.2),((off b i:Int)+1,0,-(g.2.2.1+g.2.2.2.1.1))]/\jl b i g (off b i+1)=jl b i g (off b i)++[(1,(i:Int)),(1,(i:Int))]:=by
 unfold rZ jl;rw[if_neg (by omega),if_pos (Nat.le_refl _),if_neg (by omega),if_pos (Nat.le_refl _),show off b i+1-off b i-1=0 by omega,Nat.zero_min];exact⟨by simp,by simp⟩
def abi {i:Nat} {g:é} {j:Nat} (a:j+1<(Ý b g).length):rZ b i g (off b i+(j+1)+1)=rZ b i g (off b i+(j+1))++[((off b i:Int)+1+j,(off b i:Int)+1+j+1,0),((off b i:Int)+1+j+1,(off b i:Int)+1+j,jk b g ((Ý b g)[j]?.getD 0) ((Ý b g)[j+1]?.getD 0))] /\
 jl b i g (off b i+(j+1)+1)=jl b i g (off b i+(j+1))++[(2,(i:Int)),(2,(i:Int))]:=by
 unfold rZ jl;rw[if_neg (by omega),if_neg (by omega),if_neg (by omega),if_neg (by omega),show min (off b i+(j+1)+1-off b i-1) ((Ý b g).length-1)=j+1 by omega,show min (off b i+(j+1)-off b i-1) ((Ý b g).length-1)=j by omega,uY,uY];exact⟨by simp,by simp⟩
def ae6 (i:Nat) (g:é) (k:Nat) (hd:(Ý b g).length<=59):(rZ b i g k).length<=120/\(jl b i g k).length<=120:=by
 unfold rZ jl;constructor
 ·split
  ·simp
  ·rw[cZ,i8 _ _ (fun _=>rfl)];simp only[dh,dN]; omega
 ·split
  ·simp
  ·rw[cZ,i8 _ _ (fun _=>rfl)];simp only[dh,dN]; omega
set_option maxHeartbeats 1000000 in
def age (h:ţ b) {i:Nat} {g:é} (B:b.2.1[i]?=some g) {L:CK Lk} {S:CK (Int×Int)} (hL:L.length<=100000) (hS:S.length<=100000) (K:CK Lk×CK (Int×Int)->BY (CK Lk×CK (Int×Int))) :
 Ê (fun(p:Int×CK Lk×CK (Int×Int)) s=>rP (Ô b) (i:Int) b.1.1 b.1.2 b.2.1 b.2.2.1 b.2.2.2.1 b.2.2.2.2.1 b.2.2.2.2.2 g.1 g.2.1 g.2.2.1 g.2.2.2.1.1 g.2.2.2.1.2 p.1 p.2.1 p.2.2 (fun E D C=>s (E,D,C)) K) ((0:Int),L,S)=K (L++ö b g,S++ē b i g):=by
 have hN:=h.nodes;have c:=de B;have P:=IA h c;have Z:=gC (oz (b:=b) g);have U:=h.gaugeR c;have r1:=U.2.2.2.2.2.1;have r2:=U.2.2.2.2.2.2.1;obtain⟨tl,u⟩:=P7 h c;refine î (Ô b) (fun k=>(L++rZ b i g k,S++jl b i g k)) _ (by simp[rZ,jl]) (fun k n f z X=>?_) (fun X=>?_)
 ·try dsimp only
  unfold rP;have gl:=ae6 (b:=b) i g k P;rw[Í f,Æ z];obtain⟨Y,g',j,d,R,h2,W,V⟩:=akw f
  have y:n=(g'.1,d):=by rw[z] at V; exact Option.some.inj V
  by_cases a:n.1=g.1
  ·obtain⟨M,O⟩:=aep h R B (by rw[y] at a; exact a);subst O;have J:Y=i:=M;rw[J] at W R;rw[Ì (by simp[ine,a]),Æ z]
   have A:n.2=d:=by rw[y]
   rw[A]
   cases j with
   |zero =>
    have r:d=g'.2.1:=by rw[u] at h2; simpa using h2.symm
    have q:k=off b i:=by omega
    rw[Ð (by simp[ieq,r])];obtain⟨o,l⟩:=ZD (b:=b) (i:=i) (g:=g');rw[<-q] at o l;rw[È f (by omega),Î (by omega) (by omega),È f (by omega),Î (by omega) (by omega),Î (by omega) (by omega),Ñ (by simp only[cZ,dh,dN]; omega),Am.iff_true,Ñ (by simp only[cZ,dh,dN]; omega),Am.iff_true,È f (by omega),o,l]
    have T:0-g'.2.2.1-g'.2.2.2.1.1 = -(g'.2.2.1+g'.2.2.2.1.1):=by omega
    rw[T];simp only[dj]
   |succ j =>
    have I:=(dc.1 h2).1
    have r:d≠g'.2.1:=by
     have v:=si b g';rw[u] at h2 v;rw[fw] at h2;have:=(dI.1 v).1 d (de h2);omega
    rw[Ì (by simpa[ieq] using r)]
    have e:(Ý b g')[j]?=some ((Ý b g')[j]?.getD 0):=by rw[cW (by omega)]; rfl
    have Q:d=(Ý b g')[j+1]?.getD 0:=by rw[h2]; rfl
    have F:=L8 R e;have d1:=h.day c (de e);have d2:=h.day c (de h2);have q:k=off b i+(j+1):=W;obtain⟨o,l⟩:=abi (b:=b) (i:=i) (g:=g') I;rw[<-q] at o l
    have H:((k:Int)-1)=((off b i+j:Nat):Int):=by omega
    have lb:=jZ h c (t:=d) d1.2.1;rw[Qa (by omega) (by omega),H,Æ F,Æ z,A]
    try dsimp only
    rw[show ww ((b.1.1,b.1.2),b.2.1,b.2.2.1,b.2.2.2.1,b.2.2.2.2.1,b.2.2.2.2.2) g'.1 ((Ý b g')[j]?.getD 0) d=ww b g'.1 ((Ý b g')[j]?.getD 0) d from rfl,alV h (rY h.ids c) ⟨by omega,by omega⟩ (by omega),À,È f (by omega),È f (by omega),Ñ (by simp only[cZ,dh,dN]; omega),Am.iff_true,Ñ (by simp only[cZ,dh,dN]; omega),Am.iff_true,È f (by omega),o,l,<-Q]
    have T:(off b i:Int)+1+(j:Int)=(k:Int):=by omega
    rw[T];simp only[dj]
  ·rw[Ð (by simp[ine,a]),È f (by omega)]
   have x:k<off b i\/off b i+(Ý b g).length<=k:=by
    rcases dk k (off b i) with G|hge
    ·exact .inl G
    ·rcases dk k (off b i+(Ý b g).length) with hlt2|hge2
     ·have:=L8 B (k:=k-off b i) (cW (by omega));rw[show off b i+(k-off b i)=k by omega,z] at this;exact absurd (by rw[Option.some.inj this]) a
     ·exact .inr hge2
   obtain⟨o,l⟩:=ZC x Z;rw[o,l]
 ·try dsimp only
  unfold rP;rw[Ò];obtain⟨o,l⟩:=ae7 h B;rw[o,l]
end
def ZH {α β:Type} {e:Nat->α->BY β}:∀{l:CK α} {k i:Nat} {a:α} {b:β},(∀j c,j<i->l[j]?=some c->e (k+j) c=none)->l[i]?=some a->e (k+i) a=some b->Ě e k l=some b
 |[],_,_,_,_,_,ha,_=>by simp at ha
 |c::t,k,0,a,b,_,ha,hb=>by
  simp only[List.getElem?_cons_zero,Option.some.injEq] at ha;subst ha;unfold Ě;rw[Nat.add_zero] at hb;rw[hb]
 |c::t,k,i+1,a,b,h,ha,hb=>by
  unfold Ě;have h0:=h 0 c (by omega) rfl;rw[Nat.add_zero] at h0;rw[h0];refine ZH (i:=i) (fun j d f hd=>?_) (by simpa using ha) (by rw[<-hb]; congr 1; omega);have:=h (j+1) d (by omega) (by simpa using hd);rw[<-this];congr 1;omega
def E5 {ρ α β:Type} (l:CK α) (e:Nat->α->BY β) (k0:β->BY ρ) (k1:BY ρ) {f:Int->(Int->BY ρ)->BY ρ}
 (h:∀(i:Nat) (a:α),i<l.length->l[i]?=some a->∀n,f i n=match e i a with|some b=>k0 b|none=>n ((i:Int)+1))
 (t:(∀j a,l[j]?=some a->e j a=none)->∀n,f l.length n=k1):Ê f 0=match Ě e 0 l with|some b=>k0 b|none=>k1:=by
 refine è (fun x:Int=>∃i:Nat,i<=l.length/\x=i/\∀j a,j<i->l[j]?=some a->e j a=none) (fun x=>l.length-x.toNat) ?_ ⟨0,by omega,rfl,fun j a r=>by omega⟩;rintro x ⟨i,hi,rfl,q⟩;rcases dk i l.length with g|u
 ·have ha:l[i]?=some l[i]:=cW g
  cases p:e i l[i] with
  |some b =>
   refine .inl fun n=>?_;rw[h i _ g ha,p,ZH (k:=0) (b:=b) (fun j c r p=>by rw[dO]; exact q j c r p) ha (by rw[dO]; exact p)]
  |none =>
   refine .inr ⟨((i+1:Nat):Int),⟨i+1,g,rfl,fun j a r d=>?_⟩,by simp only[dm]; omega,fun n=>?_⟩
   ·rcases dk j i with s|s
    ·exact q j a s d
    ·have:j=i:=by omega
     subst this;rw[ha] at d;rw[<-Option.some.inj d]; exact p
   ·rw[h i _ g ha,p];simp
 ·have:i=l.length:=by omega
  subst this;refine .inl fun n=>?_;have o:∀j a,l[j]?=some a->e j a=none:=fun j a d=>q j a (dc.1 d).1 d;rw[t o n,Ż.2 fun j a d=>by rw[dO]; exact o j a d]
def ZL {e:Int}:JV e=none↔e=0:=by
 unfold JV
 split<;>simp_all
section
variable {b:ø}
def T7 (h:ţ b):∀i,((b.2.1.take i).flatMap (ö b)).length<=1440/\(((b.2.1.take i).mapIdx (ē b)).flatten).length<=1440:=by
 have f:=h.nG
 have e:∀g∈b.2.1,(ö b g).length<=120/\∀i,(ē b i g).length<=120:=by
  intro g a;have:=IA h a;constructor
  ·unfold ö;rw[List.length_append,i8 _ _ (fun _=>rfl)];simp only[List.length_cons,List.length_nil]; omega
  ·intro i;unfold ē;rw[List.length_append,i8 _ _ (fun _=>rfl)];simp only[List.length_cons,List.length_nil]; omega
 have key:∀i,i<=b.2.1.length->((b.2.1.take i).flatMap (ö b)).length<=i*120/\(((b.2.1.take i).mapIdx (ē b)).flatten).length<=i*120:=by
  intro i
  induction i with
  |zero=>intro _; simp
  |succ i c =>
   intro hi;have c:=c (by omega);have a:b.2.1[i]?=some b.2.1[i]:=cW hi;have h2:=e _ (de a);have j:=h2.2 i;rw[jN _ a,take_succ a,eQ,gS,cZ,cZ];simp only[dA,gg,dv,ij,ir];omega
 intro i;rcases dk b.2.1.length i with d|d
 ·rw[dY (by omega)];have:=key b.2.1.length (cX _);rw[fF] at this;omega
 ·have:=key i d;omega
set_option maxHeartbeats 1000000 in
def ajG (h:ţ b):xU b=some (Υ b,L2 b):=by
 have p:=h.nC;have o:=h.nG;unfold xU acR;rw[IR h.pre,À];refine î b.2.1 (fun i=>((b.2.1.take i).flatMap (ö b),((b.2.1.take i).mapIdx (ē b)).flatten)) _ rfl (fun i g hi e j=>?_) (fun j=>?_)
 ·try dsimp only
  unfold xi;have d:=T7 h i;rw[Í hi,Æ e];refine Eq.trans (age h e (by omega) (by omega) _) ?_;rw[È hi (by omega),jN _ e,take_succ e,List.flatMap_append,List.flatten_append];simp only[List.flatMap_cons,List.flatMap_nil,List.append_nil,List.flatten_cons,List.flatten_nil]
 ·try dsimp only
  unfold xi;rw[Ò,List.take_length];dsimp only;have d:=T7 h b.2.1.length;rw[List.take_length] at d;refine î b.2.2.2.2.1 (fun i=>(b.2.1.flatMap (ö b)++(b.2.2.2.2.1.take i).flatMap (ľ b),(b.2.1.mapIdx (ē b)).flatten++((b.2.2.2.2.1.take i).mapIdx fun i _=>[((3:Int),(i:Int)),((3:Int),(i:Int))]).flatten)) _ (by simp) (fun i c hi f j=>?_) (fun j=>?_)
  ·try dsimp only
   unfold xh;have a:=List.mem_of_getElem? f;have k:=(ų c).1 (h.nums a);have ha:=ő k.2.2.2.2.2.1;have hb:=ő k.2.2.2.2.2.2;have l:=afI (b:=b) i (by omega);have n:=wQ h a;rw[Í hi,Æ f,J7 (by omega) (by omega),À];rw[show kL ((b.1.1,b.1.2),b.2.1,b.2.2.1,b.2.2.2.1,b.2.2.2.2.1,b.2.2.2.2.2) (KU c.2.2.1 c.2.2.2.1,c.2.1)=kL b (KU c.2.2.1 c.2.2.2.1,c.2.1) from rfl,aae h.pre,À,J7 (by omega) (by omega),À];rw[show kL ((b.1.1,b.1.2),b.2.1,b.2.2.1,b.2.2.2.1,b.2.2.2.2.1,b.2.2.2.2.2) (KU c.2.2.2.1 c.2.2.1,c.2.1)=kL b (KU c.2.2.2.1 c.2.2.1,c.2.1) from rfl,aae h.pre,À];rw[show wu ((b.1.1,b.1.2),b.2.1,b.2.2.1,b.2.2.2.1,b.2.2.2.2.1,b.2.2.2.2.2) c=wu b c from rfl,alT h.size h.film (h.cmpIn a),À];rw[Î (by omega) (by omega),Ñ (by simp only[List.length_append,List.length_cons,List.length_nil]; omega),Am.iff_true,Ñ (by simp only[List.length_append,List.length_cons,List.length_nil]; omega),Am.iff_true,È hi (by omega)];rw[jN _ f,take_succ f,List.flatMap_append,List.flatten_append,ah4 h.pre,ah4 h.pre];simp only[List.flatMap_cons,List.flatMap_nil,List.append_nil,List.flatten_cons,List.flatten_nil,List.append_assoc];rw[Int.zero_sub];rfl
  ·try dsimp only
   unfold xh;rw[Ò,List.take_length];rfl
def lT (b:ø) (i:Nat) (c:Cmp):Int:=if !Jf c then 1 else if (b.2.2.2.2.1.take i).any (fun x=>x.1==c.1) then 6 else CL b c
def Ul (hi:b.2.1.Pairwise fun a b=>a.1<b.1) (i:Nat) (c:Cmp):lT b i c=kM b (ř b) i c:=by
 unfold lT kM;rw[akq hi]
def amD (b:ø):Int:=match (b.2.2.2.2.1.mapIdx (lT b)).find? (fun e=>e != 0) with
 |some e=>e
 |none=>match (b.2.2.2.2.2.map (WY b)).find? (fun e=>e != 0) with
  |some e=>e
  |none=>if 59<(Ô b).length then 2 else if 300<2*b.2.1.length+2*((Ô b).length-b.2.1.length:Int)+2*b.2.2.2.2.1.length then 2 else 0
def aid {α:Type} {l:CK α} {E:α->Int} (h:(l.map E).find? (fun e=>e != 0)=none):∀a∈l,E a=0:=by
 intro a ha;have:=eo.1 h (E a) (dz.2 ⟨a,ha,rfl⟩);simpa using this
def ae8 {α:Type} {l:CK α} {E:Nat->α->Int} (h:(l.mapIdx E).find? (fun e=>e != 0)=none):∀i a,l[i]?=some a->E i a=0:=by
 intro i a ha;obtain⟨hi,rfl⟩:=dc.1 ha;have:=eo.1 h (E i l[i]) (iy.2 ⟨i,hi,rfl⟩);simpa using this
def Wp {i:Nat} {c:Cmp} (h:lT b i c=0):Jf c=true/\(Ü c.2.2.1 c.2.2.2.1).length<=1/\(Ü c.2.2.2.1 c.2.2.1).length<=1:=by
 unfold lT at h
 split at h
 ·omega
 rename_i a
 split at h
 ·omega
 unfold CL at h
 (repeat' split at h)<;>first|omega|exact⟨by simpa using a,by omega,by omega⟩
set_option maxHeartbeats 4000000 in
def amC (M:jz b) (s:0<=b.1.1/\b.1.1<=b.1.2/\b.1.2<=1000000) (nG:b.2.1.length<=12) (nU:b.2.2.1.length<=40) (nL:b.2.2.2.1.length<=12) (nC:b.2.2.2.2.1.length<=40) (nK:b.2.2.2.2.2.length<=10)
 (W:∀g∈b.2.1,rX g=true) (hi:b.2.1.Pairwise fun a b=>a.1<b.1) (Y:∀u∈b.2.2.1,WY b u=0) (hl:∀i l,b.2.2.2.1[i]?=some l->RY b i l=0) :
 Ê (fun(E:Int) t=>kD b.1.1 b.1.2 b.2.1 b.2.2.1 b.2.2.2.1 b.2.2.2.2.1 b.2.2.2.2.2 E (fun G=>t G) (fun D=>some D) (fun _=>Ê (fun(F:Int) v=>kB b.1.1 b.1.2 b.2.1 b.2.2.1 b.2.2.2.1 b.2.2.2.2.1 b.2.2.2.2.2 F (fun H=>v H) (fun C=>some C) (fun _=>Ã (kK b) fun J=>ifb (igt (Ó J) (59:Int)) (some (2:Int)) (Ã (xU b) fun I=>ifb (igt (Ó I.1) (300:Int)) (some (2:Int)) (some (0:Int))))) (0:Int))) (0:Int)=some (amD b):=by
 unfold amD
 refine d9 (E5 b.2.2.2.2.1 (fun i c=>JV (lT b i c)) some (some (match (b.2.2.2.2.2.map (WY b)).find? (fun e=>e != 0) with
  |some e=>e
  |none=>if 59<(Ô b).length then 2 else if 300<2*b.2.1.length+2*((Ô b).length-b.2.1.length:Int)+2*b.2.2.2.2.1.length then 2 else 0)) (fun i c A o U=>?_) (fun S U=>?_)) ?_
 ·try dsimp only
  unfold kD;have V:=M.piles c (List.mem_of_getElem? o);rw[Í A,Æ o,ajA (by omega) (by omega),À];unfold lT JV
  cases Jf c with
  |false=>rfl
  |true =>
   rw[Ì (by rfl)]
   have y:(b.2.2.2.2.1.take i).length=i:=by rw[dl]; omega
   refine d9 (đ (b.2.2.2.2.1.take i) (fun x=>x.1==c.1) (fun _=>some 6) (some 6) (if CL b c=0 then U ((i:Int)+1) else some (CL b c)) (fun _=>rfl) (fun j a r ha p=>?_) (fun p=>?_)) ?_
   ·try dsimp only
    unfold qj;rw[y] at r
    have T:b.2.2.2.2.1[j]?=some a:=by rwa [List.getElem?_take_of_lt r] at ha
    rw[Ð (show ilt (j:Int) (i:Int)=true by simp[ilt]; omega),Æ T,Æ o,È r (by omega),õ]
   ·try dsimp only
    unfold qj;rw[y,Ì (show ilt (i:Int) (i:Int)=false by simp[ilt])];dsimp only;rw[Æ o,show kJ ((b.1.1,b.1.2),b.2.1,b.2.2.1,b.2.2.2.1,b.2.2.2.2.1,b.2.2.2.2.2) c=kJ b c from rfl,aad M V.1 V.2,À,È A (by omega)]
    by_cases d:CL b c=0
    ·rw[Ì (by simp[ine,d]),if_pos d]
    ·rw[Ð (by simp[ine,d]),if_neg d]
   ·cases X:(b.2.2.2.2.1.take i).any (fun x=>x.1==c.1) with
    |true=>simp
    |false =>
     by_cases d:CL b c=0
     ·simp[d]
     ·simp[d]
 ·try dsimp only
  unfold kD;rw[Ò];dsimp only;have k:∀i c,b.2.2.2.2.1[i]?=some c->lT b i c=0:=fun i c o=>ZL.1 (S i c o);refine Eq.trans (E5 b.2.2.2.2.2 (fun _ u=>JV (WY b u)) some (some (if 59<(Ô b).length then 2 else if 300<2*b.2.1.length+2*((Ô b).length-b.2.1.length:Int)+2*b.2.2.2.2.1.length then 2 else 0)) (fun i a z ha p=>?_) (fun O p=>?_)) ?_
  ·try dsimp only
   unfold kB;rw[Í z,Æ ha,WR,À];unfold WY JV
   cases BW a.2 with
   |false=>rfl
   |true =>
    rw[Ì (by rfl),Æ ha,Æ ha,Bc (b:=((b.1.1,b.1.2),b.2.1,b.2.2.1,b.2.2.2.1,b.2.2.2.2.1,b.2.2.2.2.2)) (by simp only; omega),À,È z (by omega)];have e:Ŋ ((b.1.1,b.1.2),b.2.1,b.2.2.1,b.2.2.2.1,b.2.2.2.2.1,b.2.2.2.2.2) a.1 a.2=Ŋ b a.1 a.2:=rfl;rw[e]
    by_cases d:Ŋ b a.1 a.2=0
    ·rw[Ì (by simp[ine,d])]; simp[d]
    ·rw[Ð (by simp[ine,d])]; simp[d]
  ·try dsimp only
   unfold kB;rw[Ò];dsimp only
   have h:∀u∈b.2.2.2.2.2,WY b u=0:=fun u f=>by
    obtain⟨j,r,rfl⟩:=dp.1 f;exact ZL.1 (O j _ (cW r))
   have K:Pre b:=⟨M,W,fun c o=>by
    obtain⟨j,r,rfl⟩:=dp.1 o;have q:=Wp (k j _ (cW r))
    exact⟨X9 q.1,q.2⟩,fun n Z=>by
    have:=h n Z;unfold WY at this
    split at this
    ·omega
    ·rename_i hd; simpa using hd⟩
   rw[IR K,À,Ï]
   by_cases B:59<(Ô b).length
   ·rw[Ð (by simp[igt]; omega),if_pos B]
   ·rw[Ì (by simp[igt]; omega),if_neg B];have good:ţ b:=⟨s,nG,nU,nL,nC,nK,W,hi,fun u f=>by rw[<-ab2 hi]; exact Y u f,fun i l Q=>by rw[<-ahL hi]; exact hl i l Q,fun i c R=>by rw[<-Ul hi]; exact k i c R,fun u f=>by rw[<-ab2 hi]; exact h u f,by omega,by omega⟩;have P:=Zs good;rw[ajG good,À,Ï];dsimp only;rw[P,Ì (by simp[igt]; omega),if_neg (by omega)]
  ·rw[PR]
   cases(b.2.2.2.2.2.map (WY b)).find? (fun e=>e != 0)<;>rfl
 ·rw[PQ (lT b)]
  cases(b.2.2.2.2.1.mapIdx (lT b)).find? (fun e=>e != 0)<;>rfl
end
def Wc {l m:CK Int}:(l++m).find? (fun e=>e != 0)=match l.find? (fun e=>e != 0) with|some e=>some e|none=>m.find? (fun e=>e != 0):=by
 rw[List.find?_append]
 cases l.find? (fun e=>e != 0)<;>rfl
set_option maxHeartbeats 4000000 in
def ajL {b:ø} (p:jz b):BL b=some (Ţ b):=by
 unfold BL Jv Ţ;rw[ym,À]
 cases k:kp b.1 0 1000000 with
 |false=>rfl
 |true =>
 have d:0<=b.1.1/\b.1.1<=b.1.2/\b.1.2<=1000000:=by
  simp only[kp,cY,decide_eq_true_eq] at k;exact k
 rw[Ì (show(!true)=false from rfl),if_neg (by simp)];rw[Ï b.2.1,Ï b.2.2.1,Ï b.2.2.2.1,Ï b.2.2.2.2.1,Ï b.2.2.2.2.2]
 by_cases c0:12<b.2.1.length
 ·rw[Ð (by simp[igt]; omega),if_pos c0]
 rw[Ì (by simp[igt]; omega),if_neg c0]
 by_cases B:40<b.2.2.1.length
 ·rw[Ð (by simp[igt]; omega),if_pos B]
 rw[Ì (by simp[igt]; omega),if_neg B]
 by_cases A:12<b.2.2.2.1.length
 ·rw[Ð (by simp[igt]; omega),if_pos A]
 rw[Ì (by simp[igt]; omega),if_neg A]
 by_cases z:40<b.2.2.2.2.1.length
 ·rw[Ð (by simp[igt]; omega),if_pos z]
 rw[Ì (by simp[igt]; omega),if_neg z]
 by_cases y:10<b.2.2.2.2.2.length
 ·rw[Ð (by simp[igt]; omega),if_pos y]
 rw[Ì (by simp[igt]; omega),if_neg y]
 refine d9 (E5 b.2.1 (pO b.2.1) some (some (match (za b (ř b)).find? (fun e=>e != 0) with
  |some e=>e
  |none=>if 59<(Ô b).length then 2 else if 300<2*b.2.1.length+2*((Ô b).length-b.2.1.length:Int)+2*b.2.2.2.2.1.length then 2 else 0)) (fun i g hi o C=>?_) (fun D C=>?_)) ?_
 ·try dsimp only
  unfold qk;rw[Í hi,Æ o,ajC,À];unfold pO
  cases rX g with
  |false=>rfl
  |true =>
   rw[Ì (by rfl)];rcases fK i with h0|h0
   ·subst h0
    have:igt ((0:Nat):Int) 0=false:=by simp[igt]
    rw[Ì this,È hi (by omega)];simp[lZ]
   ·obtain⟨q,x⟩:=uZ hi h0
    have v:igt (i:Int) 0=true:=by simp[igt]; omega
    rw[Ð v,Æ o,Qa h0 (by omega),HY h0 x];simp only[lZ,h0,decide_true,Bool.true_and,x,Option.any_some];unfold ile
    cases h2:decide (g.1<=q.1) with
    |true=>simp
    |false=>rw[ç,È hi (by omega)]; simp
 ·try dsimp only
  unfold qk;rw[Ò];dsimp only
  have s:j6 b=0:=by
   unfold j6;rw[Ż.2 fun j a ha=>by rw[Nat.zero_add]; exact D j a ha];rfl
  obtain⟨o,hi⟩:=(xL b).1 s;have G:b.2.2.1.map (WY b)=b.2.2.1.map fun u=>aar (ř b) u.1 u.2:=List.map_congr_left fun u _=>ab2 hi u;have H:b.2.2.2.1.mapIdx (RY b)=b.2.2.2.1.mapIdx fun i l=>LL b (ř b) i l:=List.mapIdx_eq_mapIdx_iff.2 fun i K=>ahL hi i _;have J:b.2.2.2.2.1.mapIdx (lT b)=b.2.2.2.2.1.mapIdx fun i c=>kM b (ř b) i c:=List.mapIdx_eq_mapIdx_iff.2 fun i M=>Ul hi i _;have I:b.2.2.2.2.2.map (WY b)=b.2.2.2.2.2.map fun u=>aar (ř b) u.1 u.2:=List.map_congr_left fun u _=>ab2 hi u;unfold za;rw[<-G,<-H,<-J,<-I,Wc,Wc,Wc,alN p,À]
  cases h:(b.2.2.1.map (WY b)).find? (fun e=>e != 0) with
  |some e =>
   have f:e≠0:=by have:=fP h; simpa using this
   simp only[fU];rw[Ì (by simpa[ieq] using f),Ð (by simpa[ine] using f)]
  |none =>
   simp only[Option.getD_none];rw[Ð (by rfl),ajB p,À]
   cases n:(b.2.2.2.1.mapIdx (RY b)).find? (fun e=>e != 0) with
   |some e =>
    have f:e≠0:=by have:=fP n; simpa using this
    simp only[fU];rw[Ð (by simpa[ine] using f)]
   |none =>
    simp only[Option.getD_none];rw[Ì (by rfl)];refine Eq.trans (amC p d (by omega) (by omega) (by omega) (by omega) (by omega) o hi (aid h) (ae8 n)) ?_;unfold amD
    cases(b.2.2.2.2.1.mapIdx (lT b)).find? (fun e=>e != 0)<;>rfl
 ·unfold j6
  cases t:Ě (pO b.2.1) 0 b.2.1 with
  |none =>
   simp
   cases(za b (ř b)).find? (fun e=>e != 0)<;>rfl
  |some e =>
   have f:j6 b=e:=by unfold j6; rw[t]; rfl
   have r:e≠0:=by
    intro h0;rw[h0] at f;obtain⟨v,h2⟩:=(xL b).1 f
    have F:∀j a,b.2.1[j]?=some a->pO b.2.1 j a=none:=by
     intro j a ha;have E:=(IL (fun g:é=>g.1) b.2.1).2 h2 j a ha;simp[pO,v a (de ha),E]
    rw[Ż.2 fun j a ha=>by rw[dO]; exact F j a ha] at t;cases t
   simp[r]
def IQ {l:CK Int} (a:l.length<=1000000):Ĩ l l=some true:=by rw[Fl a]; simp
def bigP (c:Cmp):Bool:=decide (9<c.2.2.1.length)||decide (9<c.2.2.2.1.length)
def MR (m:Ĭ):Bool:=decide (m.1.2.1.length<=6)&&(decide (m.1.2.2.1.length<=20)&&(decide (m.1.2.2.2.1.length<=6)&&(decide (m.1.2.2.2.2.1.length<=8)&&(decide (m.1.2.2.2.2.2.length<=6)&&decide (m.2.length<=6)))))
def Xg (m:Ĭ):Bool:=!((m.1.2.2.2.2.1.take 60).any bigP)&&(!((m.2.take 8).any fun x=>decide (9<x.2.length))&&MR m)
def agq (m:Ĭ):BB m=some (Xg m):=by
 unfold BB Tf
 have last:(ifb (ile (Ó m.1.2.1) (6:Int)) (ifb (ile (Ó m.1.2.2.1) (20:Int)) (ifb (ile (Ó m.1.2.2.2.1) (6:Int)) (ifb (ile (Ó m.1.2.2.2.2.1) (8:Int)) (ifb (ile (Ó m.1.2.2.2.2.2) (6:Int)) (some (ile (Ó m.2) (6:Int))) (some false)) (some false)) (some false)) (some false)) (some false))=some (MR m):=by
  have e:∀(n m:Nat),ile (n:Int) (m:Int)=decide (n<=m):=fun n m=>by simp[ile]
  unfold MR;rw[Ï,Ï,Ï,Ï,Ï,Ï,show(6:Int)=((6:Nat):Int) from rfl,show(20:Int)=((20:Nat):Int) from rfl,show(8:Int)=((8:Nat):Int) from rfl,e,e,e,e,e,e];generalize decide (m.1.2.1.length<=6)=s;generalize decide (m.1.2.2.1.length<=20)=r;generalize decide (m.1.2.2.2.1.length<=6)=q;generalize decide (m.1.2.2.2.2.1.length<=8)=p;generalize decide (m.1.2.2.2.2.2.length<=6)=o
  cases s<;>cases r<;>cases q<;>cases p<;>cases o<;>rfl
 rw[last];refine d9 (đ (m.1.2.2.2.2.1.take 60) bigP (fun _=>some false) (some false) (some (!((m.2.take 8).any fun x=>decide (9<x.2.length))&&MR m)) (fun _=>rfl) (fun i c hi l t=>?_) (fun t=>?_)) ?_
 ·try dsimp only
  unfold pR;rw[List.length_take] at hi
  have a:m.1.2.2.2.2.1[i]?=some c:=by rw[dX] at l; split at l<;>simp_all
  rw[Í (show i<m.1.2.2.2.2.1.length by omega),Ð (by simp[ilt]; omega),Æ a,Æ a,Î (by omega) (by omega),õ,Ï,Ï];unfold bigP
  by_cases d:9<c.2.2.1.length
  ·rw[if_pos (by simp[igt]; omega),if_pos (by simp[d])]
  ·rw[if_neg (by simp[igt]; omega),õ]
   by_cases h2:9<c.2.2.2.1.length
   ·rw[if_pos (by simp[igt]; omega),if_pos (by simp[h2])]
   ·rw[if_neg (by simp[igt]; omega),if_neg (by simp[d,h2])]
 ·refine d9 ?_ (d9 (đ (m.2.take 8) (fun x=>decide (9<x.2.length)) (fun _=>some false) (some false) (some (MR m)) (f:=fun v y=>mF m.2 v (fun u=>y u) (fun z=>some z) (fun _=>some (MR m))) (fun _=>rfl) (fun i x hi k g=>?_) (fun g=>?_)) ?_)
  ·try dsimp only
   unfold pR;rw[List.length_take,õ]
   split
   ·rename_i h
    have h':60<m.1.2.2.2.2.1.length:=by rw[Ï] at h; simp[ilt] at h; omega
    rw[Ì (by simp[ilt]; omega)]
   ·rfl
  ·try dsimp only
   unfold mF;rw[List.length_take] at hi
   have j:m.2[i]?=some x:=by rw[dX] at k; split at k<;>simp_all
   rw[Í (show i<m.2.length by omega),Ð (by simp[ilt]; omega),Æ j,Î (by omega) (by omega),õ,Ï]
   by_cases d:9<x.2.length
   ·rw[if_pos (by simp[igt]; omega),if_pos (by simp[d])]
   ·rw[if_neg (by simp[igt]; omega),if_neg (by simp[d])]
  ·try dsimp only
   unfold mF;rw[List.length_take,õ]
   split
   ·rename_i h
    have h':8<m.2.length:=by rw[Ï] at h; simp[ilt] at h; omega
    rw[Ì (by simp[ilt]; omega)]
   ·rfl
  ·cases List.any (List.take 8 m.2) (fun x=>decide (9<x.2.length))<;>rfl
 ·unfold Xg
  cases List.any (List.take 60 m.1.2.2.2.2.1) bigP<;>rfl
structure Small7 (m:Ĭ):Prop where
 inn:In m.1
 n6:m.2.length<=6
 l9:∀x∈m.2,x.2.length<=9
 c8:m.1.2.2.2.2.1.length<=8
def agr {m:Ĭ} (h:Xg m=true) (e:∀g∈m.1.2.1,I64 g.2.2.2.2.1.1):Small7 m:=by
 simp only[Xg,MR,cY,eR,decide_eq_true_eq] at h;obtain⟨h0,a,h2,n,l,j,k,i⟩:=h;refine⟨⟨⟨by omega,by omega,by omega,by omega,by omega,fun c f=>?_⟩,e⟩,i,fun x d=>?_,j⟩
 ·rw[dY (by omega)] at h0;have:=eh.1 h0 c f;simp[bigP] at this;omega
 ·rw[dY (by omega)] at a;have:=eh.1 a x d;simp at this;omega
section
variable {ρ:Type}
def amu {l:CK Int} (d:l.length<=1000000) (x:Int):xT l x=some (match l.findIdx? (·==x) with|some j=>(j:Int)|none=>-1):=by
 unfold xT ahp;refine Eq.trans (jw l (·==x) (fun z=>some z) (some (-1)) (fun i a hi ha c=>?_) (fun c=>?_)) ?_
 ·try dsimp only
  unfold Bp;rw[Í hi,Æ ha,È hi (by omega),õ]
  try (by_cases h:a=x<;>simp[ieq,h])
 ·try dsimp only
  unfold Bp;rw[Ò]
 ·cases List.findIdx? (·==x) l<;>rfl
def am3 (b:ø) (x:Mx):Int :=
 if !(inP x.1 0 19999&&inP x.2.length 2 5) then 1 else
 if ¬x.2.Pairwise (·<·) then 1 else
 if x.2.any (fun g=>(ï b g).isNone) then 5 else
 if x.2.any (fun g=>Ŋ b g x.1 != 0) then 4 else 0
def mixE_F (b:ø) (l:CK Mx) (i:Nat) (x:Mx):mixE b l i x=if am3 b x≠0 then am3 b x else if lZ (fun y=>y.1) l i x then 6 else if x.2.any (fun g=>(Ř b g x.1).isSome||(Ř b g (x.1+1)).isSome) then 9 else 0:=by
 unfold mixE am3
 split
 ·rfl
 ·split
  ·rfl
  ·split
   ·rfl
   ·split<;>rfl
def am4 {b:ø} (s:jz b) {x:Mx} (t:x.2.length<=1000000):Mn b x=some (am3 b x):=by
 have v:=s.gauges;unfold Mn acN am3;rw[wI,À,wI,À,Ï]
 cases y:inP x.1 0 19999 with
 |false=>rfl
 |true =>
  cases h2:inP (x.2.length:Int) 2 5 with
  |false=>rfl
  |true =>
   rw[Ì (by rfl),Ì (by rfl),if_neg (by simp)];refine(VL (l:=x.2) (K:=some 1) (k1:=if x.2.any (fun g=>(ï b g).isNone) then some 5 else if x.2.any (fun g=>Ŋ b g x.1 != 0) then some 4 else some 0) (fun i a c ha r d=>?_) (fun n u d=>?_)).trans ?_
   ·have hi:=(dc.1 r).1
    try dsimp only
    unfold xd;rw[Ï,Ð (decide_eq_true (by omega)),show((i:Int)+1)=((i+1:Nat):Int) by omega,Æ r,show ∀f:Int->BY Int,ck (((i+1:Nat):Int)-1) f=f (i:Int) from fun f=>by rw[Î (by omega) (by omega)]; congr 1; omega,Æ ha,Î (by omega) (by omega),õ];simp[ile]
   ·try dsimp only
    unfold xd;rw[Ï,Ì (decide_eq_false (by omega))]
    refine(đ x.2 (fun g=>(ï b g).isNone) (fun _=>some 5) (some 5) _ (fun _=>rfl) (fun i a hi ha d=>?_) (fun d=>?_))<;>(try dsimp only)<;>unfold EJ
    ·rw[Í hi,Æ ha,show ke ((b.1.1,b.1.2),b.2.1,b.2.2.1,b.2.2.2.1,b.2.2.2.2.1,b.2.2.2.2.2) a=ke b a from rfl,Cc (by omega),À,È hi (by omega),õ];rcases qL (b:=b) (id:=a) with⟨j,g,q,_,p⟩|⟨q,p⟩
     ·rw[q,p]; simp[ilt]; omega
     ·rw[q,p]; simp[ilt]
    ·rw[Ò]
     refine(đ x.2 (fun g=>Ŋ b g x.1 != 0) (fun _=>some 4) (some 4) _ (fun _=>rfl) (fun i a hi ha d=>?_) (fun d=>?_))<;>(try dsimp only)<;>unfold EI
     ·rw[Í hi,Æ ha,show jE ((b.1.1,b.1.2),b.2.1,b.2.2.1,b.2.2.2.1,b.2.2.2.2.1,b.2.2.2.2.2) a x.1=jE b a x.1 from rfl,Bc (by omega),À,È hi (by omega),õ]
      try simp[ine]
     ·rw[Ò]
   ·by_cases h:x.2.Pairwise (·<·)
    ·rw[if_pos h,if_neg (show ¬¬x.2.Pairwise (·<·) from fun e=>e h)]
     by_cases o:x.2.any (fun g=>(ï b g).isNone)=true
     ·rw[if_pos o,if_pos o]
     ·rw[if_neg o,if_neg o]
      by_cases k:x.2.any (fun g=>Ŋ b g x.1 != 0)=true
      ·rw[if_pos k,if_pos k]
      ·rw[if_neg k,if_neg k]
    ·rw[if_neg h,if_pos h]
def r7_L1 {b:ø} (j:b.2.2.2.1.length<=1000000) {x:Mx} (t:x.2.length<=5) (hd:0<=x.1/\x.1<=19999) {p:Nat} (r:p<=1000000000) (k0:Int->BY ρ) (k1:Int->BY ρ) :
 Ê (fun(v:Int×Int) q=>jh b.1.1 b.1.2 b.2.1 b.2.2.1 b.2.2.2.1 b.2.2.2.2.1 b.2.2.2.2.2 x.1 x.2 v.1 v.2 (fun a b=>q (a,b)) k0 k1) ((p:Int),(0:Int)) =
  if x.2.any (fun g=>(Ř b g x.1).isSome||(Ř b g (x.1+1)).isSome) then k0 9 else k1 ((p*IY x.2.length:Nat):Int):=by
 refine Bu x.2 (fun i=>((p*IY i:Nat):Int)) _ (fun i=>(x.2.take i).any (fun g=>(Ř b g x.1).isSome||(Ř b g (x.1+1)).isSome)=false) (by simp[IY]) (by simp) (fun i g hi c f o=>?_) (fun f o=>?_)
 ·have s:=PZ (n:=i) (by omega);have hb:p*IY i<=1000000000*120:=fH r s;have h2:p*IY i*(i+1)<=1000000000*120*6:=fH hb (by omega)
  have e:((p*IY i:Nat):Int)*((i:Int)+1)=((p*IY i*(i+1):Nat):Int):=by simp
  try dsimp only
  unfold jh
  rw[Í hi,Æ c,show ∀d,kd ((b.1.1,b.1.2),b.2.1,b.2.2.1,b.2.2.2.1,b.2.2.2.2.1,b.2.2.2.2.2) g d=kd b g d from fun _=>rfl,MB j,À,Æ c,Î (by omega) (by omega),
   show ∀d,kd ((b.1.1,b.1.2),b.2.1,b.2.2.1,b.2.2.2.1,b.2.2.2.2.1,b.2.2.2.2.2) g d=kd b g d from fun _=>rfl,MB j,À]
  cases h:Ř b g x.1 with
  |some l =>
   refine .inl ?_;rw[if_pos (du.2 ⟨g,de c,by rw[h]; rfl⟩)];rfl
  |none =>
   cases k:Ř b g (x.1+1) with
   |some l =>
    refine .inl ?_;rw[if_pos (du.2 ⟨g,de c,by rw[h,k]; rfl⟩)];rfl
   |none =>
    refine .inr ⟨by rw[take_succ c,List.any_append,f]; simp[h,k],?_⟩;dsimp only;rw[Ì (by rfl),Ì (by rfl),Î (by omega) (by omega),e,Î (by omega) (by omega),Î (by omega) (by omega),IY,Nat.mul_assoc]
 ·try dsimp only
  unfold jh;rw[List.take_length] at f;rw[Ò,f]; rfl
def afR {m:Ĭ} (I:jz m.1) (Y:m.2.length<=1000) (Q:∀x∈m.2,x.2.length<=1000000):BG m=some (ī m):=by
 unfold BG Tn ī;rw[ajL I,À]
 by_cases C:Ţ m.1=0
 ·have S:=(Μ _).1 C;have V:=S.nL;rw[Ì (by simp[ine,C]),if_neg (by simp[C])]
  by_cases O:4<m.2.length
  ·rw[Ð (by simp[igt,Ï]; omega),if_pos O]
  ·rw[Ì (by simp[igt,Ï]; omega),if_neg O];refine Bu m.2 (fun i=>((nk (m.2.take i):Nat):Int)) _ (fun i=>∀j y,j<i->m.2[j]?=some y->mixE m.1 m.2 j y=0) (by simp[nk]) (fun j y h _=>by omega) (fun i x hi p s F=>?_) (fun s F=>?_)
   ·have X:∀y∈m.2.take i,y.2.length<=5:=fun y k=>by
     obtain⟨j,J,rfl⟩:=dp.1 k;rw[dl] at J;rw[fh];exact Vc (s j _ (by omega) (cW (by omega)))
    have hb:=UK (l:=m.2.take i) (n:=4) (by rw[dl]; omega) X
    have U:(120:Nat) ^ 4=207360000:=by decide
    try dsimp only
    unfold pZ;rw[Í hi,Æ p,show(((m.1.1.1,m.1.1.2),m.1.2.1,m.1.2.2.1,m.1.2.2.2.1,m.1.2.2.2.2.1,m.1.2.2.2.2.2):ø)=m.1 from rfl,am4 I (Q x (List.mem_of_getElem? p)),À];have d:=mixE_F m.1 m.2 i x
    by_cases o:am3 m.1 x=0
    case neg =>
     rw[if_pos o] at d;refine .inl ?_;rw[Ð (by simp[ine,o]),F4 p s (by rw[d]; exact o),d]
    rw[if_neg (by simp[o])] at d;rw[Ì (by simp[ine,o])]
    have A:x.2.length<=5/\0<=x.1/\x.1<=19999:=by
     unfold am3 at o
     split at o
     ·simp at o
     ·rename_i H;simp only[eR,Bool.not_eq_false,cY,inP,decide_eq_true_eq] at H
      have G:x.2.length<=5:=by omega
      exact⟨G,H.1.1,H.1.2⟩
    have r:∀Z R:BY Int,(∀e,Nr m.1 m.2=some e->R=some e)->(∀(c:lZ (fun y=>y.1) m.2 i x=false),Z=Ê (fun(v:Int×Int) P=>jh m.1.1.1 m.1.1.2 m.1.2.1 m.1.2.2.1 m.1.2.2.2.1 m.1.2.2.2.2.1 m.1.2.2.2.2.2 x.1 x.2 v.1 v.2 (fun a b=>P (a,b)) (fun z=>some z) (fun D=>ck ((i:Int)+1) fun E=>F (D,E))) (((nk (m.2.take i):Nat):Int),(0:Int)))->(lZ (fun y=>y.1) m.2 i x=true->Z=some 6) ->
     Z=R\/((∀j y,j<i+1->m.2[j]?=some y->mixE m.1 m.2 j y=0)/\Z=F (((nk (m.2.take (i+1)):Nat):Int),(i:Int)+1)):=by
     intro Z R K W G
     cases c:lZ (fun y=>y.1) m.2 i x with
     |true =>
      rw[c,if_pos rfl] at d;refine .inl ?_;rw[G c,K _ (F4 p s (by rw[d]; simp)),d]
     |false =>
      rw[c,if_neg (by simp)] at d;rw[W c,r7_L1 (by omega) A.1 A.2 (by omega)]
      cases M:x.2.any (fun g=>(Ř m.1 g x.1).isSome||(Ř m.1 g (x.1+1)).isSome) with
      |true =>
       rw[M,if_pos rfl] at d;refine .inl ?_;rw[if_pos rfl,K _ (F4 p s (by rw[d]; simp)),d]
      |false =>
       rw[M,if_neg (by simp)] at d;refine .inr ⟨fun j y J k=>?_,?_⟩
       ·rcases dk j i with h|h
        ·exact s j y h k
        ·have:j=i:=by omega
         subst this;rw[p] at k; cases k;exact d
       ·rw[if_neg (by simp),È hi (by omega),Bj p]
    refine r _ _ (fun e T=>by rw[T]) (fun c=>?_) (fun c=>?_)
    ·by_cases h0:0<i
     ·obtain⟨q,B⟩:=uZ hi h0
      have t:¬x.1<=q.1:=by
       intro e;unfold lZ at c;rw[B] at c;simp[h0,e] at c
      have u:∀f:Int->BY Int,ck ((i:Int)-1) f=f ((i-1:Nat):Int):=fun f=>by rw[Î (by omega) (by omega)]; congr 1; omega
      rw[Ð (decide_eq_true (by omega)),u,Æ B,Ì (decide_eq_false t)]
     ·rw[Ì (decide_eq_false (by omega))]
    ·have h0:0<i:=by
      unfold lZ at c;simp only[Bool.and_eq_true,decide_eq_true_eq] at c;exact c.1
     obtain⟨q,B⟩:=uZ hi h0
     have t:x.1<=q.1:=by
      unfold lZ at c;rw[B] at c;simpa[h0] using c
     have u:∀f:Int->BY Int,ck ((i:Int)-1) f=f ((i-1:Nat):Int):=fun f=>by rw[Î (by omega) (by omega)]; congr 1; omega
     rw[Ð (decide_eq_true (by omega)),u,Æ B,Ð (decide_eq_true t)]
   ·try dsimp only
    unfold pZ;rw[Ò,Em fun j y k=>s j y (List.getElem?_eq_some_iff.1 k).1 k,List.take_length];dsimp only;rw[õ];simp only[igt,decide_eq_true_eq]
    by_cases h:150<nk m.2
    ·rw[if_pos (by omega),if_pos h]
    ·rw[if_neg (by omega),if_neg h]
 ·rw[Ð (by simp[ine,C]),if_pos C]
end
def WN {m:Ĭ} {w:Way} (h:į m.2 w) (u:m.2.length<=1000) (p:∀x∈m.2,x.2.length<=1000) (x d:Int):xR m w x d=some (iS m.2 w x d):=by
 unfold xR acO;rw[Ï,Î (by omega) (by omega)];refine è (fun s:Int×Int=>∃i:Nat,i<=m.2.length/\s.2=(i:Int)-1/\s.1=iS (m.2.drop i) (w.drop i) x d) (fun s=>(s.2+1).toNat) ?_ ⟨m.2.length,Nat.le_refl _,rfl,?_⟩
 ·rintro⟨t,r⟩ ⟨i,hi,g,h2⟩;simp only at g h2;subst g h2
  cases i with
  |zero =>
   refine .inl fun n=>?_
   try dsimp only
   unfold xe;rw[Ì (by simp[ige])]; rfl
  |succ i =>
   obtain⟨y,a⟩:∃y,m.2[i]?=some y:=⟨_,cW hi⟩;obtain⟨l,c,e⟩:=h.at a
   have o:l.length<=1000:=by rw[e.length_eq]; exact p y (de a)
   have j:((i+1:Nat):Int)-1=i:=by omega
   refine .inr ⟨(iS (m.2.drop i) (w.drop i) x d,(i:Int)-1),⟨i,by omega,rfl,rfl⟩,by simp only[j]; omega,fun n=>?_⟩
   try dsimp only
   unfold xe;rw[j,Ð (by simp[ige]),Æ a,abZ a c];unfold stp
   by_cases hd:y.1<d
   ·rw[Ð (by simp[ilt,hd]),if_pos hd,Æ c,amu (by omega),À]
    cases q:l.findIdx? (·==iS (m.2.drop (i+1)) (w.drop (i+1)) x d) with
    |none =>
     dsimp only;rw[Ì (by simp[ige]),Î (by omega) (by omega)]
    |some k =>
     dsimp only
     have f:k<y.2.length:=by rw[<-e.length_eq]; exact(dQ.1 q).1
     rw[Ð (by simp[ige]),Æ a,Æ (cW f),Î (by omega) (by omega)];rw[ej,cW f]; rfl
   ·rw[Ì (by simp[ilt,hd]),Î (by omega) (by omega),if_neg hd]
 ·simp only[List.drop_length];rw[<-h.len,List.drop_length];unfold iS;rfl
def afM {m:Ĭ} {w:Way} (h:į m.2 w) (C:m.2.length<=1000) (A:∀x∈m.2,x.2.length<=1000):xS m w=some (uT m.2 w):=by
 unfold xS N5;have g:=h.len;refine è (fun s:Int×Int=>∃i:Nat,i<=w.length/\s.2=(i:Int)/\s.1=uT (m.2.take i) (w.take i)) (fun s=>w.length-s.2.toNat) ?_ ⟨0,Nat.zero_le _,rfl,by simp[uT]⟩;rintro⟨K,J⟩ ⟨i,hi,j,h2⟩;simp only at j h2;subst j h2;rcases Nat.lt_or_ge i w.length with f|F
 ·obtain⟨y,o⟩:∃y,m.2[i]?=some y:=⟨_,cW (by omega)⟩;obtain⟨l,p,q⟩:=h.at o
  have D:l.length<=1000:=by rw[q.length_eq]; exact A y (de o)
  refine .inr ⟨(uT (m.2.take (i+1)) (w.take (i+1)),(i:Int)+1),⟨i+1,f,by simp,rfl⟩,by simp only[dm]; omega,fun r=>?_⟩
  try dsimp only
  unfold oq;rw[Í f];have hb:=af4 (n:=0) C A (w.take i) i;refine è (fun s:Int×Int=>∃k:Nat,k<=l.length/\s.2=(k:Int)/\s.1=uT (m.2.take i) (w.take i)+WT (l.take k) (y.2.take k)) (fun s=>l.length-s.2.toNat) ?_ ⟨0,Nat.zero_le _,rfl,by simp[WT]⟩;rintro⟨I,t2⟩ ⟨k,M,j,h2⟩;simp only at j h2;subst j h2;have H:=MH (l.take k) (y.2.take k)
  have G:(y.2.take k).length<=1000:=by rw[dl]; omega
  rcases dk k l.length with c|E
  ·obtain⟨u,z⟩:∃u,l[k]?=some u:=⟨_,cW c⟩;obtain⟨v,t⟩:∃v,y.2[k]?=some v:=⟨_,cW (by rw[<-q.length_eq]; exact c)⟩;refine .inr ⟨(uT (m.2.take i) (w.take i)+WT (l.take (k+1)) (y.2.take (k+1)),(k:Int)+1),⟨k+1,c,by simp,rfl⟩,by simp only[dm]; omega,fun r=>?_⟩
   try dsimp only
   unfold oo;rw[Æ p,Í c,Æ p,Æ z,Æ o,Æ t,MG z t]
   by_cases a:v=u
   ·rw[Ì (by simp[ine,a]),Î (by omega) (by omega),if_pos a]; simp
   ·rw[Ð (by simp[ine]; exact fun e=>a e.symm),Î (by omega) (by omega),Î (by omega) (by omega),if_neg a,Int.add_assoc]
  ·refine .inl fun B=>?_
   have d:k=l.length:=by omega
   subst d
   try dsimp only
   unfold oo;rw[Æ p,Ò];dsimp only;rw[Î (by omega) (by omega),MF o p,List.take_length,q.length_eq,List.take_length]
 ·refine .inl fun r=>?_
  have d:i=w.length:=by omega
  subst d
  try dsimp only
  unfold oq;rw[Ò,List.take_length,g,List.take_length]
def T2 (a:Int):∀{l:CK Int} {k:Nat},l.Pairwise (·<=·)->k<=l.length->(∀j x,j<k->l[j]?=some x->x<a)->(∀x,l[k]?=some x->a<=x)->ae3 a l=l.take k++[a]++l.drop k
 |[],k,_,d,_,_=>by simp[ae3]
 |b::t,0,_,_,_,h2=>by
  have:=h2 b rfl;unfold ae3;rw[if_pos this]; rfl
 |b::t,k+1,f,d,e,h2=>by
  have hb:=e 0 b (by omega) rfl;unfold ae3;rw[if_neg (by omega),T2 a (List.pairwise_cons.1 f).2 (by simpa using d) (fun j x g c=>e (j+1) x (by omega) c) (fun x c=>h2 x c)];rfl
def aco {m:Ĭ} {w:Way} (h:į m.2 w) (B:m.2.length<=1000) (E:∀x∈m.2,x.2.length<=1000) (d:Int) {l:CK Int} (D:l.length<=1000000):AP m w l d=some (nl m w d l):=by
 unfold AP Yz;refine î l (fun i=>lC ((l.take i).map fun x=>iS m.2 w x d)) _ rfl (fun i a hi ha u=>?_) (fun u=>?_)
 ·have C:((((m.1.1.1,m.1.1.2),m.1.2.1,m.1.2.2.1,m.1.2.2.2.1,m.1.2.2.2.2.1,m.1.2.2.2.2.2),m.2):Ĭ)=m:=rfl
  try dsimp only
  unfold tz;rw[Í hi,Æ ha,C,WN h B E,À];generalize y:lC ((l.take i).map fun x=>iS m.2 w x d)=V
  have v:V.Pairwise (·<=·):=by rw[<-y]; exact Φ _
  have I:V.length=i:=by rw[<-y,(ĵ _).length_eq,dD,dl]; omega
  have n:lC ((l.take (i+1)).map fun x=>iS m.2 w x d)=ae3 (iS m.2 w a d) V:=by
   rw[<-y];refine g8 (le:=(·<=·)) (fun a b _ _ t h2=>Int.le_antisymm t h2) (Φ _) (E7 _ (Φ _)) ?_;rw[take_succ ha,fk,eX,fo];exact(ĵ _).trans (List.perm_append_comm.trans ((List.Perm.cons _ (ĵ _).symm).trans (HW _ _).symm))
  rw[n];generalize iS m.2 w a d=g;refine è (fun s:Int=>∃k:Nat,k<=V.length/\s=(k:Int)/\∀j x,j<k->V[j]?=some x->x<g) (fun s=>V.length-s.toNat) ?_ ⟨0,dZ _,rfl,fun j x H _=>by omega⟩;rintro s ⟨k,G,rfl,A⟩
  have fin:∀(z:∀x,V[k]?=some x->g<=x),(fun c:Int=>à ((ile (0:Int) c)&&(ile c (ì V))) (à (ã (List.length (List.take (Int.toNat c) (List.drop 0 V)))) (à (ã ((List.length (List.take (Int.toNat c) (List.drop 0 V)))+(List.length ([g])))) (à ((ile (0:Int) c)&&(ile c (ì V))) (à (ã ((List.length ((List.take (Int.toNat c) (List.drop 0 V))++([g])))+(List.length (List.take (List.length V-(Int.toNat c)) (List.drop (Int.toNat c) V))))) (ck ((i:Int)+(1:Int)) fun n6=>u (n6,((List.take (Int.toNat c) (List.drop 0 V))++([g]))++(List.take (List.length V-(Int.toNat c)) (List.drop (Int.toNat c) V)))))))) ) (k:Int)=u ((i:Int)+1,ae3 g V):=fun z=>by
   dsimp only
   rw[T2 g v G A z,dm,á (by simp[ile,ì]; omega),á (Ñ (by simp; omega)),á (Ñ (by simp; omega)),á (by simp[ile,ì]; omega),á (Ñ (by simp; omega)),È hi (by omega),
    dY (l:=V.drop k) (by simp),ic]
  rcases dk k V.length with f|F
  ·have r:V[k]?=some V[k]:=cW f
   by_cases o:V[k]<g
   ·refine .inr ⟨(k:Int)+1,⟨k+1,f,by simp,fun j x H p=>?_⟩,by omega,fun q=>?_⟩
    ·rcases dk j k with t|t
     ·exact A j x t p
     ·have:j=k:=by omega
      subst this;rw[r] at p; cases p;exact o
    ·try dsimp only
     unfold oR;rw[Í f,á (by simp[ile,ilt,ì]; omega),Int.toNat_natCast,ž r,Ð (decide_eq_true o),Î (by omega) (by omega)]
   ·refine .inl fun q=>?_
    try dsimp only
    unfold oR;rw[Í f,á (by simp[ile,ilt,ì]; omega),Int.toNat_natCast,ž r,Ì (decide_eq_false o)]
    exact fin fun x e=>by rw[r] at e; cases e; omega
  ·refine .inl fun q=>?_
   have:k=V.length:=by omega
   subst this
   try dsimp only
   unfold oR;rw[Ò]
   exact fin fun x e=>by simp at e
 ·try dsimp only
  unfold tz;rw[Ò,List.take_length]; rfl
section
variable {m:Ĭ} {w:Way}
def t7_L0 (h:MOk m) (f:į m.2 w) {ρ:Type} (k0:CK (Int×Int)->BY ρ):Ê (fun(v:Int×CK (Int×Int)) d=>kz w m.1.1.1 m.1.1.2 m.1.2.1 m.1.2.2.1 m.1.2.2.2.1 m.1.2.2.2.2.1 m.1.2.2.2.2.2 m.2 v.1 v.2 (fun a b=>d (a,b)) k0) ((0:Int),[])=k0 (m.1.2.2.1.map fun u=>(iS m.2 w u.1 u.2,u.2)):=by
 have g:m.2.length<=1000:=by have:=h.n4; omega
 have k:∀x∈m.2,x.2.length<=1000:=fun y e=>by have:=h.len5 y e; omega
 have j:((((m.1.1.1,m.1.1.2),m.1.2.1,m.1.2.2.1,m.1.2.2.2.1,m.1.2.2.2.2.1,m.1.2.2.2.2.2),m.2):Ĭ)=m:=rfl;have n:=h.good.nU
 refine mV m.1.2.2.1 (fun u:Int×Int=>((iS m.2 w u.1 u.2,u.2):Int×Int)) k0 (fun i a hi ha v c l=>?_) (fun v c=>?_)<;>(try dsimp only)<;>unfold kz
 ·rw[Í hi,Æ ha,j,WN f g k,À,á (Ñ (by simp; omega)),È hi (by omega)]
 ·rw[Ò]
def t7_L1 (h:MOk m) (f:į m.2 w) {ρ:Type} (k0:CK I0->BY ρ):Ê (fun(v:Int×CK I0) d=>ky w m.1.1.1 m.1.1.2 m.1.2.1 m.1.2.2.1 m.1.2.2.2.1 m.1.2.2.2.2.1 m.1.2.2.2.2.2 m.2 v.1 v.2 (fun a b=>d (a,b)) k0) ((0:Int),[])=k0 (m.1.2.2.2.1.map fun l=>(iS m.2 w l.1 l.2.1.1,l.2)):=by
 have g:m.2.length<=1000:=by have:=h.n4; omega
 have k:∀x∈m.2,x.2.length<=1000:=fun y e=>by have:=h.len5 y e; omega
 have j:((((m.1.1.1,m.1.1.2),m.1.2.1,m.1.2.2.1,m.1.2.2.2.1,m.1.2.2.2.2.1,m.1.2.2.2.2.2),m.2):Ĭ)=m:=rfl;have o:=h.good.nL
 refine mV m.1.2.2.2.1 (fun l:I0=>((iS m.2 w l.1 l.2.1.1,l.2):I0)) k0 (fun i a hi ha v c n=>?_) (fun v c=>?_)<;>(try dsimp only)<;>unfold ky
 ·rw[Í hi,Æ ha,j,WN f g k,À,á (Ñ (by simp; omega)),È hi (by omega)]
 ·rw[Ò]
def t7_L2 (h:MOk m) (c:į m.2 w) {ρ:Type} (k0:CK Cmp->BY ρ):Ê (fun(v:Int×CK Cmp) g=>kv w m.1.1.1 m.1.1.2 m.1.2.1 m.1.2.2.1 m.1.2.2.2.1 m.1.2.2.2.2.1 m.1.2.2.2.2.2 m.2 v.1 v.2 (fun a b=>g (a,b)) k0) ((0:Int),[])=k0 (m.1.2.2.2.2.1.map (aap m w)):=by
 have d:m.2.length<=1000:=by have:=h.n4; omega
 have e:∀x∈m.2,x.2.length<=1000:=fun y j=>by have:=h.len5 y j; omega
 have k:((((m.1.1.1,m.1.1.2),m.1.2.1,m.1.2.2.1,m.1.2.2.2.1,m.1.2.2.2.2.1,m.1.2.2.2.2.2),m.2):Ĭ)=m:=rfl;have p:=h.good.nC
 refine mV m.1.2.2.2.2.1 (aap m w) k0 (fun i a hi ha v f o=>?_) (fun v f=>?_)<;>(try dsimp only)<;>unfold kv
 ·obtain⟨n,l⟩:=h.good.size.piles a (de ha);rw[Í hi,Æ ha,k,aco c d e _ (by omega),À,aco c d e _ (by omega),À,á (Ñ (by simp; omega)),È hi (by omega)];rfl
 ·rw[Ò]
def t7_L3 (h:MOk m) (f:į m.2 w) {ρ:Type} (k0:CK (Int×Int)->BY ρ):Ê (fun(v:Int×CK (Int×Int)) d=>ku w m.1.1.1 m.1.1.2 m.1.2.1 m.1.2.2.1 m.1.2.2.2.1 m.1.2.2.2.2.1 m.1.2.2.2.2.2 m.2 v.1 v.2 (fun a b=>d (a,b)) k0) ((0:Int),[])=k0 (m.1.2.2.2.2.2.map fun n=>(iS m.2 w n.1 n.2,n.2)):=by
 have g:m.2.length<=1000:=by have:=h.n4; omega
 have k:∀x∈m.2,x.2.length<=1000:=fun y e=>by have:=h.len5 y e; omega
 have j:((((m.1.1.1,m.1.1.2),m.1.2.1,m.1.2.2.1,m.1.2.2.2.1,m.1.2.2.2.2.1,m.1.2.2.2.2.2),m.2):Ĭ)=m:=rfl;have o:=h.good.nK
 refine mV m.1.2.2.2.2.2 (fun n:Int×Int=>((iS m.2 w n.1 n.2,n.2):Int×Int)) k0 (fun i a hi ha v c l=>?_) (fun v c=>?_)<;>(try dsimp only)<;>unfold ku
 ·rw[Í hi,Æ ha,j,WN f g k,À,á (Ñ (by simp; omega)),È hi (by omega)]
 ·rw[Ò]
def WP (h:MOk m) (a:į m.2 w):ov m w=some (trP m w):=by
 unfold ov uK trP;rw[t7_L0 h a,t7_L1 h a,t7_L2 h a,t7_L3 h a]
end
section
variable {m:Ĭ}
def aku (h:MOk m) {a b:CK Int} (d:∀x∈a,x∈b) (f:Ğ (Ħ m b)=true):Ğ (Ħ m a)=true :=
 aj9 h (fun c _ e=>by rw[dJ] at e ⊢; exact d _ e) f
def anP (m:Ĭ) (i:Nat) (l:CK Int):Prop:=Ğ (Ħ m l)=false/\∀k,i<=k->k<l.length->Ğ (Ħ m (l.eraseIdx k))=true
def B5:∀l:CK Int,ß l (2 ^ l.length-1)=l
 |[]=>rfl
 |x::l=>by
  have e:2 ^ (x::l).length-1=2*(2 ^ l.length-1)+1:=by
   have:=Nat.one_le_two_pow (n:=l.length);rw[dh,gh]; omega
  rw[e,ß,if_pos (by omega),show(2*(2 ^ l.length-1)+1) / 2=2 ^ l.length-1 by omega,B5 l]
def jH:∀(l:CK Int) (s:Nat),(ß l s).Sublist l
 |[],_=>List.Sublist.refl _
 |x::l,s=>by
  unfold ß
  split
  ·exact(jH l _).cons_cons x
  ·exact(jH l _).cons x
def aeh {a l:CK Int} (h:a.Sublist l):∃s,s<2 ^ l.length/\ß l s=a:=by
 induction h with
 |slnil=>exact⟨0,by decide,rfl⟩
 | @cons a l x _ ih =>
  obtain⟨s,c,h2⟩:=ih;refine⟨2*s,by rw[dh,gh]; omega,?_⟩;rw[ß,if_neg (by omega),show 2*s / 2=s by omega,h2]
 | @cons_cons a l x _ ih =>
  obtain⟨s,c,h2⟩:=ih;refine⟨2*s+1,by rw[dh,gh]; omega,?_⟩;rw[ß,if_pos (by omega),show(2*s+1) / 2=s by omega,h2]
def yj (a b:CK Int):Prop:=a.length<b.length\/(a.length=b.length/\Fo a b<0)
structure anK (m:Ĭ) (ids:CK Int) (n:Nat) (st:CK Int×Nat×CK Nat):Prop where
 eq:st.1=ß ids st.2.1
 no:Ğ (Ħ m st.1)=false
 op:∀x∈st.2.2,Ğ (Ħ m (ß ids x))=true
 best:∀s,s<n->Ğ (Ħ m (ß ids s))=false->¬yj (ß ids s) st.1
def Zu:∀{a b c:CK Int},Fo a b<0->Fo b c<0->Fo a c<0
 |[],[],_,h,_=>by simp[Fo] at h
 |[],_::_,[],_,h=>by simp[Fo] at h
 |[],_::_,_::_,_,_=>by simp[Fo]
 |_::_,[],_,h,_=>by simp[Fo] at h
 |_::_,_::_,[],_,h=>by simp[Fo] at h
 |x::a,y::b,z::c,d,h2=>by
  rw[Fo] at d h2 ⊢
  by_cases i:x<y
  ·by_cases f:y<z
   ·rw[if_pos (by omega)]; decide
   ·rw[if_neg f] at h2
    by_cases e:z<y
    ·rw[if_pos e] at h2; omega
    ·rw[if_pos (by omega)]; decide
  ·rw[if_neg i] at d
   by_cases e:y<x
   ·rw[if_pos e] at d; omega
   ·rw[if_neg e] at d
    have:x=y:=by omega
    subst this
    by_cases f:x<z
    ·rw[if_pos f]; decide
    ·rw[if_neg f] at h2 ⊢
     by_cases g:z<x
     ·rw[if_pos g] at h2; omega
     ·rw[if_neg g] at h2 ⊢;exact Zu d h2
def Z5 {a b c:CK Int} (d:yj a b) (h2:yj b c):yj a c:=by
 rcases d with d|⟨d,f⟩<;>rcases h2 with h2|⟨h2,e⟩
 ·exact .inl (by omega)
 ·exact .inl (by omega)
 ·exact .inl (by omega)
 ·exact .inr ⟨by omega,Zu f e⟩
def VN:∀a:CK Int,Fo a a=0
 |[]=>rfl
 |x::a=>by rw[Fo,if_neg (by omega),if_neg (by omega),VN a]
def agu (h:MOk m) {ids:CK Int} (j:Ğ (Ħ m ids)=false):∀n,anK m ids n (jM m ids n)
 |0=>⟨(B5 ids).symm,j,fun x a=>(by cases a),fun s f=>by omega⟩
 |n+1=>by
  obtain⟨t,h2,o,u⟩:=agu h j n
  have e:jM m ids (n+1)=Fz m ids (jM m ids n) n:=by unfold jM; rw[List.range_succ,List.foldl_append]; rfl
  rw[e]
  have best:∀st:CK Int×Nat×CK Nat,st.1=(jM m ids n).1->(Ğ (Ħ m (ß ids n))=false->¬yj (ß ids n) (jM m ids n).1)->∀s,s<n+1->Ğ (Ħ m (ß ids s))=false->¬yj (ß ids s) st.1:=fun st e z s f c=>by
   rw[e];rcases dk s n with h|h
   ·exact u s h c
   ·have:s=n:=by omega
    subst this; exact z c
  unfold Fz
  split
  ·rename_i g;refine⟨t,h2,o,best _ rfl fun _ hb=>?_⟩
   rcases g with g|⟨g,B⟩<;>rcases hb with hb|⟨hb,A⟩<;>omega
  ·rename_i g
   split
   ·rename_i ha;obtain⟨x,a,i⟩:=du.1 ha;refine⟨t,h2,o,best _ rfl fun k=>?_⟩;have:=aku h (fun y v=>Un i y v) (o x a);rw[k] at this; cases this
   ·split
    ·rename_i f;have d:=best ((jM m ids n).1,(jM m ids n).2.1,(jM m ids n).2.2++[n]) rfl fun k=>absurd f (by rw[k]; simp);refine⟨t,h2,fun x a=>?_,d⟩
     ·rcases df.1 a with a|a
      ·exact o x a
      ·rw[di.1 a]; exact f
    ·rename_i f;refine⟨rfl,by simpa using f,o,fun s c k hb=>?_⟩;dsimp only at hb
     have r:yj (ß ids n) (jM m ids n).1:=by
      rcases Nat.lt_trichotomy (ß ids n).length (jM m ids n).1.length with p|l|q
      ·exact .inl p
      ·exact .inr ⟨l,by
        rcases gD (Fo (ß ids n) (jM m ids n).1) 0 with h|h
        ·exact h
        ·exact absurd (.inr ⟨l,h⟩) g⟩
      ·exact absurd (.inl q) g
     rcases dk s n with h|h
     ·exact u s h k (Z5 hb r)
     ·have:s=n:=by omega
      subst this;rcases hb with hb|⟨_,hb⟩
      ·omega
      ·rw[VN] at hb; omega
def aax (h:MOk m) {ids:CK Int} (d:Ğ (Ħ m ids)=false):anP m 0 (ß ids (jM m ids (2 ^ ids.length-1)).2.1)/\∀a:CK Int,a.Sublist ids->Ğ (Ħ m a)=false->a=ß ids (jM m ids (2 ^ ids.length-1)).2.1\/¬yj a (ß ids (jM m ids (2 ^ ids.length-1)).2.1):=by
 obtain⟨c,h2,p,o⟩:=agu h d (2 ^ ids.length-1);rw[<-c]
 have key:∀a:CK Int,a.Sublist ids->Ğ (Ħ m a)=false->¬yj a (jM m ids (2 ^ ids.length-1)).1:=fun a ha g=>by
  obtain⟨s,i,rfl⟩:=aeh ha;rcases dk s (2 ^ ids.length-1) with e|n
  ·exact o s e g
  ·have:s=2 ^ ids.length-1:=by omega
   subst this;rw[B5];intro hb;have f:=(jH ids (jM m ids (2 ^ ids.length-1)).2.1).length_le;rw[<-c] at f;rcases hb with hb|⟨hb,j⟩
   ·omega
   ·have:=(jH ids (jM m ids (2 ^ ids.length-1)).2.1).eq_of_length (by rw[<-c]; exact hb.symm);rw[c,this,VN] at j;omega
 refine⟨⟨h2,fun k _ l=>?_⟩,fun a ha g=>.inr (key a ha g)⟩
 cases i:Ğ (Ħ m ((jM m ids (2 ^ ids.length-1)).1.eraseIdx k)) with
 |true=>rfl
 |false =>
  refine absurd (.inl ?_) (key _ ((List.eraseIdx_sublist _ _).trans (c▸jH ids _)) i);rw[List.length_eraseIdx_of_lt l]; omega
end
section
variable {ρ:Type}
def amX {c:CK Int->BY (CK (CK Int))} {c0:CK Int} {i:Nat} {a:Int} (ha:c0[i]?=some a) {r v1:CK (CK Int)} (h:∀y∈r,y.length<=1000) (k:v1.length+r.length<=1000000) (K:CK (CK Int)->BY ρ) :
 Ê (fun(v:Int×CK (CK Int)) g=>lr c c0 i r v.1 v.2 (fun a b=>g (a,b)) K) ((0:Int),v1)=K (v1++r.map (a::·)):=by
 refine î r (fun j=>v1++(r.take j).map (a::·)) _ (by simp) (fun j y e d f=>?_) (fun f=>?_)
 ·have:=h y (de d)
  try dsimp only
  unfold lr;rw[Í e,Æ ha,Æ d,á (Ñ (by simp; omega)),á (Ñ (by simp; omega)),È e (by omega),take_succ d,List.map_append,List.append_assoc]; rfl
 ·try dsimp only
  unfold lr;rw[Ò,List.take_length]
def acH:∀(n:Nat) {l y:CK Int},l.length=n->y∈vl n l->y.length=n
 |0,l,y,_,h=>by simp[vl] at h; simp[h]
 |n+1,l,y,d,h=>by
  have a:¬l.length=0:=by omega
  simp only[vl,if_neg a,dB,fg,dz] at h;obtain⟨i,hi,z,c,rfl⟩:=h;have:=acH n (l:=l.take i++l.drop (i+1)) (by simp; omega) c;simp[this]
def PP {α β:Type} {f:α->CK β} {c:Nat}:∀{l:CK α},(∀x∈l,(f x).length=c)->(l.flatMap f).length=l.length*c
 |[],_=>by simp
 |x::l,h=>by
  rw[dA,cZ,h x (by simp),PP fun y a=>h y (dL _ a),dh,dF,fp,Nat.add_comm]
def S6:∀(n:Nat) {l:CK Int},l.length<n->l.length<=5->qU n l=some (vl l.length l)
 |0,l,h,_=>by omega
 |n+1,l,h,u=>by
  show nO (qU n) l some=_;unfold nO
  by_cases h0:l.length=0
  ·obtain rfl:l=[]:=List.eq_nil_of_length_eq_zero h0;rw[Ð (by rw[Ï]; rfl)]; rfl
  ·obtain⟨k,o⟩:∃k,l.length=k+1:=⟨l.length-1,by omega⟩
   have t:vl l.length l=(List.range l.length).flatMap fun i=>(vl k (l.take i++l.drop (i+1))).map (l.getD i 0::·):=by
    rw[o];show(if l.length=0 then[[]] else _)=_;rw[if_neg h0,o]
   have g:=PZ (n:=k) (by omega);rw[Ì (by rw[Ï]; exact decide_eq_false (by omega)),t]
   have d:∀i,i<=l.length->((List.range i).flatMap fun i=>(vl k (l.take i++l.drop (i+1))).map (l.getD i 0::·)).length=i*IY k:=fun i hi=>by
    rw[PP (c:=IY k) fun j s=>by
     rw[fg] at s
     rw[dD,FX (n:=k) (by simp; omega)],fi]
   refine î l (fun i=>(List.range i).flatMap fun i=>(vl k (l.take i++l.drop (i+1))).map (l.getD i 0::·)) _ rfl (fun i a hi ha p=>?_) (fun p=>?_)
   ·have e:(l.take i++l.drop (i+1)).length=k:=by simp; omega
    have f:l.getD i 0=a:=by rw[ej,ha]; rfl
    have r:(List.range (i+1)).flatMap (fun i=>(vl k (l.take i++l.drop (i+1))).map (l.getD i 0::·))=(List.range i).flatMap (fun i=>(vl k (l.take i++l.drop (i+1))).map (l.getD i 0::·))++(vl k (l.take i++l.drop (i+1))).map (a::·):=by
     rw[fA,eQ,dA,gg,dv,f]
    have v:i*IY k<=5*120:=fH (by omega) g
    try dsimp only
    unfold om
    rw[Í hi,á (by simp[ile,ì]; omega),á (Ñ (by simp; omega)),È hi (by omega),á (by simp[ile,ì]; omega),á (Ñ (by simp; omega)),dm,show Int.toNat ((i:Int)+1)=i+1 by omega,dH,
     S6 n (by omega) (by omega),À,e,r]
    refine(amX ha (fun y q=>by rw[acH k e q]; omega) (by rw[d i (by omega),FX e]; omega) _).trans ?_;dsimp only;rw[È hi (by omega)]
   ·try dsimp only
    unfold om;rw[Ò]
def sc {α β:Type} {f g:α->CK β}:∀{l:CK α},(∀a∈l,f a=g a)->l.flatMap f=l.flatMap g
 |[],_=>rfl
 |a::l,h=>by rw[dA,dA,h a (by simp),sc fun x c=>h x (by simp[c])]
def ZS (all:CK Way) (ms:CK Mx):CK Way:=ms.foldl (fun all m=>all.flatMap fun w=>(vl m.2.length m.2).map fun x=>w++[x]) all
def adG:∀(ms:CK Mx) (all:CK Way),ZS all ms=all.flatMap fun w=>(χ ms).map fun v=>w++v
 |[],all=>by
  show all=all.flatMap fun w=>[w++[]];simp
 |m::ms,all=>by
  show ZS (all.flatMap fun w=>(vl m.2.length m.2).map fun x=>w++[x]) ms=_;rw[adG ms,List.flatMap_assoc];refine sc fun w _=>?_;show((vl m.2.length m.2).map fun x=>w++[x]).flatMap (fun w=>(χ ms).map fun v=>w++v)=((vl m.2.length m.2).flatMap fun x=>(χ ms).map (x::·)).map fun v=>w++v;rw[List.flatMap_map,List.map_flatMap];refine sc fun x _=>?_;rw[List.map_map];refine fj fun v _=>?_;simp
def P8 (ms:CK Mx):ZS [[]] ms=χ ms:=by rw[adG]; simp
def afh (all:CK Way) (ms:CK Mx) (m:Mx):ZS all (ms++[m])=(ZS all ms).flatMap fun w=>(vl m.2.length m.2).map fun x=>w++[x]:=by unfold ZS; rw[List.foldl_append]; rfl
def w7_L2 {r:CK (CK Int)} {c v1:CK Way} {k:Nat} {w:Way} (e:c[k]?=some w) (i:w.length<=1000) (l:v1.length+r.length<=1000000) (K:CK Way->BY ρ) :
 Ê (fun(v:Int×CK Way) h=>oT r k c v.1 v.2 (fun a b=>h (a,b)) K) ((0:Int),v1)=K (v1++r.map fun x=>w++[x]):=by
 have n:=(dc.1 e).1;refine î r (fun j=>v1++(r.take j).map fun x=>w++[x]) _ (by simp) (fun j y f d g=>?_) (fun g=>?_)
 ·try dsimp only
  unfold oT;rw[Í f,á (by simp[ile,ilt,ì]; omega),Int.toNat_natCast,ž e,á (Ñ (by omega)),Æ d,á (Ñ (by simp; omega)),á (Ñ (by simp; omega)),È f (by omega),take_succ d,List.map_append,List.append_assoc,List.nil_append]; rfl
 ·try dsimp only
  unfold oT;rw[Ò,List.take_length]
def w7_L1 {r:CK (CK Int)} {all:CK Way} (h:∀w∈all,w.length<=1000) (j:all.length*r.length<=100000) (i:r.length<=1000) (ha:all.length<=100000) (K:CK Way->BY ρ) :
 Ê (fun(v:Int×CK Way) g=>oU r all v.1 v.2 (fun a b=>g (a,b)) K) ((0:Int),[])=K (all.flatMap fun w=>r.map fun x=>w++[x]):=by
 refine î all (fun k=>(all.take k).flatMap fun w=>r.map fun x=>w++[x]) _ (by simp) (fun k w e d f=>?_) (fun f=>?_)
 ·have l:((all.take k).flatMap fun w=>r.map fun x=>w++[x]).length=k*r.length:=by
   rw[PP (c:=r.length) fun w _=>dD ..,dl,Nat.min_eq_left (by omega)]
  have h2:k*r.length<=all.length*r.length:=dC _ (by omega)
  try dsimp only
  unfold oU;rw[Í e];refine(w7_L2 d (h w (List.mem_of_getElem? d)) (by omega) _).trans ?_;dsimp only;rw[È e (by omega),take_succ d,List.flatMap_append];simp
 ·try dsimp only
  unfold oU;rw[Ò,List.take_length]
def aiC:∀(ms:CK Mx),(ZS [[]] ms).length=nk ms:=fun ms=>by rw[P8,IC]
def T1 {α:Type} {key:α->Int} {x:α}:∀{A R:CK α},(∀y∈A,key y<key x)->VW key x (A++R)=A++VW key x R
 |[],R,_=>rfl
 |a::A,R,h=>by
  have:=h a (by simp);simp only[eJ];rw[VW,if_neg (by omega),T1 fun y c=>h y (by simp[c])]
def ah1 {α:Type} {key:α->Int} {x:α} {R:CK α} (h:∀y∈R,key x<=key y):VW key x R=x::R:=by
 cases R with
 |nil=>rfl
 |cons y R=>rw[VW,if_pos (h y (by simp))]
def LS {α:Type} (key:α->Int) (n:Nat) (l:CK α):CK α:=(List.range n).flatMap fun k:Nat=>l.filter fun y=>decide (key y=(k:Int))
def afJ {α:Type} {key:α->Int} {n k:Nat} {x:α} (e:key x=(k:Int)) (h:k<n) (l:CK α):LS key n (x::l)=VW key x (LS key n l):=by
 have d:List.range n=List.range k++k::(List.range (n-k-1)).map (k+1+·):=by
  rw[show n=(k+1)+(n-k-1) by omega,List.range_add,fA,dj];simp[show k+1+(n-k-1)-k-1=n-k-1 by omega]
 unfold LS;rw[d,List.flatMap_append,List.flatMap_cons,List.flatMap_append,List.flatMap_cons]
 have g:(List.range k).flatMap (fun j:Nat=>(x::l).filter fun y=>decide (key y=(j:Int)))=(List.range k).flatMap fun j:Nat=>l.filter fun y=>decide (key y=(j:Int)):=sc fun j c=>by
  rw[fg] at c;rw[ff (by simp[e]; omega)]
 have f:((List.range (n-k-1)).map (k+1+·)).flatMap (fun j:Nat=>(x::l).filter fun y=>decide (key y=(j:Int)))=((List.range (n-k-1)).map (k+1+·)).flatMap fun j:Nat=>l.filter fun y=>decide (key y=(j:Int)):=sc fun j c=>by
  obtain⟨q,_,rfl⟩:=dz.1 c;rw[ff (by simp[e]; omega)]
 rw[g,f,fe (by simp[e]),T1 fun y a=>?_,ah1 fun y a=>?_]
 ·rfl
 ·rcases df.1 a with a|a
  ·have:=of_decide_eq_true (dK.1 a).2; omega
  ·obtain⟨j,c,a⟩:=dB.1 a;obtain⟨q,_,rfl⟩:=dz.1 c;have:=of_decide_eq_true (dK.1 a).2;omega
 ·obtain⟨j,c,a⟩:=dB.1 a;rw[fg] at c;have:=of_decide_eq_true (dK.1 a).2;omega
def Qt {α:Type} {key:α->Int} {n:Nat}:∀{l:CK α},(∀y∈l,0<=key y/\key y<n)->LS key n l=ĺ key l
 |[],_=>by unfold LS; simp[ĺ]
 |x::l,h=>by
  have c:=h x (by simp);rw[afJ (k:=(key x).toNat) (by omega) (by omega),Qt fun y a=>h y (by simp[a])];rfl
def adC:∀n:Nat,1<=IY n
 |0=>cX _
 |n+1=>by
  have:=adC n;unfold IY;exact Nat.le_trans this (Nat.le_mul_of_pos_right _ (by omega))
def Xx:∀l:CK Mx,1<=nk l
 |[]=>cX _
 |x::l=>by
  unfold nk;exact Nat.mul_le_mul (adC _) (Xx l)
def M5:∀(l:CK Mx) (i:Nat),nk (l.take i)<=nk l
 |[],i=>by simp
 |x::l,0=>Xx _
 |x::l,i+1=>by
  simp only[gn,nk];exact Nat.mul_le_mul_left _ (M5 l i)
def af3:∀{ms:CK Mx} (w:Way),(∀x∈ms,x.2.length<=5)->0<=uT ms w/\uT ms w<=5*ms.length
 |[],w,_=>by cases w<;>simp[uT]
 |m::ms,[],_=>by simp[uT]; omega
 |m::ms,l::w,h=>by
  have d:=MH l m.2;have h2:=h m (by simp);have c:=af3 (ms:=ms) w fun x a=>h x (by simp[a]);simp only[uT,dh];omega
variable {m:Ĭ}
def w7_L4 (h:MOk m) {all:CK Way} (l:∀w∈all,į m.2 w) (ha:all.length<=150) (k:Nat) {v1:CK Way} (r:v1.length<=1000000) (K:CK Way->BY ρ) :
 Ê (fun(v:Int×CK Way) g=>oS k m.1.1.1 m.1.1.2 m.1.2.1 m.1.2.2.1 m.1.2.2.2.1 m.1.2.2.2.2.1 m.1.2.2.2.2.2 m.2 all v.1 v.2 (fun a b=>g (a,b)) K) ((0:Int),v1)=K (v1++all.filter fun w=>decide (uT m.2 w=(k:Int))):=by
 have n:m.2.length<=1000:=by have:=h.n4; omega
 have p:∀x∈m.2,x.2.length<=1000:=fun y i=>by have:=h.len5 y i; omega
 have o:((((m.1.1.1,m.1.1.2),m.1.2.1,m.1.2.2.1,m.1.2.2.2.1,m.1.2.2.2.2.1,m.1.2.2.2.2.2),m.2):Ĭ)=m:=rfl;refine î all (fun j=>v1++(all.take j).filter fun w=>decide (uT m.2 w=(k:Int))) _ (by simp) (fun j w e c f=>?_) (fun f=>?_)
 ·have q:=dW (fun w=>decide (uT m.2 w=(k:Int))) (all.take j);rw[dl] at q
  try dsimp only
  unfold oS;rw[Í e,á (by simp[ile,ilt,ì]; omega),Int.toNat_natCast,ž c,o,afM (l w (List.mem_of_getElem? c)) n p,À,take_succ c,List.filter_append]
  by_cases d:uT m.2 w=(k:Int)
  ·rw[Ð (by simp[ieq,d]),á (by simp[ile,ilt,ì]; omega),ž c,á (Ñ (by simp only[cZ,dh,dN]; omega)),È e (by omega),fe (by simp[d]),d8,dj]
  ·rw[Ì (by simp[ieq,d]),È e (by omega),ff (by simp[d]),d8,dv]
 ·try dsimp only
  unfold oS;rw[Ò,List.take_length]
def alK (h:MOk m):Ij m=some (Ŏ m.2):=by
 have y:=h.n4;have p:nk m.2<=150:=h.prod;unfold Ij YA;refine î m.2 (fun i=>ZS [[]] (m.2.take i)) _ rfl (fun i x hi c e=>?_) (fun e=>?_)
 ·have o:=h.len5 x (de c);have s:=M5 m.2 (i+1);have r:=M5 m.2 i;rw[Bj c] at s;have v:=PZ (n:=x.2.length) o;have f:=FX (n:=x.2.length) (l:=x.2) rfl;have a:=aiC (m.2.take i)
  try dsimp only
  unfold tC;rw[Í hi,Æ c,show Fc x.2=some (vl x.2.length x.2) from S6 100 (by omega) o,À,take_succ c,afh];refine(w7_L1 (fun w d=>?_) (by rw[a,f]; omega) (by omega) (by omega) _).trans ?_
  ·rw[P8] at d;have:=(wD.1 d).len;rw[this,dl]; omega
  ·dsimp only;rw[È hi (by omega)]
 ·try dsimp only
  unfold tC;rw[Ò,List.take_length,P8];have a:(χ m.2).length<=150:=My h;refine(î (List.range 21) (fun k=>LS (uT m.2) k (χ m.2)) (some (LS (uT m.2) 21 (χ m.2))) rfl (fun k j t u e=>?_) (fun e=>?_)).trans ?_
  ·rw[fi] at t
   have g:(LS (uT m.2) k (χ m.2)).length<=1000000:=by
    have:∀n:Nat,(LS (uT m.2) n (χ m.2)).length<=n*150:=fun n=>by
     induction n with
     |zero=>simp[LS]
     |succ n q =>
      unfold LS at q ⊢;rw[List.range_succ,List.flatMap_append,List.length_append,List.flatMap_cons,List.flatMap_nil,List.append_nil];have:=List.length_filter_le (fun w=>decide (uT m.2 w=(n:Int))) (χ m.2);omega
    have:=this k;omega
   try dsimp only
   unfold tB;rw[Ð (decide_eq_true (by omega))];refine(w7_L4 h (fun w d=>wD.1 d) a k g _).trans ?_;dsimp only;rw[Î (by omega) (by omega)];congr 2;unfold LS;rw[List.range_succ,List.flatMap_append,List.flatMap_cons,List.flatMap_nil,List.append_nil]
  ·rw[fi]
   try dsimp only
   unfold tB;rw[Ì (by rfl)]
  ·rw[Qt fun w _=>?_]
   ·rfl
   ·have:=af3 (ms:=m.2) w h.len5;omega
end
section
variable {L:CK Lk} {N:Nat}
def qW:∀(A B:CK Lk),mn (A++B)=mn A+mn B
 |[],B=>by simp[mn,Ch]
 |l::A,B=>by
  have:=qW A B;simp only[mn,Ch,if_true,eJ] at this ⊢;omega
def aha (k:Nat) (L:CK Lk):mn L<=mn (L.take k):=by
 have h:=qW (L.take k) (L.drop k);rw[List.take_append_drop] at h;have:=nF (fun _=>true) (L.drop k);unfold mn at *;omega
def Nn (L:CK Lk):mn L<=0:=nF _ _
def aew (L:CK Lk) (l:Lk) (x:CK Int):iU (L++[l]) x=iF (iU L x) l:=by
 unfold iU;rw[List.foldl_append];rfl
def UL:∀{L:CK Lk},InR L N->∀{x:CK Int} {B:Int},x.length=N->B<=0->(∀v:Int,0<=v->v<N->B<=gv x v)->∀v:Int,0<=v->v<N->B+mn L<=gv (iU L x) v
 |[],_,x,B,_,_,c,v,h0,a=>by have:=c v h0 a; simp[mn,Ch,iU]; omega
 |l::t,f,x,B,g,i,c,v,h0,a=>by
  have d:=f l (by simp)
  have key:∀v:Int,0<=v->v<N->B+min l.2.2 0<=gv (iF x l) v:=by
   intro v h0 a;have h2:=c v h0 a;have j:=c l.1 d.1.1 d.1.2;unfold iF
   split
   ·rw[pN d.2.1 h0 (by omega)]
    split<;>omega
   ·omega
  have:=UL (L:=t) (fun m h=>f m (by simp[h])) (x:=iF x l) (B:=B+min l.2.2 0) (by rw[mw]; exact g) (by omega) key v h0 a;show B+mn (l::t)<=gv (iU t (iF x l)) v
  have e:mn (l::t)=min l.2.2 0+mn t:=by simp[mn,Ch]
  rw[e];omega
def ako {d x:CK Int} {l:Lk} (c:(0<=l.1/\l.1<N)/\(0<=l.2.1/\l.2.1<N)) (g:x.length=N) (a:∀v:Int,0<=v->gv x v<=gv d v) (f:gv x l.1+l.2.2<gv x l.2.1):x.set l.2.1.toNat (gv x l.1+l.2.2)≠d:=by
 intro e;have h:=a l.2.1 c.2.1
 have h2:gv (x.set l.2.1.toNat (gv x l.1+l.2.2)) l.2.1=gv x l.1+l.2.2:=by rw[pN c.2.1 c.2.1 (by omega),if_pos rfl]
 rw[e] at h2;omega
def adn {ρ:Type} {x:CK Int} {v:Int} (h0:0<=v) (a:v<x.length) (f:Int->BY ρ):à ((ile (0:Int) v)&&(ilt v (ì x))) (Į x (Int.toNat v) f)=f (gv x v):=by
 rw[show ì x=((x.length:Nat):Int) from rfl,ź h0 a,lf (by omega)]
set_option maxHeartbeats 1000000 in
def agZ (z:InR L N) (H:∀l∈L,-4503599627370496<=l.2.2/\l.2.2<=4503599627370496) (y:L.length<=1000000) {a:CK Int} (r:a.length=N) (h0:∀v:Int,0<=v->v<N->gv a v<=0) {B:Int} (I:B<=0) (g:∀v:Int,0<=v->v<N->B<=gv a v) (hb : -9000000000000000000<=B+mn L) (K:Bool×CK Int->BY Bool) :
 Ê (fun(e:Bool×Int×CK Int) f=>oW L e.1 e.2.1 e.2.2 (fun q p o=>f (q,p,o)) K) (false,(0:Int),a)=K (decide (iU L a≠a),iU L a):=by
 refine è (fun s:Bool×Int×CK Int=>∃k:Nat,k<=L.length/\s=(decide (iU (L.take k) a≠a),(k:Int),iU (L.take k) a)) (fun s=>L.length-s.2.1.toNat) ?_ ⟨0,by omega,by simp[iU]⟩;rintro s ⟨k,M,rfl⟩;rcases dk k L.length with d|G
 ·have ha:L[k]?=some L[k]:=cW d;have c:=z _ (de ha);have J:=H _ (de ha);have n:InR (L.take k) N:=fun l c=>z l (ft c)
  have u:(iU (L.take k) a).length=N:=by rw[sM,r]
  have i:=wR n r;have D:=aha k L;have F:=UL n r I g L[k].1 c.1.1 c.1.2;have C:=i L[k].1 c.1.1;have x:=h0 L[k].1 c.1.1 c.1.2;have E:=Nn L;refine .inr ⟨(decide (iU (L.take (k+1)) a≠a),((k+1:Nat):Int),iU (L.take (k+1)) a),⟨k+1,d,rfl⟩,by simp only[dm]; omega,fun A=>?_⟩
  try dsimp only
  unfold oW;rw[Í d,Æ ha,adn c.1.1 (by omega),Î (by omega) (by omega),adn c.2.1 (by omega),õ,take_succ ha,aew]
  by_cases j:gv (iU (L.take k) a) L[k].1+L[k].2.2<gv (iU (L.take k) a) L[k].2.1
  ·have t:iF (iU (L.take k) a) L[k]=(iU (L.take k) a).set L[k].2.1.toNat (gv (iU (L.take k) a) L[k].1+L[k].2.2):=by
    unfold iF;rw[if_pos ⟨by unfold Ť; omega,j⟩]
   rw[if_pos (by simpa[ilt] using j),adn c.1.1 (by omega),Î (by omega) (by omega),adn c.2.1 (by omega),È d (by omega),t];have:decide ((iU (L.take k) a).set L[k].2.1.toNat (gv (iU (L.take k) a) L[k].1+L[k].2.2)≠a)=true:=decide_eq_true (ako c u i j);rw[this];rfl
  ·have t:iF (iU (L.take k) a) L[k]=iU (L.take k) a:=by
    unfold iF;rw[if_neg (fun h=>j h.2)]
   rw[if_neg (by simpa[ilt] using j),È d (by omega),t];rfl
 ·have:k=L.length:=by omega
  subst this;refine .inl fun A=>?_
  try dsimp only
  unfold oW;rw[Ò,List.take_length]
def agK {x:CK Int} {n:Nat} (h:iU L (Ķ L n x)=Ķ L n x):∀m,n<=m->Ķ L m x=Ķ L n x:=by
 intro m d
 induction m with
 |zero =>
  have:n=0:=by omega
  subst this; rfl
 |succ m c =>
  rcases dk m n with a|a
  ·have:n=m+1:=by omega
   subst this; rfl
  ·rw[ja,c a,h]
def MX:List.replicate N (0:Int)=iT (yN N) N:=by
 refine ZB (by simp[ü]) fun v h0 c=>?_
 have a:v<N:=by simpa using c
 rw[Ν _ h0 a,if_pos (by simp[yN,h0,a])];unfold gv;rw[List.getElem?_replicate]
 split<;>rfl
set_option maxHeartbeats 1000000 in
def alU (h:km L N) (r : -140000000000000000<=mn L):Ip ((N:Int),L)=some (la L N):=by
 have h2:=h.n60;have G:=h.n1;have F:=h.len;have z:=Nn L;unfold Ip YR;dsimp only;rw[BA (by omega),Int.toNat_natCast,MX]
 have bd:∀n:Nat,(∀v:Int,0<=v->v<N->gv (Ķ L n (iT (yN N) N)) v<=0)/\(∀v:Int,0<=v->v<N->(n:Int)*mn L<=gv (Ķ L n (iT (yN N) N)) v):=by
  intro n
  induction n with
  |zero =>
   constructor
   ·intro v h0 c;show gv (iT (yN N) N) v<=0;rw[Ν _ h0 c,if_pos (by simp[yN,h0,c])]; omega
   ·intro v h0 c;show _<=gv (iT (yN N) N) v;rw[Ν _ h0 c,if_pos (by simp[yN,h0,c])]; simp
  |succ n q =>
   have j:(Ķ L n (iT (yN N) N)).length=N:=by rw[ņ,ü]
   rw[ja];constructor
   ·intro v h0 c;have:=wR h.inr j v h0;have:=q.1 v h0 c;omega
   ·intro v h0 c;have:=UL h.inr j (B:=(n:Int)*mn L) (by have:=fY (show(0:Int)<=n by omega) (show 0<=-mn L by omega); rw[Int.mul_neg] at this; omega) q.2 v h0 c;rw[fV,fZ,f9];exact this
 refine è (fun s:Bool×Int×CK Int=>∃n:Nat,n<=N+1/\s.2.1=(n:Int)/\s.2.2=Ķ L n (iT (yN N) N)/\s.1=(if n=0 then true else decide (Ķ L n (iT (yN N) N)≠Ķ L (n-1) (iT (yN N) N)))) (fun s=>N+1-s.2.1.toNat) ?_ ⟨0,by omega,rfl,rfl,rfl⟩;rintro⟨H,i,x⟩ ⟨n,E,y,u,t⟩;dsimp only at y u t ⊢;subst y u t
 have j:(Ķ L n (iT (yN N) N)).length=N:=by rw[ņ,ü]
 by_cases A:n<=N
 ·by_cases g:(if n=0 then true else decide (Ķ L n (iT (yN N) N)≠Ķ L (n-1) (iT (yN N) N)))=true
  ·refine .inr ⟨(decide (iU L (Ķ L n (iT (yN N) N))≠Ķ L n (iT (yN N) N)),((n+1:Nat):Int),iU L (Ķ L n (iT (yN N) N))),⟨n+1,by omega,rfl,(ja L n _).symm,?_⟩,by simp only[dm]; omega,fun p=>?_⟩
   ·rw[if_neg (by omega),Nat.add_sub_cancel,ja]
   ·unfold oX;rw[g,Ð (by simp[ile]; omega),kG]
    have C : -9000000000000000000<=(n:Int)*mn L+mn L:=by
     have D:(n:Int)*(-mn L)<=60*140000000000000000:=fI (by omega) (by omega) (by omega) (by omega);rw[Int.mul_neg] at D;omega
    have o:(n:Int)*mn L<=0:=by
     have:=fY (show(0:Int)<=n by omega) (show 0<=-mn L by omega);rw[Int.mul_neg] at this;omega
    refine Eq.trans (agZ h.inr h.most (by omega) j (bd n).1 o (bd n).2 C _) ?_;dsimp only;rw[Î (by omega) (by omega)];rfl
  ·refine .inl fun p=>?_;have a:=Bool.eq_false_iff.2 g;unfold oX;rw[a,Ð (by simp[ile]; omega),ç]
   have k:n≠0:=by intro e; rw[e] at a; simp at a
   rw[if_neg k] at a
   have l:Ķ L n (iT (yN N) N)=Ķ L (n-1) (iT (yN N) N):=by simpa using a
   have d:iU L (Ķ L (n-1) (iT (yN N) N))=Ķ L (n-1) (iT (yN N) N):=by
    rw[<-ja,Nat.sub_add_cancel (by omega)];exact l
   have f:=agK d N (by omega)
   have:la L N=true:=by
    unfold la iW;rw[f];exact decide_eq_true d
   rw[this];rfl
 ·refine .inl fun p=>?_
  have:n=N+1:=by omega
  subst this;unfold oX;rw[Ì (by simp[ile]; omega),if_neg (by omega),Nat.add_sub_cancel,ja];unfold la iW
  by_cases hd:iU L (Ķ L N (iT (yN N) N))=Ķ L N (iT (yN N) N)
  ·simp[hd]
  ·simp[hd]
end
def No {α:Type} (F:α->CK Lk) (B:Int):∀l:CK α,(∀a∈l,-B<=mn (F a))->-(l.length*B)<=mn (l.flatMap F)
 |[],_=>by simp[mn,Ch]
 |a::l,h=>by
  rw[dA,qW];have e:=h a (by simp);have h2:=No F B l fun c d=>h c (by simp[d]);rw[dh,fV,fZ,f9];omega
def ag9 {L:CK Lk} (h:∀l∈L,0<=l.2.2):mn L=0:=by
 induction L with
 |nil=>rfl
 |cons l t a =>
  have d:=h l (by simp);have h2:=a fun m c=>h m (by simp[c])
  have e:mn (l::t)=min l.2.2 0+mn t:=by simp[mn,Ch]
  rw[e,h2];omega
def ţ.neg {b:ø} (h:ţ b) : -140000000000000000<=mn (Υ b):=by
 have s:=h.nG;have t:=h.nC
 have o:∀g∈b.2.1,-1130000000000000<=mn (ö b g):=by
  intro g d;have e:=h.gaugeR d;have r1:=e.2.2.2.2.2.1;have r2:=e.2.2.2.2.2.2.1;unfold ö
  rw[qW,ag9 (L:=(List.range ((Ý b g).length-1)).flatMap _) (fun l a=>by
   obtain⟨k,i,a⟩:=dB.1 a;have f:=fg.1 i;simp only[dg,ip,or_false] at a;rcases a with rfl|rfl
   ·exact dT _
   ·have hd:(Ý b g)[k]?=some ((Ý b g)[k]?.getD 0):=by rw[cW (by omega)]; rfl
    exact(jZ h d (h.day d (de hd)).2.1).1)]
  simp only[mn,Ch,if_true];omega
 have n:∀c∈b.2.2.2.2.1,-2260000000000000<=mn (ľ b c):=by
  intro c j;have p:=wQ h j;unfold ľ;simp only[mn,Ch,if_true];omega
 have r:=No (ö b) 1130000000000000 b.2.1 o;have q:=No (ľ b) 2260000000000000 b.2.2.2.2.1 n;unfold Υ;rw[qW];omega
def afP {b:ø} (h:ţ b):xV b=some (((Ô b).length:Int)+1,Υ b):=by
 have a:=h.nodes;unfold xV Ox;rw[IR h.pre,À,Ï,Î (by omega) (by omega),ajG h,À]
section
variable {m:Ĭ} {w:Way}
def aai (h:MOk m) (c:į m.2 w):qq m w=some (mr m w):=by
 have a:=qR h c;unfold qq GY;rw[WP h c,À,afP a,À];have:=alU a.sys a.neg;rw[show((((Ô (trP m w)).length:Int)+1,Υ (trP m w)):Sys)=((((Ô (trP m w)).length+1:Nat):Int),Υ (trP m w)) from by push_cast; rfl,this];rfl
def IP (h:MOk m):j9 m=some (Ğ m):=by
 have e:=sI h;have d:((((m.1.1.1,m.1.1.2),m.1.2.1,m.1.2.2.1,m.1.2.2.2.1,m.1.2.2.2.2.1,m.1.2.2.2.2.2),m.2):Ĭ)=m:=rfl;unfold j9 YB Ğ;rw[alK h,À];refine(đ (Ŏ m.2) (mr m) (fun _=>some true) (some true) (some false) (fun _=>rfl) (fun i w hi a c=>?_) (fun c=>?_)).trans ?_
 ·try dsimp only
  unfold tD;rw[Í hi,Æ a,d,aai h (qQ a),À,È hi (by omega),õ]
 ·try dsimp only
  unfold tD;rw[Ò]
 ·cases(Ŏ m.2).any (mr m)<;>rfl
end
section
variable {m:Ĭ}
def adZ {l:CK Int} (a:l.length<=1000000) (x:Int):∃z:Int,xT l x=some z/\ige z 0=l.contains x:=by
 rw[amu a]
 by_cases h:x∈l
 ·obtain⟨k,c,_⟩:=VZ h;exact⟨(k:Int),by rw[c],by rw[dJ.2 h]; simp[ige]⟩
 ·refine⟨-1,by rw[Mi h],?_⟩
  cases e:l.contains x with
  |true=>exact absurd (dJ.1 e) h
  |false=>rfl
def MC (k:m.1.2.2.2.2.1.length<=1000) {ids:CK Int} (hi:ids.length<=1000000):pp m ids=some (Ħ m ids):=by
 unfold pp YC Ħ adA;refine(î m.1.2.2.2.2.1 (fun i=>(m.1.2.2.2.2.1.take i).filter fun c=>ids.contains c.1) (some ((m.1.1,m.1.2.1,m.1.2.2.1,m.1.2.2.2.1,m.1.2.2.2.2.1.filter fun c=>ids.contains c.1,m.1.2.2.2.2.2),m.2)) rfl (fun i c a h j=>?_) (fun j=>?_))
 ·have g:∀p:Cmp->Bool,((m.1.2.2.2.2.1.take i).filter p).length<=1000:=fun p=>dr (dW _ _) (by rw[dl]; omega);obtain⟨z,f,e⟩:=adZ hi c.1
  try dsimp only
  unfold tG;rw[Í a,Æ h,f,À,e,take_succ h,List.filter_append]
  cases d:ids.contains c.1 with
  |true=>rw[Ð (by rfl),Æ h,á (show ã (_+[c].length)=true from Ñ (dr (Nat.add_le_add (g _) (cX _)) (by simp))),È a (by omega),fe (p:=fun c:Cmp=>ids.contains c.1) d,d8]
  |false=>rw[Ì (by rfl),È a (by omega),ff (p:=fun c:Cmp=>ids.contains c.1) (by rw[d]; simp),d8,dv]
 ·try dsimp only
  unfold tG;rw[Ò,List.take_length]
def ajQ (f:m.1.2.2.2.2.1.length<=1000):BF m=some (xJ m):=by
 unfold BF acP xJ
 refine mV m.1.2.2.2.2.1 (fun c:Cmp=>c.1) (fun z=>some z) (fun i a hi ha v d e=>?_) (fun v d=>?_)<;>(try dsimp only)<;>unfold EM
 ·rw[Í hi,Æ ha,á (Ñ (by simp; omega)),È hi (by omega)]
 ·rw[Ò]
def alZ (h:MOk m):Ik m=some (JY m (xJ m).length (xJ m)):=by
 have k:=h.good.nC
 have c:(xJ m).length<=40:=by unfold xJ; rw[List.length_map]; exact k
 have j:((((m.1.1.1,m.1.1.2),m.1.2.1,m.1.2.2.1,m.1.2.2.2.1,m.1.2.2.2.2.1,m.1.2.2.2.2.2),m.2):Ĭ)=m:=rfl;unfold Ik YF;rw[ajQ (by omega),À,Ï,Î (by omega) (by omega)];refine è (fun s:CK Int×Int=>∃i:Nat,s.2=(i:Int)-1/\i<=s.1.length/\s.1.length<=40/\JY m i s.1=JY m (xJ m).length (xJ m)) (fun s=>(s.2+1).toNat) ?_ ⟨(xJ m).length,rfl,Nat.le_refl _,c,rfl⟩;rintro⟨l,n⟩ ⟨i,e,h2,d,a⟩;simp only at e h2 d a;subst e
 cases i with
 |zero =>
  refine .inl fun g=>?_
  try dsimp only
  unfold tJ;rw[Ì (by simp[ige]),<-a]; rfl
 |succ i =>
  have f:((i+1:Nat):Int)-1=i:=by omega
  rw[JY] at a;refine .inr ⟨(if Ğ (Ħ m (l.take i++l.drop (i+1))) then l else l.take i++l.drop (i+1),(i:Int)-1),⟨i,rfl,?_,?_,a⟩,by simp only[f]; omega,fun g=>?_⟩
  ·dsimp only
   split
   ·omega
   ·rw[cZ,dl]; omega
  ·dsimp only
   split
   ·exact d
   ·simp; omega
  ·try dsimp only
   unfold tJ
   rw[f,Ð (by simp[ige]),á (by simp[ile,ì]; omega),á (Ñ (by simp; omega)),Î (by omega) (by omega),á (by simp[ile,ì]; omega),á (Ñ (by simp; omega)),dm,show Int.toNat ((i:Int)+1)=i+1 by omega,dH,j,
    MC (by omega) (by simp; omega),À,show j9 (Ħ m (l.take i++l.drop (i+1)))=some (Ğ (Ħ m (l.take i++l.drop (i+1)))) from IP (h.few _),À]
   cases o:Ğ (Ħ m (l.take i++l.drop (i+1))) with
   |true=>rw[Ì (by rfl),Î (by omega) (by omega),if_pos rfl]
   |false=>rw[Ð (by rfl),Î (by omega) (by omega),if_neg (by simp)]
def ofM (m:Ĭ) (label:Int):CK Int:=(m.1.2.2.2.2.1.filter (pP label)).map fun c=>c.1
def Of7_ok (h:MOk m) (label:Int):Wf m label=some (ofM m label):=by
 have u:=h.good.nC;unfold Wf aho ofM;refine î m.1.2.2.2.2.1 (fun i=>((m.1.2.2.2.2.1.take i).filter (pP label)).map fun c=>c.1) (some ((m.1.2.2.2.2.1.filter (pP label)).map fun c=>c.1)) rfl (fun i c a e k=>?_) (fun k=>?_)
 ·have d:(((m.1.2.2.2.2.1.take i).filter (pP label)).map fun c=>c.1).length<=1000:=by rw[dD]; exact dr (dW _ _) (by rw[dl]; omega)
  obtain⟨t,s⟩:=h.good.size.piles c (List.mem_of_getElem? e);have j:(Ü c.2.2.1 c.2.2.2.1).length<=1000000:=Nat.le_trans (by unfold Ü; exact List.length_filter_le _ _) (by omega);have g:(Ü c.2.2.2.1 c.2.2.1).length<=1000000:=Nat.le_trans (by unfold Ü; exact List.length_filter_le _ _) (by omega);obtain⟨r,p,o⟩:=adZ j label;obtain⟨q,n,l⟩:=adZ g label
  try dsimp only
  unfold Bo;rw[Í a,Æ e,IU (by omega) (by omega),À,p,À,o,IU (by omega) (by omega),À,n,À,l,take_succ e,List.filter_append,List.map_append];have hb:pP label c=((Ü c.2.2.1 c.2.2.2.1).contains label||(Ü c.2.2.2.1 c.2.2.1).contains label):=rfl
  cases f:(Ü c.2.2.1 c.2.2.2.1).contains label with
  |true=>rw[Ð (by rfl),á (show ã (_+[c.1].length)=true from Ñ (dr (Nat.add_le_add d (cX _)) (by simp))),È a (by omega),fe (by rw[hb,f]; rfl),d8]; rfl
  |false =>
   rw[Ì (by rfl)]
   cases h2:(Ü c.2.2.2.1 c.2.2.1).contains label with
   |true=>rw[Ð (by rfl),á (show ã (_+[c.1].length)=true from Ñ (dr (Nat.add_le_add d (cX _)) (by simp))),È a (by omega),fe (by rw[hb,f,h2]; rfl),d8]; rfl
   |false=>rw[Ì (by rfl),È a (by omega),ff (by rw[hb,f,h2]; simp),d8,fo,dv]
 ·try dsimp only
  unfold Bo;rw[Ò,List.take_length]
end
def lU:CK Int->Nat->CK Int
 |[],_=>[]
 |x::l,s=>(if s / 2 ^ l.length % 2=1 then[x] else[])++lU l s
def LY:∀(l:CK Int) (s:Nat),(lU l s).length<=l.length
 |[],_=>cX _
 |x::l,s=>by
  have:=LY l s;unfold lU
  split<;>simp<;>omega
def Fq {n:Nat} (h:n<=1000):IntKind.wrap .u64 (n:Int)=(n:Int):=by
 have e:(n:Int)=((n:Nat):Int):=rfl;have:IntKind.wrap .u64 (n:Int)=(n:Int) % 18446744073709551616:=rfl;rw[this]; omega
def Ss {l:CK Int} (j:l.length<=60) {s:Nat} (f:s<9223372036854775808):xQ l (s:Int)=some (lU l s):=by
 unfold xQ N1;refine(Mg l (fun(i:Nat) (v:CK Int) (t:CK Int)=>some (v++lU t s)) (fun i v=>v.length<=i) (fun v e d=>?_) (fun i a t v hd hi ha e d c=>?_) (Nat.zero_le _)).trans ?_
 ·try dsimp only
  unfold ol;rw[Ò]; simp[lU]
 ·have h:l.length-1-i=t.length:=by
   have:=congrArg List.length hd;rw[gL,dh] at this;omega
  have g:(l.length:Int)-1-(i:Int)=(t.length:Int):=by omega
  try dsimp only
  unfold ol;rw[Í hi,Ï,Î (by omega) (by omega),Î (by omega) (by omega),g,Fq (by omega),á (by simp[ile]),bit_i f (by omega)]
  by_cases hb:s / 2 ^ t.length % 2=1
  ·rw[Ð (by simp[hb]),Æ ha,á (Ñ (by simp; omega)),Î (by omega) (by omega)];refine(c (v++[a]) (by simp; omega)).trans ?_;rw[lU,if_pos hb,dj]
  ·rw[Ì (by simp[hb]),Î (by omega) (by omega)];refine(c v (by omega)).trans ?_;rw[lU,if_neg hb]; rfl
 ·rfl
def Fy:∀(l:CK Int) (s:Nat),(lU l s).Sublist l
 |[],_=>List.Sublist.refl _
 |x::l,s=>by
  unfold lU
  split
  ·exact(Fy l s).cons_cons x
  ·exact(Fy l s).cons x
def wM:∀(l:CK Int) (s k:Nat),l.length<=k->lU l (s % 2 ^ k)=lU l s
 |[],_,_,_=>rfl
 |x::l,s,k,h=>by
  simp only[dh] at h
  have e:s % 2 ^ k / 2 ^ l.length % 2=s / 2 ^ l.length % 2:=by
   have a:=Nat.testBit_mod_two_pow s k l.length;simp only[Nat.testBit_eq_decide_div_mod_eq,show l.length<k from h,decide_true,eI] at a
   have h2:(s % 2 ^ k / 2 ^ l.length % 2=1)↔(s / 2 ^ l.length % 2=1):=by simpa using a
   omega
  rw[lU,lU,e,wM l s k (by omega)]
def LZ:∀{a l:CK Int},a.Sublist l->∃s,s<2 ^ l.length/\lU l s=a
 |_,[],h=>⟨0,by simp,by rw[List.sublist_nil.1 h]; rfl⟩
 |a,x::l,h=>by
  have f:2 ^ (x::l).length=2*2 ^ l.length:=by rw[dh,gh,gW]
  cases h with
  |cons _ h =>
   obtain⟨s,c,h2⟩:=LZ h;refine⟨s,by omega,?_⟩;rw[lU,if_neg (by rw[iq c]; simp),h2]; rfl
  |cons_cons _ h =>
   obtain⟨s,c,h2⟩:=LZ h;refine⟨2 ^ l.length+s,by omega,?_⟩
   have e:(2 ^ l.length+s) / 2 ^ l.length % 2=1:=by
    rw[Nat.add_div_left _ (by omega),iq c]
   have d:(2 ^ l.length+s) % 2 ^ l.length=s:=by rw[Nat.add_mod_left,gd c]
   rw[lU,if_pos e,<-wM l _ l.length (cX _),d,h2]; rfl
def akG (x:Int) (a b:CK Int):Fo (x::a) (x::b)=Fo a b:=by
 rw[Fo];rw[if_neg (by omega),if_neg (by omega)]
def Ux:∀{l:CK Int} {s t:Nat},l.Pairwise (·<·)->s<2 ^ l.length->t<2 ^ l.length->t<s->(lU l s).length=(lU l t).length->Fo (lU l s) (lU l t)<0
 |[],s,t,_,j,_,c,_=>by simp at j; omega
 |x::l,s,t,ha,j,q,c,a=>by
  have z:2 ^ (x::l).length=2*2 ^ l.length:=by rw[dh,gh,gW]
  have n:0<2 ^ l.length:=Nat.two_pow_pos _;obtain⟨k,d⟩:=dI.1 ha
  have e:∀u,u<2 ^ (x::l).length->(u / 2 ^ l.length % 2=1/\2 ^ l.length<=u)\/(¬u / 2 ^ l.length % 2=1/\u<2 ^ l.length):=fun u v=>by
   rcases dk u (2 ^ l.length) with h|h
   ·exact .inr ⟨by rw[iq h]; simp,h⟩
   ·refine .inl ⟨?_,h⟩;have r:u / 2 ^ l.length=1:=Nat.div_eq_of_lt_le (by omega) (by omega);rw[r]
  rcases e s j with⟨g,i⟩|⟨g,i⟩<;>rcases e t q with⟨f,t2⟩|⟨f,t2⟩
  ·have es:s % 2 ^ l.length=s-2 ^ l.length:=by rw[Nat.mod_eq_sub_mod i,gd (by omega)]
   have et:t % 2 ^ l.length=t-2 ^ l.length:=by rw[Nat.mod_eq_sub_mod t2,gd (by omega)]
   rw[lU,lU,if_pos g,if_pos f] at a ⊢;rw[eJ,eJ,dH,dH] at a ⊢;rw[akG,<-wM l s l.length (cX _),<-wM l t l.length (cX _),es,et];rw[<-wM l s l.length (cX _),<-wM l t l.length (cX _),es,et] at a;exact Ux d (by omega) (by omega) (by omega) (by simpa using a)
  ·rw[lU,lU,if_pos g,if_neg f] at a ⊢;rw[eJ,dH,dH] at a ⊢
   cases o:lU l t with
   |nil=>rw[o] at a; simp at a
   |cons y b =>
    have p:y∈l:=(Fy l t).mem (by rw[o]; simp);have:=k y p;rw[Fo,if_pos this];simp
  ·omega
  ·rw[lU,lU,if_neg g,if_neg f,dH,dH] at a ⊢;exact Ux d i t2 c a
def wp (m:Ĭ) (ids:CK Int) (n:Nat):Nat->BY (CK Int)
 |0=>none
 |N+1=>if (lU ids N).length=n/\Ğ (Ħ m (lU ids N))=false then some (lU ids N) else wp m ids n N
def CF (m:Ĭ) (ids:CK Int):Nat->Nat->CK Int
 |_,0=>ids
 |n,k+1=>match wp m ids n (2 ^ ids.length) with
  |some l=>l
  |none=>CF m ids (n+1) k
section
variable {m:Ĭ} {ρ:Type}
def Xj (h:MOk m) {ids:CK Int} (hi:ids.length<=60) (n:Nat) (k0:CK Int->BY ρ) (Z:BY ρ) {N:Nat} (t:N<=1000000) :
 Ê (fun(v:Int) j=>Θ ids n m.1.1.1 m.1.1.2 m.1.2.1 m.1.2.2.1 m.1.2.2.2.1 m.1.2.2.2.2.1 m.1.2.2.2.2.2 m.2 v (fun u=>j u) k0 (fun _=>Z)) ((N:Int)-1)=match wp m ids n N with|some l=>k0 l|none=>Z:=by
 have x:=h.good.nC;have c:((((m.1.1.1,m.1.1.2),m.1.2.1,m.1.2.2.1,m.1.2.2.2.1,m.1.2.2.2.2.1,m.1.2.2.2.2.2),m.2):Ĭ)=m:=rfl;refine è (fun s:Int=>∃k:Nat,s=(k:Int)-1/\k<=N/\wp m ids n N=wp m ids n k) (fun s=>(s+1).toNat) ?_ ⟨N,rfl,cX _,rfl⟩;rintro s ⟨k,rfl,r,q⟩;rw[q]
 cases k with
 |zero =>
  refine .inl fun a=>?_
  try dsimp only
  unfold Θ;rw[Ì (by simp[ige])]; rfl
 |succ k =>
  have i:((k+1:Nat):Int)-1=(k:Int):=by omega
  have o:=LY ids k;have g:pp m (lU ids k)=some (Ħ m (lU ids k)):=MC (by omega) (by omega);have f:j9 (Ħ m (lU ids k))=some (Ğ (Ħ m (lU ids k))):=IP (h.few _)
  by_cases hb:(lU ids k).length=n/\Ğ (Ħ m (lU ids k))=false
  ·refine .inl fun a=>?_;rw[wp,if_pos hb]
   try dsimp only
   unfold Θ;rw[i,Ð (by simp[ige]),Ss hi (by omega),À,Ï,Ì (by simp[ine,hb.1]),c,g,À,f,À,hb.2,Ð (by rfl)]
  ·refine .inr ⟨(k:Int)-1,⟨k,rfl,by omega,by rw[wp,if_neg hb]⟩,by omega,fun a=>?_⟩
   try dsimp only
   unfold Θ;rw[i,Ð (by simp[ige]),Ss hi (by omega),À,Ï]
   by_cases d:(lU ids k).length=n
   ·have p:Ğ (Ħ m (lU ids k))=true:=by
     cases e:Ğ (Ħ m (lU ids k)) with
     |true=>rfl
     |false=>exact absurd ⟨d,e⟩ hb
    rw[Ì (by simp[ine,d]),c,g,À,f,À,p,Ì (by rfl),Î (by omega) (by omega)]
   ·rw[Ð (by simp[ine]; omega),Î (by omega) (by omega)]
def shl7 {n:Nat} (h:n<=8):al4 .i64 (1:Int) (IntKind.wrap .u64 (n:Int))-1=((2 ^ n:Nat):Int)-1:=by
 have:n=0\/n=1\/n=2\/n=3\/n=4\/n=5\/n=6\/n=7\/n=8:=by omega
 rcases this with rfl|rfl|rfl|rfl|rfl|rfl|rfl|rfl|rfl<;>rfl
def aab (h:MOk m) {ids:CK Int} (hi:ids.length<=8):Ů m ids=some (CF m ids 0 ids.length):=by
 obtain⟨g,f⟩:=pow8 hi;unfold Ů GU;refine è (fun s:Int=>∃n:Nat,s=(n:Int)/\n<=ids.length/\CF m ids 0 ids.length=CF m ids n (ids.length-n)) (fun s=>ids.length-s.toNat) ?_ ⟨0,rfl,Nat.zero_le _,rfl⟩;rintro s ⟨n,rfl,o,c⟩;rcases Nat.lt_or_ge n ids.length with a|j
 ·obtain⟨k,i⟩:∃k,ids.length-n=k+1:=⟨ids.length-n-1,by omega⟩;rw[i,CF] at c
  cases d:wp m ids n (2 ^ ids.length) with
  |some l =>
   refine .inl fun e=>?_;rw[d] at c
   try dsimp only
   unfold ju;rw[Í a,Ï,Fq (by omega),á (by simp[ile]),<-Fq (n:=ids.length) (by omega),shl7 hi,Î (by omega) (by omega)];rw[Xj h (by omega) n _ _ (by omega),d,c]
  |none =>
   rw[d] at c;refine .inr ⟨(n:Int)+1,⟨n+1,by simp,a,by rw[c,show ids.length-(n+1)=k by omega]⟩,by omega,fun e=>?_⟩
   try dsimp only
   unfold ju;rw[Í a,Ï,Fq (by omega),á (by simp[ile]),<-Fq (n:=ids.length) (by omega),shl7 hi,Î (by omega) (by omega)];rw[Xj h (by omega) n _ _ (by omega),d];dsimp only;rw[Î (by omega) (by omega)]
 ·refine .inl fun e=>?_
  have:n=ids.length:=by omega
  subst this;rw[iA,CF] at c
  try dsimp only
  unfold ju;rw[Ò,c]
end
section
variable {m:Ĭ} {ids:CK Int}
def PT {n:Nat}:∀{N:Nat},wp m ids n N=none->∀s,s<N->(lU ids s).length=n->Ğ (Ħ m (lU ids s))=true
 |0,_,s,d,_=>by omega
 |N+1,h,s,d,a=>by
  rw[wp] at h
  split at h
  ·cases h
  ·rename_i hb;rcases dk s N with c|c
   ·exact PT h s c a
   ·have:s=N:=by omega
    subst this
    cases e:Ğ (Ħ m (lU ids s)) with
    |true=>rfl
    |false=>exact absurd ⟨a,e⟩ hb
def PS {n:Nat} {l:CK Int}:∀{N:Nat},wp m ids n N=some l->∃s,s<N/\l=lU ids s/\l.length=n/\Ğ (Ħ m l)=false/\∀t,s<t->t<N->(lU ids t).length=n->Ğ (Ħ m (lU ids t))=true
 |0,h=>by cases h
 |N+1,h=>by
  rw[wp] at h
  split at h
  ·rename_i hb;cases h;exact⟨N,by omega,rfl,hb.1,hb.2,fun t k h2=>by omega⟩
  ·rename_i hb;obtain⟨s,k,h2,j,i,g⟩:=PS h;refine⟨s,by omega,h2,j,i,fun t a f c=>?_⟩;rcases dk t N with d|d
   ·exact g t a d c
   ·have:t=N:=by omega
    subst this
    cases e:Ğ (Ħ m (lU ids t)) with
    |true=>rfl
    |false=>exact absurd ⟨c,e⟩ hb
structure FoundU (m:Ĭ) (ids l:CK Int):Prop where
 no:Ğ (Ħ m l)=false
 num:∃s,s<2 ^ ids.length/\l=lU ids s/\∀t,t<2 ^ ids.length->Ğ (Ħ m (lU ids t))=false->l.length<(lU ids t).length\/(l.length=(lU ids t).length/\t<=s)
def Kg (h:Ğ (Ħ m ids)=false):∀(k n:Nat),n+k=ids.length->(∀t,t<2 ^ ids.length->(lU ids t).length<n->Ğ (Ħ m (lU ids t))=true)->FoundU m ids (CF m ids n k)
 |0,n,D,g=>by
  obtain⟨s,d,h2⟩:=LZ (List.Sublist.refl ids);refine⟨h,s,d,h2.symm,fun t a j=>?_⟩;have C:=LY ids t;rcases dk (lU ids t).length n with v|v
  ·rw[g t a v] at j; cases j
  ·have z:(lU ids t).length=ids.length:=by omega
   have y:lU ids t=ids:=(Fy ids t).eq_of_length z;refine .inr ⟨z.symm,?_⟩;rcases dk s t with f|f
   ·exact absurd f (by
     intro f
     have r:∀(l:CK Int) (s t:Nat),s<2 ^ l.length->t<2 ^ l.length->lU l s=l->lU l t=l->s=t:=fun l=>by
      induction l with
      |nil=>intro s t p a _ _; simp at p a; omega
      |cons x l A =>
       intro s t p a F y
       have g:2 ^ (x::l).length=2*2 ^ l.length:=by rw[dh,gh,gW]
       have one:∀u,u<2 ^ (x::l).length->lU (x::l) u=x::l->2 ^ l.length<=u/\lU l (u-2 ^ l.length)=l:=fun u I e=>by
        rw[lU] at e
        split at e
        ·rename_i hb
         have i:2 ^ l.length<=u:=by
          apply Decidable.byContradiction;intro B;rw[iq (by omega)] at hb;simp at hb
         refine⟨i,?_⟩
         have E:u % 2 ^ l.length=u-2 ^ l.length:=by rw[Nat.mod_eq_sub_mod i,gd (by omega)]
         rw[<-E,wM l u l.length (cX _)];simpa using e
        ·have:=LY l u;have:=congrArg List.length e;simp at this; omega
       obtain⟨K,H⟩:=one s p F;obtain⟨J,G⟩:=one t a y;have:=A _ _ (by omega) (by omega) H G;omega
     have:=r ids s t d a h2 y
     omega)
   ·exact f
 |k+1,n,D,g=>by
  rw[CF]
  cases j:wp m ids n (2 ^ ids.length) with
  |none =>
   refine Kg h k (n+1) (by omega) fun t a C=>?_;rcases dk (lU ids t).length n with d|d
   ·exact g t a d
   ·exact PT j t a (by omega)
  |some l =>
   obtain⟨s,d,h2,v,f,r⟩:=PS j;refine⟨f,s,d,h2,fun t a c=>?_⟩;dsimp only;rcases Nat.lt_trichotomy (lU ids t).length n with o|o|o
   ·rw[g t a o] at c; cases c
   ·refine .inr ⟨by omega,?_⟩;rcases dk s t with q|q
    ·rw[r t q a o] at c; cases c
    ·exact q
   ·exact .inl (by omega)
def agt (a:Ğ (Ħ m ids)=false):True/\True/\(ß ids (jM m ids (2 ^ ids.length-1)).2.1).Sublist ids:=⟨trivial,trivial,jH _ _⟩
def akc (h:MOk m) (ha:ids.Pairwise (·<·)) (a:Ğ (Ħ m ids)=false):CF m ids 0 ids.length=ß ids (jM m ids (2 ^ ids.length-1)).2.1:=by
 obtain⟨r1,s,r2,d,j⟩:=Kg (m:=m) (ids:=ids) a ids.length 0 (by omega) fun t _ o=>by omega
 obtain⟨n,l⟩:=aax h a;obtain⟨_,_,f⟩:=agt (m:=m) (ids:=ids) a;generalize ß ids (jM m ids (2 ^ ids.length-1)).2.1=C at n l f ⊢;generalize CF m ids 0 ids.length=R at r1 d j ⊢;obtain⟨t,i,t2⟩:=LZ f
 have g:R.Sublist ids:=by rw[d]; exact Fy _ _
 rcases l R g r1 with e|e
 ·exact e
 ·rcases j t i (by rw[t2]; exact n.1) with c|⟨c,h2⟩
  ·rw[t2] at c;exact absurd (.inl c) e
  ·rw[t2] at c;rcases dk t s with k|k
   ·refine absurd (.inr ⟨c,?_⟩) e;rw[d,<-t2];exact Ux ha r2 i k (by rw[<-d,t2]; exact c)
   ·have:t=s:=by omega
    rw[d,<-t2,this]
end
section
variable {ρ:Type}
def yC (all ids:CK Int) (w0:Int):Int:=if w0≠0 then w0 else if ids.any (fun x=>!all.contains x) then 5 else 0
def alc {ids all:CK Int} (hi:ids.length<=1000) (ha:all.length<=1000000) (w0:Int) (K:Int->BY ρ):Ê (fun(v:Int×Int) D=>Ŕ ids all v.1 v.2 (fun a b=>D (a,b)) K) (w0,(0:Int))=K (yC all ids w0):=by
 refine è (fun s:Int×Int=>∃i:Nat,s.2=(i:Int)/\i<=ids.length/\s.1=yC all (ids.take i) w0) (fun s=>ids.length-s.2.toNat) ?_ ⟨0,rfl,Nat.zero_le _,by unfold yC; split<;>simp_all⟩
 rintro⟨G,F⟩ ⟨i,A,h2,y⟩;simp only at A h2 y;subst A y;rcases dk i ids.length with d|E
 ·have t:ids[i]?=some ids[i]:=cW d
  by_cases c:yC all (ids.take i) w0=0
  ·refine .inr ⟨(yC all (ids.take (i+1)) w0,(i:Int)+1),⟨i+1,by simp,d,rfl⟩,by simp only[dm]; omega,fun r=>?_⟩;obtain⟨z,C,B⟩:=adZ ha ids[i]
   have g:w0=0:=by
    unfold yC at c
    split at c
    ·exact absurd c ‹_›
    ·rename_i e; simpa using e
   have p:(ids.take i).any (fun x=>!all.contains x)=false:=by
    unfold yC at c;rw[if_neg (by simp[g])] at c
    cases e:(ids.take i).any (fun x=>!all.contains x) with
    |false=>rfl
    |true=>rw[e] at c; simp at c
   have f:yC all (ids.take (i+1)) w0=if all.contains ids[i] then 0 else 5:=by
    unfold yC;rw[if_neg (by simp[g]),take_succ t,List.any_append,p,Bool.false_or,List.any_cons,List.any_nil,Bool.or_false]
    cases all.contains ids[i]<;>rfl
   try dsimp only
   unfold Ŕ;rw[Í d,c,Ð (by rfl),Æ t,C,À,f]
   have k:ilt z 0=!all.contains ids[i]:=by rw[<-B]; unfold ilt ige; by_cases h:z<0<;>simp[h]<;>omega
   rw[k]
   cases all.contains ids[i] with
   |true=>rw[Ì (by rfl),Î (by omega) (by omega)]; rfl
   |false=>rw[Ð (by rfl),Î (by omega) (by omega)]; rfl
  ·refine .inl fun r=>?_
   have j:yC all ids w0=yC all (ids.take i) w0:=by
    by_cases h0:w0=0
    ·have q:∀l:CK Int,yC all l w0=if l.any (fun x=>!all.contains x) then 5 else 0:=fun l=>by unfold yC; rw[if_neg (show ¬w0≠0 from fun e=>e h0)]
     rw[q] at c;rw[q,q]
     have u:(ids.take i).any (fun x=>!all.contains x)=true:=by
      cases e:(ids.take i).any (fun x=>!all.contains x) with
      |true=>rfl
      |false=>rw[e] at c; exact absurd rfl c
     obtain⟨x,o,n⟩:=du.1 u;rw[u,du.2 ⟨x,ft o,n⟩]
    ·unfold yC;rw[if_pos h0,if_pos h0]
   try dsimp only
   unfold Ŕ;rw[Í d,Ì (by simp[ieq,c]),j]
 ·refine .inl fun r=>?_
  have:i=ids.length:=by omega
  subst this
  try dsimp only
  unfold Ŕ;rw[Ò,List.take_length]
def Fs (ids:CK Int) (w0:Int):Int:=if w0≠0 then w0 else if ids.Pairwise (·<·) then 0 else 6
def alH {l:CK Int} {i:Nat} {a b:Int} (ha:l[i]?=some a) (hb:l[i+1]?=some b):(l.take (i+2)).Pairwise (·<·)↔(l.take (i+1)).Pairwise (·<·)/\a<b:=by
 have h:l.take (i+2)=l.take (i+1)++[b]:=take_succ hb;have e:l.take (i+1)=l.take i++[a]:=take_succ ha;rw[h,fO];constructor
 ·rintro⟨d,_,h2⟩;exact⟨d,h2 a (by rw[e]; simp) b (by simp)⟩
 ·rintro⟨d,h2⟩;refine⟨d,ii _ _,fun x c y f=>?_⟩;rw[di] at f;subst f;rw[e,df,di] at c;rcases c with c|rfl
  ·have g:(l.take i++[a]).Pairwise (·<·):=by rw[<-e]; exact d
   have:=(fO.1 g).2.2 x c a (by simp);omega
  ·exact h2
def alb {ids:CK Int} (hi:ids.length<=1000) (w0:Int) (K:Int->BY ρ):Ê (fun(v:Int×Int) r=>ĸ ids v.1 v.2 (fun a b=>r (a,b)) K) (w0,(1:Int))=K (Fs ids w0):=by
 have one:∀l:CK Int,l.length<=1->l.Pairwise (·<·):=fun l h=>by
  match l,h with
  |[],_=>exact .nil
  |[a],_=>exact ii _ _
 by_cases k:w0=0
 case neg =>
  have e:Fs ids w0=w0:=by unfold Fs; rw[if_pos k]
  rw[e];refine è (fun s:Int×Int=>s=(w0,1)) (fun _=>0) (fun s t=>.inl fun j=>?_) rfl;subst t
  try dsimp only
  unfold ĸ;rw[Ì (show ieq w0 0=false by simp[ieq,k])]
  rw[õ]; split<;>rfl
 subst k
 have f:∀l:CK Int,Fs l 0=if l.Pairwise (·<·) then 0 else 6:=fun l=>by unfold Fs; rw[if_neg (by simp)]
 refine è (fun s:Int×Int=>∃i:Nat,s.2=(i:Int)+1/\s.1=Fs (ids.take (i+1)) 0) (fun s=>ids.length+1-s.2.toNat) ?_ ⟨0,rfl,by rw[f,if_pos (one _ (by rw[dl]; omega))]⟩;rintro⟨z,y⟩ ⟨i,q,p⟩;simp only at q p;subst q p
 have n:(i:Int)+1=((i+1:Nat):Int):=by omega
 rcases dk (i+1) ids.length with c|x
 ·have ha:ids[i]?=some ids[i]:=cW (by omega);have hb:ids[i+1]?=some ids[i+1]:=cW c;have o:=alH ha hb
  by_cases g:(ids.take (i+1)).Pairwise (·<·)
  ·refine .inr ⟨(Fs (ids.take (i+2)) 0,((i+1:Nat):Int)+1),⟨i+1,rfl,rfl⟩,by simp only; omega,fun j=>?_⟩
   try dsimp only
   unfold ĸ;rw[n,Í c,f,if_pos g,Ð (by rfl),Æ hb,Î (by omega) (by omega),show((i+1:Nat):Int)-1=(i:Int) by omega,Æ ha,f]
   by_cases d:ids[i]<ids[i+1]
   ·rw[if_pos (o.2 ⟨g,d⟩),Ì (decide_eq_false (by omega)),Î (by omega) (by omega)]
   ·rw[if_neg fun e=>d (o.1 e).2,Ð (decide_eq_true (by omega)),Î (by omega) (by omega)]
  ·refine .inl fun j=>?_;have u:¬ids.Pairwise (·<·):=fun e=>g (e.sublist (List.take_sublist _ _))
   try dsimp only
   unfold ĸ;rw[n,Í c,f,if_neg g,Ì (by rfl),f,if_neg u]
 ·refine .inl fun j=>?_
  try dsimp only
  unfold ĸ;rw[n,Ï,Ì (decide_eq_false (by omega)),List.take_of_length_le (by omega)]
end
def aiD {b:ø} (h:ţ b) {c c':Cmp} (o:c∈b.2.2.2.2.1) (h2:c'∈b.2.2.2.2.1) (e:c.1=c'.1):c=c':=by
 have key:∀(i j:Nat) (x y:Cmp),b.2.2.2.2.1[i]?=some x->b.2.2.2.2.1[j]?=some y->x.1=y.1->¬i<j:=by
  intro i j x y l k f g;have a:=h.compares j y k;unfold kM at a
  split at a
  ·cases a
  ·split at a
   ·cases a
   ·rename_i n;refine n (du.2 ⟨x,?_,by simp[f]⟩);exact de (i:=i) (by rw[dX,if_pos g]; exact l)
 obtain⟨i,hi⟩:=iv.1 o;obtain⟨j,d⟩:=iv.1 h2;have q:=key i j c c' hi d e;have p:=key j i c' c d hi e.symm
 have:i=j:=by omega
 subst this;rw[hi] at d;exact Option.some.inj d
def amZ {m:Ĭ} (h:MOk m) (label:Int):Ħ m (ofM m label)=adA m (pP label):=by
 unfold Ħ adA
 have:m.1.2.2.2.2.1.filter (fun c=>(ofM m label).contains c.1)=m.1.2.2.2.2.1.filter (pP label):=List.filter_congr fun c a=>by
  rw[Bool.eq_iff_iff,List.contains_iff_mem];unfold ofM;constructor
  ·intro d;obtain⟨c',g,h2⟩:=dz.1 d;obtain⟨f,e⟩:=dK.1 g;rw[<-aiD h.good f a h2];exact e
  ·intro hb;exact dz.2 ⟨c,dK.2 ⟨a,hb⟩,rfl⟩
 rw[this]
def LN (m:Ĭ) (ids:CK Int):Int:=Fs ids (yC (xJ m) ids (if 8<ids.length then 2 else 0))
def Uf (m:Ĭ) (ids:CK Int):Int:=if LN m ids=0 then(if Ğ (Ħ m ids) then 5 else 0) else LN m ids
def aem {m:Ĭ} (h:MOk m) (ids:CK Int):(θ m ids).2=Uf m ids/\(Uf m ids≠0->(θ m ids).1=[])/\(Uf m ids=0->ids.length<=8/\Ů m ids=some (θ m ids).1):=by
 have n:=(Ł m).2 h
 by_cases g:8<ids.length
 ·have c:LN m ids=2:=by unfold LN yC Fs; rw[if_pos g]; simp
  have a:Uf m ids=2:=by unfold Uf; rw[c]; rfl
  have s:θ m ids=([],2):=by unfold θ; rw[if_neg (by simp[n]),if_pos g]
  rw[a,s]; simp
 have r:θ m ids=if !ids.all (fun i=>(xJ m).contains i) then([],5) else if ¬ids.Pairwise (·<·) then([],6) else if Ğ (Ħ m (ß ids (2 ^ ids.length-1))) then([],5) else(ß ids (jM m ids (2 ^ ids.length-1)).2.1,0):=by
  unfold θ; rw[if_neg (by simp[n]),if_neg g]
 have f:LN m ids=Fs ids (if ids.any (fun x=>!(xJ m).contains x) then 5 else 0):=by
  unfold LN yC; rw[if_neg g,if_neg (by simp)]
 have k:ids.any (fun x=>!(xJ m).contains x)=!ids.all (fun i=>(xJ m).contains i):=by
  have:∀(p:Int->Bool) (l:CK Int),(l.any fun x=>!p x)=!l.all p:=fun p l=>by
   induction l with
   |nil=>rfl
   |cons x l q=>rw[List.any_cons,fC,q]; cases p x<;>rfl
  exact this _ _
 rw[r];rw[k] at f
 cases o:ids.all (fun i=>(xJ m).contains i) with
 |false =>
  rw[o] at f
  have c:LN m ids=5:=by rw[f]; unfold Fs; simp
  have a:Uf m ids=5:=by unfold Uf; rw[c]; rfl
  rw[a]; simp
 |true =>
  rw[o] at f
  by_cases d:ids.Pairwise (·<·)
  ·have c:LN m ids=0:=by rw[f]; unfold Fs; simp[d]
   rw[B5]
   cases j:Ğ (Ħ m ids) with
   |true =>
    have a:Uf m ids=5:=by unfold Uf; rw[c,j]; rfl
    rw[a]; simp[d]
   |false =>
    have a:Uf m ids=0:=by unfold Uf; rw[c,j]; rfl
    rw[a];simp only[dP,dq,if_false,d,not_true_eq_false];refine⟨trivial,fun e=>absurd rfl e,fun _=>⟨by omega,?_⟩⟩;rw[aab h (by omega),akc h d j]
  ·have c:LN m ids=6:=by rw[f]; unfold Fs; simp[d]
   have a:Uf m ids=6:=by unfold Uf; rw[c]; rfl
   rw[a]; simp[d]
def aiz {m:Ĭ} (hn:∀g∈m.1.2.1,I64 g.2.2.2.2.1.1) (ids:CK Int) (label:Int):uP m ids label=some true:=by
 unfold uP uG;rw[agq,À,aeo]
 by_cases u:Xg m=true
 case neg=>rw[eM.2 u]; rfl
 have t:=agr u hn;have hl6:=t.n6
 have U:∀x∈m.2,x.2.length<=1000000:=fun x hx=>by have:=t.l9 x hx; omega
 rw[u,Ì (by rfl),Ï]
 by_cases G:(12:Int)<ids.length
 case pos=>rw[Ð (by simpa[igt] using G)]; rfl
 rw[Ì (by simpa[igt] using G),aaj t.inn (by omega) (by omega),À,KR t.inn (by omega),À,ajS t.inn (by omega),À,QD t.inn (by omega) (by omega),À,afR t.inn.size (by omega) U,À]
 by_cases f:ī m=0
 case neg =>
  rw[Cd,mi,aak,θ,if_pos f,if_pos f,if_pos f,if_pos f,Ð (by simp[ine,f]),À,kG,Ð (by simp[ieq]),Ð (by simp[ieq]),Ð (by simp[ieq]),Ð (by simp[ieq]),Ð (by rfl),Ð (by rfl)];dsimp only;rw[Ï,Î (by simp) (by simp)];rfl
 have h:=(Ł m).1 f;have hC:=h.good.nC;have hG:=h.good.nG;rw[Ì (by simp[ine,f]),MC (by omega) (by omega),À,show j9 (Ħ m ids)=some (Ğ (Ħ m ids)) from IP (h.few _),À,Cd,if_neg (by simp[f]),Ì (by rfl),Ì (by simp)];simp only[akK]
 have hids:(xJ m).length<=1000:=by unfold xJ; rw[List.length_map]; omega
 have hS:=(IP (m:=m) h)
 have W:(JY m (xJ m).length (xJ m)).length<=1000000:=by
  have:∀(i:Nat) (l:CK Int),(JY m i l).length<=l.length:=fun i=>by
   induction i with
   |zero=>intro l; exact cX _
   |succ i ih =>
    intro l;rw[JY];refine dr (ih _) ?_
    split
    ·exact cX _
    ·simp; omega
  have:=this (xJ m).length (xJ m);omega
 have T:((((m.1.1.1,m.1.1.2),m.1.2.1,m.1.2.2.1,m.1.2.2.2.1,m.1.2.2.2.2.1,m.1.2.2.2.2.2),m.2):Ĭ)=m:=rfl;rw[Cc (by omega),À]
 have F:∀o,ï m.1 label=o->wi m.1 label 0=if o.isNone then 5 else 0:=fun o ho=>by
  unfold wi;rw[ho,show BW 0=true from rfl]; rfl
 rcases qL (b:=m.1) (id:=label) with Z|Z
 case' inl =>
  obtain⟨j,g,e1,_,e2⟩:=Z;have V:=F _ e2
  have Y:mi m label=(!Ğ (adA m (pP label)),0):=by unfold mi; rw[if_neg (by simp[f]),if_neg (by rw[V]; simp)]
  have S:(ofM m label).length<=1000000:=by
   unfold ofM;rw[List.length_map];exact Nat.le_trans (List.length_filter_le _ _) (by omega)
  rw[e1,Y];dsimp only
  rw[Ì (by simp[ilt]),Ì (by rfl),Of7_ok h,À,MC (by omega) S,À,amZ h,IP (h.few _),À,Ì (by cases Ğ (adA m (pP label))<;>rfl)]
 case' inr =>
  obtain⟨e1,e2⟩:=Z;have V:=F _ e2
  have Y:mi m label=(false,5):=by unfold mi; rw[if_neg (by simp[f]),V,if_pos (by simp)]; rfl
  rw[e1,Y];dsimp only;rw[Ð (by rfl),Ì (by rfl),Ì (by rfl)]
 all_goals
  try dsimp only
  rw[T,hS,À];obtain⟨k1,k2,k3⟩:=aem h ids
  have X:(θ m ids).1.length<=1000000:=by
   by_cases p:Uf m ids=0
   ·obtain⟨n,_⟩:=k3 p;unfold θ
    repeat' split
    all_goals first|(simp; done)|exact dr (oa _ _) (by omega)
   ·rw[k2 p]; simp
  have last:∀w0:Int,w0=(if 8<ids.length then 2 else 0)->(Ã (BF m) fun Q=>Ê (fun(v:Int×Int) z=>Ŕ ids Q v.1 v.2 (fun M K=>z (M,K)) (fun J=>Ê (fun(y:Int×Int) C=>ĸ ids y.1 y.2 (fun P O=>C (P,O)) (fun k=>ifb (ieq k (0:Int)) (ifb (Ğ (Ħ m ids)) (ifb (ine (5:Int) (0:Int)) (Ã (some true) fun e=>ifb e (ifb (ieq (θ m ids).2 (5:Int)) (some (ieq (Ó (θ m ids).1) (0:Int))) (some false)) (some false)) (Ã (some true) fun d=>ifb d (ifb (ieq (θ m ids).2 (0:Int)) (Ã (Ů m ids) fun c=>Ã (Ĩ (θ m ids).1 c) fun a=>some a) (some false)) (some false))) (ifb (ine k (0:Int)) (Ã (some true) fun e=>ifb e (ifb (ieq (θ m ids).2 k) (some (ieq (Ó (θ m ids).1) (0:Int))) (some false)) (some false)) (Ã (some true) fun d=>ifb d (ifb (ieq (θ m ids).2 (0:Int)) (Ã (Ů m ids) fun c=>Ã (Ĩ (θ m ids).1 c) fun a=>some a) (some false)) (some false)))) (ifb (ine k (0:Int)) (Ã (some true) fun e=>ifb e (ifb (ieq (θ m ids).2 k) (some (ieq (Ó (θ m ids).1) (0:Int))) (some false)) (some false)) (Ã (some true) fun d=>ifb d (ifb (ieq (θ m ids).2 (0:Int)) (Ã (Ů m ids) fun c=>Ã (Ĩ (θ m ids).1 c) fun a=>some a) (some false)) (some false))))) (J,(1:Int)))) (w0,(0:Int)))=some true:=by
   intro w0 R;rw[ajQ (by omega),À,alc (by omega) (by omega),alb (by omega)]
   have r:Fs ids (yC (xJ m) ids w0)=LN m ids:=by rw[R]; rfl
   rw[r]
   have I:∀w:Int,w≠0->Uf m ids=w->(ifb (ine w (0:Int)) (Ã (some true) fun e=>ifb e (ifb (ieq (θ m ids).2 w) (some (ieq (Ó (θ m ids).1) (0:Int))) (some false)) (some false)) (Ã (some true) fun d=>ifb d (ifb (ieq (θ m ids).2 (0:Int)) (Ã (Ů m ids) fun c=>Ã (Ĩ (θ m ids).1 c) fun a=>some a) (some false)) (some false)))=some true:=fun w hw p=>by
    rw[Ð (by simp[ine,hw]),À,kG,k1,p,Ð (by simp[ieq]),k2 (by rw[p]; exact hw),Ï];rfl
   by_cases D:LN m ids=0
   ·have q:Uf m ids=if Ğ (Ħ m ids) then 5 else 0:=by unfold Uf; rw[if_pos D]
    rw[D,Ð (by rfl)]
    cases u:Ğ (Ħ m ids) with
    |true =>
     rw[Ð (by rfl)];exact I 5 (by simp) (by rw[q,u]; rfl)
    |false =>
     have p:Uf m ids=0:=by rw[q,u]; rfl
     rw[Ì (by rfl),Ì (by rfl),À,kG,k1,p,Ð (by rfl),(k3 p).2,À,IQ X,À]
   ·have p:Uf m ids=LN m ids:=by unfold Uf; rw[if_neg D]
    rw[Ì (by simp[ieq,D])];exact I _ D p
  have H:∀A B:BY Bool,(8<ids.length->A=some true)->(¬8<ids.length->B=some true)->ifb (igt (Ó ids) (8:Int)) A B=some true:=fun A B hA hB=>by
   rw[Ï]
   by_cases n:8<ids.length
   ·rw[Ð (decide_eq_true (by omega))]; exact hA n
   ·rw[Ì (decide_eq_false (by omega))]; exact hB n
  cases E:Ğ m with
  |true =>
   have s:aak m=([],5):=by unfold aak; rw[if_neg (by simp[f]),E,if_pos rfl]
   rw[s,Ð (by rfl),Ì (by rfl),Ì (by rw[Ï]; rfl)];exact H _ _ (fun n=>last 2 (by rw[if_pos n])) (fun n=>last 0 (by rw[if_neg n]))
  |false =>
   have s:aak m=(JY m (xJ m).length (xJ m),0):=by unfold aak; rw[if_neg (by simp[f]),E,if_neg (by simp)]
   rw[s,Ì (by rfl),Ì (by rfl),alZ h,À,IQ W,À,Ì (by rfl)];exact H _ _ (fun n=>last 2 (by rw[if_pos n])) (fun n=>last 0 (by rw[if_neg n]))
end Go.Proofs.ZzM
end
