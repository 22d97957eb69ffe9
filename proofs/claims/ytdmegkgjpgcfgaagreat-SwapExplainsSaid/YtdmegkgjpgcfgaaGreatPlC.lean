/- lemmas -/
import Derived.Test.YtdmegkgjpgcfgaaGreatPlB
import Derived.Test.YtdmegkgjpgcfgaaGreatPlA
import Derived.Test.YtdmegkgjpgcfgaaGreatMdTA
set_option linter.all false
noncomputable section
namespace Go.Proofs.ZzM
open Go Go.Am
structure aoF (b:ø) (c:Cmp):Prop where
 ok:akP b c
 ids:b.2.1.Pairwise fun a b=>a.1<b.1
 pile:∀x∈c.2.2.1++c.2.2.2.1,∃g,î b x=some g
def ţ.cmpIn {b:ø} (h:ţ b) {c:Cmp} (a:c∈b.2.2.2.2.1):aoF b c:=⟨h.cmp a,h.ids,fun x d=>by obtain⟨⟨g,e,_⟩,_⟩:=h.pile a d; exact⟨g,e⟩⟩
def akP.ne {b:ø} {c:Cmp} (h:akP b c):∀x∈c.2.2.1++c.2.2.2.1,x≠0:=by
 intro x a;have d:=(ű c).1 h.nums;have e:=((zx _).1 d.2.2.2.2.2.1).1;have h2:=((zx _).1 d.2.2.2.2.2.2).1;rcases dl.1 a with a|a
 ·have:=e x a; omega
 ·have:=h2 x a; omega
def ab7 {b:ø} (i:jp b) (hi:b.2.1.Pairwise fun a b=>a.1<b.1) {p q:BY Int} (h:∀x∈p,x≠0/\∃g,î b x=some g):wA b (Ma p q)=some (Gb (ŗ b) (Þ p q)):=by
 have n:=i.gauges;unfold wA J5
 cases c:Þ p q with
 |nil =>
  have:Ma p q=0:=by unfold Ma; rw[c]; rfl
  rw[this];rfl
 |cons x t =>
  have e:Ma p q=x:=by unfold Ma; rw[c]; rfl
  have k:x∈p:=(lf.1 (show x∈Þ p q by rw[c]; simp)).1;obtain⟨h0,g,f⟩:=h x k;rw[e,Í (by simpa[ieq] using h0),Jg (by omega),À];rcases wy (b:=b) (id:=x) with⟨j,g',h2,d,l⟩|⟨h2,d⟩
  ·rw[h2]
   try dsimp only
   rw[Ä d];unfold Gb;dsimp only;rw[vx hi,l]
  ·rw[d] at f; cases f
def ahc {b:ø} (e:jp b) {c:Cmp} (h:aoF b c):yr b c=some (iL b c):=by
 have d:=(ű c).1 h.ok.nums;have ha:=ō d.2.2.2.2.2.1;have hb:=ō d.2.2.2.2.2.2;have i:∀x∈c.2.2.1,x≠0/\∃g,î b x=some g:=fun x a=>⟨h.ok.ne x (by simp[a]),h.pile x (by simp[a])⟩;have f:∀x∈c.2.2.2.1,x≠0/\∃g,î b x=some g:=fun x a=>⟨h.ok.ne x (by simp[a]),h.pile x (by simp[a])⟩;unfold yr Fv;rw[K9 (by omega) (by omega),À,ab7 e h.ids i,À,K9 (by omega) (by omega),À,ab7 e h.ids f,À,aoy h.ok.r1 h.ok.r2,À]
 try dsimp only
 rw[akF (heat:=c.2.2.2.2.2.2) (NV h.ok.r1 h.ok.r2) d.2.2.2.2.1,À];rfl
def akI {b:ø} {c:Cmp} (d:c.2.2.1.length<=1000) (a:c.2.2.2.1.length<=1000) (h:0<=b.1.1) (h2:b.1.1<=1000000) (g:0<=b.1.2) (f:b.1.2<=1000000):Co b c=some (pR b c):=by
 unfold Co Kd pR
 have e:∀n:Nat,T7 0 ((n:Int)-1)=((n-1:Nat):Int):=by
  intro n;unfold T7
  split<;>omega
 have bd:∀(n:Nat) (x:Int),n<=1000->0<=x->x<=1000000->0<=((n-1:Nat):Int)*x/\((n-1:Nat):Int)*x<=1000000000:=by
  intro n x j h0 i;refine⟨fZ (by omega) h0,?_⟩;have:=fL (show((n-1:Nat):Int)<=1000 by omega) i h0 (by omega);omega
 have o:=bd _ _ d h h2;have l:=bd _ _ d g f;have b3:=bd _ _ a h h2;have k:=bd _ _ a g f;simp only[Î];rw[Ï (by omega) (by omega),Ï (by omega) (by omega)];simp only[e];rw[Ï (by omega) (by omega),Ï (by omega) (by omega),Ï (by omega) (by omega),Ï (by omega) (by omega),Ï (by omega) (by omega),Ï (by omega) (by omega)]
def amK {b:ø} (f:jp b) (g:0<=b.1.1/\b.1.1<=b.1.2/\b.1.2<=1000000) {c:Cmp} (h:aoF b c):wB b c=some (wW b c):=by
 have a:=(ű c).1 h.ok.nums;have ha:=ō a.2.2.2.2.2.1;have hb:=ō a.2.2.2.2.2.2;obtain⟨e,d,n,l,b3⟩:=Zz g h.ok;have k:=CC e;have j:=yk d;have i:=ym (b:=b) (c:=c) (by omega) (by omega) (by omega) (by omega) (by omega) (by omega);have hd:=a.2.2.1;unfold wB PN wW;rw[ahc f h,À,akI (by omega) (by omega) (by omega) (by omega) (by omega) (by omega),À,akB d.rat,amH e.rat];simp only[À];rw[Ï (by omega) (by omega),Ï (by omega) (by omega),Ï (by omega) (by omega),Ï (by omega) (by omega),Ï (by omega) (by omega),Ï (by omega) (by omega)]
section
variable {b:ø}
def amM (h:ţ b) {id:Int} {g:è} (i:î b id=some g) {f t:Int} (r:0<=f/\f<=100000) (E:t<=100000):wC b id f t=some (jH b g f t):=by
 have H:=h.nG;have F:=h.nU;have G:=h.nL;obtain⟨a,k⟩:=iX i;unfold wC PX;rw[Jg (by omega),À];rcases wy (b:=b) (id:=id) with⟨j,g',h2,o,u⟩|⟨h2,o⟩
 ·rw[h2]
  have:g'=g:=by rw[i] at u; exact(Option.some.inj u).symm
  subst this
  try dsimp only
  rw[Ä o];refine ð (fun x:Int×Int=>f<=x.2/\(x.2<=t\/x.2=f)/\x.1=jH b g' f x.2) (fun x=>(t-x.2).toNat) ?_ ⟨dV _,.inr rfl,(Bf g' (dV _)).symm⟩;rintro⟨s,d⟩ ⟨c,n,q⟩;simp only at c n q;subst q
  by_cases hd:d<t
  ·refine .inr ⟨(jH b g' f (d+1),d+1),⟨by simp only; omega,.inl (by simp only; omega),rfl⟩,by simp only; omega,fun y=>?_⟩;have e:=QX h g' c;have D:=jT h a (f:=f) (t:=d) r.1;have v:=jT h a (f:=f) (t:=d+1) r.1;unfold tU;rw[Ñ (by simpa[ilt] using hd),NK (b:=((b.1.1,b.1.2),b.2.1,b.2.2.1,b.2.2.2.1,b.2.2.2.2.1,b.2.2.2.2.2)) (by simp only; omega),À];have C:Ŕ ((b.1.1,b.1.2),b.2.1,b.2.2.1,b.2.2.2.1,b.2.2.2.2.1,b.2.2.2.2.2) id d=Ŕ b id d:=rfl;rw[C];unfold adu at e;rw[k] at e
   cases ha:Ŕ b id d with
   |some l =>
    rw[ha] at e;simp only at e;rw[Ñ rfl]
    try dsimp only
    rw[<-e,Ï (by omega) (by omega),Ï (by omega) (by omega)]
   |none =>
    rw[ha] at e;simp only at e;rw[Í rfl,amJ (b:=((b.1.1,b.1.2),b.2.1,b.2.2.1,b.2.2.2.1,b.2.2.2.2.1,b.2.2.2.2.2)) (by simp only; omega),À];have B:L6 ((b.1.1,b.1.2),b.2.1,b.2.2.1,b.2.2.2.1,b.2.2.2.2.1,b.2.2.2.2.2) id d=L6 b id d:=rfl;rw[B]
    cases p:L6 b id d with
    |true =>
     rw[p,if_pos rfl] at e;rw[Ñ rfl]
     try dsimp only
     rw[<-e,Ï (by omega) (by omega),Ï (by omega) (by omega)]
    |false =>
     rw[p,if_neg (by simp)] at e;rw[Í rfl,Ï (by omega) (by omega),e,gG]
  ·refine .inl fun y=>?_;unfold tU;rw[Í (by simpa[ilt] using hd)]
   have:jH b g' f d=jH b g' f t:=by
    rcases gZ t f with z|A
    ·have:d=f:=by omega
     rw[this,Bf g' (dV _),Bf g' (by omega)]
    ·have:d=t:=by omega
     rw[this]
   rw[this]
 ·rw[o] at i; cases i
end
def ab9 {b:ø} (h:Pre b) (n:Int×Int):kF b n=some (Vw b n.1 n.2):=by
 have d:=JD h.size;unfold kF Kb;rw[Jf h,À];refine Eq.trans (jn (Ø b) (fun m=>decide (n.1=m.1)&&decide (n.2=m.2)) (fun z=>some (z+1)) (some 0) (fun i a hi ha c=>?_) (fun c=>?_)) ?_
 ·try dsimp only
  unfold qm;rw[Ì hi,Ä ha,Ê hi (by omega),Ê hi (by omega),ô,Bool.and_true]
  have e:(oy a.1 n.1&&oy a.2 n.2)=(decide (n.1=a.1)&&decide (n.2=a.2)):=by
   rw[eQ];simp only[oy,dg,decide_eq_true_eq];exact and_congr eq_comm eq_comm
  rw[e]
 ·try dsimp only
  unfold qm;rw[Ó]
 ·unfold Vw i8
  cases List.findIdx? (fun m=>decide (n.1=m.1)&&decide (n.2=m.2)) (Ø b)<;>rfl
def ai4 {b:ø} (h:Pre b) (p q:BY Int) (d:Int):Vw b (Ma p q) d=atP (Ø b) (Þ p q) d:=by
 unfold Vw atP Ma
 cases f:Þ p q with
 |nil =>
  simp only[List.head?_nil,Option.getD_none]
  have:i8 (Ø b) 0 d=none:=by
   unfold i8;rw[List.findIdx?_eq_none_iff];intro n a;obtain⟨g,c,a⟩:=List.mem_flatMap.1 a;obtain⟨e,_,rfl⟩:=List.mem_map.1 a;have:=((wx g).1 (h.gauge g c)).2.2.2.1
   have:¬((0:Int)=g.1):=by omega
   simp[this]
  rw[this]
 |cons x t=>rfl
section
variable {b:ø}
def alu {k:Nat} (e:k<(Ø b).length):∃(i:Nat) (g:è) (j:Nat) (d:Int),b.2.1[i]?=some g/\(Ü b g)[j]?=some d/\k=off b i+j/\(Ø b)[k]?=some (g.1,d):=by
 obtain⟨i,g,j,c,h2,a⟩:=aeK (b:=b) b.2.1.length (dh _) k (by rw[aim]; exact e);have hd:(Ü b g)[j]?=some (Ü b g)[j]:=df h2;exact⟨i,g,j,_,c,hd,a,by rw[a]; exact Nj c hd⟩
def afV (h:ţ b) {i j:Nat} {g g':è} (hi:b.2.1[i]?=some g) (e:b.2.1[j]?=some g') (f:g.1=g'.1):i=j/\g=g':=by
 obtain⟨d,rfl⟩:=dj.1 hi;obtain⟨h2,rfl⟩:=dj.1 e;have c:=dP.1 h.ids;rcases Nat.lt_trichotomy i j with a|rfl|a
 ·have:=c i j d h2 a; omega
 ·exact⟨rfl,rfl⟩
 ·have:=c j i h2 d a; omega
def sc (b:ø) (i:Nat) (g:è) (k:Nat):BY Lk :=
 if k<=off b i then[] else[(0,(off b i:Int)+1,g.2.2.1+g.2.2.2.1.2),((off b i:Int)+1,0,-(g.2.2.1+g.2.2.2.1.1))] ++
  (List.range (min (k-off b i-1) ((Ü b g).length-1))).flatMap fun(k:Nat)=>[((off b i:Int)+1+k,(off b i:Int)+1+k+1,0),((off b i:Int)+1+k+1,(off b i:Int)+1+k,jH b g ((Ü b g)[k]?.getD 0) ((Ü b g)[k+1]?.getD 0))]
def jh (b:ø) (i:Nat) (g:è) (k:Nat):BY (Int×Int) :=
 if k<=off b i then[] else[(1,(i:Int)),(1,(i:Int))]++(List.range (min (k-off b i-1) ((Ü b g).length-1))).flatMap fun _=>[(2,(i:Int)),(2,(i:Int))]
def agr (h:ţ b) {i:Nat} {g:è} (a:b.2.1[i]?=some g):sc b i g (Ø b).length=ö b g/\jh b i g (Ø b).length=ĕ b i g:=by
 have d:=ail h a;have c:=f9 (oz (b:=b) g)
 have e:min ((Ø b).length-off b i-1) ((Ü b g).length-1)=(Ü b g).length-1:=by omega
 unfold sc jh ö ĕ;rw[if_neg (by omega),if_neg (by omega),e,afv h a];exact⟨rfl,rfl⟩
def abu {i:Nat} {g:è} {k:Nat} (a:k<off b i\/off b i+(Ü b g).length<=k) (c:0<(Ü b g).length):sc b i g (k+1)=sc b i g k/\jh b i g (k+1)=jh b i g k:=by
 unfold sc jh;rcases a with a|a
 ·rw[if_pos (by omega),if_pos (by omega),if_pos (by omega),if_pos (by omega)];exact⟨rfl,rfl⟩
 ·have e:min (k+1-off b i-1) ((Ü b g).length-1)=min (k-off b i-1) ((Ü b g).length-1):=by omega
  rw[if_neg (by omega),if_neg (by omega),if_neg (by omega),if_neg (by omega),e];exact⟨rfl,rfl⟩
def abv {i:Nat} {g:è}:sc b i g (off b i+1)=sc b i g (off b i)++[(0,(off b i:Int)+1,g.2.2.1+g.2.2.2.1.2),((off b i:Int)+1,0,-(g.2.2.1+g.2.2.2.1.1))]/\jh b i g (off b i+1)=jh b i g (off b i)++[(1,(i:Int)),(1,(i:Int))]:=by
 unfold sc jh;rw[if_neg (by omega),if_pos (Nat.le_refl _),if_neg (by omega),if_pos (Nat.le_refl _),show off b i+1-off b i-1=0 by omega,Nat.zero_min];exact⟨by simp,by simp⟩
def adl {i:Nat} {g:è} {j:Nat} (a:j+1<(Ü b g).length):sc b i g (off b i+(j+1)+1)=sc b i g (off b i+(j+1))++[((off b i:Int)+1+j,(off b i:Int)+1+j+1,0),((off b i:Int)+1+j+1,(off b i:Int)+1+j,jH b g ((Ü b g)[j]?.getD 0) ((Ü b g)[j+1]?.getD 0))] /\
 jh b i g (off b i+(j+1)+1)=jh b i g (off b i+(j+1))++[(2,(i:Int)),(2,(i:Int))]:=by
 unfold sc jh;rw[if_neg (by omega),if_neg (by omega),if_neg (by omega),if_neg (by omega),show min (off b i+(j+1)+1-off b i-1) ((Ü b g).length-1)=j+1 by omega,show min (off b i+(j+1)-off b i-1) ((Ü b g).length-1)=j by omega,vh,vh];exact⟨by simp,by simp⟩
def agq (i:Nat) (g:è) (k:Nat) (hd:(Ü b g).length<=59):(sc b i g k).length<=120/\(jh b i g k).length<=120:=by
 unfold sc jh;constructor
 ·split
  ·simp
  ·rw[di,iZ _ _ (fun _=>rfl)];simp only[dr,dO]; omega
 ·split
  ·simp
  ·rw[di,iZ _ _ (fun _=>rfl)];simp only[dr,dO]; omega
set_option maxHeartbeats 1000000 in
def ahD (h:ţ b) {i:Nat} {g:è} (B:b.2.1[i]?=some g) {L:BY Lk} {S:BY (Int×Int)} (hL:L.length<=100000) (hS:S.length<=100000) (K:BY Lk×BY (Int×Int)->BE (BY Lk×BY (Int×Int))) :
 Ë (fun(p:Int×BY Lk×BY (Int×Int)) s=>rN (Ø b) (i:Int) b.1.1 b.1.2 b.2.1 b.2.2.1 b.2.2.2.1 b.2.2.2.2.1 b.2.2.2.2.2 g.1 g.2.1 g.2.2.1 g.2.2.2.1.1 g.2.2.2.1.2 p.1 p.2.1 p.2.2 (fun E D C=>s (E,D,C)) K) ((0:Int),L,S)=K (L++ö b g,S++ĕ b i g):=by
 have hN:=h.nodes;have c:=dk B;have P:=I2 h c;have Z:=f9 (oz (b:=b) g);have U:=h.gaugeR c;have r1:=U.2.2.2.2.2.1;have r2:=U.2.2.2.2.2.2.1;obtain⟨tl,u⟩:=RB h c;refine ï (Ø b) (fun k=>(L++sc b i g k,S++jh b i g k)) _ (by simp[sc,jh]) (fun k n f z X=>?_) (fun X=>?_)
 ·try dsimp only
  unfold rN;have gl:=agq (b:=b) i g k P;rw[Ì f,Ä z];obtain⟨Y,g',j,d,R,h2,W,V⟩:=alu f
  have y:n=(g'.1,d):=by rw[z] at V; exact Option.some.inj V
  by_cases a:n.1=g.1
  ·obtain⟨M,O⟩:=afV h R B (by rw[y] at a; exact a);subst O;have J:Y=i:=M;rw[J] at W R;rw[Í (by simp[ine,a]),Ä z]
   have A:n.2=d:=by rw[y]
   rw[A]
   cases j with
   |zero =>
    have r:d=g'.2.1:=by rw[u] at h2; simpa using h2.symm
    have q:k=off b i:=by omega
    rw[Ñ (by simp[ieq,r])];obtain⟨o,l⟩:=abv (b:=b) (i:=i) (g:=g');rw[<-q] at o l;rw[Ê f (by omega),Ï (by omega) (by omega),Ê f (by omega),Ï (by omega) (by omega),Ï (by omega) (by omega),Ò (by simp only[di,dr,dO]; omega),Am.iff_true,Ò (by simp only[di,dr,dO]; omega),Am.iff_true,Ê f (by omega),o,l]
    have T:0-g'.2.2.1-g'.2.2.2.1.1 = -(g'.2.2.1+g'.2.2.2.1.1):=by omega
    rw[T];simp only[dp]
   |succ j =>
    have I:=(dj.1 h2).1
    have r:d≠g'.2.1:=by
     have v:=sk b g';rw[u] at h2 v;rw[fB] at h2;have:=(dN.1 v).1 d (dk h2);omega
    rw[Í (by simpa[ieq] using r)]
    have e:(Ü b g')[j]?=some ((Ü b g')[j]?.getD 0):=by rw[df (by omega)]; rfl
    have Q:d=(Ü b g')[j+1]?.getD 0:=by rw[h2]; rfl
    have F:=Nj R e;have d1:=h.day c (dk e);have d2:=h.day c (dk h2);have q:k=off b i+(j+1):=W;obtain⟨o,l⟩:=adl (b:=b) (i:=i) (g:=g') I;rw[<-q] at o l
    have H:((k:Int)-1)=((off b i+j:Nat):Int):=by omega
    have lb:=jT h c (t:=d) d1.2.1;rw[RE (by omega) (by omega),H,Ä F,Ä z,A]
    try dsimp only
    rw[show wC ((b.1.1,b.1.2),b.2.1,b.2.2.1,b.2.2.2.1,b.2.2.2.2.1,b.2.2.2.2.2) g'.1 ((Ü b g')[j]?.getD 0) d=wC b g'.1 ((Ü b g')[j]?.getD 0) d from rfl,amM h (sa h.ids c) ⟨by omega,by omega⟩ (by omega),À,Ê f (by omega),Ê f (by omega),Ò (by simp only[di,dr,dO]; omega),Am.iff_true,Ò (by simp only[di,dr,dO]; omega),Am.iff_true,Ê f (by omega),o,l,<-Q]
    have T:(off b i:Int)+1+(j:Int)=(k:Int):=by omega
    rw[T];simp only[dp]
  ·rw[Ñ (by simp[ine,a]),Ê f (by omega)]
   have x:k<off b i\/off b i+(Ü b g).length<=k:=by
    rcases dv k (off b i) with G|hge
    ·exact .inl G
    ·rcases dv k (off b i+(Ü b g).length) with hlt2|hge2
     ·have:=Nj B (k:=k-off b i) (df (by omega));rw[show off b i+(k-off b i)=k by omega,z] at this;exact absurd (by rw[Option.some.inj this]) a
     ·exact .inr hge2
   obtain⟨o,l⟩:=abu x Z;rw[o,l]
 ·try dsimp only
  unfold rN;rw[Ó];obtain⟨o,l⟩:=agr h B;rw[o,l]
end
def abz {α β:Type} {e:Nat->α->BE β}:∀{l:BY α} {k i:Nat} {a:α} {b:β},(∀j c,j<i->l[j]?=some c->e (k+j) c=none)->l[i]?=some a->e (k+i) a=some b->Ĝ e k l=some b
 |[],_,_,_,_,_,ha,_=>by simp at ha
 |c::t,k,0,a,b,_,ha,hb=>by
  simp only[List.getElem?_cons_zero,Option.some.injEq] at ha;subst ha;unfold Ĝ;rw[Nat.add_zero] at hb;rw[hb]
 |c::t,k,i+1,a,b,h,ha,hb=>by
  unfold Ĝ;have h0:=h 0 c (by omega) rfl;rw[Nat.add_zero] at h0;rw[h0];refine abz (i:=i) (fun j d f hd=>?_) (by simpa using ha) (by rw[<-hb]; congr 1; omega);have:=h (j+1) d (by omega) (by simpa using hd);rw[<-this];congr 1;omega
def FN {ρ α β:Type} (l:BY α) (e:Nat->α->BE β) (k0:β->BE ρ) (k1:BE ρ) {f:Int->(Int->BE ρ)->BE ρ}
 (h:∀(i:Nat) (a:α),i<l.length->l[i]?=some a->∀n,f i n=match e i a with|some b=>k0 b|none=>n ((i:Int)+1))
 (t:(∀j a,l[j]?=some a->e j a=none)->∀n,f l.length n=k1):Ë f 0=match Ĝ e 0 l with|some b=>k0 b|none=>k1:=by
 refine ð (fun x:Int=>∃i:Nat,i<=l.length/\x=i/\∀j a,j<i->l[j]?=some a->e j a=none) (fun x=>l.length-x.toNat) ?_ ⟨0,by omega,rfl,fun j a r=>by omega⟩;rintro x ⟨i,hi,rfl,q⟩;rcases dv i l.length with g|u
 ·have ha:l[i]?=some l[i]:=df g
  cases p:e i l[i] with
  |some b =>
   refine .inl fun n=>?_;rw[h i _ g ha,p,abz (k:=0) (b:=b) (fun j c r p=>by rw[dQ]; exact q j c r p) ha (by rw[dQ]; exact p)]
  |none =>
   refine .inr ⟨((i+1:Nat):Int),⟨i+1,g,rfl,fun j a r d=>?_⟩,by simp only[dt]; omega,fun n=>?_⟩
   ·rcases dv j i with s|s
    ·exact q j a s d
    ·have:j=i:=by omega
     subst this;rw[ha] at d;rw[<-Option.some.inj d]; exact p
   ·rw[h i _ g ha,p];simp
 ·have:i=l.length:=by omega
  subst this;refine .inl fun n=>?_;have o:∀j a,l[j]?=some a->e j a=none:=fun j a d=>q j a (dj.1 d).1 d;rw[t o n,ź.2 fun j a d=>by rw[dQ]; exact o j a d]
def abD {e:Int}:KT e=none↔e=0:=by
 unfold KT
 split<;>simp_all
section
variable {b:ø}
def Vz (h:ţ b):∀i,((b.2.1.take i).flatMap (ö b)).length<=1440/\(((b.2.1.take i).mapIdx (ĕ b)).flatten).length<=1440:=by
 have f:=h.nG
 have e:∀g∈b.2.1,(ö b g).length<=120/\∀i,(ĕ b i g).length<=120:=by
  intro g a;have:=I2 h a;constructor
  ·unfold ö;rw[List.length_append,iZ _ _ (fun _=>rfl)];simp only[List.length_cons,List.length_nil]; omega
  ·intro i;unfold ĕ;rw[List.length_append,iZ _ _ (fun _=>rfl)];simp only[List.length_cons,List.length_nil]; omega
 have key:∀i,i<=b.2.1.length->((b.2.1.take i).flatMap (ö b)).length<=i*120/\(((b.2.1.take i).mapIdx (ĕ b)).flatten).length<=i*120:=by
  intro i
  induction i with
  |zero=>intro _; simp
  |succ i c =>
   intro hi;have c:=c (by omega);have a:b.2.1[i]?=some b.2.1[i]:=df hi;have h2:=e _ (dk a);have j:=h2.2 i;rw[jJ _ a,take_succ a,eW,gT,di,di];simp only[dF,gq,dB,ik,iq];omega
 intro i;rcases dv b.2.1.length i with d|d
 ·rw[eo (by omega)];have:=key b.2.1.length (dh _);rw[fI] at this;omega
 ·have:=key i d;omega
set_option maxHeartbeats 1000000 in
def akE (h:ţ b):yp b=some (Τ b,Nf b):=by
 have p:=h.nC;have o:=h.nG;unfold yp Xm;rw[Jf h.pre,À];refine ï b.2.1 (fun i=>((b.2.1.take i).flatMap (ö b),((b.2.1.take i).mapIdx (ĕ b)).flatten)) _ rfl (fun i g hi e j=>?_) (fun j=>?_)
 ·try dsimp only
  unfold xA;have d:=Vz h i;rw[Ì hi,Ä e];refine Eq.trans (ahD h e (by omega) (by omega) _) ?_;rw[Ê hi (by omega),jJ _ e,take_succ e,List.flatMap_append,List.flatten_append];simp only[List.flatMap_cons,List.flatMap_nil,List.append_nil,List.flatten_cons,List.flatten_nil]
 ·try dsimp only
  unfold xA;rw[Ó,List.take_length];dsimp only;have d:=Vz h b.2.1.length;rw[List.take_length] at d;refine ï b.2.2.2.2.1 (fun i=>(b.2.1.flatMap (ö b)++(b.2.2.2.2.1.take i).flatMap (ĺ b),(b.2.1.mapIdx (ĕ b)).flatten++((b.2.2.2.2.1.take i).mapIdx fun i _=>[((3:Int),(i:Int)),((3:Int),(i:Int))]).flatten)) _ (by simp) (fun i c hi f j=>?_) (fun j=>?_)
  ·try dsimp only
   unfold xz;have a:=List.mem_of_getElem? f;have k:=(ű c).1 (h.nums a);have ha:=ō k.2.2.2.2.2.1;have hb:=ō k.2.2.2.2.2.2;have l:=ag5 (b:=b) i (by omega);have n:=wV h a;rw[Ì hi,Ä f,K9 (by omega) (by omega),À];rw[show kF ((b.1.1,b.1.2),b.2.1,b.2.2.1,b.2.2.2.1,b.2.2.2.2.1,b.2.2.2.2.2) (Ma c.2.2.1 c.2.2.2.1,c.2.1)=kF b (Ma c.2.2.1 c.2.2.2.1,c.2.1) from rfl,ab9 h.pre,À,K9 (by omega) (by omega),À];rw[show kF ((b.1.1,b.1.2),b.2.1,b.2.2.1,b.2.2.2.1,b.2.2.2.2.1,b.2.2.2.2.2) (Ma c.2.2.2.1 c.2.2.1,c.2.1)=kF b (Ma c.2.2.2.1 c.2.2.1,c.2.1) from rfl,ab9 h.pre,À];rw[show wB ((b.1.1,b.1.2),b.2.1,b.2.2.1,b.2.2.2.1,b.2.2.2.2.1,b.2.2.2.2.2) c=wB b c from rfl,amK h.size h.film (h.cmpIn a),À];rw[Ï (by omega) (by omega),Ò (by simp only[List.length_append,List.length_cons,List.length_nil]; omega),Am.iff_true,Ò (by simp only[List.length_append,List.length_cons,List.length_nil]; omega),Am.iff_true,Ê hi (by omega)];rw[jJ _ f,take_succ f,List.flatMap_append,List.flatten_append,ai4 h.pre,ai4 h.pre];simp only[List.flatMap_cons,List.flatMap_nil,List.append_nil,List.flatten_cons,List.flatten_nil,List.append_assoc];rw[Int.zero_sub];rfl
  ·try dsimp only
   unfold xz;rw[Ó,List.take_length];rfl
def lP (b:ø) (i:Nat) (c:Cmp):Int:=if !JC c then 1 else if (b.2.2.2.2.1.take i).any (fun x=>x.1==c.1) then 6 else De b c
def VL (hi:b.2.1.Pairwise fun a b=>a.1<b.1) (i:Nat) (c:Cmp):lP b i c=lQ b (ŗ b) i c:=by
 unfold lP lQ;rw[alm hi]
def anw (b:ø):Int:=match (b.2.2.2.2.1.mapIdx (lP b)).find? (fun e=>e != 0) with
 |some e=>e
 |none=>match (b.2.2.2.2.2.map (Zj b)).find? (fun e=>e != 0) with
  |some e=>e
  |none=>if 59<(Ø b).length then 2 else if 300<2*b.2.1.length+2*((Ø b).length-b.2.1.length:Int)+2*b.2.2.2.2.1.length then 2 else 0
def ajd {α:Type} {l:BY α} {E:α->Int} (h:(l.map E).find? (fun e=>e != 0)=none):∀a∈l,E a=0:=by
 intro a ha;have:=eD.1 h (E a) (dH.2 ⟨a,ha,rfl⟩);simpa using this
def ags {α:Type} {l:BY α} {E:Nat->α->Int} (h:(l.mapIdx E).find? (fun e=>e != 0)=none):∀i a,l[i]?=some a->E i a=0:=by
 intro i a ha;obtain⟨hi,rfl⟩:=dj.1 ha;have:=eD.1 h (E i l[i]) (ix.2 ⟨i,hi,rfl⟩);simpa using this
def YK {i:Nat} {c:Cmp} (h:lP b i c=0):JC c=true/\(Þ c.2.2.1 c.2.2.2.1).length<=1/\(Þ c.2.2.2.1 c.2.2.1).length<=1:=by
 unfold lP at h
 split at h
 ·omega
 rename_i a
 split at h
 ·omega
 unfold De at h
 (repeat' split at h)<;>first|omega|exact⟨by simpa using a,by omega,by omega⟩
set_option maxHeartbeats 4000000 in
def anv (M:jp b) (s:0<=b.1.1/\b.1.1<=b.1.2/\b.1.2<=1000000) (nG:b.2.1.length<=12) (nU:b.2.2.1.length<=40) (nL:b.2.2.2.1.length<=12) (nC:b.2.2.2.2.1.length<=40) (nK:b.2.2.2.2.2.length<=10)
 (W:∀g∈b.2.1,rZ g=true) (hi:b.2.1.Pairwise fun a b=>a.1<b.1) (Y:∀u∈b.2.2.1,Zj b u=0) (hl:∀i l,b.2.2.2.1[i]?=some l->T5 b i l=0) :
 Ë (fun(E:Int) t=>kr b.1.1 b.1.2 b.2.1 b.2.2.1 b.2.2.2.1 b.2.2.2.2.1 b.2.2.2.2.2 E (fun G=>t G) (fun D=>some D) (fun _=>Ë (fun(F:Int) v=>kq b.1.1 b.1.2 b.2.1 b.2.2.1 b.2.2.2.1 b.2.2.2.2.1 b.2.2.2.2.2 F (fun H=>v H) (fun C=>some C) (fun _=>Æ (kE b) fun J=>ifb (igt (Õ J) (59:Int)) (some (2:Int)) (Æ (yp b) fun I=>ifb (igt (Õ I.1) (300:Int)) (some (2:Int)) (some (0:Int))))) (0:Int))) (0:Int)=some (anw b):=by
 unfold anw
 refine ej (FN b.2.2.2.2.1 (fun i c=>KT (lP b i c)) some (some (match (b.2.2.2.2.2.map (Zj b)).find? (fun e=>e != 0) with
  |some e=>e
  |none=>if 59<(Ø b).length then 2 else if 300<2*b.2.1.length+2*((Ø b).length-b.2.1.length:Int)+2*b.2.2.2.2.1.length then 2 else 0)) (fun i c A o U=>?_) (fun S U=>?_)) ?_
 ·try dsimp only
  unfold kr;have V:=M.piles c (List.mem_of_getElem? o);rw[Ì A,Ä o,aky (by omega) (by omega),À];unfold lP KT
  cases JC c with
  |false=>rfl
  |true =>
   rw[Í (by rfl)]
   have y:(b.2.2.2.2.1.take i).length=i:=by rw[du]; omega
   refine ej (ē (b.2.2.2.2.1.take i) (fun x=>x.1==c.1) (fun _=>some 6) (some 6) (if De b c=0 then U ((i:Int)+1) else some (De b c)) (fun _=>rfl) (fun j a r ha p=>?_) (fun p=>?_)) ?_
   ·try dsimp only
    unfold qn;rw[y] at r
    have T:b.2.2.2.2.1[j]?=some a:=by rwa [List.getElem?_take_of_lt r] at ha
    rw[Ñ (show ilt (j:Int) (i:Int)=true by simp[ilt]; omega),Ä T,Ä o,Ê r (by omega),ô]
   ·try dsimp only
    unfold qn;rw[y,Í (show ilt (i:Int) (i:Int)=false by simp[ilt])];dsimp only;rw[Ä o,show kB ((b.1.1,b.1.2),b.2.1,b.2.2.1,b.2.2.2.1,b.2.2.2.2.1,b.2.2.2.2.2) c=kB b c from rfl,ab8 M V.1 V.2,À,Ê A (by omega)]
    by_cases d:De b c=0
    ·rw[Í (by simp[ine,d]),if_pos d]
    ·rw[Ñ (by simp[ine,d]),if_neg d]
   ·cases X:(b.2.2.2.2.1.take i).any (fun x=>x.1==c.1) with
    |true=>simp
    |false =>
     by_cases d:De b c=0
     ·simp[d]
     ·simp[d]
 ·try dsimp only
  unfold kr;rw[Ó];dsimp only;have k:∀i c,b.2.2.2.2.1[i]?=some c->lP b i c=0:=fun i c o=>abD.1 (S i c o);refine Eq.trans (FN b.2.2.2.2.2 (fun _ u=>KT (Zj b u)) some (some (if 59<(Ø b).length then 2 else if 300<2*b.2.1.length+2*((Ø b).length-b.2.1.length:Int)+2*b.2.2.2.2.1.length then 2 else 0)) (fun i a z ha p=>?_) (fun O p=>?_)) ?_
  ·try dsimp only
   unfold kq;rw[Ì z,Ä ha,Zb,À];unfold Zj KT
   cases C6 a.2 with
   |false=>rfl
   |true =>
    rw[Í (by rfl),Ä ha,Ä ha,BK (b:=((b.1.1,b.1.2),b.2.1,b.2.2.1,b.2.2.2.1,b.2.2.2.2.1,b.2.2.2.2.2)) (by simp only; omega),À,Ê z (by omega)];have e:Ņ ((b.1.1,b.1.2),b.2.1,b.2.2.1,b.2.2.2.1,b.2.2.2.2.1,b.2.2.2.2.2) a.1 a.2=Ņ b a.1 a.2:=rfl;rw[e]
    by_cases d:Ņ b a.1 a.2=0
    ·rw[Í (by simp[ine,d])]; simp[d]
    ·rw[Ñ (by simp[ine,d])]; simp[d]
  ·try dsimp only
   unfold kq;rw[Ó];dsimp only
   have h:∀u∈b.2.2.2.2.2,Zj b u=0:=fun u f=>by
    obtain⟨j,r,rfl⟩:=dw.1 f;exact abD.1 (O j _ (df r))
   have K:Pre b:=⟨M,W,fun c o=>by
    obtain⟨j,r,rfl⟩:=dw.1 o;have q:=YK (k j _ (df r))
    exact⟨aam q.1,q.2⟩,fun n Z=>by
    have:=h n Z;unfold Zj at this
    split at this
    ·omega
    ·rename_i hd; simpa using hd⟩
   rw[Jf K,À,Î]
   by_cases B:59<(Ø b).length
   ·rw[Ñ (by simp[igt]; omega),if_pos B]
   ·rw[Í (by simp[igt]; omega),if_neg B];have good:ţ b:=⟨s,nG,nU,nL,nC,nK,W,hi,fun u f=>by rw[<-ad3 hi]; exact Y u f,fun i l Q=>by rw[<-aiN hi]; exact hl i l Q,fun i c R=>by rw[<-VL hi]; exact k i c R,fun u f=>by rw[<-ad3 hi]; exact h u f,by omega,by omega⟩;have P:=abi good;rw[akE good,À,Î];dsimp only;rw[P,Í (by simp[igt]; omega),if_neg (by omega)]
  ·rw[Rl]
   cases(b.2.2.2.2.2.map (Zj b)).find? (fun e=>e != 0)<;>rfl
 ·rw[Rk (lP b)]
  cases(b.2.2.2.2.1.mapIdx (lP b)).find? (fun e=>e != 0)<;>rfl
end
def YA {l m:BY Int}:(l++m).find? (fun e=>e != 0)=match l.find? (fun e=>e != 0) with|some e=>some e|none=>m.find? (fun e=>e != 0):=by
 rw[List.find?_append]
 cases l.find? (fun e=>e != 0)<;>rfl
set_option maxHeartbeats 4000000 in
def akJ {b:ø} (p:jp b):Cp b=some (ş b):=by
 unfold Cp Ke ş;rw[yG,À]
 cases k:j8 b.1 0 1000000 with
 |false=>rfl
 |true =>
 have d:0<=b.1.1/\b.1.1<=b.1.2/\b.1.2<=1000000:=by
  simp only[j8,dg,decide_eq_true_eq] at k;exact k
 rw[Í (show(!true)=false from rfl),if_neg (by simp)];rw[Î b.2.1,Î b.2.2.1,Î b.2.2.2.1,Î b.2.2.2.2.1,Î b.2.2.2.2.2]
 by_cases c0:12<b.2.1.length
 ·rw[Ñ (by simp[igt]; omega),if_pos c0]
 rw[Í (by simp[igt]; omega),if_neg c0]
 by_cases B:40<b.2.2.1.length
 ·rw[Ñ (by simp[igt]; omega),if_pos B]
 rw[Í (by simp[igt]; omega),if_neg B]
 by_cases A:12<b.2.2.2.1.length
 ·rw[Ñ (by simp[igt]; omega),if_pos A]
 rw[Í (by simp[igt]; omega),if_neg A]
 by_cases z:40<b.2.2.2.2.1.length
 ·rw[Ñ (by simp[igt]; omega),if_pos z]
 rw[Í (by simp[igt]; omega),if_neg z]
 by_cases y:10<b.2.2.2.2.2.length
 ·rw[Ñ (by simp[igt]; omega),if_pos y]
 rw[Í (by simp[igt]; omega),if_neg y]
 refine ej (FN b.2.1 (pQ b.2.1) some (some (match (zy b (ŗ b)).find? (fun e=>e != 0) with
  |some e=>e
  |none=>if 59<(Ø b).length then 2 else if 300<2*b.2.1.length+2*((Ø b).length-b.2.1.length:Int)+2*b.2.2.2.2.1.length then 2 else 0)) (fun i g hi o C=>?_) (fun D C=>?_)) ?_
 ·try dsimp only
  unfold qo;rw[Ì hi,Ä o,akA,À];unfold pQ
  cases rZ g with
  |false=>rfl
  |true =>
   rw[Í (by rfl)];rcases fM i with h0|h0
   ·subst h0
    have:igt ((0:Nat):Int) 0=false:=by simp[igt]
    rw[Í this,Ê hi (by omega)];simp[lZ]
   ·obtain⟨q,x⟩:=vk hi h0
    have v:igt (i:Int) 0=true:=by simp[igt]; omega
    rw[Ñ v,Ä o,RE h0 (by omega),Iw h0 x];simp only[lZ,h0,decide_true,Bool.true_and,x,Option.any_some];unfold ile
    cases h2:decide (g.1<=q.1) with
    |true=>simp
    |false=>rw[æ,Ê hi (by omega)]; simp
 ·try dsimp only
  unfold qo;rw[Ó];dsimp only
  have s:jU b=0:=by
   unfold jU;rw[ź.2 fun j a ha=>by rw[Nat.zero_add]; exact D j a ha];rfl
  obtain⟨o,hi⟩:=(yi b).1 s;have G:b.2.2.1.map (Zj b)=b.2.2.1.map fun u=>ack (ŗ b) u.1 u.2:=List.map_congr_left fun u _=>ad3 hi u;have H:b.2.2.2.1.mapIdx (T5 b)=b.2.2.2.1.mapIdx fun i l=>MZ b (ŗ b) i l:=List.mapIdx_eq_mapIdx_iff.2 fun i K=>aiN hi i _;have J:b.2.2.2.2.1.mapIdx (lP b)=b.2.2.2.2.1.mapIdx fun i c=>lQ b (ŗ b) i c:=List.mapIdx_eq_mapIdx_iff.2 fun i M=>VL hi i _;have I:b.2.2.2.2.2.map (Zj b)=b.2.2.2.2.2.map fun u=>ack (ŗ b) u.1 u.2:=List.map_congr_left fun u _=>ad3 hi u;unfold zy;rw[<-G,<-H,<-J,<-I,YA,YA,YA,amE p,À]
  cases h:(b.2.2.1.map (Zj b)).find? (fun e=>e != 0) with
  |some e =>
   have f:e≠0:=by have:=fS h; simpa using this
   simp only[f5];rw[Í (by simpa[ieq] using f),Ñ (by simpa[ine] using f)]
  |none =>
   simp only[Option.getD_none];rw[Ñ (by rfl),akz p,À]
   cases n:(b.2.2.2.1.mapIdx (T5 b)).find? (fun e=>e != 0) with
   |some e =>
    have f:e≠0:=by have:=fS n; simpa using this
    simp only[f5];rw[Ñ (by simpa[ine] using f)]
   |none =>
    simp only[Option.getD_none];rw[Í (by rfl)];refine Eq.trans (anv p d (by omega) (by omega) (by omega) (by omega) (by omega) o hi (ajd h) (ags n)) ?_;unfold anw
    cases(b.2.2.2.2.1.mapIdx (lP b)).find? (fun e=>e != 0)<;>rfl
 ·unfold jU
  cases t:Ĝ (pQ b.2.1) 0 b.2.1 with
  |none =>
   simp
   cases(zy b (ŗ b)).find? (fun e=>e != 0)<;>rfl
  |some e =>
   have f:jU b=e:=by unfold jU; rw[t]; rfl
   have r:e≠0:=by
    intro h0;rw[h0] at f;obtain⟨v,h2⟩:=(yi b).1 f
    have F:∀j a,b.2.1[j]?=some a->pQ b.2.1 j a=none:=by
     intro j a ha;have E:=(Jd (fun g:è=>g.1) b.2.1).2 h2 j a ha;simp[pQ,v a (dk ha),E]
    rw[ź.2 fun j a ha=>by rw[dQ]; exact F j a ha] at t;cases t
   simp[r]
def bigP (c:Cmp):Bool:=decide (9<c.2.2.1.length)||decide (9<c.2.2.2.1.length)
def N0 (m:Ŋ):Bool:=decide (m.1.2.1.length<=6)&&(decide (m.1.2.2.1.length<=20)&&(decide (m.1.2.2.2.1.length<=6)&&(decide (m.1.2.2.2.2.1.length<=8)&&(decide (m.1.2.2.2.2.2.length<=6)&&decide (m.2.length<=6)))))
def Zx (m:Ŋ):Bool:=!((m.1.2.2.2.2.1.take 60).any bigP)&&(!((m.2.take 8).any fun x=>decide (9<x.2.length))&&N0 m)
def ahN (m:Ŋ):Ce m=some (Zx m):=by
 unfold Ce JH
 have last:(ifb (ile (Õ m.1.2.1) (6:Int)) (ifb (ile (Õ m.1.2.2.1) (20:Int)) (ifb (ile (Õ m.1.2.2.2.1) (6:Int)) (ifb (ile (Õ m.1.2.2.2.2.1) (8:Int)) (ifb (ile (Õ m.1.2.2.2.2.2) (6:Int)) (some (ile (Õ m.2) (6:Int))) (some false)) (some false)) (some false)) (some false)) (some false))=some (N0 m):=by
  have e:∀(n m:Nat),ile (n:Int) (m:Int)=decide (n<=m):=fun n m=>by simp[ile]
  unfold N0;rw[Î,Î,Î,Î,Î,Î,show(6:Int)=((6:Nat):Int) from rfl,show(20:Int)=((20:Nat):Int) from rfl,show(8:Int)=((8:Nat):Int) from rfl,e,e,e,e,e,e];generalize decide (m.1.2.1.length<=6)=s;generalize decide (m.1.2.2.1.length<=20)=r;generalize decide (m.1.2.2.2.1.length<=6)=q;generalize decide (m.1.2.2.2.2.1.length<=8)=p;generalize decide (m.1.2.2.2.2.2.length<=6)=o
  cases s<;>cases r<;>cases q<;>cases p<;>cases o<;>rfl
 rw[last];refine ej (ē (m.1.2.2.2.2.1.take 60) bigP (fun _=>some false) (some false) (some (!((m.2.take 8).any fun x=>decide (9<x.2.length))&&N0 m)) (fun _=>rfl) (fun i c hi l t=>?_) (fun t=>?_)) ?_
 ·try dsimp only
  unfold pT;rw[List.length_take] at hi
  have a:m.1.2.2.2.2.1[i]?=some c:=by rw[eF] at l; split at l<;>simp_all
  rw[Ì (show i<m.1.2.2.2.2.1.length by omega),Ñ (by simp[ilt]; omega),Ä a,Ä a,Ï (by omega) (by omega),ô,Î,Î];unfold bigP
  by_cases d:9<c.2.2.1.length
  ·rw[if_pos (by simp[igt]; omega),if_pos (by simp[d])]
  ·rw[if_neg (by simp[igt]; omega),ô]
   by_cases h2:9<c.2.2.2.1.length
   ·rw[if_pos (by simp[igt]; omega),if_pos (by simp[h2])]
   ·rw[if_neg (by simp[igt]; omega),if_neg (by simp[d,h2])]
 ·refine ej ?_ (ej (ē (m.2.take 8) (fun x=>decide (9<x.2.length)) (fun _=>some false) (some false) (some (N0 m)) (f:=fun v y=>mA m.2 v (fun u=>y u) (fun z=>some z) (fun _=>some (N0 m))) (fun _=>rfl) (fun i x hi k g=>?_) (fun g=>?_)) ?_)
  ·try dsimp only
   unfold pT;rw[List.length_take,ô]
   split
   ·rename_i h
    have h':60<m.1.2.2.2.2.1.length:=by rw[Î] at h; simp[ilt] at h; omega
    rw[Í (by simp[ilt]; omega)]
   ·rfl
  ·try dsimp only
   unfold mA;rw[List.length_take] at hi
   have j:m.2[i]?=some x:=by rw[eF] at k; split at k<;>simp_all
   rw[Ì (show i<m.2.length by omega),Ñ (by simp[ilt]; omega),Ä j,Ï (by omega) (by omega),ô,Î]
   by_cases d:9<x.2.length
   ·rw[if_pos (by simp[igt]; omega),if_pos (by simp[d])]
   ·rw[if_neg (by simp[igt]; omega),if_neg (by simp[d])]
  ·try dsimp only
   unfold mA;rw[List.length_take,ô]
   split
   ·rename_i h
    have h':8<m.2.length:=by rw[Î] at h; simp[ilt] at h; omega
    rw[Í (by simp[ilt]; omega)]
   ·rfl
  ·cases List.any (List.take 8 m.2) (fun x=>decide (9<x.2.length))<;>rfl
 ·unfold Zx
  cases List.any (List.take 60 m.1.2.2.2.2.1) bigP<;>rfl
structure Small7 (m:Ŋ):Prop where
 inn:In m.1
 n6:m.2.length<=6
 l9:∀x∈m.2,x.2.length<=9
 c8:m.1.2.2.2.2.1.length<=8
def ahO {m:Ŋ} (h:Zx m=true) (e:∀g∈m.1.2.1,I64 g.2.2.2.2.1.1):Small7 m:=by
 simp only[Zx,N0,dg,eO,decide_eq_true_eq] at h;obtain⟨h0,a,h2,n,l,j,k,i⟩:=h;refine⟨⟨⟨by omega,by omega,by omega,by omega,by omega,fun c f=>?_⟩,e⟩,i,fun x d=>?_,j⟩
 ·rw[eo (by omega)] at h0;have:=ee.1 h0 c f;simp[bigP] at this;omega
 ·rw[eo (by omega)] at a;have:=ee.1 a x d;simp at this;omega
def alo (w:Way) (n:Int) (e:0<=n/\n<=100000):Cf w n=some (decide ((w.length:Int)<=n)&&!w.any fun l=>decide (100<l.length)):=by
 unfold Cf JI
 by_cases h:(w.length:Int)<=n
 ·rw[Í (by simp[igt,Î]; omega)];refine ej (ē w (fun l=>decide (100<l.length)) (fun _=>some false) (some false) (some true) (fun _=>rfl) (fun i l hi d c=>?_) (fun c=>?_)) ?_
  ·try dsimp only
   unfold pU;rw[Ì hi,Ä d,Ê hi (by omega),ô,Î]
   by_cases a:100<l.length
   ·rw[if_pos (by simp[igt]; omega),if_pos (by simp[a])]
   ·rw[if_neg (by simp[igt]; omega),if_neg (by simp[a])]
  ·try dsimp only
   unfold pU;rw[Ó]
  ·rw[decide_eq_true h]
   cases w.any fun l=>decide (100<l.length)<;>rfl
 ·rw[Ñ (by simp[igt,Î]; omega),decide_eq_false h]; rfl
def ah5 {w:Way} {n:Int} (h:(decide ((w.length:Int)<=n)&&!w.any fun l=>decide (100<l.length))=true):(w.length:Int)<=n/\∀l∈w,l.length<=100:=by
 simp only[dg,decide_eq_true_eq,eO,ee,Int.not_lt] at h;exact⟨h.1,fun l a=>by have:=h.2 l a; omega⟩
def Zh {m:Ŋ} (h:MOk m) {w:Way} (c:Į m.2 w):∀l∈w,l.length<=100000:=by
 intro l e;obtain⟨i,hi,rfl⟩:=dw.1 e;obtain⟨x,a⟩:∃x,m.2[i]?=some x:=⟨_,df (by rw[<-c.len]; exact hi)⟩;obtain⟨f,d,h2⟩:=c.at a;rw[df hi] at d;cases d;have:=h.len5 x (dk a);rw[h2.length_eq]; omega
section
variable {ρ:Type}
def ace {l:BY Int} (d:l.length<=1000000) (x:Int):KO l x=some (match l.findIdx? (·==x) with|some j=>(j:Int)|none=>-1):=by
 unfold KO acU;refine Eq.trans (jn l (·==x) (fun z=>some z) (some (-1)) (fun i a hi ha c=>?_) (fun c=>?_)) ?_
 ·try dsimp only
  unfold BX;rw[Ì hi,Ä ha,Ê hi (by omega),ô]
  try (by_cases h:a=x<;>simp[ieq,h])
 ·try dsimp only
  unfold BX;rw[Ó]
 ·cases List.findIdx? (·==x) l<;>rfl
def anX (b:ø) (x:Mx):Int :=
 if !(inP x.1 0 19999&&inP x.2.length 2 5) then 1 else
 if ¬x.2.Pairwise (·<·) then 1 else
 if x.2.any (fun g=>(î b g).isNone) then 5 else
 if x.2.any (fun g=>Ņ b g x.1 != 0) then 4 else 0
def mixE_F (b:ø) (l:BY Mx) (i:Nat) (x:Mx):mixE b l i x=if anX b x≠0 then anX b x else if lZ (fun y=>y.1) l i x then 6 else if x.2.any (fun g=>(Ŕ b g x.1).isSome||(Ŕ b g (x.1+1)).isSome) then 9 else 0:=by
 unfold mixE anX
 split
 ·rfl
 ·split
  ·rfl
  ·split
   ·rfl
   ·split<;>rfl
def anY {b:ø} (s:jp b) {x:Mx} (t:x.2.length<=1000000):Ny b x=some (anX b x):=by
 have v:=s.gauges;unfold Ny W8 anX;rw[wN,À,wN,À,Î]
 cases y:inP x.1 0 19999 with
 |false=>rfl
 |true =>
  cases h2:inP (x.2.length:Int) 2 5 with
  |false=>rfl
  |true =>
   rw[Í (by rfl),Í (by rfl),if_neg (by simp)];refine(Yg (l:=x.2) (K:=some 1) (k1:=if x.2.any (fun g=>(î b g).isNone) then some 5 else if x.2.any (fun g=>Ņ b g x.1 != 0) then some 4 else some 0) (fun i a c ha r d=>?_) (fun n u d=>?_)).trans ?_
   ·have hi:=(dj.1 r).1
    try dsimp only
    unfold xq;rw[Î,Ñ (decide_eq_true (by omega)),show((i:Int)+1)=((i+1:Nat):Int) by omega,Ä r,show ∀f:Int->BE Int,ck (((i+1:Nat):Int)-1) f=f (i:Int) from fun f=>by rw[Ï (by omega) (by omega)]; congr 1; omega,Ä ha,Ï (by omega) (by omega),ô];simp[ile]
   ·try dsimp only
    unfold xq;rw[Î,Í (decide_eq_false (by omega))]
    refine(ē x.2 (fun g=>(î b g).isNone) (fun _=>some 5) (some 5) _ (fun _=>rfl) (fun i a hi ha d=>?_) (fun d=>?_))<;>(try dsimp only)<;>unfold Fc
    ·rw[Ì hi,Ä ha,show ln ((b.1.1,b.1.2),b.2.1,b.2.2.1,b.2.2.2.1,b.2.2.2.2.1,b.2.2.2.2.2) a=ln b a from rfl,Jg (by omega),À,Ê hi (by omega),ô];rcases wy (b:=b) (id:=a) with⟨j,g,q,_,p⟩|⟨q,p⟩
     ·rw[q,p]; simp[ilt]; omega
     ·rw[q,p]; simp[ilt]
    ·rw[Ó]
     refine(ē x.2 (fun g=>Ņ b g x.1 != 0) (fun _=>some 4) (some 4) _ (fun _=>rfl) (fun i a hi ha d=>?_) (fun d=>?_))<;>(try dsimp only)<;>unfold E9
     ·rw[Ì hi,Ä ha,show jx ((b.1.1,b.1.2),b.2.1,b.2.2.1,b.2.2.2.1,b.2.2.2.2.1,b.2.2.2.2.2) a x.1=jx b a x.1 from rfl,BK (by omega),À,Ê hi (by omega),ô]
      try simp[ine]
     ·rw[Ó]
   ·by_cases h:x.2.Pairwise (·<·)
    ·rw[if_pos h,if_neg (show ¬¬x.2.Pairwise (·<·) from fun e=>e h)]
     by_cases o:x.2.any (fun g=>(î b g).isNone)=true
     ·rw[if_pos o,if_pos o]
     ·rw[if_neg o,if_neg o]
      by_cases k:x.2.any (fun g=>Ņ b g x.1 != 0)=true
      ·rw[if_pos k,if_pos k]
      ·rw[if_neg k,if_neg k]
    ·rw[if_neg h,if_pos h]
def r7_L1 {b:ø} (j:b.2.2.2.1.length<=1000000) {x:Mx} (t:x.2.length<=5) (hd:0<=x.1/\x.1<=19999) {p:Nat} (r:p<=1000000000) (k0:Int->BE ρ) (k1:Int->BE ρ) :
 Ë (fun(v:Int×Int) q=>je b.1.1 b.1.2 b.2.1 b.2.2.1 b.2.2.2.1 b.2.2.2.2.1 b.2.2.2.2.2 x.1 x.2 v.1 v.2 (fun a b=>q (a,b)) k0 k1) ((p:Int),(0:Int)) =
  if x.2.any (fun g=>(Ŕ b g x.1).isSome||(Ŕ b g (x.1+1)).isSome) then k0 9 else k1 ((p*Jk x.2.length:Nat):Int):=by
 refine B7 x.2 (fun i=>((p*Jk i:Nat):Int)) _ (fun i=>(x.2.take i).any (fun g=>(Ŕ b g x.1).isSome||(Ŕ b g (x.1+1)).isSome)=false) (by simp[Jk]) (by simp) (fun i g hi c f o=>?_) (fun f o=>?_)
 ·have s:=Rs (n:=i) (by omega);have hb:p*Jk i<=1000000000*120:=fN r s;have h2:p*Jk i*(i+1)<=1000000000*120*6:=fN hb (by omega)
  have e:((p*Jk i:Nat):Int)*((i:Int)+1)=((p*Jk i*(i+1):Nat):Int):=by simp
  try dsimp only
  unfold je
  rw[Ì hi,Ä c,show ∀d,jX ((b.1.1,b.1.2),b.2.1,b.2.2.1,b.2.2.2.1,b.2.2.2.2.1,b.2.2.2.2.2) g d=jX b g d from fun _=>rfl,NK j,À,Ä c,Ï (by omega) (by omega),
   show ∀d,jX ((b.1.1,b.1.2),b.2.1,b.2.2.1,b.2.2.2.1,b.2.2.2.2.1,b.2.2.2.2.2) g d=jX b g d from fun _=>rfl,NK j,À]
  cases h:Ŕ b g x.1 with
  |some l =>
   refine .inl ?_;rw[if_pos (dD.2 ⟨g,dk c,by rw[h]; rfl⟩)];rfl
  |none =>
   cases k:Ŕ b g (x.1+1) with
   |some l =>
    refine .inl ?_;rw[if_pos (dD.2 ⟨g,dk c,by rw[h,k]; rfl⟩)];rfl
   |none =>
    refine .inr ⟨by rw[take_succ c,List.any_append,f]; simp[h,k],?_⟩;dsimp only;rw[Í (by rfl),Í (by rfl),Ï (by omega) (by omega),e,Ï (by omega) (by omega),Ï (by omega) (by omega),Jk,Nat.mul_assoc]
 ·try dsimp only
  unfold je;rw[List.take_length] at f;rw[Ó,f]; rfl
def ahd {m:Ŋ} (I:jp m.1) (Y:m.2.length<=1000) (Q:∀x∈m.2,x.2.length<=1000000):Ck m=some (ĭ m):=by
 unfold Ck J1 ĭ;rw[akJ I,À]
 by_cases C:ş m.1=0
 ·have S:=(Λ _).1 C;have V:=S.nL;rw[Í (by simp[ine,C]),if_neg (by simp[C])]
  by_cases O:4<m.2.length
  ·rw[Ñ (by simp[igt,Î]; omega),if_pos O]
  ·rw[Í (by simp[igt,Î]; omega),if_neg O];refine B7 m.2 (fun i=>((m9 (m.2.take i):Nat):Int)) _ (fun i=>∀j y,j<i->m.2[j]?=some y->mixE m.1 m.2 j y=0) (by simp[m9]) (fun j y h _=>by omega) (fun i x hi p s F=>?_) (fun s F=>?_)
   ·have X:∀y∈m.2.take i,y.2.length<=5:=fun y k=>by
     obtain⟨j,J,rfl⟩:=dw.1 k;rw[du] at J;rw[fk];exact WH (s j _ (by omega) (df (by omega)))
    have hb:=Wf (l:=m.2.take i) (n:=4) (by rw[du]; omega) X
    have U:(120:Nat) ^ 4=207360000:=by decide
    try dsimp only
    unfold qe;rw[Ì hi,Ä p,show(((m.1.1.1,m.1.1.2),m.1.2.1,m.1.2.2.1,m.1.2.2.2.1,m.1.2.2.2.2.1,m.1.2.2.2.2.2):ø)=m.1 from rfl,anY I (Q x (List.mem_of_getElem? p)),À];have d:=mixE_F m.1 m.2 i x
    by_cases o:anX m.1 x=0
    case neg =>
     rw[if_pos o] at d;refine .inl ?_;rw[Ñ (by simp[ine,o]),Gy p s (by rw[d]; exact o),d]
    rw[if_neg (by simp[o])] at d;rw[Í (by simp[ine,o])]
    have A:x.2.length<=5/\0<=x.1/\x.1<=19999:=by
     unfold anX at o
     split at o
     ·simp at o
     ·rename_i H;simp only[eO,Bool.not_eq_false,dg,inP,decide_eq_true_eq] at H
      have G:x.2.length<=5:=by omega
      exact⟨G,H.1.1,H.1.2⟩
    have r:∀Z R:BE Int,(∀e,OB m.1 m.2=some e->R=some e)->(∀(c:lZ (fun y=>y.1) m.2 i x=false),Z=Ë (fun(v:Int×Int) P=>je m.1.1.1 m.1.1.2 m.1.2.1 m.1.2.2.1 m.1.2.2.2.1 m.1.2.2.2.2.1 m.1.2.2.2.2.2 x.1 x.2 v.1 v.2 (fun a b=>P (a,b)) (fun z=>some z) (fun D=>ck ((i:Int)+1) fun E=>F (D,E))) (((m9 (m.2.take i):Nat):Int),(0:Int)))->(lZ (fun y=>y.1) m.2 i x=true->Z=some 6) ->
     Z=R\/((∀j y,j<i+1->m.2[j]?=some y->mixE m.1 m.2 j y=0)/\Z=F (((m9 (m.2.take (i+1)):Nat):Int),(i:Int)+1)):=by
     intro Z R K W G
     cases c:lZ (fun y=>y.1) m.2 i x with
     |true =>
      rw[c,if_pos rfl] at d;refine .inl ?_;rw[G c,K _ (Gy p s (by rw[d]; simp)),d]
     |false =>
      rw[c,if_neg (by simp)] at d;rw[W c,r7_L1 (by omega) A.1 A.2 (by omega)]
      cases M:x.2.any (fun g=>(Ŕ m.1 g x.1).isSome||(Ŕ m.1 g (x.1+1)).isSome) with
      |true =>
       rw[M,if_pos rfl] at d;refine .inl ?_;rw[if_pos rfl,K _ (Gy p s (by rw[d]; simp)),d]
      |false =>
       rw[M,if_neg (by simp)] at d;refine .inr ⟨fun j y J k=>?_,?_⟩
       ·rcases dv j i with h|h
        ·exact s j y h k
        ·have:j=i:=by omega
         subst this;rw[p] at k; cases k;exact d
       ·rw[if_neg (by simp),Ê hi (by omega),BS p]
    refine r _ _ (fun e T=>by rw[T]) (fun c=>?_) (fun c=>?_)
    ·by_cases h0:0<i
     ·obtain⟨q,B⟩:=vk hi h0
      have t:¬x.1<=q.1:=by
       intro e;unfold lZ at c;rw[B] at c;simp[h0,e] at c
      have u:∀f:Int->BE Int,ck ((i:Int)-1) f=f ((i-1:Nat):Int):=fun f=>by rw[Ï (by omega) (by omega)]; congr 1; omega
      rw[Ñ (decide_eq_true (by omega)),u,Ä B,Í (decide_eq_false t)]
     ·rw[Í (decide_eq_false (by omega))]
    ·have h0:0<i:=by
      unfold lZ at c;simp only[Bool.and_eq_true,decide_eq_true_eq] at c;exact c.1
     obtain⟨q,B⟩:=vk hi h0
     have t:x.1<=q.1:=by
      unfold lZ at c;rw[B] at c;simpa[h0] using c
     have u:∀f:Int->BE Int,ck ((i:Int)-1) f=f ((i-1:Nat):Int):=fun f=>by rw[Ï (by omega) (by omega)]; congr 1; omega
     rw[Ñ (decide_eq_true (by omega)),u,Ä B,Ñ (decide_eq_true t)]
   ·try dsimp only
    unfold qe;rw[Ó,EK fun j y k=>s j y (List.getElem?_eq_some_iff.1 k).1 k,List.take_length];dsimp only;rw[ô];simp only[igt,decide_eq_true_eq]
    by_cases h:150<m9 m.2
    ·rw[if_pos (by omega),if_pos h]
    ·rw[if_neg (by omega),if_neg h]
 ·rw[Ñ (by simp[ine,C]),if_pos C]
end
def Y6 {m:Ŋ} {w:Way} (h:Į m.2 w) (u:m.2.length<=1000) (p:∀x∈m.2,x.2.length<=1000) (x d:Int):yn m w x d=some (iQ m.2 w x d):=by
 unfold yn Xa;rw[Î,Ï (by omega) (by omega)];refine ð (fun s:Int×Int=>∃i:Nat,i<=m.2.length/\s.2=(i:Int)-1/\s.1=iQ (m.2.drop i) (w.drop i) x d) (fun s=>(s.2+1).toNat) ?_ ⟨m.2.length,Nat.le_refl _,rfl,?_⟩
 ·rintro⟨t,r⟩ ⟨i,hi,g,h2⟩;simp only at g h2;subst g h2
  cases i with
  |zero =>
   refine .inl fun n=>?_
   try dsimp only
   unfold xr;rw[Í (by simp[ige])]; rfl
  |succ i =>
   obtain⟨y,a⟩:∃y,m.2[i]?=some y:=⟨_,df hi⟩;obtain⟨l,c,e⟩:=h.at a
   have o:l.length<=1000:=by rw[e.length_eq]; exact p y (dk a)
   have j:((i+1:Nat):Int)-1=i:=by omega
   refine .inr ⟨(iQ (m.2.drop i) (w.drop i) x d,(i:Int)-1),⟨i,by omega,rfl,rfl⟩,by simp only[j]; omega,fun n=>?_⟩
   try dsimp only
   unfold xr;rw[j,Ñ (by simp[ige]),Ä a,ad0 a c];unfold stp
   by_cases hd:y.1<d
   ·rw[Ñ (by simp[ilt,hd]),if_pos hd,Ä c,ace (by omega),À]
    cases q:l.findIdx? (·==iQ (m.2.drop (i+1)) (w.drop (i+1)) x d) with
    |none =>
     dsimp only;rw[Í (by simp[ige]),Ï (by omega) (by omega)]
    |some k =>
     dsimp only
     have f:k<y.2.length:=by rw[<-e.length_eq]; exact(dR.1 q).1
     rw[Ñ (by simp[ige]),Ä a,Ä (df f),Ï (by omega) (by omega)];rw[eG,df f]; rfl
   ·rw[Í (by simp[ilt,hd]),Ï (by omega) (by omega),if_neg hd]
 ·simp only[List.drop_length];rw[<-h.len,List.drop_length];unfold iQ;rfl
def ag9 {m:Ŋ} {w:Way} (h:Į m.2 w) (C:m.2.length<=1000) (A:∀x∈m.2,x.2.length<=1000):yo m w=some (uZ m.2 w):=by
 unfold yo Fe;have g:=h.len;refine ð (fun s:Int×Int=>∃i:Nat,i<=w.length/\s.2=(i:Int)/\s.1=uZ (m.2.take i) (w.take i)) (fun s=>w.length-s.2.toNat) ?_ ⟨0,Nat.zero_le _,rfl,by simp[uZ]⟩;rintro⟨K,J⟩ ⟨i,hi,j,h2⟩;simp only at j h2;subst j h2;rcases Nat.lt_or_ge i w.length with f|F
 ·obtain⟨y,o⟩:∃y,m.2[i]?=some y:=⟨_,df (by omega)⟩;obtain⟨l,p,q⟩:=h.at o
  have D:l.length<=1000:=by rw[q.length_eq]; exact A y (dk o)
  refine .inr ⟨(uZ (m.2.take (i+1)) (w.take (i+1)),(i:Int)+1),⟨i+1,f,by simp,rfl⟩,by simp only[dt]; omega,fun r=>?_⟩
  try dsimp only
  unfold oo;rw[Ì f];have hb:=ahs (n:=0) C A (w.take i) i;refine ð (fun s:Int×Int=>∃k:Nat,k<=l.length/\s.2=(k:Int)/\s.1=uZ (m.2.take i) (w.take i)+Zd (l.take k) (y.2.take k)) (fun s=>l.length-s.2.toNat) ?_ ⟨0,Nat.zero_le _,rfl,by simp[Zd]⟩;rintro⟨I,t2⟩ ⟨k,M,j,h2⟩;simp only at j h2;subst j h2;have H:=NQ (l.take k) (y.2.take k)
  have G:(y.2.take k).length<=1000:=by rw[du]; omega
  rcases dv k l.length with c|E
  ·obtain⟨u,z⟩:∃u,l[k]?=some u:=⟨_,df c⟩;obtain⟨v,t⟩:∃v,y.2[k]?=some v:=⟨_,df (by rw[<-q.length_eq]; exact c)⟩;refine .inr ⟨(uZ (m.2.take i) (w.take i)+Zd (l.take (k+1)) (y.2.take (k+1)),(k:Int)+1),⟨k+1,c,by simp,rfl⟩,by simp only[dt]; omega,fun r=>?_⟩
   try dsimp only
   unfold om;rw[Ä p,Ì c,Ä p,Ä z,Ä o,Ä t,NP z t]
   by_cases a:v=u
   ·rw[Í (by simp[ine,a]),Ï (by omega) (by omega),if_pos a]; simp
   ·rw[Ñ (by simp[ine]; exact fun e=>a e.symm),Ï (by omega) (by omega),Ï (by omega) (by omega),if_neg a,Int.add_assoc]
  ·refine .inl fun B=>?_
   have d:k=l.length:=by omega
   subst d
   try dsimp only
   unfold om;rw[Ä p,Ó];dsimp only;rw[Ï (by omega) (by omega),NN o p,List.take_length,q.length_eq,List.take_length]
 ·refine .inl fun r=>?_
  have d:i=w.length:=by omega
  subst d
  try dsimp only
  unfold oo;rw[Ó,List.take_length,g,List.take_length]
def Vu (a:Int):∀{l:BY Int} {k:Nat},l.Pairwise (·<=·)->k<=l.length->(∀j x,j<k->l[j]?=some x->x<a)->(∀x,l[k]?=some x->a<=x)->agn a l=l.take k++[a]++l.drop k
 |[],k,_,d,_,_=>by simp[agn]
 |b::t,0,_,_,_,h2=>by
  have:=h2 b rfl;unfold agn;rw[if_pos this]; rfl
 |b::t,k+1,f,d,e,h2=>by
  have hb:=e 0 b (by omega) rfl;unfold agn;rw[if_neg (by omega),Vu a (List.pairwise_cons.1 f).2 (by simpa using d) (fun j x g c=>e (j+1) x (by omega) c) (fun x c=>h2 x c)];rfl
def aeo {m:Ŋ} {w:Way} (h:Į m.2 w) (B:m.2.length<=1000) (E:∀x∈m.2,x.2.length<=1000) (d:Int) {l:BY Int} (D:l.length<=1000000):Bp m w l d=some (ny m w d l):=by
 unfold Bp Pn;refine ï l (fun i=>Υ ((l.take i).map fun x=>iQ m.2 w x d)) _ rfl (fun i a hi ha u=>?_) (fun u=>?_)
 ·have C:((((m.1.1.1,m.1.1.2),m.1.2.1,m.1.2.2.1,m.1.2.2.2.1,m.1.2.2.2.2.1,m.1.2.2.2.2.2),m.2):Ŋ)=m:=rfl
  try dsimp only
  unfold tD;rw[Ì hi,Ä ha,C,Y6 h B E,À];generalize y:Υ ((l.take i).map fun x=>iQ m.2 w x d)=V
  have v:V.Pairwise (·<=·):=by rw[<-y]; exact ŕ _
  have I:V.length=i:=by rw[<-y,(ÿ _).length_eq,dL,du]; omega
  have n:Υ ((l.take (i+1)).map fun x=>iQ m.2 w x d)=agn (iQ m.2 w a d) V:=by
   rw[<-y];refine gn (le:=(·<=·)) (fun a b _ _ t h2=>iy t h2) (ŕ _) (FQ _ (ŕ _)) ?_;rw[take_succ ha,fp,fe,fF];exact(ÿ _).trans (List.perm_append_comm.trans ((List.Perm.cons _ (ÿ _).symm).trans (Iu _ _).symm))
  rw[n];generalize iQ m.2 w a d=g;refine ð (fun s:Int=>∃k:Nat,k<=V.length/\s=(k:Int)/\∀j x,j<k->V[j]?=some x->x<g) (fun s=>V.length-s.toNat) ?_ ⟨0,d9 _,rfl,fun j x H _=>by omega⟩;rintro s ⟨k,G,rfl,A⟩
  have fin:∀(z:∀x,V[k]?=some x->g<=x),(fun c:Int=>à ((ile (0:Int) c)&&(ile c (í V))) (à (ã (List.length (List.take (Int.toNat c) (List.drop 0 V)))) (à (ã ((List.length (List.take (Int.toNat c) (List.drop 0 V)))+(List.length ([g])))) (à ((ile (0:Int) c)&&(ile c (í V))) (à (ã ((List.length ((List.take (Int.toNat c) (List.drop 0 V))++([g])))+(List.length (List.take (List.length V-(Int.toNat c)) (List.drop (Int.toNat c) V))))) (ck ((i:Int)+(1:Int)) fun n6=>u (n6,((List.take (Int.toNat c) (List.drop 0 V))++([g]))++(List.take (List.length V-(Int.toNat c)) (List.drop (Int.toNat c) V)))))))) ) (k:Int)=u ((i:Int)+1,agn g V):=fun z=>by
   dsimp only
   rw[Vu g v G A z,dt,ä (by simp[ile,í]; omega),ä (Ò (by simp; omega)),ä (Ò (by simp; omega)),ä (by simp[ile,í]; omega),ä (Ò (by simp; omega)),Ê hi (by omega),
    eo (l:=V.drop k) (by simp),ic]
  rcases dv k V.length with f|F
  ·have r:V[k]?=some V[k]:=df f
   by_cases o:V[k]<g
   ·refine .inr ⟨(k:Int)+1,⟨k+1,f,by simp,fun j x H p=>?_⟩,by omega,fun q=>?_⟩
    ·rcases dv j k with t|t
     ·exact A j x t p
     ·have:j=k:=by omega
      subst this;rw[r] at p; cases p;exact o
    ·try dsimp only
     unfold oT;rw[Ì f,ä (by simp[ile,ilt,í]; omega),Int.toNat_natCast,Ž r,Ñ (decide_eq_true o),Ï (by omega) (by omega)]
   ·refine .inl fun q=>?_
    try dsimp only
    unfold oT;rw[Ì f,ä (by simp[ile,ilt,í]; omega),Int.toNat_natCast,Ž r,Í (decide_eq_false o)]
    exact fin fun x e=>by rw[r] at e; cases e; omega
  ·refine .inl fun q=>?_
   have:k=V.length:=by omega
   subst this
   try dsimp only
   unfold oT;rw[Ó]
   exact fin fun x e=>by simp at e
 ·try dsimp only
  unfold tD;rw[Ó,List.take_length]; rfl
section
variable {m:Ŋ} {w:Way}
def t7_L0 (h:MOk m) (f:Į m.2 w) {ρ:Type} (k0:BY (Int×Int)->BE ρ):Ë (fun(v:Int×BY (Int×Int)) d=>kj w m.1.1.1 m.1.1.2 m.1.2.1 m.1.2.2.1 m.1.2.2.2.1 m.1.2.2.2.2.1 m.1.2.2.2.2.2 m.2 v.1 v.2 (fun a b=>d (a,b)) k0) ((0:Int),[])=k0 (m.1.2.2.1.map fun u=>(iQ m.2 w u.1 u.2,u.2)):=by
 have g:m.2.length<=1000:=by have:=h.n4; omega
 have k:∀x∈m.2,x.2.length<=1000:=fun y e=>by have:=h.len5 y e; omega
 have j:((((m.1.1.1,m.1.1.2),m.1.2.1,m.1.2.2.1,m.1.2.2.2.1,m.1.2.2.2.2.1,m.1.2.2.2.2.2),m.2):Ŋ)=m:=rfl;have n:=h.good.nU
 refine ou m.1.2.2.1 (fun u:Int×Int=>((iQ m.2 w u.1 u.2,u.2):Int×Int)) k0 (fun i a hi ha v c l=>?_) (fun v c=>?_)<;>(try dsimp only)<;>unfold kj
 ·rw[Ì hi,Ä ha,j,Y6 f g k,À,ä (Ò (by simp; omega)),Ê hi (by omega)]
 ·rw[Ó]
def t7_L1 (h:MOk m) (f:Į m.2 w) {ρ:Type} (k0:BY Jm->BE ρ):Ë (fun(v:Int×BY Jm) d=>ki w m.1.1.1 m.1.1.2 m.1.2.1 m.1.2.2.1 m.1.2.2.2.1 m.1.2.2.2.2.1 m.1.2.2.2.2.2 m.2 v.1 v.2 (fun a b=>d (a,b)) k0) ((0:Int),[])=k0 (m.1.2.2.2.1.map fun l=>(iQ m.2 w l.1 l.2.1.1,l.2)):=by
 have g:m.2.length<=1000:=by have:=h.n4; omega
 have k:∀x∈m.2,x.2.length<=1000:=fun y e=>by have:=h.len5 y e; omega
 have j:((((m.1.1.1,m.1.1.2),m.1.2.1,m.1.2.2.1,m.1.2.2.2.1,m.1.2.2.2.2.1,m.1.2.2.2.2.2),m.2):Ŋ)=m:=rfl;have o:=h.good.nL
 refine ou m.1.2.2.2.1 (fun l:Jm=>((iQ m.2 w l.1 l.2.1.1,l.2):Jm)) k0 (fun i a hi ha v c n=>?_) (fun v c=>?_)<;>(try dsimp only)<;>unfold ki
 ·rw[Ì hi,Ä ha,j,Y6 f g k,À,ä (Ò (by simp; omega)),Ê hi (by omega)]
 ·rw[Ó]
def t7_L2 (h:MOk m) (c:Į m.2 w) {ρ:Type} (k0:BY Cmp->BE ρ):Ë (fun(v:Int×BY Cmp) g=>kh w m.1.1.1 m.1.1.2 m.1.2.1 m.1.2.2.1 m.1.2.2.2.1 m.1.2.2.2.2.1 m.1.2.2.2.2.2 m.2 v.1 v.2 (fun a b=>g (a,b)) k0) ((0:Int),[])=k0 (m.1.2.2.2.2.1.map (ahh m w)):=by
 have d:m.2.length<=1000:=by have:=h.n4; omega
 have e:∀x∈m.2,x.2.length<=1000:=fun y j=>by have:=h.len5 y j; omega
 have k:((((m.1.1.1,m.1.1.2),m.1.2.1,m.1.2.2.1,m.1.2.2.2.1,m.1.2.2.2.2.1,m.1.2.2.2.2.2),m.2):Ŋ)=m:=rfl;have p:=h.good.nC
 refine ou m.1.2.2.2.2.1 (ahh m w) k0 (fun i a hi ha v f o=>?_) (fun v f=>?_)<;>(try dsimp only)<;>unfold kh
 ·obtain⟨n,l⟩:=h.good.size.piles a (dk ha);rw[Ì hi,Ä ha,k,aeo c d e _ (by omega),À,aeo c d e _ (by omega),À,ä (Ò (by simp; omega)),Ê hi (by omega)];rfl
 ·rw[Ó]
def t7_L3 (h:MOk m) (f:Į m.2 w) {ρ:Type} (k0:BY (Int×Int)->BE ρ):Ë (fun(v:Int×BY (Int×Int)) d=>kg w m.1.1.1 m.1.1.2 m.1.2.1 m.1.2.2.1 m.1.2.2.2.1 m.1.2.2.2.2.1 m.1.2.2.2.2.2 m.2 v.1 v.2 (fun a b=>d (a,b)) k0) ((0:Int),[])=k0 (m.1.2.2.2.2.2.map fun n=>(iQ m.2 w n.1 n.2,n.2)):=by
 have g:m.2.length<=1000:=by have:=h.n4; omega
 have k:∀x∈m.2,x.2.length<=1000:=fun y e=>by have:=h.len5 y e; omega
 have j:((((m.1.1.1,m.1.1.2),m.1.2.1,m.1.2.2.1,m.1.2.2.2.1,m.1.2.2.2.2.1,m.1.2.2.2.2.2),m.2):Ŋ)=m:=rfl;have o:=h.good.nK
 refine ou m.1.2.2.2.2.2 (fun n:Int×Int=>((iQ m.2 w n.1 n.2,n.2):Int×Int)) k0 (fun i a hi ha v c l=>?_) (fun v c=>?_)<;>(try dsimp only)<;>unfold kg
 ·rw[Ì hi,Ä ha,j,Y6 f g k,À,ä (Ò (by simp; omega)),Ê hi (by omega)]
 ·rw[Ó]
def Y8 (h:MOk m) (a:Į m.2 w):ov m w=some (trP m w):=by
 unfold ov uN trP;rw[t7_L0 h a,t7_L1 h a,t7_L2 h a,t7_L3 h a]
end
def aln {a b:BY Int} (ha:a.Nodup) (hb:b.Nodup) (h:∀x,x∈a↔x∈b):a.Perm b:=by
 have st:∀l:BY Int,l.Nodup->(Υ l).Pairwise (·<·):=fun l c=>((ŕ l).and ((ÿ l).nodup_iff.2 c)).imp fun⟨p,q⟩=>Int.lt_iff_le_and_ne.2 ⟨p,q⟩
 have:=YZ (st a ha) (st b hb) fun x=>by rw[(ÿ a).mem_iff,(ÿ b).mem_iff,h]
 exact(ÿ a).symm.trans (this▸ÿ b)
section
variable {ρ:Type}
def anS {c:BY Int->BE (BY (BY Int))} {c0:BY Int} {i:Nat} {a:Int} (ha:c0[i]?=some a) {r v1:BY (BY Int)} (h:∀y∈r,y.length<=1000) (k:v1.length+r.length<=1000000) (K:BY (BY Int)->BE ρ) :
 Ë (fun(v:Int×BY (BY Int)) g=>la c c0 i r v.1 v.2 (fun a b=>g (a,b)) K) ((0:Int),v1)=K (v1++r.map (a::·)):=by
 refine ï r (fun j=>v1++(r.take j).map (a::·)) _ (by simp) (fun j y e d f=>?_) (fun f=>?_)
 ·have:=h y (dk d)
  try dsimp only
  unfold la;rw[Ì e,Ä ha,Ä d,ä (Ò (by simp; omega)),ä (Ò (by simp; omega)),Ê e (by omega),take_succ d,List.map_append,List.append_assoc]; rfl
 ·try dsimp only
  unfold la;rw[Ó,List.take_length]
def aeJ:∀(n:Nat) {l y:BY Int},l.length=n->y∈vu n l->y.length=n
 |0,l,y,_,h=>by simp[vu] at h; simp[h]
 |n+1,l,y,d,h=>by
  have a:¬l.length=0:=by omega
  simp only[vu,if_neg a,dG,fj,dH] at h;obtain⟨i,hi,z,c,rfl⟩:=h;have:=aeJ n (l:=l.take i++l.drop (i+1)) (by simp; omega) c;simp[this]
def Rj {α β:Type} {f:α->BY β} {c:Nat}:∀{l:BY α},(∀x∈l,(f x).length=c)->(l.flatMap f).length=l.length*c
 |[],_=>by simp
 |x::l,h=>by
  rw[dF,di,h x (by simp),Rj fun y a=>h y (dW _ a),dr,dK,fu,Nat.add_comm]
def UR:∀(n:Nat) {l:BY Int},l.length<n->l.length<=5->qV n l=some (vu l.length l)
 |0,l,h,_=>by omega
 |n+1,l,h,u=>by
  show nP (qV n) l some=_;unfold nP
  by_cases h0:l.length=0
  ·obtain rfl:l=[]:=List.eq_nil_of_length_eq_zero h0;rw[Ñ (by rw[Î]; rfl)]; rfl
  ·obtain⟨k,o⟩:∃k,l.length=k+1:=⟨l.length-1,by omega⟩
   have t:vu l.length l=(List.range l.length).flatMap fun i=>(vu k (l.take i++l.drop (i+1))).map (l.getD i 0::·):=by
    rw[o];show(if l.length=0 then[[]] else _)=_;rw[if_neg h0,o]
   have g:=Rs (n:=k) (by omega);rw[Í (by rw[Î]; exact decide_eq_false (by omega)),t]
   have d:∀i,i<=l.length->((List.range i).flatMap fun i=>(vu k (l.take i++l.drop (i+1))).map (l.getD i 0::·)).length=i*Jk k:=fun i hi=>by
    rw[Rj (c:=Jk k) fun j s=>by
     rw[fj] at s
     rw[dL,Gu (n:=k) (by simp; omega)],fm]
   refine ï l (fun i=>(List.range i).flatMap fun i=>(vu k (l.take i++l.drop (i+1))).map (l.getD i 0::·)) _ rfl (fun i a hi ha p=>?_) (fun p=>?_)
   ·have e:(l.take i++l.drop (i+1)).length=k:=by simp; omega
    have f:l.getD i 0=a:=by rw[eG,ha]; rfl
    have r:(List.range (i+1)).flatMap (fun i=>(vu k (l.take i++l.drop (i+1))).map (l.getD i 0::·))=(List.range i).flatMap (fun i=>(vu k (l.take i++l.drop (i+1))).map (l.getD i 0::·))++(vu k (l.take i++l.drop (i+1))).map (a::·):=by
     rw[fE,eW,dF,gq,dB,f]
    have v:i*Jk k<=5*120:=fN (by omega) g
    try dsimp only
    unfold ol
    rw[Ì hi,ä (by simp[ile,í]; omega),ä (Ò (by simp; omega)),Ê hi (by omega),ä (by simp[ile,í]; omega),ä (Ò (by simp; omega)),dt,show Int.toNat ((i:Int)+1)=i+1 by omega,ew,
     UR n (by omega) (by omega),À,e,r]
    refine(anS ha (fun y q=>by rw[aeJ k e q]; omega) (by rw[d i (by omega),Gu e]; omega) _).trans ?_;dsimp only;rw[Ê hi (by omega)]
   ·try dsimp only
    unfold ol;rw[Ó]
def sd {α β:Type} {f g:α->BY β}:∀{l:BY α},(∀a∈l,f a=g a)->l.flatMap f=l.flatMap g
 |[],_=>rfl
 |a::l,h=>by rw[dF,dF,h a (by simp),sd fun x c=>h x (by simp[c])]
def abJ (all:BY Way) (ms:BY Mx):BY Way:=ms.foldl (fun all m=>all.flatMap fun w=>(vu m.2.length m.2).map fun x=>w++[x]) all
def aff:∀(ms:BY Mx) (all:BY Way),abJ all ms=all.flatMap fun w=>(ξ ms).map fun v=>w++v
 |[],all=>by
  show all=all.flatMap fun w=>[w++[]];simp
 |m::ms,all=>by
  show abJ (all.flatMap fun w=>(vu m.2.length m.2).map fun x=>w++[x]) ms=_;rw[aff ms,List.flatMap_assoc];refine sd fun w _=>?_;show((vu m.2.length m.2).map fun x=>w++[x]).flatMap (fun w=>(ξ ms).map fun v=>w++v)=((vu m.2.length m.2).flatMap fun x=>(ξ ms).map (x::·)).map fun v=>w++v;rw[List.flatMap_map,List.map_flatMap];refine sd fun x _=>?_;rw[List.map_map];refine fo fun v _=>?_;simp
def RC (ms:BY Mx):abJ [[]] ms=ξ ms:=by rw[aff]; simp
def agC (all:BY Way) (ms:BY Mx) (m:Mx):abJ all (ms++[m])=(abJ all ms).flatMap fun w=>(vu m.2.length m.2).map fun x=>w++[x]:=by unfold abJ; rw[List.foldl_append]; rfl
def w7_L2 {r:BY (BY Int)} {c v1:BY Way} {k:Nat} {w:Way} (e:c[k]?=some w) (i:w.length<=1000) (l:v1.length+r.length<=1000000) (K:BY Way->BE ρ) :
 Ë (fun(v:Int×BY Way) h=>oV r k c v.1 v.2 (fun a b=>h (a,b)) K) ((0:Int),v1)=K (v1++r.map fun x=>w++[x]):=by
 have n:=(dj.1 e).1;refine ï r (fun j=>v1++(r.take j).map fun x=>w++[x]) _ (by simp) (fun j y f d g=>?_) (fun g=>?_)
 ·try dsimp only
  unfold oV;rw[Ì f,ä (by simp[ile,ilt,í]; omega),Int.toNat_natCast,Ž e,ä (Ò (by omega)),Ä d,ä (Ò (by simp; omega)),ä (Ò (by simp; omega)),Ê f (by omega),take_succ d,List.map_append,List.append_assoc,List.nil_append]; rfl
 ·try dsimp only
  unfold oV;rw[Ó,List.take_length]
def w7_L1 {r:BY (BY Int)} {all:BY Way} (h:∀w∈all,w.length<=1000) (j:all.length*r.length<=100000) (i:r.length<=1000) (ha:all.length<=100000) (K:BY Way->BE ρ) :
 Ë (fun(v:Int×BY Way) g=>oW r all v.1 v.2 (fun a b=>g (a,b)) K) ((0:Int),[])=K (all.flatMap fun w=>r.map fun x=>w++[x]):=by
 refine ï all (fun k=>(all.take k).flatMap fun w=>r.map fun x=>w++[x]) _ (by simp) (fun k w e d f=>?_) (fun f=>?_)
 ·have l:((all.take k).flatMap fun w=>r.map fun x=>w++[x]).length=k*r.length:=by
   rw[Rj (c:=r.length) fun w _=>dL ..,du,Nat.min_eq_left (by omega)]
  have h2:k*r.length<=all.length*r.length:=dI _ (by omega)
  try dsimp only
  unfold oW;rw[Ì e];refine(w7_L2 d (h w (List.mem_of_getElem? d)) (by omega) _).trans ?_;dsimp only;rw[Ê e (by omega),take_succ d,List.flatMap_append];simp
 ·try dsimp only
  unfold oW;rw[Ó,List.take_length]
def ajC:∀(ms:BY Mx),(abJ [[]] ms).length=m9 ms:=fun ms=>by rw[RC,I4]
def Vt {α:Type} {key:α->Int} {x:α}:∀{A R:BY α},(∀y∈A,key y<key x)->Yp key x (A++R)=A++Yp key x R
 |[],R,_=>rfl
 |a::A,R,h=>by
  have:=h a (by simp);simp only[fi];rw[Yp,if_neg (by omega),Vt fun y c=>h y (by simp[c])]
def ai1 {α:Type} {key:α->Int} {x:α} {R:BY α} (h:∀y∈R,key x<=key y):Yp key x R=x::R:=by
 cases R with
 |nil=>rfl
 |cons y R=>rw[Yp,if_pos (h y (by simp))]
def M8 {α:Type} (key:α->Int) (n:Nat) (l:BY α):BY α:=(List.range n).flatMap fun k:Nat=>l.filter fun y=>decide (key y=(k:Int))
def ag6 {α:Type} {key:α->Int} {n k:Nat} {x:α} (e:key x=(k:Int)) (h:k<n) (l:BY α):M8 key n (x::l)=Yp key x (M8 key n l):=by
 have d:List.range n=List.range k++k::(List.range (n-k-1)).map (k+1+·):=by
  rw[show n=(k+1)+(n-k-1) by omega,List.range_add,fE,dp];simp[show k+1+(n-k-1)-k-1=n-k-1 by omega]
 unfold M8;rw[d,List.flatMap_append,List.flatMap_cons,List.flatMap_append,List.flatMap_cons]
 have g:(List.range k).flatMap (fun j:Nat=>(x::l).filter fun y=>decide (key y=(j:Int)))=(List.range k).flatMap fun j:Nat=>l.filter fun y=>decide (key y=(j:Int)):=sd fun j c=>by
  rw[fj] at c;rw[fh (by simp[e]; omega)]
 have f:((List.range (n-k-1)).map (k+1+·)).flatMap (fun j:Nat=>(x::l).filter fun y=>decide (key y=(j:Int)))=((List.range (n-k-1)).map (k+1+·)).flatMap fun j:Nat=>l.filter fun y=>decide (key y=(j:Int)):=sd fun j c=>by
  obtain⟨q,_,rfl⟩:=dH.1 c;rw[fh (by simp[e]; omega)]
 rw[g,f,fC (by simp[e]),Vt fun y a=>?_,ai1 fun y a=>?_]
 ·rfl
 ·rcases dl.1 a with a|a
  ·have:=of_decide_eq_true (d8.1 a).2; omega
  ·obtain⟨j,c,a⟩:=dG.1 a;obtain⟨q,_,rfl⟩:=dH.1 c;have:=of_decide_eq_true (d8.1 a).2;omega
 ·obtain⟨j,c,a⟩:=dG.1 a;rw[fj] at c;have:=of_decide_eq_true (d8.1 a).2;omega
def RW {α:Type} {key:α->Int} {n:Nat}:∀{l:BY α},(∀y∈l,0<=key y/\key y<n)->M8 key n l=Ķ key l
 |[],_=>by unfold M8; simp[Ķ]
 |x::l,h=>by
  have c:=h x (by simp);rw[ag6 (k:=(key x).toNat) (by omega) (by omega),RW fun y a=>h y (by simp[a])];rfl
def afb:∀n:Nat,1<=Jk n
 |0=>dh _
 |n+1=>by
  have:=afb n;unfold Jk;exact Nat.le_trans this (Nat.le_mul_of_pos_right _ (by omega))
def ZN:∀l:BY Mx,1<=m9 l
 |[]=>dh _
 |x::l=>by
  unfold m9;exact Nat.mul_le_mul (afb _) (ZN l)
def Ob:∀(l:BY Mx) (i:Nat),m9 (l.take i)<=m9 l
 |[],i=>by simp
 |x::l,0=>ZN _
 |x::l,i+1=>by
  simp only[gz,m9];exact Nat.mul_le_mul_left _ (Ob l i)
def ahr:∀{ms:BY Mx} (w:Way),(∀x∈ms,x.2.length<=5)->0<=uZ ms w/\uZ ms w<=5*ms.length
 |[],w,_=>by cases w<;>simp[uZ]
 |m::ms,[],_=>by simp[uZ]; omega
 |m::ms,l::w,h=>by
  have d:=NQ l m.2;have h2:=h m (by simp);have c:=ahr (ms:=ms) w fun x a=>h x (by simp[a]);simp only[uZ,dr];omega
variable {m:Ŋ}
def w7_L4 (h:MOk m) {all:BY Way} (l:∀w∈all,Į m.2 w) (ha:all.length<=150) (k:Nat) {v1:BY Way} (r:v1.length<=1000000) (K:BY Way->BE ρ) :
 Ë (fun(v:Int×BY Way) g=>oU k m.1.1.1 m.1.1.2 m.1.2.1 m.1.2.2.1 m.1.2.2.2.1 m.1.2.2.2.2.1 m.1.2.2.2.2.2 m.2 all v.1 v.2 (fun a b=>g (a,b)) K) ((0:Int),v1)=K (v1++all.filter fun w=>decide (uZ m.2 w=(k:Int))):=by
 have n:m.2.length<=1000:=by have:=h.n4; omega
 have p:∀x∈m.2,x.2.length<=1000:=fun y i=>by have:=h.len5 y i; omega
 have o:((((m.1.1.1,m.1.1.2),m.1.2.1,m.1.2.2.1,m.1.2.2.2.1,m.1.2.2.2.2.1,m.1.2.2.2.2.2),m.2):Ŋ)=m:=rfl;refine ï all (fun j=>v1++(all.take j).filter fun w=>decide (uZ m.2 w=(k:Int))) _ (by simp) (fun j w e c f=>?_) (fun f=>?_)
 ·have q:=eh (fun w=>decide (uZ m.2 w=(k:Int))) (all.take j);rw[du] at q
  try dsimp only
  unfold oU;rw[Ì e,ä (by simp[ile,ilt,í]; omega),Int.toNat_natCast,Ž c,o,ag9 (l w (List.mem_of_getElem? c)) n p,À,take_succ c,List.filter_append]
  by_cases d:uZ m.2 w=(k:Int)
  ·rw[Ñ (by simp[ieq,d]),ä (by simp[ile,ilt,í]; omega),Ž c,ä (Ò (by simp only[di,dr,dO]; omega)),Ê e (by omega),fC (by simp[d]),eS,dp]
  ·rw[Í (by simp[ieq,d]),Ê e (by omega),fh (by simp[d]),eS,dB]
 ·try dsimp only
  unfold oU;rw[Ó,List.take_length]
def amB (h:MOk m):IK m=some (Ł m.2):=by
 have y:=h.n4;have p:m9 m.2<=150:=h.prod;unfold IK Pw;refine ï m.2 (fun i=>abJ [[]] (m.2.take i)) _ rfl (fun i x hi c e=>?_) (fun e=>?_)
 ·have o:=h.len5 x (dk c);have s:=Ob m.2 (i+1);have r:=Ob m.2 i;rw[BS c] at s;have v:=Rs (n:=x.2.length) o;have f:=Gu (n:=x.2.length) (l:=x.2) rfl;have a:=ajC (m.2.take i)
  try dsimp only
  unfold tF;rw[Ì hi,Ä c,show FT x.2=some (vu x.2.length x.2) from UR 100 (by omega) o,À,take_succ c,agC];refine(w7_L1 (fun w d=>?_) (by rw[a,f]; omega) (by omega) (by omega) _).trans ?_
  ·rw[RC] at d;have:=(wJ.1 d).len;rw[this,du]; omega
  ·dsimp only;rw[Ê hi (by omega)]
 ·try dsimp only
  unfold tF;rw[Ó,List.take_length,RC];have a:(ξ m.2).length<=150:=NH h;refine(ï (List.range 21) (fun k=>M8 (uZ m.2) k (ξ m.2)) (some (M8 (uZ m.2) 21 (ξ m.2))) rfl (fun k j t u e=>?_) (fun e=>?_)).trans ?_
  ·rw[fm] at t
   have g:(M8 (uZ m.2) k (ξ m.2)).length<=1000000:=by
    have:∀n:Nat,(M8 (uZ m.2) n (ξ m.2)).length<=n*150:=fun n=>by
     induction n with
     |zero=>simp[M8]
     |succ n q =>
      unfold M8 at q ⊢;rw[List.range_succ,List.flatMap_append,List.length_append,List.flatMap_cons,List.flatMap_nil,List.append_nil];have:=List.length_filter_le (fun w=>decide (uZ m.2 w=(n:Int))) (ξ m.2);omega
    have:=this k;omega
   try dsimp only
   unfold tE;rw[Ñ (decide_eq_true (by omega))];refine(w7_L4 h (fun w d=>wJ.1 d) a k g _).trans ?_;dsimp only;rw[Ï (by omega) (by omega)];congr 2;unfold M8;rw[List.range_succ,List.flatMap_append,List.flatMap_cons,List.flatMap_nil,List.append_nil]
  ·rw[fm]
   try dsimp only
   unfold tE;rw[Í (by rfl)]
  ·rw[RW fun w _=>?_]
   ·rfl
   ·have:=ahr (ms:=m.2) w h.len5;omega
end
def sameL {L l:BY Int} (i:L.Pairwise (·<·)):Υ l=L↔l.length=L.length/\l.Nodup/\∀x∈l,x∈L:=by
 constructor
 ·rintro rfl;have c:=ÿ l;exact⟨c.length_eq.symm,c.nodup_iff.1 (i.imp fun h=>Int.ne_of_lt h),fun x f=>c.mem_iff.2 f⟩
 ·rintro⟨n,h2,k⟩;have d:L.Nodup:=i.imp fun h=>Int.ne_of_lt h
  have q:∀x∈L,x∈l:=fun x f=>by
   apply Decidable.byContradiction;intro g;have p:∀y∈l,y∈L.erase x:=fun y j=>(List.Nodup.mem_erase_iff d).2 ⟨fun e=>g (e▸j),k y j⟩;have o:=fR h2 p;rw[List.length_erase_of_mem f] at o;have:=f9 f;omega
  have c:l.Perm L:=aln h2 d fun x=>⟨k x,q x⟩;exact gn (le:=(·<=·)) (fun a b _ _ n h2=>iy n h2) (ŕ _) (i.imp fun h=>Int.le_of_lt h) ((ÿ l).trans c)
def akX (L l:BY Int) (k:Nat) (x:Int):Bool:=(L.findIdx? (·==x)).isNone||decide (l.findIdx? (·==x)≠some k)
def amu {L l:BY Int} (p:L.Pairwise (·<·)):(l.length=L.length/\∀(k:Nat) (x:Int),l[k]?=some x->akX L l k x=false)↔Υ l=L:=by
 rw[sameL p];constructor
 ·rintro⟨g,h2⟩;refine⟨g,?_,fun x h=>?_⟩
  ·rw[List.nodup_iff_pairwise_ne,List.pairwise_iff_getElem];intro i j hi f o e;have a:=h2 j l[j] (List.getElem?_eq_getElem f);have d:=h2 i l[i] (List.getElem?_eq_getElem hi);unfold akX at a d;simp only[Bool.or_eq_false_iff,decide_eq_false_iff_not,Decidable.not_not] at a d;rw[e,a.2] at d;have:=Option.some.inj d.2;omega
  ·obtain⟨k,c⟩:=List.mem_iff_getElem?.1 h;have a:=h2 k x c;unfold akX at a;simp only[Bool.or_eq_false_iff] at a;apply Decidable.byContradiction;intro n;rw[Nr n] at a;simp at a
 ·rintro⟨g,h2,a⟩;refine⟨g,fun k x c=>?_⟩;obtain⟨j,f,_⟩:=Ys (a x (List.mem_of_getElem? c));unfold akX;rw[f,am7 h2 c];simp
section
variable {ρ:Type} {m:Ŋ}
def ahw {w:Way} {i:Nat} {l:BY Int} {y:Mx} (c:w[i]?=some l) (o:m.2[i]?=some y) (E:l.length<=100000) (A:y.2.length<=1000) {P:Prop} [Decidable P] (r:P↔∀(k:Nat) (x:Int),l[k]?=some x->akX y.2 l k x=false) (k0:Bool->BE ρ) (Z:BE ρ) :
 Ë (fun(v:Int) z=>km w i m.2 v (fun u=>z u) k0 (fun _=>Z)) 0=if P then Z else k0 false:=by
 refine ð (fun s:Int=>∃k:Nat,k<=l.length/\s=(k:Int)/\∀(j:Nat) (x:Int),j<k->l[j]?=some x->akX y.2 l j x=false) (fun s=>l.length-s.toNat) ?_ ⟨0,d9 _,rfl,fun j x C _=>by omega⟩;rintro s ⟨k,F,rfl,p⟩;rcases dv k l.length with d|B
 ·have a:l[k]?=some l[k]:=df d
  cases hb:akX y.2 l k l[k] with
  |true =>
   refine .inl fun n=>?_;rw[if_neg fun e=>by have:=(r.1 e) k _ a; rw[hb] at this; cases this]
   try dsimp only
   unfold km;rw[Ä c,Ì d,Ä o,Ä c,Ä a,ace (by omega),À];unfold akX at hb
   cases h:y.2.findIdx? (·==l[k]) with
   |none=>rfl
   |some q =>
    rw[h] at hb;simp only[Option.isNone_some,Bool.false_or,decide_eq_true_eq] at hb;dsimp only;rw[Í (by simp[ilt]),Ä c,Ä c,Ä a,ace (by omega),À]
    cases g:l.findIdx? (·==l[k]) with
    |none=>dsimp only; rw[Ñ (by simp[ine])]
    |some D =>
     rw[g] at hb;dsimp only;rw[Ñ (bne_iff_ne.2 fun e=>hb (by rw[Int.ofNat.inj e]))]
  |false =>
   refine .inr ⟨(k:Int)+1,⟨k+1,d,by simp,fun j x C f=>?_⟩,by omega,fun n=>?_⟩
   ·rcases dv j k with t|t
    ·exact p j x t f
    ·have:j=k:=by omega
     subst this;rw[a] at f; cases f;exact hb
   ·try dsimp only
    unfold km;rw[Ä c,Ì d,Ä o,Ä c,Ä a,ace (by omega),À];unfold akX at hb;simp only[Bool.or_eq_false_iff,decide_eq_false_iff_not,Decidable.not_not] at hb
    cases h:y.2.findIdx? (·==l[k]) with
    |none=>rw[h] at hb; simp at hb
    |some q =>
     dsimp only;rw[Í (by simp[ilt]),Ä c,Ä c,Ä a,ace (by omega),À,hb.2];dsimp only;rw[Í (by simp[ine]),Ï (by omega) (by omega)]
 ·refine .inl fun n=>?_
  have:k=l.length:=by omega
  subst this;rw[if_pos (r.2 fun j x a=>p j x (dj.1 a).1 a)]
  try dsimp only
  unfold km;rw[Ä c,Ó]
def Io:∀{ms:BY Mx} {w:Way},jG ms w=true↔w.length=ms.length/\∀(i:Nat) (l:BY Int) (y:Mx),w[i]?=some l->ms[i]?=some y->Υ l=y.2
 |[],[]=>by simp[jG]
 |[],_::_=>by simp[jG]
 |_::_,[]=>by simp[jG]
 |a::ms,b::w=>by
  simp only[jG,dg,decide_eq_true_eq,Io (ms:=ms) (w:=w),dr];constructor
  ·rintro⟨e,h2,f⟩;refine⟨by omega,fun i l y d c=>?_⟩
   cases i with
   |zero=>simp at d c; subst d c; exact e
   |succ i=>exact f i l y (by simpa using d) (by simpa using c)
  ·rintro⟨e,h2⟩;exact⟨h2 0 b a rfl rfl,by omega,fun i l y d c=>h2 (i+1) l y (by simpa using d) (by simpa using c)⟩
def akN (h:MOk m) {w:Way} (G:∀l∈w,l.length<=100000):Cj m w=some (jG m.2 w):=by
 have K:=h.n4;unfold Cj JZ;rw[Î,Î]
 by_cases f:w.length=m.2.length
 case neg =>
  rw[Ñ (by simp[ine]; omega)]
  cases e:jG m.2 w with
  |false=>rfl
  |true=>exact absurd (Io.1 e).1 f
 rw[Í (by simp[ine]; omega)];have r:∀y∈m.2,y.2.Pairwise (·<·):=fun y c=>(h.mix c).asc;refine ð (fun s:Int=>∃i:Nat,i<=w.length/\s=(i:Int)/\∀(j:Nat) (l:BY Int) (y:Mx),j<i->w[j]?=some l->m.2[j]?=some y->Υ l=y.2) (fun s=>w.length-s.toNat) ?_ ⟨0,d9 _,rfl,fun j l y H _ _=>by omega⟩;rintro s ⟨i,hi,rfl,z⟩;rcases dv i w.length with d|I
 ·obtain⟨l,a⟩:∃l,w[i]?=some l:=⟨_,df d⟩;obtain⟨y,c⟩:∃y,m.2[i]?=some y:=⟨_,df (by omega)⟩;have o:=dk c;have p:=G l (dk a);have F:=h.len5 y o;have hb:=amu (l:=l) (r y o)
  have t:¬Υ l=y.2->some false=some (jG m.2 w):=fun e=>by
   cases J:jG m.2 w with
   |false=>rfl
   |true=>exact absurd ((Io.1 J).2 i l y a c) e
  by_cases q:l.length=y.2.length
  ·have B:Υ l=y.2↔∀(k:Nat) (x:Int),l[k]?=some x->akX y.2 l k x=false:=⟨fun e=>(hb.2 e).2,fun e=>hb.1 ⟨q,e⟩⟩
   by_cases u:Υ l=y.2
   ·refine .inr ⟨(i:Int)+1,⟨i+1,d,by simp,fun j E D H n g=>?_⟩,by omega,fun v=>?_⟩
    ·rcases dv j i with C|C
     ·exact z j E D C n g
     ·have:j=i:=by omega
      subst this;rw[a] at n; rw[c] at g;cases n; cases g;exact u
    ·try dsimp only
     unfold kp;rw[Ì d,Ä a,Ä c,Î,Î,Í (by simp[ine]; omega),ahw a c p (by omega) B,if_pos u,Ï (by omega) (by omega)]
   ·refine .inl fun v=>?_
    try dsimp only
    unfold kp;rw[Ì d,Ä a,Ä c,Î,Î,Í (by simp[ine]; omega),ahw a c p (by omega) B,if_neg u];exact t u
  ·refine .inl fun v=>?_
   try dsimp only
   unfold kp;rw[Ì d,Ä a,Ä c,Î,Î,Ñ (by simp[ine]; omega)];exact t fun e=>q (hb.2 e).1
 ·refine .inl fun v=>?_
  have:i=w.length:=by omega
  subst this
  try dsimp only
  unfold kp;rw[Ó,Io.2 ⟨f,fun j l y A c=>z j l y (List.getElem?_eq_some_iff.1 A).1 A c⟩]
end
section
variable {L:BY Lk} {N:Nat}
def qW:∀(A B:BY Lk),mi (A++B)=mi A+mi B
 |[],B=>by simp[mi,CM]
 |l::A,B=>by
  have:=qW A B;simp only[mi,CM,if_true,fi] at this ⊢;omega
def aiu (k:Nat) (L:BY Lk):mi L<=mi (L.take k):=by
 have h:=qW (L.take k) (L.drop k);rw[List.take_append_drop] at h;have:=nB (fun _=>true) (L.drop k);unfold mi at *;omega
def Ox (L:BY Lk):mi L<=0:=nB _ _
def af2 (L:BY Lk) (l:Lk) (x:BY Int):iS (L++[l]) x=iB (iS L x) l:=by
 unfold iS;rw[List.foldl_append];rfl
def Wg:∀{L:BY Lk},InR L N->∀{x:BY Int} {B:Int},x.length=N->B<=0->(∀v:Int,0<=v->v<N->B<=gv x v)->∀v:Int,0<=v->v<N->B+mi L<=gv (iS L x) v
 |[],_,x,B,_,_,c,v,h0,a=>by have:=c v h0 a; simp[mi,CM,iS]; omega
 |l::t,f,x,B,g,i,c,v,h0,a=>by
  have d:=f l (by simp)
  have key:∀v:Int,0<=v->v<N->B+min l.2.2 0<=gv (iB x l) v:=by
   intro v h0 a;have h2:=c v h0 a;have j:=c l.1 d.1.1 d.1.2;unfold iB
   split
   ·rw[pP d.2.1 h0 (by omega)]
    split<;>omega
   ·omega
  have:=Wg (L:=t) (fun m h=>f m (by simp[h])) (x:=iB x l) (B:=B+min l.2.2 0) (by rw[mo]; exact g) (by omega) key v h0 a;show B+mi (l::t)<=gv (iS t (iB x l)) v
  have e:mi (l::t)=min l.2.2 0+mi t:=by simp[mi,CM]
  rw[e];omega
def alj {d x:BY Int} {l:Lk} (c:(0<=l.1/\l.1<N)/\(0<=l.2.1/\l.2.1<N)) (g:x.length=N) (a:∀v:Int,0<=v->gv x v<=gv d v) (f:gv x l.1+l.2.2<gv x l.2.1):x.set l.2.1.toNat (gv x l.1+l.2.2)≠d:=by
 intro e;have h:=a l.2.1 c.2.1
 have h2:gv (x.set l.2.1.toNat (gv x l.1+l.2.2)) l.2.1=gv x l.1+l.2.2:=by rw[pP c.2.1 c.2.1 (by omega),if_pos rfl]
 rw[e] at h2;omega
def aeX {ρ:Type} {x:BY Int} {v:Int} (h0:0<=v) (a:v<x.length) (f:Int->BE ρ):à ((ile (0:Int) v)&&(ilt v (í x))) (ī x (Int.toNat v) f)=f (gv x v):=by
 rw[show í x=((x.length:Nat):Int) from rfl,Ź h0 a,kR (by omega)]
set_option maxHeartbeats 1000000 in
def aij (z:InR L N) (H:∀l∈L,-4503599627370496<=l.2.2/\l.2.2<=4503599627370496) (y:L.length<=1000000) {a:BY Int} (r:a.length=N) (h0:∀v:Int,0<=v->v<N->gv a v<=0) {B:Int} (I:B<=0) (g:∀v:Int,0<=v->v<N->B<=gv a v) (hb : -9000000000000000000<=B+mi L) (K:Bool×BY Int->BE Bool) :
 Ë (fun(e:Bool×Int×BY Int) f=>oZ L e.1 e.2.1 e.2.2 (fun q p o=>f (q,p,o)) K) (false,(0:Int),a)=K (decide (iS L a≠a),iS L a):=by
 refine ð (fun s:Bool×Int×BY Int=>∃k:Nat,k<=L.length/\s=(decide (iS (L.take k) a≠a),(k:Int),iS (L.take k) a)) (fun s=>L.length-s.2.1.toNat) ?_ ⟨0,by omega,by simp[iS]⟩;rintro s ⟨k,M,rfl⟩;rcases dv k L.length with d|G
 ·have ha:L[k]?=some L[k]:=df d;have c:=z _ (dk ha);have J:=H _ (dk ha);have n:InR (L.take k) N:=fun l c=>z l (fQ c)
  have u:(iS (L.take k) a).length=N:=by rw[sN,r]
  have i:=wX n r;have D:=aiu k L;have F:=Wg n r I g L[k].1 c.1.1 c.1.2;have C:=i L[k].1 c.1.1;have x:=h0 L[k].1 c.1.1 c.1.2;have E:=Ox L;refine .inr ⟨(decide (iS (L.take (k+1)) a≠a),((k+1:Nat):Int),iS (L.take (k+1)) a),⟨k+1,d,rfl⟩,by simp only[dt]; omega,fun A=>?_⟩
  try dsimp only
  unfold oZ;rw[Ì d,Ä ha,aeX c.1.1 (by omega),Ï (by omega) (by omega),aeX c.2.1 (by omega),ô,take_succ ha,af2]
  by_cases j:gv (iS (L.take k) a) L[k].1+L[k].2.2<gv (iS (L.take k) a) L[k].2.1
  ·have t:iB (iS (L.take k) a) L[k]=(iS (L.take k) a).set L[k].2.1.toNat (gv (iS (L.take k) a) L[k].1+L[k].2.2):=by
    unfold iB;rw[if_pos ⟨by unfold š; omega,j⟩]
   rw[if_pos (by simpa[ilt] using j),aeX c.1.1 (by omega),Ï (by omega) (by omega),aeX c.2.1 (by omega),Ê d (by omega),t];have:decide ((iS (L.take k) a).set L[k].2.1.toNat (gv (iS (L.take k) a) L[k].1+L[k].2.2)≠a)=true:=decide_eq_true (alj c u i j);rw[this];rfl
  ·have t:iB (iS (L.take k) a) L[k]=iS (L.take k) a:=by
    unfold iB;rw[if_neg (fun h=>j h.2)]
   rw[if_neg (by simpa[ilt] using j),Ê d (by omega),t];rfl
 ·have:k=L.length:=by omega
  subst this;refine .inl fun A=>?_
  try dsimp only
  unfold oZ;rw[Ó,List.take_length]
def ah6 {x:BY Int} {n:Nat} (h:iS L (į L n x)=į L n x):∀m,n<=m->į L m x=į L n x:=by
 intro m d
 induction m with
 |zero =>
  have:n=0:=by omega
  subst this; rfl
 |succ m c =>
  rcases dv m n with a|a
  ·have:n=m+1:=by omega
   subst this; rfl
  ·rw[i7,c a,h]
def N6:List.replicate N (0:Int)=iR (ze N) N:=by
 refine abr (by simp[ú]) fun v h0 c=>?_
 have a:v<N:=by simpa using c
 rw[Μ _ h0 a,if_pos (by simp[ze,h0,a])];unfold gv;rw[List.getElem?_replicate]
 split<;>rfl
set_option maxHeartbeats 1000000 in
def amL (h:j7 L N) (r : -140000000000000000<=mi L):IR ((N:Int),L)=some (kQ L N):=by
 have h2:=h.n60;have G:=h.n1;have F:=h.len;have z:=Ox L;unfold IR PS;dsimp only;rw[Cd (by omega),Int.toNat_natCast,N6]
 have bd:∀n:Nat,(∀v:Int,0<=v->v<N->gv (į L n (iR (ze N) N)) v<=0)/\(∀v:Int,0<=v->v<N->(n:Int)*mi L<=gv (į L n (iR (ze N) N)) v):=by
  intro n
  induction n with
  |zero =>
   constructor
   ·intro v h0 c;show gv (iR (ze N) N) v<=0;rw[Μ _ h0 c,if_pos (by simp[ze,h0,c])]; omega
   ·intro v h0 c;show _<=gv (iR (ze N) N) v;rw[Μ _ h0 c,if_pos (by simp[ze,h0,c])]; simp
  |succ n q =>
   have j:(į L n (iR (ze N) N)).length=N:=by rw[ł,ú]
   rw[i7];constructor
   ·intro v h0 c;have:=wX h.inr j v h0;have:=q.1 v h0 c;omega
   ·intro v h0 c;have:=Wg h.inr j (B:=(n:Int)*mi L) (by have:=fZ (show(0:Int)<=n by omega) (show 0<=-mi L by omega); rw[Int.mul_neg] at this; omega) q.2 v h0 c;rw[f6,f8,gj];exact this
 refine ð (fun s:Bool×Int×BY Int=>∃n:Nat,n<=N+1/\s.2.1=(n:Int)/\s.2.2=į L n (iR (ze N) N)/\s.1=(if n=0 then true else decide (į L n (iR (ze N) N)≠į L (n-1) (iR (ze N) N)))) (fun s=>N+1-s.2.1.toNat) ?_ ⟨0,by omega,rfl,rfl,rfl⟩;rintro⟨H,i,x⟩ ⟨n,E,y,u,t⟩;dsimp only at y u t ⊢;subst y u t
 have j:(į L n (iR (ze N) N)).length=N:=by rw[ł,ú]
 by_cases A:n<=N
 ·by_cases g:(if n=0 then true else decide (į L n (iR (ze N) N)≠į L (n-1) (iR (ze N) N)))=true
  ·refine .inr ⟨(decide (iS L (į L n (iR (ze N) N))≠į L n (iR (ze N) N)),((n+1:Nat):Int),iS L (į L n (iR (ze N) N))),⟨n+1,by omega,rfl,(i7 L n _).symm,?_⟩,by simp only[dt]; omega,fun p=>?_⟩
   ·rw[if_neg (by omega),Nat.add_sub_cancel,i7]
   ·unfold o8;rw[g,Ñ (by simp[ile]; omega),ku]
    have C : -9000000000000000000<=(n:Int)*mi L+mi L:=by
     have D:(n:Int)*(-mi L)<=60*140000000000000000:=fL (by omega) (by omega) (by omega) (by omega);rw[Int.mul_neg] at D;omega
    have o:(n:Int)*mi L<=0:=by
     have:=fZ (show(0:Int)<=n by omega) (show 0<=-mi L by omega);rw[Int.mul_neg] at this;omega
    refine Eq.trans (aij h.inr h.most (by omega) j (bd n).1 o (bd n).2 C _) ?_;dsimp only;rw[Ï (by omega) (by omega)];rfl
  ·refine .inl fun p=>?_;have a:=Bool.eq_false_iff.2 g;unfold o8;rw[a,Ñ (by simp[ile]; omega),æ]
   have k:n≠0:=by intro e; rw[e] at a; simp at a
   rw[if_neg k] at a
   have l:į L n (iR (ze N) N)=į L (n-1) (iR (ze N) N):=by simpa using a
   have d:iS L (į L (n-1) (iR (ze N) N))=į L (n-1) (iR (ze N) N):=by
    rw[<-i7,Nat.sub_add_cancel (by omega)];exact l
   have f:=ah6 d N (by omega)
   have:kQ L N=true:=by
    unfold kQ iU;rw[f];exact decide_eq_true d
   rw[this];rfl
 ·refine .inl fun p=>?_
  have:n=N+1:=by omega
  subst this;unfold o8;rw[Í (by simp[ile]; omega),if_neg (by omega),Nat.add_sub_cancel,i7];unfold kQ iU
  by_cases hd:iS L (į L N (iR (ze N) N))=į L N (iR (ze N) N)
  ·simp[hd]
  ·simp[hd]
end
def Oy {α:Type} (F:α->BY Lk) (B:Int):∀l:BY α,(∀a∈l,-B<=mi (F a))->-(l.length*B)<=mi (l.flatMap F)
 |[],_=>by simp[mi,CM]
 |a::l,h=>by
  rw[dF,qW];have e:=h a (by simp);have h2:=Oy F B l fun c d=>h c (by simp[d]);rw[dr,f6,f8,gj];omega
def ait {L:BY Lk} (h:∀l∈L,0<=l.2.2):mi L=0:=by
 induction L with
 |nil=>rfl
 |cons l t a =>
  have d:=h l (by simp);have h2:=a fun m c=>h m (by simp[c])
  have e:mi (l::t)=min l.2.2 0+mi t:=by simp[mi,CM]
  rw[e,h2];omega
def ţ.neg {b:ø} (h:ţ b) : -140000000000000000<=mi (Τ b):=by
 have s:=h.nG;have t:=h.nC
 have o:∀g∈b.2.1,-1130000000000000<=mi (ö b g):=by
  intro g d;have e:=h.gaugeR d;have r1:=e.2.2.2.2.2.1;have r2:=e.2.2.2.2.2.2.1;unfold ö
  rw[qW,ait (L:=(List.range ((Ü b g).length-1)).flatMap _) (fun l a=>by
   obtain⟨k,i,a⟩:=dG.1 a;have f:=fj.1 i;simp only[dm,ir,or_false] at a;rcases a with rfl|rfl
   ·exact dV _
   ·have hd:(Ü b g)[k]?=some ((Ü b g)[k]?.getD 0):=by rw[df (by omega)]; rfl
    exact(jT h d (h.day d (dk hd)).2.1).1)]
  simp only[mi,CM,if_true];omega
 have n:∀c∈b.2.2.2.2.1,-2260000000000000<=mi (ĺ b c):=by
  intro c j;have p:=wV h j;unfold ĺ;simp only[mi,CM,if_true];omega
 have r:=Oy (ö b) 1130000000000000 b.2.1 o;have q:=Oy (ĺ b) 2260000000000000 b.2.2.2.2.1 n;unfold Τ;rw[qW];omega
def ahb {b:ø} (h:ţ b):yq b=some (((Ø b).length:Int)+1,Τ b):=by
 have a:=h.nodes;unfold yq Fo;rw[Jf h.pre,À,Î,Ï (by omega) (by omega),akE h,À]
section
variable {m:Ŋ} {w:Way}
def L5 (h:MOk m) (c:Į m.2 w):mS m w=some (lX m w):=by
 have a:=wQ h c;unfold mS xv;rw[Y8 h c,À,ahb a,À];have:=amL a.sys a.neg;rw[show((((Ø (trP m w)).length:Int)+1,Τ (trP m w)):Sys)=((((Ø (trP m w)).length+1:Nat):Int),Τ (trP m w)) from by push_cast; rfl,this];rfl
def akS (h:MOk m):IL m=some (kv m):=by
 have g:=sJ h;have e:((((m.1.1.1,m.1.1.2),m.1.2.1,m.1.2.2.1,m.1.2.2.2.1,m.1.2.2.2.2.1,m.1.2.2.2.2.2),m.2):Ŋ)=m:=rfl;unfold IL Xe kv;rw[amB h,À];refine ï (Ł m.2) (fun i=>((Ł m.2).take i).filter (lX m)) _ rfl (fun i w hi a d=>?_) (fun d=>?_)
 ·have f:=eh (lX m) ((Ł m.2).take i);rw[du] at f
  try dsimp only
  unfold xw;rw[Ì hi,Ä a,e,L5 h (qS a),À,take_succ a,List.filter_append]
  cases c:lX m w with
  |true=>rw[Ñ (by rfl),Ä a,ä (Ò (by simp only[dr,dO]; omega)),Ê hi (by omega),fC c,eS]
  |false=>rw[Í (by rfl),Ê hi (by omega),fh (by simp[c]),eS,dB]
 ·try dsimp only
  unfold xw;rw[Ó,List.take_length]
end
def Rn {α:Type} {p:α->Bool}:∀{l:BY α},l.find? p=(l.filter p).head?
 |[]=>rfl
 |a::l=>by
  cases h:p a with
  |true=>rw[List.find?_cons_of_pos h,fC h]; rfl
  |false=>rw[List.find?_cons_of_neg (by simp[h]),fh (by simp[h]),Rn]
def YG {m:Ŋ} (G:∀g∈m.1.2.1,I64 g.2.2.2.2.1.1) (w:Way):nZ m w=some true:=by
 unfold nZ nD;rw[ahN,À,afU]
 by_cases A:Zx m=true
 case neg=>rw[eP.2 A]; rfl
 have k:=ahO A G;have H:=k.n6
 have B:∀x∈m.2,x.2.length<=1000000:=fun x D=>by have:=k.l9 x D; omega
 rw[A,Í (by rfl),alo w 8 (by omega),À]
 cases F:(decide ((w.length:Int)<=8)&&!w.any fun l=>decide (100<l.length)) with
 |false=>rfl
 |true =>
 obtain⟨E,d⟩:=ah5 F
 have n:∀l∈w,l.length<=100000:=fun l o=>by have:=d l o; omega
 rw[Í (by rfl),adT k.inn (by omega) n,À,anm k.inn (by omega),À,aca k.inn (by omega),À,ahd k.inn.size (by omega) B,À]
 by_cases a:ĭ m=0
 case neg =>
  have ha:pu m w=ĭ m:=by unfold pu; rw[if_pos a]
  have K:pu m w≠0:=by rw[ha]; exact a
  rw[BL,yd,if_pos K,if_pos a,if_pos a,ha,Ñ (by simp[ine,a]),À,ku,Ñ (by simp[ieq]),Ñ (by simp[ieq]),Ñ (by simp[ieq]),Ñ (by rfl)];dsimp only;rw[Î,Î,Ï (by simp) (by simp)];rfl
 have h:=(œ m).1 a;have M:=h.n4;have I:=aeZ h
 have i:jj (kv m) (kv m)=some true:=by
  rw[adS (by omega) fun v y=>by
   have j:=(Nt y).1
   exact⟨by rw[j.len]; omega,fun l o=>by have:=Zh h j l o; omega⟩]
  simp
 have c:∀Z:BE Bool,Z=(Æ (jj (kv m) (kv m)) fun u=>ifb (!u) (some false) (ifb (ieq (Õ (kv m)) (0:Int)) (Æ (some true) fun s=>ifb s (ifb (ieq (yd m).2 (5:Int)) (some (ieq (Õ (yd m).1) (0:Int))) (some false)) (some false)) (Æ (some true) fun r=>ifb r (ifb (ieq (yd m).2 (0:Int)) (é (kv m) (0:Int) fun C=>Æ (iY (yd m).1 C) fun q=>some q) (some false)) (some false))))->Z=some true:=by
  rintro Z rfl;rw[i,À,Í (by rfl)];unfold yd;rw[if_neg (by simp[a])]
  cases p:kv m with
  |nil =>
   rw[(abt m).1 p,Î,if_neg (by simp),Î,Ñ (by simp[ieq]),À,ku,Ñ (by rfl)];simp[ieq]
  |cons v t =>
   have y:v∈kv m:=by rw[p]; simp
   have j:=(Nt y).1
   have z:m8 m=true:=by
    cases e:m8 m with
    |true=>rfl
    |false=>rw[(abt m).2 e] at p; cases p
   have J:(LW m).1=v:=by
    unfold LW
    have:(Ł m.2).find? (lX m)=some v:=by
     rw[Rn];show(kv m).head?=some v;rw[p]; rfl
    rw[this]
   rw[z,Í (by rw[Î]; exact decide_eq_false (by simp only[List.length_cons]; omega)),À,ku,if_pos rfl,Ñ (by rfl),show é (v::t) (0:Int)=fun f=>f v from by funext f; rfl];dsimp only;rw[J,K8 (by rw[j.len]; omega) (fun l o=>by have:=Zh h j l o; omega),À];simp
 rw[if_neg (by simp[a]),Í (by simp[ine,a]),akN h n,À]
 cases hi:jG m.2 w with
 |false =>
  have ha:pu m w=1:=by unfold pu; rw[if_neg (by simp[a]),hi]; rfl
  rw[BL,if_pos (by rw[ha]; simp),ha,Í (by rfl),Í (by rfl),Í (by rfl),akS h,À,Í (by rfl)];exact c _ rfl
 |true =>
  have ha:pu m w=0:=by unfold pu; rw[if_neg (by simp[a]),hi]; rfl
  have j:=(FW.1 ha).2;rw[BL,if_neg (by simp[ha]),Ñ (by rfl),Í (by rfl),L5 h j,À,Í (by simp),akS h,À,Í (by rfl)];exact c _ rfl
end Go.Proofs.ZzM
end
