/- lemmas -/
import Derived.Test.YtenljaeklhlanaaGreatPlB
import Derived.Test.YtenljaeklhlanaaGreatPlA
import Derived.Test.YtenljaeklhlanaaGreatMdTA
set_option linter.all false
noncomputable section
namespace Go.Proofs.ZzM
open Go Go.Am
def aiq {ρ α:Type} [DecidableEq α] {l m:CK α} (k:l.length=m.length) (K:Bool->BY ρ) {f:Int->(Int->BY ρ)->BY ρ}
 (h:∀(i:Nat) (a b:α),i<l.length->l[i]?=some a->m[i]?=some b->∀c,f i c=if a=b then c ((i:Int)+1) else K false) (j:∀c,f l.length c=K true):Ë f 0=K (decide (l=m)):=by
 refine dJ (iQ l (fun i a=>if m[i]?=some a then none else some false) K (K true) (fun i a hi ha c=>?_) j) ?_
 ·have g:m[i]?=some m[i]:=cV (by omega);rw[h i a _ hi ha g,g]
  by_cases d:a=m[i]
  ·simp[d]
  ·have:¬m[i]=a:=fun e=>d e.symm;simp[d,this]
 ·cases h:ė (fun i a=>if m[i]?=some a then none else some false) 0 l with
  |none=>simp[X6 k h]
  |some b =>
   obtain⟨n,h2⟩:=X5 h;simp[n,h2]
def agE {a b:Way} (k:a.length<=1000000) (j:∀l∈a,l.length<=1000000):uU a b=some (decide (a=b)):=by
 unfold uU KT;rw[Î,Î]
 by_cases c:a.length=b.length
 ·rw[Ì (by simp[ine,c])];refine aiq c some (fun i x y hi d g f=>?_) (fun f=>?_)
  ·try dsimp only
   unfold mY;rw[Í hi,Ã d,Ã g,FR (j x (List.mem_of_getElem? d)),À,È hi (by omega),é]
   by_cases h:x=y<;>simp[h]
  ·try dsimp only
   unfold mY;rw[Ô]
 ·rw[Ð (by simp[ine]; omega)];have:a≠b:=fun e=>c (by rw[e]);simp[this]
def ajz {L:CK Lk} {p:Int->Int} (d:Pot L p) (c:CK Int):ø L c≠0:=by
 unfold ø
 by_cases h2:jo L c=0
 case neg=>rw[if_pos h2]; exact h2
 rw[if_neg (by simp[h2])];have hi:=(ab0 h2).2
 cases c with
 |nil=>exact(by decide:(8:Int)≠0)
 |cons i t =>
  dsimp only;unfold UV
  split
  ·rename_i a;have:=acN d (i::t) (L[i.toNat]?.getD (0,0,0)).1 0 hi a.1;rw[a.2.1] at this;have:=a.2.2;omega
  ·decide
def ajy {m:Ň} {w:Way} (h:MOk m) (d:ĵ m.2 w) {c:CK Int} (g:ø (sT m w) c=0):nq m w=false:=by
 rw[eE];intro f;have a:=nP h d;have i:=a.sys.n60;obtain⟨p,e⟩:=(mJ a.sys.links (by omega)).1 f;exact ajz e c g
def ahy {m:Ň} (h:MOk m) {a:CK (CK Int)} (f:kp m a=true):∀w∈Ğ m.2,nq m w=false:=by
 intro w e;obtain⟨i,hi,rfl⟩:=dm.1 e;have:=dC.1 f i (ff.2 hi);rw[cV hi] at this
 cases d:a[i]? with
 |none=>rw[d] at this; cases this
 |some c =>
  rw[d] at this;exact ajy h (vw.1 e) (of_decide_eq_true this)
def KD {m:Ň} (h:MOk m) (d:nA m=false):kp m ((Ğ m.2).map fun w=>uX (sT m w) (nT m w))=true:=by
 refine dC.2 fun i hi=>?_;rw[ff] at hi;have c:(Ğ m.2)[i]?=some (Ğ m.2)[i]:=cV hi;have a:(Ğ m.2)[i]∈Ğ m.2:=fC hi;rw[eP,c];have e:=dI.1 d _ a;exact decide_eq_true (IZ (nP h (vw.1 a)).sys (eE.2 e)).2.1
def exM (l:CK Cmp):Ň:=(((0,2),[(1,0,1000,(-5,5),(1,10),1),(2,0,1000,(-50,50),(1,4),0),(3,0,1100,(-1,1),(0,1),0)],[(1,10)],[(1,(20,29),3)],(7,10,[1],[2],-20,1,100,200)::l,[]),[(12,[2,3])])
def ex8:Cmp:=(8,15,[2],[1],100,1,0,0)
def ex9:Cmp:=(9,15,[3],[],1100,0,0,0)
def ai9 {l:CK Cmp} (f:l.length<=10) (e:∀c∈l,c.2.2.1.length<=10/\c.2.2.2.1.length<=10):In (exM l).1:=by
 refine⟨⟨by simp[exM],by simp[exM],by simp[exM],by simp[exM]; omega,by simp[exM],fun c a=>?_⟩,fun g d=>?_⟩
 ·rcases df.1 (show c∈(7,10,[1],[2],-20,1,100,200)::l from a) with rfl|a
  ·exact⟨by decide,by decide⟩
  ·have:=e c a; omega
 ·simp only[exM,df,iu,or_false] at d
  rcases d with rfl|rfl|rfl<;>exact⟨by decide,by decide⟩
def w0:Ĵ (exM [])=0/\Ĵ (exM [ex8])=0/\Ĵ (exM [ex8,ex9])=0:=by decide +kernel
def w1:Ğ (exM []).2=[[[2,3]],[[3,2]]]:=by decide +kernel
def w2:vq (exM [])=[[[2,3]],[[3,2]]]:=by decide +kernel
def w3:abT (exM [ex8])=([[3,2]],0):=by decide +kernel
def w4:acF (exM [ex8]) 2 15=([(3,1099,1101)],0):=by decide +kernel
def w5:aov (exM [ex8,ex9])=([8,9],0):=by decide +kernel
def w6:akl (exM [ex8,ex9]) [7,8,9]=([8,9],0):=by decide +kernel
def w7:Kq (exM [ex8,ex9]) 2=(false,0):=by decide +kernel
def w8:nA (exM [ex8,ex9])=false:=by decide +kernel
def w9:WhoP (exM [ex8,ex9]) [[3,2]] 2 13=(3,0):=by decide +kernel
def afa:ξ=some true:=by
 have d:In (exM []).1:=ai9 (by decide) (by simp);have e:In (exM [ex8]).1:=ai9 (by decide) (by decide);have a:In (exM [ex8,ex9]).1:=ai9 (by decide) (by decide)
 have n:∀l,(exM l).2.length<=1000:=fun l=>by simp[exM]
 have h0:=(Ŗ _).1 w0.1;have h2:=(Ŗ _).1 w0.2.2;have o:Ű []=some (exM []):=rfl;have k:Ű [((8:Int),(15:Int),[(2:Int)],[(1:Int)],(100:Int),(1:Int),(0:Int),(0:Int))]=some (exM [ex8]):=rfl;have j:Ű [((8:Int),(15:Int),[(2:Int)],[(1:Int)],(100:Int),(1:Int),(0:Int),(0:Int)),((9:Int),(15:Int),[(3:Int)],[],(1100:Int),(0:Int),(0:Int),(0:Int))]=some (exM [ex8,ex9]):=rfl
 have g:ze (exM [ex8,ex9])=((Ğ (exM [ex8,ex9]).2).map (fun w=>uX (sT (exM [ex8,ex9]) w) (nT (exM [ex8,ex9]) w)),0):=by
  unfold ze; rw[if_neg (by simp[w0.2.2]),w8]; rfl
 have q:ju (exM [ex8,ex9]) ((Ğ (exM [ex8,ex9]).2).map fun w=>uX (sT (exM [ex8,ex9]) w) (nT (exM [ex8,ex9]) w))=0:=by
  unfold ju;rw[if_neg (by simp[w0.2.2]),if_neg (by simp),KD h2 w8]; rfl
 have p:∀c,ju (exM []) c=8:=fun c=>by
  unfold ju;rw[if_neg (by simp[w0.1])]
  split
  ·rfl
  ·rw[if_neg];intro h;have:=ahy h0 h [[2,3]] (by rw[w1]; simp)
   have i:[[2,3]]∈vq (exM []):=by rw[w2]; simp
   rw[(aed i).2] at this;cases this
 unfold ξ EV;rw[o,À,aom d (n _),À,if_neg (by simp[w0.1]),À,All_ok d (n _),À,if_neg (by simp[w0.1]),k,À,akA e (n _),À,À,akC e (n _),À,j,À,aou a (n _),À,acE a (n _) (by simp),À,aaS a (n _),À,w1,w2,w3,w4,w5,w6,w7];rw[aeV a (n _),À,g,Ì (by rfl),Ì (by rfl),Ì (by rfl),Ì (by rfl),Ì (by rfl),Ì (by rfl),Ì (by rfl),Ì (by simp[ine,Î]),Ì (by simp[ine,Î]),Ì (by rfl)];rw[show ∀f:Way->BY Bool,â [[[2,3]],[[3,2]]] (1:Int) f=f [[3,2]] from fun f=>rfl];dsimp only;rw[aol a (n _) (by decide),À,w9,Ì (by rfl),Ì (by rfl),Ì (by rfl),yP a (n _),À,q,Ì (by rfl),À,yP d (n _),À,p,Ì (by rfl)];rw[agE (by decide) (by decide),À,Ð (by rfl),Ð (by simp[ieq,Î])];rw[show ∀f:Int×Int×Int->BY Bool,â [((3:Int),(1099:Int),(1101:Int))] (0:Int) f=f (3,1099,1101) from fun f=>rfl];dsimp only;rw[Ð (by rfl),FR (by decide),À,Ð (by rfl),À];rfl
structure amB (b:ò) (c:Cmp):Prop where
 ok:akD b c
 ids:b.2.1.Pairwise fun a b=>a.1<b.1
 pile:∀x∈c.2.2.1++c.2.2.2.1,∃g,í b x=some g
def ţ.cmpIn {b:ò} (h:ţ b) {c:Cmp} (a:c∈b.2.2.2.2.1):amB b c:=⟨h.cmp a,h.ids,fun x d=>by obtain⟨⟨g,e,_⟩,_⟩:=h.pile a d; exact⟨g,e⟩⟩
def akD.ne {b:ò} {c:Cmp} (h:akD b c):∀x∈c.2.2.1++c.2.2.2.1,x≠0:=by
 intro x a;have d:=(Ŝ c).1 h.nums;have e:=((zJ _).1 d.2.2.2.2.2.1).1;have h2:=((zJ _).1 d.2.2.2.2.2.2).1;rcases de.1 a with a|a
 ·have:=e x a; omega
 ·have:=h2 x a; omega
def aaU {b:ò} (i:iX b) (hi:b.2.1.Pairwise fun a b=>a.1<b.1) {p q:CK Int} (h:∀x∈p,x≠0/\∃g,í b x=some g):wR b (Lm p q)=some (F5 (ś b) (Þ p q)):=by
 have n:=i.gauges;unfold wR T3
 cases c:Þ p q with
 |nil =>
  have:Lm p q=0:=by unfold Lm; rw[c]; rfl
  rw[this];rfl
 |cons x t =>
  have e:Lm p q=x:=by unfold Lm; rw[c]; rfl
  have k:x∈p:=(lM.1 (show x∈Þ p q by rw[c]; simp)).1;obtain⟨h0,g,f⟩:=h x k;rw[e,Ì (by simpa[ieq] using h0),CN (by omega),À];rcases rk (b:=b) (id:=x) with⟨j,g',h2,d,l⟩|⟨h2,d⟩
  ·rw[h2]
   try dsimp only
   rw[Ã d];unfold F5;dsimp only;rw[vM hi,l]
  ·rw[d] at f; cases f
def Vb {b:ò} (e:iX b) {c:Cmp} (h:amB b c):sK b c=some (ń b c):=by
 have d:=(Ŝ c).1 h.ok.nums;have ha:=Ī d.2.2.2.2.2.1;have hb:=Ī d.2.2.2.2.2.2;have i:∀x∈c.2.2.1,x≠0/\∃g,í b x=some g:=fun x a=>⟨h.ok.ne x (by simp[a]),h.pile x (by simp[a])⟩;have f:∀x∈c.2.2.2.1,x≠0/\∃g,í b x=some g:=fun x a=>⟨h.ok.ne x (by simp[a]),h.pile x (by simp[a])⟩;unfold sK Pp;rw[BV (by omega) (by omega),À,aaU e h.ids i,À,BV (by omega) (by omega),À,aaU e h.ids f,À,aon h.ok.r1 h.ok.r2,À]
 try dsimp only
 rw[akt (heat:=c.2.2.2.2.2.2) (Ng h.ok.r1 h.ok.r2) d.2.2.2.2.1,À];rfl
def aaX {b:ò} {c:Cmp} (d:c.2.2.1.length<=1000) (a:c.2.2.2.1.length<=1000) (h:0<=b.1.1) (h2:b.1.1<=1000000) (g:0<=b.1.2) (f:b.1.2<=1000000):wU b c=some (lr b c):=by
 unfold wU Ua lr
 have e:∀n:Nat,SP 0 ((n:Int)-1)=((n-1:Nat):Int):=by
  intro n;unfold SP
  split<;>omega
 have bd:∀(n:Nat) (x:Int),n<=1000->0<=x->x<=1000000->0<=((n-1:Nat):Int)*x/\((n-1:Nat):Int)*x<=1000000000:=by
  intro n x j h0 i;refine⟨fW (by omega) h0,?_⟩;have:=fG (show((n-1:Nat):Int)<=1000 by omega) i h0 (by omega);omega
 have o:=bd _ _ d h h2;have l:=bd _ _ d g f;have b3:=bd _ _ a h h2;have k:=bd _ _ a g f;simp only[Î];rw[Ï (by omega) (by omega),Ï (by omega) (by omega)];simp only[e];rw[Ï (by omega) (by omega),Ï (by omega) (by omega),Ï (by omega) (by omega),Ï (by omega) (by omega),Ï (by omega) (by omega),Ï (by omega) (by omega)]
def amw {b:ò} (f:iX b) (g:0<=b.1.1/\b.1.1<=b.1.2/\b.1.2<=1000000) {c:Cmp} (h:amB b c):wS b c=some (ql b c):=by
 have a:=(Ŝ c).1 h.ok.nums;have ha:=Ī a.2.2.2.2.2.1;have hb:=Ī a.2.2.2.2.2.2;obtain⟨e,d,n,l,b3⟩:=Kz g h.ok;have k:=xf e;have j:=sF d;have i:=sH (b:=b) (c:=c) (by omega) (by omega) (by omega) (by omega) (by omega) (by omega);have hd:=a.2.2.1;unfold wS Zr ql;rw[Vb f h,À,aaX (by omega) (by omega) (by omega) (by omega) (by omega) (by omega),À,aaV d.rat,aeS e.rat];simp only[À];rw[Ï (by omega) (by omega),Ï (by omega) (by omega),Ï (by omega) (by omega),Ï (by omega) (by omega),Ï (by omega) (by omega),Ï (by omega) (by omega)]
section
variable {b:ò}
def aeU (h:ţ b) {id:Int} {g:è} (i:í b id=some g) {f t:Int} (r:0<=f/\f<=100000) (E:t<=100000):nh b id f t=some (υ b g f t):=by
 have H:=h.nG;have F:=h.nU;have G:=h.nL;obtain⟨a,k⟩:=i9 i;unfold nh Zu;rw[CN (by omega),À];rcases rk (b:=b) (id:=id) with⟨j,g',h2,o,u⟩|⟨h2,o⟩
 ·rw[h2]
  have:g'=g:=by rw[i] at u; exact(Option.some.inj u).symm
  subst this
  try dsimp only
  rw[Ã o];refine ï (fun x:Int×Int=>f<=x.2/\(x.2<=t\/x.2=f)/\x.1=υ b g' f x.2) (fun x=>(t-x.2).toNat) ?_ ⟨dQ _,.inr rfl,(Bn g' (dQ _)).symm⟩;rintro⟨s,d⟩ ⟨c,n,q⟩;simp only at c n q;subst q
  by_cases hd:d<t
  ·refine .inr ⟨(υ b g' f (d+1),d+1),⟨by simp only; omega,.inl (by simp only; omega),rfl⟩,by simp only; omega,fun y=>?_⟩;have e:=P6 h g' c;have D:=kd h a (f:=f) (t:=d) r.1;have v:=kd h a (f:=f) (t:=d+1) r.1;unfold ut;rw[Ð (by simpa[ilt] using hd),M5 (b:=((b.1.1,b.1.2),b.2.1,b.2.2.1,b.2.2.2.1,b.2.2.2.2.1,b.2.2.2.2.2)) (by simp only; omega),À];have C:ŗ ((b.1.1,b.1.2),b.2.1,b.2.2.1,b.2.2.2.1,b.2.2.2.2.1,b.2.2.2.2.2) id d=ŗ b id d:=rfl;rw[C];unfold acf at e;rw[k] at e
   cases ha:ŗ b id d with
   |some l =>
    rw[ha] at e;simp only at e;rw[Ð rfl]
    try dsimp only
    rw[<-e,Ï (by omega) (by omega),Ï (by omega) (by omega)]
   |none =>
    rw[ha] at e;simp only at e;rw[Ì rfl,amv (b:=((b.1.1,b.1.2),b.2.1,b.2.2.1,b.2.2.2.1,b.2.2.2.2.1,b.2.2.2.2.2)) (by simp only; omega),À];have B:Lh ((b.1.1,b.1.2),b.2.1,b.2.2.1,b.2.2.2.1,b.2.2.2.2.1,b.2.2.2.2.2) id d=Lh b id d:=rfl;rw[B]
    cases p:Lh b id d with
    |true =>
     rw[p,if_pos rfl] at e;rw[Ð rfl]
     try dsimp only
     rw[<-e,Ï (by omega) (by omega),Ï (by omega) (by omega)]
    |false =>
     rw[p,if_neg (by simp)] at e;rw[Ì rfl,Ï (by omega) (by omega),e,gH]
  ·refine .inl fun y=>?_;unfold ut;rw[Ì (by simpa[ilt] using hd)]
   have:υ b g' f d=υ b g' f t:=by
    rcases gW t f with z|A
    ·have:d=f:=by omega
     rw[this,Bn g' (dQ _),Bn g' (by omega)]
    ·have:d=t:=by omega
     rw[this]
   rw[this]
 ·rw[o] at i; cases i
end
def Rc {b:ò} (h:Pre b) (n:Int×Int):jH b n=some (Mi b n.1 n.2):=by
 have d:=Ju h.size;unfold jH T8;rw[xn h,À];refine Eq.trans (iR (Ò b) (fun m=>decide (n.1=m.1)&&decide (n.2=m.2)) (fun z=>some (z+1)) (some 0) (fun i a hi ha c=>?_) (fun c=>?_)) ?_
 ·try dsimp only
  unfold qG;rw[Í hi,Ã ha,È hi (by omega),È hi (by omega),é,Bool.and_true]
  have e:(oQ a.1 n.1&&oQ a.2 n.2)=(decide (n.1=a.1)&&decide (n.2=a.2)):=by
   rw[eI];simp only[oQ,cW,decide_eq_true_eq];exact and_congr eq_comm eq_comm
  rw[e]
 ·try dsimp only
  unfold qG;rw[Ô]
 ·unfold Mi iG
  cases List.findIdx? (fun m=>decide (n.1=m.1)&&decide (n.2=m.2)) (Ò b)<;>rfl
def WO {b:ò} (h:Pre b) (p q:CK Int) (d:Int):Mi b (Lm p q) d=atP (Ò b) (Þ p q) d:=by
 unfold Mi atP Lm
 cases f:Þ p q with
 |nil =>
  simp only[List.head?_nil,il]
  have:iG (Ò b) 0 d=none:=by
   unfold iG;rw[List.findIdx?_eq_none_iff];intro n a;obtain⟨g,c,a⟩:=List.mem_flatMap.1 a;obtain⟨e,_,rfl⟩:=List.mem_map.1 a;have:=((wM g).1 (h.gauge g c)).2.2.2.1
   have:¬((0:Int)=g.1):=by omega
   simp[this]
  rw[this]
 |cons x t=>rfl
section
variable {b:ò}
def VM {k:Nat} (e:k<(Ò b).length):∃(i:Nat) (g:è) (j:Nat) (d:Int),b.2.1[i]?=some g/\(Û b g)[j]?=some d/\k=off b i+j/\(Ò b)[k]?=some (g.1,d):=by
 obtain⟨i,g,j,c,h2,a⟩:=adx (b:=b) b.2.1.length (cX _) k (by rw[ahR]; exact e);have hd:(Û b g)[j]?=some (Û b g)[j]:=cV h2;exact⟨i,g,j,_,c,hd,a,by rw[a]; exact xC c hd⟩
def Td (h:ţ b) {i j:Nat} {g g':è} (hi:b.2.1[i]?=some g) (e:b.2.1[j]?=some g') (f:g.1=g'.1):i=j/\g=g':=by
 obtain⟨d,rfl⟩:=cY.1 hi;obtain⟨h2,rfl⟩:=cY.1 e;have c:=dL.1 h.ids;rcases Nat.lt_trichotomy i j with a|rfl|a
 ·have:=c i j d h2 a; omega
 ·exact⟨rfl,rfl⟩
 ·have:=c j i h2 d a; omega
def sE (b:ò) (i:Nat) (g:è) (k:Nat):CK Lk :=
 if k<=off b i then[] else[(0,(off b i:Int)+1,g.2.2.1+g.2.2.2.1.2),((off b i:Int)+1,0,-(g.2.2.1+g.2.2.2.1.1))] ++
  (List.range (min (k-off b i-1) ((Û b g).length-1))).flatMap fun(k:Nat)=>[((off b i:Int)+1+k,(off b i:Int)+1+k+1,0),((off b i:Int)+1+k+1,(off b i:Int)+1+k,υ b g ((Û b g)[k]?.getD 0) ((Û b g)[k+1]?.getD 0))]
def jq (b:ò) (i:Nat) (g:è) (k:Nat):CK (Int×Int) :=
 if k<=off b i then[] else[(1,(i:Int)),(1,(i:Int))]++(List.range (min (k-off b i-1) ((Û b g).length-1))).flatMap fun _=>[(2,(i:Int)),(2,(i:Int))]
def afV (h:ţ b) {i:Nat} {g:è} (a:b.2.1[i]?=some g):sE b i g (Ò b).length=ö b g/\jq b i g (Ò b).length=Ė b i g:=by
 have d:=ahQ h a;have c:=fw (nr (b:=b) g)
 have e:min ((Ò b).length-off b i-1) ((Û b g).length-1)=(Û b g).length-1:=by omega
 unfold sE jq ö Ė;rw[if_neg (by omega),if_neg (by omega),e,aeK h a];exact⟨rfl,rfl⟩
def aae {i:Nat} {g:è} {k:Nat} (a:k<off b i\/off b i+(Û b g).length<=k) (c:0<(Û b g).length):sE b i g (k+1)=sE b i g k/\jq b i g (k+1)=jq b i g k:=by
 unfold sE jq;rcases a with a|a
 ·rw[if_pos (by omega),if_pos (by omega),if_pos (by omega),if_pos (by omega)];exact⟨rfl,rfl⟩
 ·have e:min (k+1-off b i-1) ((Û b g).length-1)=min (k-off b i-1) ((Û b g).length-1):=by omega
  rw[if_neg (by omega),if_neg (by omega),if_neg (by omega),if_neg (by omega),e];exact⟨rfl,rfl⟩
def aaf {i:Nat} {g:è}:sE b i g (off b i+1)=sE b i g (off b i)++[(0,(off b i:Int)+1,g.2.2.1+g.2.2.2.1.2),((off b i:Int)+1,0,-(g.2.2.1+g.2.2.2.1.1))]/\jq b i g (off b i+1)=jq b i g (off b i)++[(1,(i:Int)),(1,(i:Int))]:=by
 unfold sE jq;rw[if_neg (by omega),if_pos (Nat.le_refl _),if_neg (by omega),if_pos (Nat.le_refl _),show off b i+1-off b i-1=0 by omega,Nat.zero_min];exact⟨by simp,by simp⟩
def ab3 {i:Nat} {g:è} {j:Nat} (a:j+1<(Û b g).length):sE b i g (off b i+(j+1)+1)=sE b i g (off b i+(j+1))++[((off b i:Int)+1+j,(off b i:Int)+1+j+1,0),((off b i:Int)+1+j+1,(off b i:Int)+1+j,υ b g ((Û b g)[j]?.getD 0) ((Û b g)[j+1]?.getD 0))] /\
 jq b i g (off b i+(j+1)+1)=jq b i g (off b i+(j+1))++[(2,(i:Int)),(2,(i:Int))]:=by
 unfold sE jq;rw[if_neg (by omega),if_neg (by omega),if_neg (by omega),if_neg (by omega),show min (off b i+(j+1)+1-off b i-1) ((Û b g).length-1)=j+1 by omega,show min (off b i+(j+1)-off b i-1) ((Û b g).length-1)=j by omega,vA,vA];exact⟨by simp,by simp⟩
def afU (i:Nat) (g:è) (k:Nat) (hd:(Û b g).length<=59):(sE b i g k).length<=120/\(jq b i g k).length<=120:=by
 unfold sE jq;constructor
 ·split
  ·simp
  ·rw[cZ,jc _ _ (fun _=>rfl)];simp only[di,dK]; omega
 ·split
  ·simp
  ·rw[cZ,jc _ _ (fun _=>rfl)];simp only[di,dK]; omega
set_option maxHeartbeats 1000000 in
def ag8 (h:ţ b) {i:Nat} {g:è} (B:b.2.1[i]?=some g) {L:CK Lk} {S:CK (Int×Int)} (hL:L.length<=100000) (hS:S.length<=100000) (K:CK Lk×CK (Int×Int)->BY (CK Lk×CK (Int×Int))) :
 Ë (fun(p:Int×CK Lk×CK (Int×Int)) s=>sj (Ò b) (i:Int) b.1.1 b.1.2 b.2.1 b.2.2.1 b.2.2.2.1 b.2.2.2.2.1 b.2.2.2.2.2 g.1 g.2.1 g.2.2.1 g.2.2.2.1.1 g.2.2.2.1.2 p.1 p.2.1 p.2.2 (fun E D C=>s (E,D,C)) K) ((0:Int),L,S)=K (L++ö b g,S++Ė b i g):=by
 have hN:=h.nodes;have c:=dc B;have P:=IW h c;have Z:=fw (nr (b:=b) g);have U:=h.gaugeR c;have r1:=U.2.2.2.2.2.1;have r2:=U.2.2.2.2.2.2.1;obtain⟨tl,u⟩:=xd h c;refine ð (Ò b) (fun k=>(L++sE b i g k,S++jq b i g k)) _ (by simp[sE,jq]) (fun k n f z X=>?_) (fun X=>?_)
 ·try dsimp only
  unfold sj;have gl:=afU (b:=b) i g k P;rw[Í f,Ã z];obtain⟨Y,g',j,d,R,h2,W,V⟩:=VM f
  have y:n=(g'.1,d):=by rw[z] at V; exact Option.some.inj V
  by_cases a:n.1=g.1
  ·obtain⟨M,O⟩:=Td h R B (by rw[y] at a; exact a);subst O;have J:Y=i:=M;rw[J] at W R;rw[Ì (by simp[ine,a]),Ã z]
   have A:n.2=d:=by rw[y]
   rw[A]
   cases j with
   |zero =>
    have r:d=g'.2.1:=by rw[u] at h2; simpa using h2.symm
    have q:k=off b i:=by omega
    rw[Ð (by simp[ieq,r])];obtain⟨o,l⟩:=aaf (b:=b) (i:=i) (g:=g');rw[<-q] at o l;rw[È f (by omega),Ï (by omega) (by omega),È f (by omega),Ï (by omega) (by omega),Ï (by omega) (by omega),Ñ (by simp only[cZ,di,dK]; omega),Am.iff_true,Ñ (by simp only[cZ,di,dK]; omega),Am.iff_true,È f (by omega),o,l]
    have T:0-g'.2.2.1-g'.2.2.2.1.1 = -(g'.2.2.1+g'.2.2.2.1.1):=by omega
    rw[T];simp only[dg]
   |succ j =>
    have I:=(cY.1 h2).1
    have r:d≠g'.2.1:=by
     have v:=oy b g';rw[u] at h2 v;rw[eQ] at h2;have:=(dG.1 v).1 d (dc h2);omega
    rw[Ì (by simpa[ieq] using r)]
    have e:(Û b g')[j]?=some ((Û b g')[j]?.getD 0):=by rw[cV (by omega)]; rfl
    have Q:d=(Û b g')[j+1]?.getD 0:=by rw[h2]; rfl
    have F:=xC R e;have d1:=h.day c (dc e);have d2:=h.day c (dc h2);have q:k=off b i+(j+1):=W;obtain⟨o,l⟩:=ab3 (b:=b) (i:=i) (g:=g') I;rw[<-q] at o l
    have H:((k:Int)-1)=((off b i+j:Nat):Int):=by omega
    have lb:=kd h c (t:=d) d1.2.1;rw[QJ (by omega) (by omega),H,Ã F,Ã z,A]
    try dsimp only
    rw[show nh ((b.1.1,b.1.2),b.2.1,b.2.2.1,b.2.2.2.1,b.2.2.2.2.1,b.2.2.2.2.2) g'.1 ((Û b g')[j]?.getD 0) d=nh b g'.1 ((Û b g')[j]?.getD 0) d from rfl,aeU h (jp h.ids c) ⟨by omega,by omega⟩ (by omega),À,È f (by omega),È f (by omega),Ñ (by simp only[cZ,di,dK]; omega),Am.iff_true,Ñ (by simp only[cZ,di,dK]; omega),Am.iff_true,È f (by omega),o,l,<-Q]
    have T:(off b i:Int)+1+(j:Int)=(k:Int):=by omega
    rw[T];simp only[dg]
  ·rw[Ð (by simp[ine,a]),È f (by omega)]
   have x:k<off b i\/off b i+(Û b g).length<=k:=by
    rcases dl k (off b i) with G|hge
    ·exact .inl G
    ·rcases dl k (off b i+(Û b g).length) with hlt2|hge2
     ·have:=xC B (k:=k-off b i) (cV (by omega));rw[show off b i+(k-off b i)=k by omega,z] at this;exact absurd (by rw[Option.some.inj this]) a
     ·exact .inr hge2
   obtain⟨o,l⟩:=aae x Z;rw[o,l]
 ·try dsimp only
  unfold sj;rw[Ô];obtain⟨o,l⟩:=afV h B;rw[o,l]
end
def aaj {α β:Type} {e:Nat->α->BY β}:∀{l:CK α} {k i:Nat} {a:α} {b:β},(∀j c,j<i->l[j]?=some c->e (k+j) c=none)->l[i]?=some a->e (k+i) a=some b->ė e k l=some b
 |[],_,_,_,_,_,ha,_=>by simp at ha
 |c::t,k,0,a,b,_,ha,hb=>by
  simp only[List.getElem?_cons_zero,Option.some.injEq] at ha;subst ha;unfold ė;rw[Nat.add_zero] at hb;rw[hb]
 |c::t,k,i+1,a,b,h,ha,hb=>by
  unfold ė;have h0:=h 0 c (by omega) rfl;rw[Nat.add_zero] at h0;rw[h0];refine aaj (i:=i) (fun j d f hd=>?_) (by simpa using ha) (by rw[<-hb]; congr 1; omega);have:=h (j+1) d (by omega) (by simpa using hd);rw[<-this];congr 1;omega
def FE {ρ α β:Type} (l:CK α) (e:Nat->α->BY β) (k0:β->BY ρ) (k1:BY ρ) {f:Int->(Int->BY ρ)->BY ρ}
 (h:∀(i:Nat) (a:α),i<l.length->l[i]?=some a->∀n,f i n=match e i a with|some b=>k0 b|none=>n ((i:Int)+1))
 (t:(∀j a,l[j]?=some a->e j a=none)->∀n,f l.length n=k1):Ë f 0=match ė e 0 l with|some b=>k0 b|none=>k1:=by
 refine ï (fun x:Int=>∃i:Nat,i<=l.length/\x=i/\∀j a,j<i->l[j]?=some a->e j a=none) (fun x=>l.length-x.toNat) ?_ ⟨0,by omega,rfl,fun j a r=>by omega⟩;rintro x ⟨i,hi,rfl,q⟩;rcases dl i l.length with g|u
 ·have ha:l[i]?=some l[i]:=cV g
  cases p:e i l[i] with
  |some b =>
   refine .inl fun n=>?_;rw[h i _ g ha,p,aaj (k:=0) (b:=b) (fun j c r p=>by rw[dH]; exact q j c r p) ha (by rw[dH]; exact p)]
  |none =>
   refine .inr ⟨((i+1:Nat):Int),⟨i+1,g,rfl,fun j a r d=>?_⟩,by simp only[dj]; omega,fun n=>?_⟩
   ·rcases dl j i with s|s
    ·exact q j a s d
    ·have:j=i:=by omega
     subst this;rw[ha] at d;rw[<-Option.some.inj d]; exact p
   ·rw[h i _ g ha,p];simp
 ·have:i=l.length:=by omega
  subst this;refine .inl fun n=>?_;have o:∀j a,l[j]?=some a->e j a=none:=fun j a d=>q j a (cY.1 d).1 d;rw[t o n,ŕ.2 fun j a d=>by rw[dH]; exact o j a d]
def aan {e:Int}:Kc e=none↔e=0:=by
 unfold Kc
 split<;>simp_all
section
variable {b:ò}
def UH (h:ţ b):∀i,((b.2.1.take i).flatMap (ö b)).length<=1440/\(((b.2.1.take i).mapIdx (Ė b)).flatten).length<=1440:=by
 have f:=h.nG
 have e:∀g∈b.2.1,(ö b g).length<=120/\∀i,(Ė b i g).length<=120:=by
  intro g a;have:=IW h a;constructor
  ·unfold ö;rw[List.length_append,jc _ _ (fun _=>rfl)];simp only[List.length_cons,List.length_nil]; omega
  ·intro i;unfold Ė;rw[List.length_append,jc _ _ (fun _=>rfl)];simp only[List.length_cons,List.length_nil]; omega
 have key:∀i,i<=b.2.1.length->((b.2.1.take i).flatMap (ö b)).length<=i*120/\(((b.2.1.take i).mapIdx (Ė b)).flatten).length<=i*120:=by
  intro i
  induction i with
  |zero=>intro _; simp
  |succ i c =>
   intro hi;have c:=c (by omega);have a:b.2.1[i]?=some b.2.1[i]:=cV hi;have h2:=e _ (dc a);have j:=h2.2 i;rw[jT _ a,take_succ a,eO,gQ,cZ,cZ];simp only[dz,gj,dt,ig,ir];omega
 intro i;rcases dl b.2.1.length i with d|d
 ·rw[dY (by omega)];have:=key b.2.1.length (cX _);rw[fB] at this;omega
 ·have:=key i d;omega
set_option maxHeartbeats 1000000 in
def akr (h:ţ b):yz b=some (ů b,FZ b):=by
 have p:=h.nC;have o:=h.nG;unfold yz adG;rw[xn h.pre,À];refine ð b.2.1 (fun i=>((b.2.1.take i).flatMap (ö b),((b.2.1.take i).mapIdx (Ė b)).flatten)) _ rfl (fun i g hi e j=>?_) (fun j=>?_)
 ·try dsimp only
  unfold xR;have d:=UH h i;rw[Í hi,Ã e];refine Eq.trans (ag8 h e (by omega) (by omega) _) ?_;rw[È hi (by omega),jT _ e,take_succ e,List.flatMap_append,List.flatten_append];simp only[List.flatMap_cons,List.flatMap_nil,List.append_nil,List.flatten_cons,List.flatten_nil]
 ·try dsimp only
  unfold xR;rw[Ô,List.take_length];dsimp only;have d:=UH h b.2.1.length;rw[List.take_length] at d;refine ð b.2.2.2.2.1 (fun i=>(b.2.1.flatMap (ö b)++(b.2.2.2.2.1.take i).flatMap (Ľ b),(b.2.1.mapIdx (Ė b)).flatten++((b.2.2.2.2.1.take i).mapIdx fun i _=>[((3:Int),(i:Int)),((3:Int),(i:Int))]).flatten)) _ (by simp) (fun i c hi f j=>?_) (fun j=>?_)
  ·try dsimp only
   unfold xQ;have a:=List.mem_of_getElem? f;have k:=(Ŝ c).1 (h.nums a);have ha:=Ī k.2.2.2.2.2.1;have hb:=Ī k.2.2.2.2.2.2;have l:=agy (b:=b) i (by omega);have n:=xx h a;rw[Í hi,Ã f,BV (by omega) (by omega),À];rw[show jH ((b.1.1,b.1.2),b.2.1,b.2.2.1,b.2.2.2.1,b.2.2.2.2.1,b.2.2.2.2.2) (Lm c.2.2.1 c.2.2.2.1,c.2.1)=jH b (Lm c.2.2.1 c.2.2.2.1,c.2.1) from rfl,Rc h.pre,À,BV (by omega) (by omega),À];rw[show jH ((b.1.1,b.1.2),b.2.1,b.2.2.1,b.2.2.2.1,b.2.2.2.2.1,b.2.2.2.2.2) (Lm c.2.2.2.1 c.2.2.1,c.2.1)=jH b (Lm c.2.2.2.1 c.2.2.1,c.2.1) from rfl,Rc h.pre,À];rw[show wS ((b.1.1,b.1.2),b.2.1,b.2.2.1,b.2.2.2.1,b.2.2.2.2.1,b.2.2.2.2.2) c=wS b c from rfl,amw h.size h.film (h.cmpIn a),À];rw[Ï (by omega) (by omega),Ñ (by simp only[List.length_append,List.length_cons,List.length_nil]; omega),Am.iff_true,Ñ (by simp only[List.length_append,List.length_cons,List.length_nil]; omega),Am.iff_true,È hi (by omega)];rw[jT _ f,take_succ f,List.flatMap_append,List.flatten_append,WO h.pre,WO h.pre];simp only[List.flatMap_cons,List.flatMap_nil,List.append_nil,List.flatten_cons,List.flatten_nil,List.append_assoc];rw[Int.zero_sub];rfl
  ·try dsimp only
   unfold xQ;rw[Ô,List.take_length];rfl
def mc (b:ò) (i:Nat) (c:Cmp):Int:=if !Jt c then 1 else if (b.2.2.2.2.1.take i).any (fun x=>x.1==c.1) then 6 else Dj b c
def UU (hi:b.2.1.Pairwise fun a b=>a.1<b.1) (i:Nat) (c:Cmp):mc b i c=md b (ś b) i c:=by
 unfold mc md;rw[ak8 hi]
def ang (b:ò):Int:=match (b.2.2.2.2.1.mapIdx (mc b)).find? (fun e=>e != 0) with
 |some e=>e
 |none=>match (b.2.2.2.2.2.map (XK b)).find? (fun e=>e != 0) with
  |some e=>e
  |none=>if 59<(Ò b).length then 2 else if 300<2*b.2.1.length+2*((Ò b).length-b.2.1.length:Int)+2*b.2.2.2.2.1.length then 2 else 0
def ai3 {α:Type} {l:CK α} {E:α->Int} (h:(l.map E).find? (fun e=>e != 0)=none):∀a∈l,E a=0:=by
 intro a ha;have:=ee.1 h (E a) (dw.2 ⟨a,ha,rfl⟩);simpa using this
def afW {α:Type} {l:CK α} {E:Nat->α->Int} (h:(l.mapIdx E).find? (fun e=>e != 0)=none):∀i a,l[i]?=some a->E i a=0:=by
 intro i a ha;obtain⟨hi,rfl⟩:=cY.1 ha;have:=ee.1 h (E i l[i]) (ix.2 ⟨i,hi,rfl⟩);simpa using this
def Xe {i:Nat} {c:Cmp} (h:mc b i c=0):Jt c=true/\(Þ c.2.2.1 c.2.2.2.1).length<=1/\(Þ c.2.2.2.1 c.2.2.1).length<=1:=by
 unfold mc at h
 split at h
 ·omega
 rename_i a
 split at h
 ·omega
 unfold Dj at h
 (repeat' split at h)<;>first|omega|exact⟨by simpa using a,by omega,by omega⟩
set_option maxHeartbeats 4000000 in
def anf (M:iX b) (s:0<=b.1.1/\b.1.1<=b.1.2/\b.1.2<=1000000) (nG:b.2.1.length<=12) (nU:b.2.2.1.length<=40) (nL:b.2.2.2.1.length<=12) (nC:b.2.2.2.2.1.length<=40) (nK:b.2.2.2.2.2.length<=10)
 (W:∀g∈b.2.1,sw g=true) (hi:b.2.1.Pairwise fun a b=>a.1<b.1) (Y:∀u∈b.2.2.1,XK b u=0) (hl:∀i l,b.2.2.2.1[i]?=some l->SN b i l=0) :
 Ë (fun(E:Int) t=>kM b.1.1 b.1.2 b.2.1 b.2.2.1 b.2.2.2.1 b.2.2.2.2.1 b.2.2.2.2.2 E (fun G=>t G) (fun D=>some D) (fun _=>Ë (fun(F:Int) v=>kL b.1.1 b.1.2 b.2.1 b.2.2.1 b.2.2.2.1 b.2.2.2.2.1 b.2.2.2.2.2 F (fun H=>v H) (fun C=>some C) (fun _=>Å (iU b) fun J=>ifb (igt (Õ J) (59:Int)) (some (2:Int)) (Å (yz b) fun I=>ifb (igt (Õ I.1) (300:Int)) (some (2:Int)) (some (0:Int))))) (0:Int))) (0:Int)=some (ang b):=by
 unfold ang
 refine dJ (FE b.2.2.2.2.1 (fun i c=>Kc (mc b i c)) some (some (match (b.2.2.2.2.2.map (XK b)).find? (fun e=>e != 0) with
  |some e=>e
  |none=>if 59<(Ò b).length then 2 else if 300<2*b.2.1.length+2*((Ò b).length-b.2.1.length:Int)+2*b.2.2.2.2.1.length then 2 else 0)) (fun i c A o U=>?_) (fun S U=>?_)) ?_
 ·try dsimp only
  unfold kM;have V:=M.piles c (List.mem_of_getElem? o);rw[Í A,Ã o,akm (by omega) (by omega),À];unfold mc Kc
  cases Jt c with
  |false=>rfl
  |true =>
   rw[Ì (by rfl)]
   have y:(b.2.2.2.2.1.take i).length=i:=by rw[dk]; omega
   refine dJ (ù (b.2.2.2.2.1.take i) (fun x=>x.1==c.1) (fun _=>some 6) (some 6) (if Dj b c=0 then U ((i:Int)+1) else some (Dj b c)) (fun _=>rfl) (fun j a r ha p=>?_) (fun p=>?_)) ?_
   ·try dsimp only
    unfold qH;rw[y] at r
    have T:b.2.2.2.2.1[j]?=some a:=by rwa [List.getElem?_take_of_lt r] at ha
    rw[Ð (show ilt (j:Int) (i:Int)=true by simp[ilt]; omega),Ã T,Ã o,È r (by omega),é]
   ·try dsimp only
    unfold qH;rw[y,Ì (show ilt (i:Int) (i:Int)=false by simp[ilt])];dsimp only;rw[Ã o,show kT ((b.1.1,b.1.2),b.2.1,b.2.2.1,b.2.2.2.1,b.2.2.2.2.1,b.2.2.2.2.2) c=kT b c from rfl,aaW M V.1 V.2,À,È A (by omega)]
    by_cases d:Dj b c=0
    ·rw[Ì (by simp[ine,d]),if_pos d]
    ·rw[Ð (by simp[ine,d]),if_neg d]
   ·cases X:(b.2.2.2.2.1.take i).any (fun x=>x.1==c.1) with
    |true=>simp
    |false =>
     by_cases d:Dj b c=0
     ·simp[d]
     ·simp[d]
 ·try dsimp only
  unfold kM;rw[Ô];dsimp only;have k:∀i c,b.2.2.2.2.1[i]?=some c->mc b i c=0:=fun i c o=>aan.1 (S i c o);refine Eq.trans (FE b.2.2.2.2.2 (fun _ u=>Kc (XK b u)) some (some (if 59<(Ò b).length then 2 else if 300<2*b.2.1.length+2*((Ò b).length-b.2.1.length:Int)+2*b.2.2.2.2.1.length then 2 else 0)) (fun i a z ha p=>?_) (fun O p=>?_)) ?_
  ·try dsimp only
   unfold kL;rw[Í z,Ã ha,XD,À];unfold XK Kc
   cases Da a.2 with
   |false=>rfl
   |true =>
    rw[Ì (by rfl),Ã ha,Ã ha,BW (b:=((b.1.1,b.1.2),b.2.1,b.2.2.1,b.2.2.2.1,b.2.2.2.2.1,b.2.2.2.2.2)) (by simp only; omega),À,È z (by omega)];have e:ň ((b.1.1,b.1.2),b.2.1,b.2.2.1,b.2.2.2.1,b.2.2.2.2.1,b.2.2.2.2.2) a.1 a.2=ň b a.1 a.2:=rfl;rw[e]
    by_cases d:ň b a.1 a.2=0
    ·rw[Ì (by simp[ine,d])]; simp[d]
    ·rw[Ð (by simp[ine,d])]; simp[d]
  ·try dsimp only
   unfold kL;rw[Ô];dsimp only
   have h:∀u∈b.2.2.2.2.2,XK b u=0:=fun u f=>by
    obtain⟨j,r,rfl⟩:=dm.1 f;exact aan.1 (O j _ (cV r))
   have K:Pre b:=⟨M,W,fun c o=>by
    obtain⟨j,r,rfl⟩:=dm.1 o;have q:=Xe (k j _ (cV r))
    exact⟨YL q.1,q.2⟩,fun n Z=>by
    have:=h n Z;unfold XK at this
    split at this
    ·omega
    ·rename_i hd; simpa using hd⟩
   rw[xn K,À,Î]
   by_cases B:59<(Ò b).length
   ·rw[Ð (by simp[igt]; omega),if_pos B]
   ·rw[Ì (by simp[igt]; omega),if_neg B];have good:ţ b:=⟨s,nG,nU,nL,nC,nK,W,hi,fun u f=>by rw[<-acP hi]; exact Y u f,fun i l Q=>by rw[<-aiA hi]; exact hl i l Q,fun i c R=>by rw[<-UU hi]; exact k i c R,fun u f=>by rw[<-acP hi]; exact h u f,by omega,by omega⟩;have P:=Z4 good;rw[akr good,À,Î];dsimp only;rw[P,Ì (by simp[igt]; omega),if_neg (by omega)]
  ·rw[Qs]
   cases(b.2.2.2.2.2.map (XK b)).find? (fun e=>e != 0)<;>rfl
 ·rw[Qr (mc b)]
  cases(b.2.2.2.2.1.mapIdx (mc b)).find? (fun e=>e != 0)<;>rfl
end
def W0 {l m:CK Int}:(l++m).find? (fun e=>e != 0)=match l.find? (fun e=>e != 0) with|some e=>some e|none=>m.find? (fun e=>e != 0):=by
 rw[List.find?_append]
 cases l.find? (fun e=>e != 0)<;>rfl
set_option maxHeartbeats 4000000 in
def akw {b:ò} (p:iX b):Cv b=some (ō b):=by
 unfold Cv JL ō;rw[yN,À]
 cases k:ks b.1 0 1000000 with
 |false=>rfl
 |true =>
 have d:0<=b.1.1/\b.1.1<=b.1.2/\b.1.2<=1000000:=by
  simp only[ks,cW,decide_eq_true_eq] at k;exact k
 rw[Ì (show(!true)=false from rfl),if_neg (by simp)];rw[Î b.2.1,Î b.2.2.1,Î b.2.2.2.1,Î b.2.2.2.2.1,Î b.2.2.2.2.2]
 by_cases c0:12<b.2.1.length
 ·rw[Ð (by simp[igt]; omega),if_pos c0]
 rw[Ì (by simp[igt]; omega),if_neg c0]
 by_cases B:40<b.2.2.1.length
 ·rw[Ð (by simp[igt]; omega),if_pos B]
 rw[Ì (by simp[igt]; omega),if_neg B]
 by_cases A:12<b.2.2.2.1.length
 ·rw[Ð (by simp[igt]; omega),if_pos A]
 rw[Ì (by simp[igt]; omega),if_neg A]
 by_cases z:40<b.2.2.2.2.1.length
 ·rw[Ð (by simp[igt]; omega),if_pos z]
 rw[Ì (by simp[igt]; omega),if_neg z]
 by_cases y:10<b.2.2.2.2.2.length
 ·rw[Ð (by simp[igt]; omega),if_pos y]
 rw[Ì (by simp[igt]; omega),if_neg y]
 refine dJ (FE b.2.1 (qk b.2.1) some (some (match (zK b (ś b)).find? (fun e=>e != 0) with
  |some e=>e
  |none=>if 59<(Ò b).length then 2 else if 300<2*b.2.1.length+2*((Ò b).length-b.2.1.length:Int)+2*b.2.2.2.2.1.length then 2 else 0)) (fun i g hi o C=>?_) (fun D C=>?_)) ?_
 ·try dsimp only
  unfold qI;rw[Í hi,Ã o,ako,À];unfold qk
  cases sw g with
  |false=>rfl
  |true =>
   rw[Ì (by rfl)];rcases fD i with h0|h0
   ·subst h0
    have:igt ((0:Nat):Int) 0=false:=by simp[igt]
    rw[Ì this,È hi (by omega)];simp[mi]
   ·obtain⟨q,x⟩:=vB hi h0
    have v:igt (i:Int) 0=true:=by simp[igt]; omega
    rw[Ð v,Ã o,QJ h0 (by omega),Iq h0 x];simp only[mi,h0,decide_true,Bool.true_and,x,Option.any_some];unfold ile
    cases h2:decide (g.1<=q.1) with
    |true=>simp
    |false=>rw[æ,È hi (by omega)]; simp
 ·try dsimp only
  unfold qI;rw[Ô];dsimp only
  have s:ke b=0:=by
   unfold ke;rw[ŕ.2 fun j a ha=>by rw[Nat.zero_add]; exact D j a ha];rfl
  obtain⟨o,hi⟩:=(yq b).1 s;have G:b.2.2.1.map (XK b)=b.2.2.1.map fun u=>aba (ś b) u.1 u.2:=List.map_congr_left fun u _=>acP hi u;have H:b.2.2.2.1.mapIdx (SN b)=b.2.2.2.1.mapIdx fun i l=>Mh b (ś b) i l:=List.mapIdx_eq_mapIdx_iff.2 fun i K=>aiA hi i _;have J:b.2.2.2.2.1.mapIdx (mc b)=b.2.2.2.2.1.mapIdx fun i c=>md b (ś b) i c:=List.mapIdx_eq_mapIdx_iff.2 fun i M=>UU hi i _;have I:b.2.2.2.2.2.map (XK b)=b.2.2.2.2.2.map fun u=>aba (ś b) u.1 u.2:=List.map_congr_left fun u _=>acP hi u;unfold zK;rw[<-G,<-H,<-J,<-I,W0,W0,W0,amr p,À]
  cases h:(b.2.2.1.map (XK b)).find? (fun e=>e != 0) with
  |some e =>
   have f:e≠0:=by have:=fK h; simpa using this
   simp only[fc];rw[Ì (by simpa[ieq] using f),Ð (by simpa[ine] using f)]
  |none =>
   simp only[il];rw[Ð (by rfl),akn p,À]
   cases n:(b.2.2.2.1.mapIdx (SN b)).find? (fun e=>e != 0) with
   |some e =>
    have f:e≠0:=by have:=fK n; simpa using this
    simp only[fc];rw[Ð (by simpa[ine] using f)]
   |none =>
    simp only[Option.getD_none];rw[Ì (by rfl)];refine Eq.trans (anf p d (by omega) (by omega) (by omega) (by omega) (by omega) o hi (ai3 h) (afW n)) ?_;unfold ang
    cases(b.2.2.2.2.1.mapIdx (mc b)).find? (fun e=>e != 0)<;>rfl
 ·unfold ke
  cases t:ė (qk b.2.1) 0 b.2.1 with
  |none =>
   simp
   cases(zK b (ś b)).find? (fun e=>e != 0)<;>rfl
  |some e =>
   have f:ke b=e:=by unfold ke; rw[t]; rfl
   have r:e≠0:=by
    intro h0;rw[h0] at f;obtain⟨v,h2⟩:=(yq b).1 f
    have F:∀j a,b.2.1[j]?=some a->qk b.2.1 j a=none:=by
     intro j a ha;have E:=(I5 (fun g:è=>g.1) b.2.1).2 h2 j a ha;simp[qk,v a (dc ha),E]
    rw[ŕ.2 fun j a ha=>by rw[dH]; exact F j a ha] at t;cases t
   simp[r]
def air {ρ α:Type} (l:CK α) (K:BY ρ) {f:Int->(Int->BY ρ)->BY ρ} (h:∀(i:Nat) (a:α),i<l.length->l[i]?=some a->∀c,f i c=c ((i:Int)+1)) (d:∀c,f l.length c=K):Ë f 0=K:=by
 refine dJ (iR l (fun _=>false) (fun _=>K) K (fun i a hi ha c=>by rw[h i a hi ha c]; rfl) d) ?_;rw[dX.2 (by simp)]
def XB {l:CK Int} (a:l.length<=1000000):Ω l l=some true:=by rw[FR a]; simp
def bigP (c:Cmp):Bool:=decide (9<c.2.2.1.length)||decide (9<c.2.2.2.1.length)
def Nl (m:Ň):Bool:=decide (m.1.2.1.length<=6)&&(decide (m.1.2.2.1.length<=20)&&(decide (m.1.2.2.2.1.length<=6)&&(decide (m.1.2.2.2.2.1.length<=8)&&(decide (m.1.2.2.2.2.2.length<=6)&&decide (m.2.length<=6)))))
def XY (m:Ň):Bool:=!((m.1.2.2.2.2.1.take 60).any bigP)&&(!((m.2.take 8).any fun x=>decide (9<x.2.length))&&Nl m)
def ahi (m:Ň):Cn m=some (XY m):=by
 unfold Cn TQ
 have last:(ifb (ile (Õ m.1.2.1) (6:Int)) (ifb (ile (Õ m.1.2.2.1) (20:Int)) (ifb (ile (Õ m.1.2.2.2.1) (6:Int)) (ifb (ile (Õ m.1.2.2.2.2.1) (8:Int)) (ifb (ile (Õ m.1.2.2.2.2.2) (6:Int)) (some (ile (Õ m.2) (6:Int))) (some false)) (some false)) (some false)) (some false)) (some false))=some (Nl m):=by
  have e:∀(n m:Nat),ile (n:Int) (m:Int)=decide (n<=m):=fun n m=>by simp[ile]
  unfold Nl;rw[Î,Î,Î,Î,Î,Î,show(6:Int)=((6:Nat):Int) from rfl,show(20:Int)=((20:Nat):Int) from rfl,show(8:Int)=((8:Nat):Int) from rfl,e,e,e,e,e,e];generalize decide (m.1.2.1.length<=6)=s;generalize decide (m.1.2.2.1.length<=20)=r;generalize decide (m.1.2.2.2.1.length<=6)=q;generalize decide (m.1.2.2.2.2.1.length<=8)=p;generalize decide (m.1.2.2.2.2.2.length<=6)=o
  cases s<;>cases r<;>cases q<;>cases p<;>cases o<;>rfl
 rw[last];refine dJ (ù (m.1.2.2.2.2.1.take 60) bigP (fun _=>some false) (some false) (some (!((m.2.take 8).any fun x=>decide (9<x.2.length))&&Nl m)) (fun _=>rfl) (fun i c hi l t=>?_) (fun t=>?_)) ?_
 ·try dsimp only
  unfold qo;rw[List.length_take] at hi
  have a:m.1.2.2.2.2.1[i]?=some c:=by rw[d9] at l; split at l<;>simp_all
  rw[Í (show i<m.1.2.2.2.2.1.length by omega),Ð (by simp[ilt]; omega),Ã a,Ã a,Ï (by omega) (by omega),é,Î,Î];unfold bigP
  by_cases d:9<c.2.2.1.length
  ·rw[if_pos (by simp[igt]; omega),if_pos (by simp[d])]
  ·rw[if_neg (by simp[igt]; omega),é]
   by_cases h2:9<c.2.2.2.1.length
   ·rw[if_pos (by simp[igt]; omega),if_pos (by simp[h2])]
   ·rw[if_neg (by simp[igt]; omega),if_neg (by simp[d,h2])]
 ·refine dJ ?_ (dJ (ù (m.2.take 8) (fun x=>decide (9<x.2.length)) (fun _=>some false) (some false) (some (Nl m)) (f:=fun v y=>mN m.2 v (fun u=>y u) (fun z=>some z) (fun _=>some (Nl m))) (fun _=>rfl) (fun i x hi k g=>?_) (fun g=>?_)) ?_)
  ·try dsimp only
   unfold qo;rw[List.length_take,é]
   split
   ·rename_i h
    have h':60<m.1.2.2.2.2.1.length:=by rw[Î] at h; simp[ilt] at h; omega
    rw[Ì (by simp[ilt]; omega)]
   ·rfl
  ·try dsimp only
   unfold mN;rw[List.length_take] at hi
   have j:m.2[i]?=some x:=by rw[d9] at k; split at k<;>simp_all
   rw[Í (show i<m.2.length by omega),Ð (by simp[ilt]; omega),Ã j,Ï (by omega) (by omega),é,Î]
   by_cases d:9<x.2.length
   ·rw[if_pos (by simp[igt]; omega),if_pos (by simp[d])]
   ·rw[if_neg (by simp[igt]; omega),if_neg (by simp[d])]
  ·try dsimp only
   unfold mN;rw[List.length_take,é]
   split
   ·rename_i h
    have h':8<m.2.length:=by rw[Î] at h; simp[ilt] at h; omega
    rw[Ì (by simp[ilt]; omega)]
   ·rfl
  ·cases List.any (List.take 8 m.2) (fun x=>decide (9<x.2.length))<;>rfl
 ·unfold XY
  cases List.any (List.take 60 m.1.2.2.2.2.1) bigP<;>rfl
structure Small7 (m:Ň):Prop where
 inn:In m.1
 n6:m.2.length<=6
 l9:∀x∈m.2,x.2.length<=9
 c8:m.1.2.2.2.2.1.length<=8
def ahj {m:Ň} (h:XY m=true) (e:∀g∈m.1.2.1,I64 g.2.2.2.2.1.1):Small7 m:=by
 simp only[XY,Nl,cW,eJ,decide_eq_true_eq] at h;obtain⟨h0,a,h2,n,l,j,k,i⟩:=h;refine⟨⟨⟨by omega,by omega,by omega,by omega,by omega,fun c f=>?_⟩,e⟩,i,fun x d=>?_,j⟩
 ·rw[dY (by omega)] at h0;have:=dI.1 h0 c f;simp[bigP] at this;omega
 ·rw[dY (by omega)] at a;have:=dI.1 a x d;simp at this;omega
def adc (w:Way) (n:Int) (e:0<=n/\n<=100000):wN w n=some (decide ((w.length:Int)<=n)&&!w.any fun l=>decide (100<l.length)):=by
 unfold wN TR
 by_cases h:(w.length:Int)<=n
 ·rw[Ì (by simp[igt,Î]; omega)];refine dJ (ù w (fun l=>decide (100<l.length)) (fun _=>some false) (some false) (some true) (fun _=>rfl) (fun i l hi d c=>?_) (fun c=>?_)) ?_
  ·try dsimp only
   unfold qp;rw[Í hi,Ã d,È hi (by omega),é,Î]
   by_cases a:100<l.length
   ·rw[if_pos (by simp[igt]; omega),if_pos (by simp[a])]
   ·rw[if_neg (by simp[igt]; omega),if_neg (by simp[a])]
  ·try dsimp only
   unfold qp;rw[Ô]
  ·rw[decide_eq_true h]
   cases w.any fun l=>decide (100<l.length)<;>rfl
 ·rw[Ð (by simp[igt,Î]; omega),decide_eq_false h]; rfl
def Yh {w:Way} {n:Int} (h:(decide ((w.length:Int)<=n)&&!w.any fun l=>decide (100<l.length))=true):(w.length:Int)<=n/\∀l∈w,l.length<=100:=by
 simp only[cW,decide_eq_true_eq,eJ,dI,Int.not_lt] at h;exact⟨h.1,fun l a=>by have:=h.2 l a; omega⟩
section
variable {ρ:Type}
def aa4 {l:CK Int} (d:l.length<=1000000) (x:Int):J7 l x=some (match l.findIdx? (·==x) with|some j=>(j:Int)|none=>-1):=by
 unfold J7 aid;refine Eq.trans (iR l (·==x) (fun z=>some z) (some (-1)) (fun i a hi ha c=>?_) (fun c=>?_)) ?_
 ·try dsimp only
  unfold Cb;rw[Í hi,Ã ha,È hi (by omega),é]
  try (by_cases h:a=x<;>simp[ieq,h])
 ·try dsimp only
  unfold Cb;rw[Ô]
 ·cases List.findIdx? (·==x) l<;>rfl
def anH (b:ò) (x:Mx):Int :=
 if !(inP x.1 0 19999&&inP x.2.length 2 5) then 1 else
 if ¬x.2.Pairwise (·<·) then 1 else
 if x.2.any (fun g=>(í b g).isNone) then 5 else
 if x.2.any (fun g=>ň b g x.1 != 0) then 4 else 0
def mixE_F (b:ò) (l:CK Mx) (i:Nat) (x:Mx):mixE b l i x=if anH b x≠0 then anH b x else if mi (fun y=>y.1) l i x then 6 else if x.2.any (fun g=>(ŗ b g x.1).isSome||(ŗ b g (x.1+1)).isSome) then 9 else 0:=by
 unfold mixE anH
 split
 ·rfl
 ·split
  ·rfl
  ·split
   ·rfl
   ·split<;>rfl
def anI {b:ò} (s:iX b) {x:Mx} (t:x.2.length<=1000000):MO b x=some (anH b x):=by
 have v:=s.gauges;unfold MO adD anH;rw[sR,À,sR,À,Î]
 cases y:inP x.1 0 19999 with
 |false=>rfl
 |true =>
  cases h2:inP (x.2.length:Int) 2 5 with
  |false=>rfl
  |true =>
   rw[Ì (by rfl),Ì (by rfl),if_neg (by simp)];refine(Wz (l:=x.2) (K:=some 1) (k1:=if x.2.any (fun g=>(í b g).isNone) then some 5 else if x.2.any (fun g=>ň b g x.1 != 0) then some 4 else some 0) (fun i a c ha r d=>?_) (fun n u d=>?_)).trans ?_
   ·have hi:=(cY.1 r).1
    try dsimp only
    unfold xM;rw[Î,Ð (decide_eq_true (by omega)),show((i:Int)+1)=((i+1:Nat):Int) by omega,Ã r,show ∀f:Int->BY Int,ck (((i+1:Nat):Int)-1) f=f (i:Int) from fun f=>by rw[Ï (by omega) (by omega)]; congr 1; omega,Ã ha,Ï (by omega) (by omega),é];simp[ile]
   ·try dsimp only
    unfold xM;rw[Î,Ì (decide_eq_false (by omega))]
    refine(ù x.2 (fun g=>(í b g).isNone) (fun _=>some 5) (some 5) _ (fun _=>rfl) (fun i a hi ha d=>?_) (fun d=>?_))<;>(try dsimp only)<;>unfold Fm
    ·rw[Í hi,Ã ha,show kj ((b.1.1,b.1.2),b.2.1,b.2.2.1,b.2.2.2.1,b.2.2.2.2.1,b.2.2.2.2.2) a=kj b a from rfl,CN (by omega),À,È hi (by omega),é];rcases rk (b:=b) (id:=a) with⟨j,g,q,_,p⟩|⟨q,p⟩
     ·rw[q,p]; simp[ilt]; omega
     ·rw[q,p]; simp[ilt]
    ·rw[Ô]
     refine(ù x.2 (fun g=>ň b g x.1 != 0) (fun _=>some 4) (some 4) _ (fun _=>rfl) (fun i a hi ha d=>?_) (fun d=>?_))<;>(try dsimp only)<;>unfold Fl
     ·rw[Í hi,Ã ha,show jG ((b.1.1,b.1.2),b.2.1,b.2.2.1,b.2.2.2.1,b.2.2.2.2.1,b.2.2.2.2.2) a x.1=jG b a x.1 from rfl,BW (by omega),À,È hi (by omega),é]
      try simp[ine]
     ·rw[Ô]
   ·by_cases h:x.2.Pairwise (·<·)
    ·rw[if_pos h,if_neg (show ¬¬x.2.Pairwise (·<·) from fun e=>e h)]
     by_cases o:x.2.any (fun g=>(í b g).isNone)=true
     ·rw[if_pos o,if_pos o]
     ·rw[if_neg o,if_neg o]
      by_cases k:x.2.any (fun g=>ň b g x.1 != 0)=true
      ·rw[if_pos k,if_pos k]
      ·rw[if_neg k,if_neg k]
    ·rw[if_neg h,if_pos h]
def r7_L1 {b:ò} (j:b.2.2.2.1.length<=1000000) {x:Mx} (t:x.2.length<=5) (hd:0<=x.1/\x.1<=19999) {p:Nat} (r:p<=1000000000) (k0:Int->BY ρ) (k1:Int->BY ρ) :
 Ë (fun(v:Int×Int) q=>jl b.1.1 b.1.2 b.2.1 b.2.2.1 b.2.2.2.1 b.2.2.2.2.1 b.2.2.2.2.2 x.1 x.2 v.1 v.2 (fun a b=>q (a,b)) k0 k1) ((p:Int),(0:Int)) =
  if x.2.any (fun g=>(ŗ b g x.1).isSome||(ŗ b g (x.1+1)).isSome) then k0 9 else k1 ((p*I9 x.2.length:Nat):Int):=by
 refine Cg x.2 (fun i=>((p*I9 i:Nat):Int)) _ (fun i=>(x.2.take i).any (fun g=>(ŗ b g x.1).isSome||(ŗ b g (x.1+1)).isSome)=false) (by simp[I9]) (by simp) (fun i g hi c f o=>?_) (fun f o=>?_)
 ·have s:=Qy (n:=i) (by omega);have hb:p*I9 i<=1000000000*120:=fI r s;have h2:p*I9 i*(i+1)<=1000000000*120*6:=fI hb (by omega)
  have e:((p*I9 i:Nat):Int)*((i:Int)+1)=((p*I9 i*(i+1):Nat):Int):=by simp
  try dsimp only
  unfold jl
  rw[Í hi,Ã c,show ∀d,ki ((b.1.1,b.1.2),b.2.1,b.2.2.1,b.2.2.2.1,b.2.2.2.2.1,b.2.2.2.2.2) g d=ki b g d from fun _=>rfl,M5 j,À,Ã c,Ï (by omega) (by omega),
   show ∀d,ki ((b.1.1,b.1.2),b.2.1,b.2.2.1,b.2.2.2.1,b.2.2.2.2.1,b.2.2.2.2.2) g d=ki b g d from fun _=>rfl,M5 j,À]
  cases h:ŗ b g x.1 with
  |some l =>
   refine .inl ?_;rw[if_pos (dv.2 ⟨g,dc c,by rw[h]; rfl⟩)];rfl
  |none =>
   cases k:ŗ b g (x.1+1) with
   |some l =>
    refine .inl ?_;rw[if_pos (dv.2 ⟨g,dc c,by rw[h,k]; rfl⟩)];rfl
   |none =>
    refine .inr ⟨by rw[take_succ c,List.any_append,f]; simp[h,k],?_⟩;dsimp only;rw[Ì (by rfl),Ì (by rfl),Ï (by omega) (by omega),e,Ï (by omega) (by omega),Ï (by omega) (by omega),I9,Nat.mul_assoc]
 ·try dsimp only
  unfold jl;rw[List.take_length] at f;rw[Ô,f]; rfl
def agF {m:Ň} (I:iX m.1) (Y:m.2.length<=1000) (Q:∀x∈m.2,x.2.length<=1000000):Cr m=some (Ĵ m):=by
 unfold Cr T0 Ĵ;rw[akw I,À]
 by_cases C:ō m.1=0
 ·have S:=(ť _).1 C;have V:=S.nL;rw[Ì (by simp[ine,C]),if_neg (by simp[C])]
  by_cases O:4<m.2.length
  ·rw[Ð (by simp[igt,Î]; omega),if_pos O]
  ·rw[Ì (by simp[igt,Î]; omega),if_neg O];refine Cg m.2 (fun i=>((nB (m.2.take i):Nat):Int)) _ (fun i=>∀j y,j<i->m.2[j]?=some y->mixE m.1 m.2 j y=0) (by simp[nB]) (fun j y h _=>by omega) (fun i x hi p s F=>?_) (fun s F=>?_)
   ·have X:∀y∈m.2.take i,y.2.length<=5:=fun y k=>by
     obtain⟨j,J,rfl⟩:=dm.1 k;rw[dk] at J;rw[fg];exact VS (s j _ (by omega) (cV (by omega)))
    have hb:=Vr (l:=m.2.take i) (n:=4) (by rw[dk]; omega) X
    have U:(120:Nat) ^ 4=207360000:=by decide
    try dsimp only
    unfold qz;rw[Í hi,Ã p,show(((m.1.1.1,m.1.1.2),m.1.2.1,m.1.2.2.1,m.1.2.2.2.1,m.1.2.2.2.2.1,m.1.2.2.2.2.2):ò)=m.1 from rfl,anI I (Q x (List.mem_of_getElem? p)),À];have d:=mixE_F m.1 m.2 i x
    by_cases o:anH m.1 x=0
    case neg =>
     rw[if_pos o] at d;refine .inl ?_;rw[Ð (by simp[ine,o]),Gu p s (by rw[d]; exact o),d]
    rw[if_neg (by simp[o])] at d;rw[Ì (by simp[ine,o])]
    have A:x.2.length<=5/\0<=x.1/\x.1<=19999:=by
     unfold anH at o
     split at o
     ·simp at o
     ·rename_i H;simp only[eJ,Bool.not_eq_false,cW,inP,decide_eq_true_eq] at H
      have G:x.2.length<=5:=by omega
      exact⟨G,H.1.1,H.1.2⟩
    have r:∀Z R:BY Int,(∀e,NY m.1 m.2=some e->R=some e)->(∀(c:mi (fun y=>y.1) m.2 i x=false),Z=Ë (fun(v:Int×Int) P=>jl m.1.1.1 m.1.1.2 m.1.2.1 m.1.2.2.1 m.1.2.2.2.1 m.1.2.2.2.2.1 m.1.2.2.2.2.2 x.1 x.2 v.1 v.2 (fun a b=>P (a,b)) (fun z=>some z) (fun D=>ck ((i:Int)+1) fun E=>F (D,E))) (((nB (m.2.take i):Nat):Int),(0:Int)))->(mi (fun y=>y.1) m.2 i x=true->Z=some 6) ->
     Z=R\/((∀j y,j<i+1->m.2[j]?=some y->mixE m.1 m.2 j y=0)/\Z=F (((nB (m.2.take (i+1)):Nat):Int),(i:Int)+1)):=by
     intro Z R K W G
     cases c:mi (fun y=>y.1) m.2 i x with
     |true =>
      rw[c,if_pos rfl] at d;refine .inl ?_;rw[G c,K _ (Gu p s (by rw[d]; simp)),d]
     |false =>
      rw[c,if_neg (by simp)] at d;rw[W c,r7_L1 (by omega) A.1 A.2 (by omega)]
      cases M:x.2.any (fun g=>(ŗ m.1 g x.1).isSome||(ŗ m.1 g (x.1+1)).isSome) with
      |true =>
       rw[M,if_pos rfl] at d;refine .inl ?_;rw[if_pos rfl,K _ (Gu p s (by rw[d]; simp)),d]
      |false =>
       rw[M,if_neg (by simp)] at d;refine .inr ⟨fun j y J k=>?_,?_⟩
       ·rcases dl j i with h|h
        ·exact s j y h k
        ·have:j=i:=by omega
         subst this;rw[p] at k; cases k;exact d
       ·rw[if_neg (by simp),È hi (by omega),B6 p]
    refine r _ _ (fun e T=>by rw[T]) (fun c=>?_) (fun c=>?_)
    ·by_cases h0:0<i
     ·obtain⟨q,B⟩:=vB hi h0
      have t:¬x.1<=q.1:=by
       intro e;unfold mi at c;rw[B] at c;simp[h0,e] at c
      have u:∀f:Int->BY Int,ck ((i:Int)-1) f=f ((i-1:Nat):Int):=fun f=>by rw[Ï (by omega) (by omega)]; congr 1; omega
      rw[Ð (decide_eq_true (by omega)),u,Ã B,Ì (decide_eq_false t)]
     ·rw[Ì (decide_eq_false (by omega))]
    ·have h0:0<i:=by
      unfold mi at c;simp only[Bool.and_eq_true,decide_eq_true_eq] at c;exact c.1
     obtain⟨q,B⟩:=vB hi h0
     have t:x.1<=q.1:=by
      unfold mi at c;rw[B] at c;simpa[h0] using c
     have u:∀f:Int->BY Int,ck ((i:Int)-1) f=f ((i-1:Nat):Int):=fun f=>by rw[Ï (by omega) (by omega)]; congr 1; omega
     rw[Ð (decide_eq_true (by omega)),u,Ã B,Ð (decide_eq_true t)]
   ·try dsimp only
    unfold qz;rw[Ô,ER fun j y k=>s j y (List.getElem?_eq_some_iff.1 k).1 k,List.take_length];dsimp only;rw[é];simp only[igt,decide_eq_true_eq]
    by_cases h:150<nB m.2
    ·rw[if_pos (by omega),if_pos h]
    ·rw[if_neg (by omega),if_neg h]
 ·rw[Ð (by simp[ine,C]),if_pos C]
end
def Xx {m:Ň} {w:Way} (h:ĵ m.2 w) (u:m.2.length<=1000) (p:∀x∈m.2,x.2.length<=1000) (x d:Int):yv m w x d=some (iY m.2 w x d):=by
 unfold yv adE;rw[Î,Ï (by omega) (by omega)];refine ï (fun s:Int×Int=>∃i:Nat,i<=m.2.length/\s.2=(i:Int)-1/\s.1=iY (m.2.drop i) (w.drop i) x d) (fun s=>(s.2+1).toNat) ?_ ⟨m.2.length,Nat.le_refl _,rfl,?_⟩
 ·rintro⟨t,r⟩ ⟨i,hi,g,h2⟩;simp only at g h2;subst g h2
  cases i with
  |zero =>
   refine .inl fun n=>?_
   try dsimp only
   unfold xN;rw[Ì (by simp[ige])]; rfl
  |succ i =>
   obtain⟨y,a⟩:∃y,m.2[i]?=some y:=⟨_,cV hi⟩;obtain⟨l,c,e⟩:=h.at a
   have o:l.length<=1000:=by rw[e.length_eq]; exact p y (dc a)
   have j:((i+1:Nat):Int)-1=i:=by omega
   refine .inr ⟨(iY (m.2.drop i) (w.drop i) x d,(i:Int)-1),⟨i,by omega,rfl,rfl⟩,by simp only[j]; omega,fun n=>?_⟩
   try dsimp only
   unfold xN;rw[j,Ð (by simp[ige]),Ã a,acM a c];unfold stp
   by_cases hd:y.1<d
   ·rw[Ð (by simp[ilt,hd]),if_pos hd,Ã c,aa4 (by omega),À]
    cases q:l.findIdx? (·==iY (m.2.drop (i+1)) (w.drop (i+1)) x d) with
    |none =>
     dsimp only;rw[Ì (by simp[ige]),Ï (by omega) (by omega)]
    |some k =>
     dsimp only
     have f:k<y.2.length:=by rw[<-e.length_eq]; exact(dM.1 q).1
     rw[Ð (by simp[ige]),Ã a,Ã (cV f),Ï (by omega) (by omega)];rw[ej,cV f]; rfl
   ·rw[Ì (by simp[ilt,hd]),Ï (by omega) (by omega),if_neg hd]
 ·simp only[List.drop_length];rw[<-h.len,List.drop_length];unfold iY;rfl
def agC {m:Ň} {w:Way} (h:ĵ m.2 w) (C:m.2.length<=1000) (A:∀x∈m.2,x.2.length<=1000):yw m w=some (vv m.2 w):=by
 unfold yw OG;have g:=h.len;refine ï (fun s:Int×Int=>∃i:Nat,i<=w.length/\s.2=(i:Int)/\s.1=vv (m.2.take i) (w.take i)) (fun s=>w.length-s.2.toNat) ?_ ⟨0,Nat.zero_le _,rfl,by simp[vv]⟩;rintro⟨K,J⟩ ⟨i,hi,j,h2⟩;simp only at j h2;subst j h2;rcases Nat.lt_or_ge i w.length with f|F
 ·obtain⟨y,o⟩:∃y,m.2[i]?=some y:=⟨_,cV (by omega)⟩;obtain⟨l,p,q⟩:=h.at o
  have D:l.length<=1000:=by rw[q.length_eq]; exact A y (dc o)
  refine .inr ⟨(vv (m.2.take (i+1)) (w.take (i+1)),(i:Int)+1),⟨i+1,f,by simp,rfl⟩,by simp only[dj]; omega,fun r=>?_⟩
  try dsimp only
  unfold oH;rw[Í f];have hb:=agX (n:=0) C A (w.take i) i;refine ï (fun s:Int×Int=>∃k:Nat,k<=l.length/\s.2=(k:Int)/\s.1=vv (m.2.take i) (w.take i)+XF (l.take k) (y.2.take k)) (fun s=>l.length-s.2.toNat) ?_ ⟨0,Nat.zero_le _,rfl,by simp[XF]⟩;rintro⟨I,t2⟩ ⟨k,M,j,h2⟩;simp only at j h2;subst j h2;have H:=Na (l.take k) (y.2.take k)
  have G:(y.2.take k).length<=1000:=by rw[dk]; omega
  rcases dl k l.length with c|E
  ·obtain⟨u,z⟩:∃u,l[k]?=some u:=⟨_,cV c⟩;obtain⟨v,t⟩:∃v,y.2[k]?=some v:=⟨_,cV (by rw[<-q.length_eq]; exact c)⟩;refine .inr ⟨(vv (m.2.take i) (w.take i)+XF (l.take (k+1)) (y.2.take (k+1)),(k:Int)+1),⟨k+1,c,by simp,rfl⟩,by simp only[dj]; omega,fun r=>?_⟩
   try dsimp only
   unfold oG;rw[Ã p,Í c,Ã p,Ã z,Ã o,Ã t,M9 z t]
   by_cases a:v=u
   ·rw[Ì (by simp[ine,a]),Ï (by omega) (by omega),if_pos a]; simp
   ·rw[Ð (by simp[ine]; exact fun e=>a e.symm),Ï (by omega) (by omega),Ï (by omega) (by omega),if_neg a,Int.add_assoc]
  ·refine .inl fun B=>?_
   have d:k=l.length:=by omega
   subst d
   try dsimp only
   unfold oG;rw[Ã p,Ô];dsimp only;rw[Ï (by omega) (by omega),M8 o p,List.take_length,q.length_eq,List.take_length]
 ·refine .inl fun r=>?_
  have d:i=w.length:=by omega
  subst d
  try dsimp only
  unfold oH;rw[Ô,List.take_length,g,List.take_length]
def UE (a:Int):∀{l:CK Int} {k:Nat},l.Pairwise (·<=·)->k<=l.length->(∀j x,j<k->l[j]?=some x->x<a)->(∀x,l[k]?=some x->a<=x)->afR a l=l.take k++[a]++l.drop k
 |[],k,_,d,_,_=>by simp[afR]
 |b::t,0,_,_,_,h2=>by
  have:=h2 b rfl;unfold afR;rw[if_pos this]; rfl
 |b::t,k+1,f,d,e,h2=>by
  have hb:=e 0 b (by omega) rfl;unfold afR;rw[if_neg (by omega),UE a (List.pairwise_cons.1 f).2 (by simpa using d) (fun j x g c=>e (j+1) x (by omega) c) (fun x c=>h2 x c)];rfl
def ac9 {m:Ň} {w:Way} (h:ĵ m.2 w) (B:m.2.length<=1000) (E:∀x∈m.2,x.2.length<=1000) (d:Int) {l:CK Int} (D:l.length<=1000000):Bx m w l d=some (nS m w d l):=by
 unfold Bx Ze;refine ð l (fun i=>Υ ((l.take i).map fun x=>iY m.2 w x d)) _ rfl (fun i a hi ha u=>?_) (fun u=>?_)
 ·have C:((((m.1.1.1,m.1.1.2),m.1.2.1,m.1.2.2.1,m.1.2.2.2.1,m.1.2.2.2.2.1,m.1.2.2.2.2.2),m.2):Ň)=m:=rfl
  try dsimp only
  unfold tY;rw[Í hi,Ã ha,C,Xx h B E,À];generalize y:Υ ((l.take i).map fun x=>iY m.2 w x d)=V
  have v:V.Pairwise (·<=·):=by rw[<-y]; exact Ř _
  have I:V.length=i:=by rw[<-y,(ā _).length_eq,dF,dk]; omega
  have n:Υ ((l.take (i+1)).map fun x=>iY m.2 w x d)=afR (iY m.2 w a d) V:=by
   rw[<-y];refine gi (le:=(·<=·)) (fun a b _ _ t h2=>iA t h2) (Ř _) (FG _ (Ř _)) ?_;rw[take_succ ha,fj,eV,fu];exact(ā _).trans (List.perm_append_comm.trans ((List.Perm.cons _ (ā _).symm).trans (Io _ _).symm))
  rw[n];generalize iY m.2 w a d=g;refine ï (fun s:Int=>∃k:Nat,k<=V.length/\s=(k:Int)/\∀j x,j<k->V[j]?=some x->x<g) (fun s=>V.length-s.toNat) ?_ ⟨0,dU _,rfl,fun j x H _=>by omega⟩;rintro s ⟨k,G,rfl,A⟩
  have fin:∀(z:∀x,V[k]?=some x->g<=x),(fun c:Int=>à ((ile (0:Int) c)&&(ile c (î V))) (à (ä (List.length (List.take (Int.toNat c) (List.drop 0 V)))) (à (ä ((List.length (List.take (Int.toNat c) (List.drop 0 V)))+(List.length ([g])))) (à ((ile (0:Int) c)&&(ile c (î V))) (à (ä ((List.length ((List.take (Int.toNat c) (List.drop 0 V))++([g])))+(List.length (List.take (List.length V-(Int.toNat c)) (List.drop (Int.toNat c) V))))) (ck ((i:Int)+(1:Int)) fun n6=>u (n6,((List.take (Int.toNat c) (List.drop 0 V))++([g]))++(List.take (List.length V-(Int.toNat c)) (List.drop (Int.toNat c) V)))))))) ) (k:Int)=u ((i:Int)+1,afR g V):=fun z=>by
   dsimp only
   rw[UE g v G A z,dj,å (by simp[ile,î]; omega),å (Ñ (by simp; omega)),å (Ñ (by simp; omega)),å (by simp[ile,î]; omega),å (Ñ (by simp; omega)),È hi (by omega),
    dY (l:=V.drop k) (by simp),g8]
  rcases dl k V.length with f|F
  ·have r:V[k]?=some V[k]:=cV f
   by_cases o:V[k]<g
   ·refine .inr ⟨(k:Int)+1,⟨k+1,f,by simp,fun j x H p=>?_⟩,by omega,fun q=>?_⟩
    ·rcases dl j k with t|t
     ·exact A j x t p
     ·have:j=k:=by omega
      subst this;rw[r] at p; cases p;exact o
    ·try dsimp only
     unfold pn;rw[Í f,å (by simp[ile,ilt,î]; omega),Int.toNat_natCast,ž r,Ð (decide_eq_true o),Ï (by omega) (by omega)]
   ·refine .inl fun q=>?_
    try dsimp only
    unfold pn;rw[Í f,å (by simp[ile,ilt,î]; omega),Int.toNat_natCast,ž r,Ì (decide_eq_false o)]
    exact fin fun x e=>by rw[r] at e; cases e; omega
  ·refine .inl fun q=>?_
   have:k=V.length:=by omega
   subst this
   try dsimp only
   unfold pn;rw[Ô]
   exact fin fun x e=>by simp at e
 ·try dsimp only
  unfold tY;rw[Ô,List.take_length]; rfl
section
variable {m:Ň} {w:Way}
def t7_L0 (h:MOk m) (f:ĵ m.2 w) {ρ:Type} (k0:CK (Int×Int)->BY ρ):Ë (fun(v:Int×CK (Int×Int)) d=>kI w m.1.1.1 m.1.1.2 m.1.2.1 m.1.2.2.1 m.1.2.2.2.1 m.1.2.2.2.2.1 m.1.2.2.2.2.2 m.2 v.1 v.2 (fun a b=>d (a,b)) k0) ((0:Int),[])=k0 (m.1.2.2.1.map fun u=>(iY m.2 w u.1 u.2,u.2)):=by
 have g:m.2.length<=1000:=by have:=h.n4; omega
 have k:∀x∈m.2,x.2.length<=1000:=fun y e=>by have:=h.len5 y e; omega
 have j:((((m.1.1.1,m.1.1.2),m.1.2.1,m.1.2.2.1,m.1.2.2.2.1,m.1.2.2.2.2.1,m.1.2.2.2.2.2),m.2):Ň)=m:=rfl;have n:=h.good.nU
 refine oM m.1.2.2.1 (fun u:Int×Int=>((iY m.2 w u.1 u.2,u.2):Int×Int)) k0 (fun i a hi ha v c l=>?_) (fun v c=>?_)<;>(try dsimp only)<;>unfold kI
 ·rw[Í hi,Ã ha,j,Xx f g k,À,å (Ñ (by simp; omega)),È hi (by omega)]
 ·rw[Ô]
def t7_L1 (h:MOk m) (f:ĵ m.2 w) {ρ:Type} (k0:CK Jb->BY ρ):Ë (fun(v:Int×CK Jb) d=>kH w m.1.1.1 m.1.1.2 m.1.2.1 m.1.2.2.1 m.1.2.2.2.1 m.1.2.2.2.2.1 m.1.2.2.2.2.2 m.2 v.1 v.2 (fun a b=>d (a,b)) k0) ((0:Int),[])=k0 (m.1.2.2.2.1.map fun l=>(iY m.2 w l.1 l.2.1.1,l.2)):=by
 have g:m.2.length<=1000:=by have:=h.n4; omega
 have k:∀x∈m.2,x.2.length<=1000:=fun y e=>by have:=h.len5 y e; omega
 have j:((((m.1.1.1,m.1.1.2),m.1.2.1,m.1.2.2.1,m.1.2.2.2.1,m.1.2.2.2.2.1,m.1.2.2.2.2.2),m.2):Ň)=m:=rfl;have o:=h.good.nL
 refine oM m.1.2.2.2.1 (fun l:Jb=>((iY m.2 w l.1 l.2.1.1,l.2):Jb)) k0 (fun i a hi ha v c n=>?_) (fun v c=>?_)<;>(try dsimp only)<;>unfold kH
 ·rw[Í hi,Ã ha,j,Xx f g k,À,å (Ñ (by simp; omega)),È hi (by omega)]
 ·rw[Ô]
def t7_L2 (h:MOk m) (c:ĵ m.2 w) {ρ:Type} (k0:CK Cmp->BY ρ):Ë (fun(v:Int×CK Cmp) g=>kG w m.1.1.1 m.1.1.2 m.1.2.1 m.1.2.2.1 m.1.2.2.2.1 m.1.2.2.2.2.1 m.1.2.2.2.2.2 m.2 v.1 v.2 (fun a b=>g (a,b)) k0) ((0:Int),[])=k0 (m.1.2.2.2.2.1.map (agM m w)):=by
 have d:m.2.length<=1000:=by have:=h.n4; omega
 have e:∀x∈m.2,x.2.length<=1000:=fun y j=>by have:=h.len5 y j; omega
 have k:((((m.1.1.1,m.1.1.2),m.1.2.1,m.1.2.2.1,m.1.2.2.2.1,m.1.2.2.2.2.1,m.1.2.2.2.2.2),m.2):Ň)=m:=rfl;have p:=h.good.nC
 refine oM m.1.2.2.2.2.1 (agM m w) k0 (fun i a hi ha v f o=>?_) (fun v f=>?_)<;>(try dsimp only)<;>unfold kG
 ·obtain⟨n,l⟩:=h.good.size.piles a (dc ha);rw[Í hi,Ã ha,k,ac9 c d e _ (by omega),À,ac9 c d e _ (by omega),À,å (Ñ (by simp; omega)),È hi (by omega)];rfl
 ·rw[Ô]
def t7_L3 (h:MOk m) (f:ĵ m.2 w) {ρ:Type} (k0:CK (Int×Int)->BY ρ):Ë (fun(v:Int×CK (Int×Int)) d=>kF w m.1.1.1 m.1.1.2 m.1.2.1 m.1.2.2.1 m.1.2.2.2.1 m.1.2.2.2.2.1 m.1.2.2.2.2.2 m.2 v.1 v.2 (fun a b=>d (a,b)) k0) ((0:Int),[])=k0 (m.1.2.2.2.2.2.map fun n=>(iY m.2 w n.1 n.2,n.2)):=by
 have g:m.2.length<=1000:=by have:=h.n4; omega
 have k:∀x∈m.2,x.2.length<=1000:=fun y e=>by have:=h.len5 y e; omega
 have j:((((m.1.1.1,m.1.1.2),m.1.2.1,m.1.2.2.1,m.1.2.2.2.1,m.1.2.2.2.2.1,m.1.2.2.2.2.2),m.2):Ň)=m:=rfl;have o:=h.good.nK
 refine oM m.1.2.2.2.2.2 (fun n:Int×Int=>((iY m.2 w n.1 n.2,n.2):Int×Int)) k0 (fun i a hi ha v c l=>?_) (fun v c=>?_)<;>(try dsimp only)<;>unfold kF
 ·rw[Í hi,Ã ha,j,Xx f g k,À,å (Ñ (by simp; omega)),È hi (by omega)]
 ·rw[Ô]
def qV (h:MOk m) (a:ĵ m.2 w):ο m w=some (trP m w):=by
 unfold ο vl trP;rw[t7_L0 h a,t7_L1 h a,t7_L2 h a,t7_L3 h a]
end
def ak9 {a b:CK Int} (ha:a.Nodup) (hb:b.Nodup) (h:∀x,x∈a↔x∈b):a.Perm b:=by
 have st:∀l:CK Int,l.Nodup->(Υ l).Pairwise (·<·):=fun l c=>((Ř l).and ((ā l).nodup_iff.2 c)).imp fun⟨p,q⟩=>Int.lt_iff_le_and_ne.2 ⟨p,q⟩
 have:=Xs (st a ha) (st b hb) fun x=>by rw[(ā a).mem_iff,(ā b).mem_iff,h]
 exact(ā a).symm.trans (this▸ā b)
section
variable {ρ:Type}
def anC {c:CK Int->BY (CK (CK Int))} {c0:CK Int} {i:Nat} {a:Int} (ha:c0[i]?=some a) {r v1:CK (CK Int)} (h:∀y∈r,y.length<=1000) (k:v1.length+r.length<=1000000) (K:CK (CK Int)->BY ρ) :
 Ë (fun(v:Int×CK (CK Int)) g=>lL c c0 i r v.1 v.2 (fun a b=>g (a,b)) K) ((0:Int),v1)=K (v1++r.map (a::·)):=by
 refine ð r (fun j=>v1++(r.take j).map (a::·)) _ (by simp) (fun j y e d f=>?_) (fun f=>?_)
 ·have:=h y (dc d)
  try dsimp only
  unfold lL;rw[Í e,Ã ha,Ã d,å (Ñ (by simp; omega)),å (Ñ (by simp; omega)),È e (by omega),take_succ d,List.map_append,List.append_assoc]; rfl
 ·try dsimp only
  unfold lL;rw[Ô,List.take_length]
def adw:∀(n:Nat) {l y:CK Int},l.length=n->y∈vI n l->y.length=n
 |0,l,y,_,h=>by simp[vI] at h; simp[h]
 |n+1,l,y,d,h=>by
  have a:¬l.length=0:=by omega
  simp only[vI,if_neg a,dA,ff,dw] at h;obtain⟨i,hi,z,c,rfl⟩:=h;have:=adw n (l:=l.take i++l.drop (i+1)) (by simp; omega) c;simp[this]
def Qq {α β:Type} {f:α->CK β} {c:Nat}:∀{l:CK α},(∀x∈l,(f x).length=c)->(l.flatMap f).length=l.length*c
 |[],_=>by simp
 |x::l,h=>by
  rw[dz,cZ,h x (by simp),Qq fun y a=>h y (dS _ a),di,dE,fm,Nat.add_comm]
def TH:∀(n:Nat) {l:CK Int},l.length<n->l.length<=5->rC n l=some (vI l.length l)
 |0,l,h,_=>by omega
 |n+1,l,h,u=>by
  show oe (rC n) l some=_;unfold oe
  by_cases h0:l.length=0
  ·obtain rfl:l=[]:=List.eq_nil_of_length_eq_zero h0;rw[Ð (by rw[Î]; rfl)]; rfl
  ·obtain⟨k,o⟩:∃k,l.length=k+1:=⟨l.length-1,by omega⟩
   have t:vI l.length l=(List.range l.length).flatMap fun i=>(vI k (l.take i++l.drop (i+1))).map (l.getD i 0::·):=by
    rw[o];show(if l.length=0 then[[]] else _)=_;rw[if_neg h0,o]
   have g:=Qy (n:=k) (by omega);rw[Ì (by rw[Î]; exact decide_eq_false (by omega)),t]
   have d:∀i,i<=l.length->((List.range i).flatMap fun i=>(vI k (l.take i++l.drop (i+1))).map (l.getD i 0::·)).length=i*I9 k:=fun i hi=>by
    rw[Qq (c:=I9 k) fun j s=>by
     rw[ff] at s
     rw[dF,Gq (n:=k) (by simp; omega)],fh]
   refine ð l (fun i=>(List.range i).flatMap fun i=>(vI k (l.take i++l.drop (i+1))).map (l.getD i 0::·)) _ rfl (fun i a hi ha p=>?_) (fun p=>?_)
   ·have e:(l.take i++l.drop (i+1)).length=k:=by simp; omega
    have f:l.getD i 0=a:=by rw[ej,ha]; rfl
    have r:(List.range (i+1)).flatMap (fun i=>(vI k (l.take i++l.drop (i+1))).map (l.getD i 0::·))=(List.range i).flatMap (fun i=>(vI k (l.take i++l.drop (i+1))).map (l.getD i 0::·))++(vI k (l.take i++l.drop (i+1))).map (a::·):=by
     rw[ft,eO,dz,gj,dt,f]
    have v:i*I9 k<=5*120:=fI (by omega) g
    try dsimp only
    unfold oF
    rw[Í hi,å (by simp[ile,î]; omega),å (Ñ (by simp; omega)),È hi (by omega),å (by simp[ile,î]; omega),å (Ñ (by simp; omega)),dj,show Int.toNat ((i:Int)+1)=i+1 by omega,d8,
     TH n (by omega) (by omega),À,e,r]
    refine(anC ha (fun y q=>by rw[adw k e q]; omega) (by rw[d i (by omega),Gq e]; omega) _).trans ?_;dsimp only;rw[È hi (by omega)]
   ·try dsimp only
    unfold oF;rw[Ô]
def sG {α β:Type} {f g:α->CK β}:∀{l:CK α},(∀a∈l,f a=g a)->l.flatMap f=l.flatMap g
 |[],_=>rfl
 |a::l,h=>by rw[dz,dz,h a (by simp),sG fun x c=>h x (by simp[c])]
def aat (all:CK Way) (ms:CK Mx):CK Way:=ms.foldl (fun all m=>all.flatMap fun w=>(vI m.2.length m.2).map fun x=>w++[x]) all
def aeu:∀(ms:CK Mx) (all:CK Way),aat all ms=all.flatMap fun w=>(χ ms).map fun v=>w++v
 |[],all=>by
  show all=all.flatMap fun w=>[w++[]];simp
 |m::ms,all=>by
  show aat (all.flatMap fun w=>(vI m.2.length m.2).map fun x=>w++[x]) ms=_;rw[aeu ms,List.flatMap_assoc];refine sG fun w _=>?_;show((vI m.2.length m.2).map fun x=>w++[x]).flatMap (fun w=>(χ ms).map fun v=>w++v)=((vI m.2.length m.2).flatMap fun x=>(χ ms).map (x::·)).map fun v=>w++v;rw[List.flatMap_map,List.map_flatMap];refine sG fun x _=>?_;rw[List.map_map];refine fi fun v _=>?_;simp
def QH (ms:CK Mx):aat [[]] ms=χ ms:=by rw[aeu]; simp
def af5 (all:CK Way) (ms:CK Mx) (m:Mx):aat all (ms++[m])=(aat all ms).flatMap fun w=>(vI m.2.length m.2).map fun x=>w++[x]:=by unfold aat; rw[List.foldl_append]; rfl
def w7_L2 {r:CK (CK Int)} {c v1:CK Way} {k:Nat} {w:Way} (e:c[k]?=some w) (i:w.length<=1000) (l:v1.length+r.length<=1000000) (K:CK Way->BY ρ) :
 Ë (fun(v:Int×CK Way) h=>pp r k c v.1 v.2 (fun a b=>h (a,b)) K) ((0:Int),v1)=K (v1++r.map fun x=>w++[x]):=by
 have n:=(cY.1 e).1;refine ð r (fun j=>v1++(r.take j).map fun x=>w++[x]) _ (by simp) (fun j y f d g=>?_) (fun g=>?_)
 ·try dsimp only
  unfold pp;rw[Í f,å (by simp[ile,ilt,î]; omega),Int.toNat_natCast,ž e,å (Ñ (by omega)),Ã d,å (Ñ (by simp; omega)),å (Ñ (by simp; omega)),È f (by omega),take_succ d,List.map_append,List.append_assoc,List.nil_append]; rfl
 ·try dsimp only
  unfold pp;rw[Ô,List.take_length]
def w7_L1 {r:CK (CK Int)} {all:CK Way} (h:∀w∈all,w.length<=1000) (j:all.length*r.length<=100000) (i:r.length<=1000) (ha:all.length<=100000) (K:CK Way->BY ρ) :
 Ë (fun(v:Int×CK Way) g=>pq r all v.1 v.2 (fun a b=>g (a,b)) K) ((0:Int),[])=K (all.flatMap fun w=>r.map fun x=>w++[x]):=by
 refine ð all (fun k=>(all.take k).flatMap fun w=>r.map fun x=>w++[x]) _ (by simp) (fun k w e d f=>?_) (fun f=>?_)
 ·have l:((all.take k).flatMap fun w=>r.map fun x=>w++[x]).length=k*r.length:=by
   rw[Qq (c:=r.length) fun w _=>dF ..,dk,Nat.min_eq_left (by omega)]
  have h2:k*r.length<=all.length*r.length:=dB _ (by omega)
  try dsimp only
  unfold pq;rw[Í e];refine(w7_L2 d (h w (List.mem_of_getElem? d)) (by omega) _).trans ?_;dsimp only;rw[È e (by omega),take_succ d,List.flatMap_append];simp
 ·try dsimp only
  unfold pq;rw[Ô,List.take_length]
def ajs:∀(ms:CK Mx),(aat [[]] ms).length=nB ms:=fun ms=>by rw[QH,IY]
def UD {α:Type} {key:α->Int} {x:α}:∀{A R:CK α},(∀y∈A,key y<key x)->WM key x (A++R)=A++WM key x R
 |[],R,_=>rfl
 |a::A,R,h=>by
  have:=h a (by simp);simp only[fe];rw[WM,if_neg (by omega),UD fun y c=>h y (by simp[c])]
def aiR {α:Type} {key:α->Int} {x:α} {R:CK α} (h:∀y∈R,key x<=key y):WM key x R=x::R:=by
 cases R with
 |nil=>rfl
 |cons y R=>rw[WM,if_pos (h y (by simp))]
def Mp {α:Type} (key:α->Int) (n:Nat) (l:CK α):CK α:=(List.range n).flatMap fun k:Nat=>l.filter fun y=>decide (key y=(k:Int))
def agz {α:Type} {key:α->Int} {n k:Nat} {x:α} (e:key x=(k:Int)) (h:k<n) (l:CK α):Mp key n (x::l)=WM key x (Mp key n l):=by
 have d:List.range n=List.range k++k::(List.range (n-k-1)).map (k+1+·):=by
  rw[show n=(k+1)+(n-k-1) by omega,List.range_add,ft,dg];simp[show k+1+(n-k-1)-k-1=n-k-1 by omega]
 unfold Mp;rw[d,List.flatMap_append,List.flatMap_cons,List.flatMap_append,List.flatMap_cons]
 have g:(List.range k).flatMap (fun j:Nat=>(x::l).filter fun y=>decide (key y=(j:Int)))=(List.range k).flatMap fun j:Nat=>l.filter fun y=>decide (key y=(j:Int)):=sG fun j c=>by
  rw[ff] at c;rw[fS (by simp[e]; omega)]
 have f:((List.range (n-k-1)).map (k+1+·)).flatMap (fun j:Nat=>(x::l).filter fun y=>decide (key y=(j:Int)))=((List.range (n-k-1)).map (k+1+·)).flatMap fun j:Nat=>l.filter fun y=>decide (key y=(j:Int)):=sG fun j c=>by
  obtain⟨q,_,rfl⟩:=dw.1 c;rw[fS (by simp[e]; omega)]
 rw[g,f,gz (by simp[e]),UD fun y a=>?_,aiR fun y a=>?_]
 ·rfl
 ·rcases de.1 a with a|a
  ·have:=of_decide_eq_true (dW.1 a).2; omega
  ·obtain⟨j,c,a⟩:=dA.1 a;obtain⟨q,_,rfl⟩:=dw.1 c;have:=of_decide_eq_true (dW.1 a).2;omega
 ·obtain⟨j,c,a⟩:=dA.1 a;rw[ff] at c;have:=of_decide_eq_true (dW.1 a).2;omega
def Q2 {α:Type} {key:α->Int} {n:Nat}:∀{l:CK α},(∀y∈l,0<=key y/\key y<n)->Mp key n l=Ĺ key l
 |[],_=>by unfold Mp; simp[Ĺ]
 |x::l,h=>by
  have c:=h x (by simp);rw[agz (k:=(key x).toNat) (by omega) (by omega),Q2 fun y a=>h y (by simp[a])];rfl
def aeq:∀n:Nat,1<=I9 n
 |0=>cX _
 |n+1=>by
  have:=aeq n;unfold I9;exact Nat.le_trans this (Nat.le_mul_of_pos_right _ (by omega))
def Ye:∀l:CK Mx,1<=nB l
 |[]=>cX _
 |x::l=>by
  unfold nB;exact Nat.mul_le_mul (aeq _) (Ye l)
def Nx:∀(l:CK Mx) (i:Nat),nB (l.take i)<=nB l
 |[],i=>by simp
 |x::l,0=>Ye _
 |x::l,i+1=>by
  simp only[gq,nB];exact Nat.mul_le_mul_left _ (Nx l i)
def agW:∀{ms:CK Mx} (w:Way),(∀x∈ms,x.2.length<=5)->0<=vv ms w/\vv ms w<=5*ms.length
 |[],w,_=>by cases w<;>simp[vv]
 |m::ms,[],_=>by simp[vv]; omega
 |m::ms,l::w,h=>by
  have d:=Na l m.2;have h2:=h m (by simp);have c:=agW (ms:=ms) w fun x a=>h x (by simp[a]);simp only[vv,di];omega
variable {m:Ň}
def w7_L4 (h:MOk m) {all:CK Way} (l:∀w∈all,ĵ m.2 w) (ha:all.length<=150) (k:Nat) {v1:CK Way} (r:v1.length<=1000000) (K:CK Way->BY ρ) :
 Ë (fun(v:Int×CK Way) g=>po k m.1.1.1 m.1.1.2 m.1.2.1 m.1.2.2.1 m.1.2.2.2.1 m.1.2.2.2.2.1 m.1.2.2.2.2.2 m.2 all v.1 v.2 (fun a b=>g (a,b)) K) ((0:Int),v1)=K (v1++all.filter fun w=>decide (vv m.2 w=(k:Int))):=by
 have n:m.2.length<=1000:=by have:=h.n4; omega
 have p:∀x∈m.2,x.2.length<=1000:=fun y i=>by have:=h.len5 y i; omega
 have o:((((m.1.1.1,m.1.1.2),m.1.2.1,m.1.2.2.1,m.1.2.2.2.1,m.1.2.2.2.2.1,m.1.2.2.2.2.2),m.2):Ň)=m:=rfl;refine ð all (fun j=>v1++(all.take j).filter fun w=>decide (vv m.2 w=(k:Int))) _ (by simp) (fun j w e c f=>?_) (fun f=>?_)
 ·have q:=eA (fun w=>decide (vv m.2 w=(k:Int))) (all.take j);rw[dk] at q
  try dsimp only
  unfold po;rw[Í e,å (by simp[ile,ilt,î]; omega),Int.toNat_natCast,ž c,o,agC (l w (List.mem_of_getElem? c)) n p,À,take_succ c,List.filter_append]
  by_cases d:vv m.2 w=(k:Int)
  ·rw[Ð (by simp[ieq,d]),å (by simp[ile,ilt,î]; omega),ž c,å (Ñ (by simp only[cZ,di,dK]; omega)),È e (by omega),gz (by simp[d]),eY,dg]
  ·rw[Ì (by simp[ieq,d]),È e (by omega),fS (by simp[d]),eY,dt]
 ·try dsimp only
  unfold po;rw[Ô,List.take_length]
def Xy (h:MOk m):sJ m=some (Ğ m.2):=by
 have y:=h.n4;have p:nB m.2<=150:=h.prod;unfold sJ Zf;refine ð m.2 (fun i=>aat [[]] (m.2.take i)) _ rfl (fun i x hi c e=>?_) (fun e=>?_)
 ·have o:=h.len5 x (dc c);have s:=Nx m.2 (i+1);have r:=Nx m.2 i;rw[B6 c] at s;have v:=Qy (n:=x.2.length) o;have f:=Gq (n:=x.2.length) (l:=x.2) rfl;have a:=ajs (m.2.take i)
  try dsimp only
  unfold t7;rw[Í hi,Ã c,show FJ x.2=some (vI x.2.length x.2) from TH 100 (by omega) o,À,take_succ c,af5];refine(w7_L1 (fun w d=>?_) (by rw[a,f]; omega) (by omega) (by omega) _).trans ?_
  ·rw[QH] at d;have:=(xe.1 d).len;rw[this,dk]; omega
  ·dsimp only;rw[È hi (by omega)]
 ·try dsimp only
  unfold t7;rw[Ô,List.take_length,QH];have a:(χ m.2).length<=150:=MY h;refine(ð (List.range 21) (fun k=>Mp (vv m.2) k (χ m.2)) (some (Mp (vv m.2) 21 (χ m.2))) rfl (fun k j t u e=>?_) (fun e=>?_)).trans ?_
  ·rw[fh] at t
   have g:(Mp (vv m.2) k (χ m.2)).length<=1000000:=by
    have:∀n:Nat,(Mp (vv m.2) n (χ m.2)).length<=n*150:=fun n=>by
     induction n with
     |zero=>simp[Mp]
     |succ n q =>
      unfold Mp at q ⊢;rw[List.range_succ,List.flatMap_append,List.length_append,List.flatMap_cons,List.flatMap_nil,List.append_nil];have:=List.length_filter_le (fun w=>decide (vv m.2 w=(n:Int))) (χ m.2);omega
    have:=this k;omega
   try dsimp only
   unfold tZ;rw[Ð (decide_eq_true (by omega))];refine(w7_L4 h (fun w d=>xe.1 d) a k g _).trans ?_;dsimp only;rw[Ï (by omega) (by omega)];congr 2;unfold Mp;rw[List.range_succ,List.flatMap_append,List.flatMap_cons,List.flatMap_nil,List.append_nil]
  ·rw[fh]
   try dsimp only
   unfold tZ;rw[Ì (by rfl)]
  ·rw[Q2 fun w _=>?_]
   ·rfl
   ·have:=agW (ms:=m.2) w h.len5;omega
end
def sameL {L l:CK Int} (i:L.Pairwise (·<·)):Υ l=L↔l.length=L.length/\l.Nodup/\∀x∈l,x∈L:=by
 constructor
 ·rintro rfl;have c:=ā l;exact⟨c.length_eq.symm,c.nodup_iff.1 (i.imp fun h=>Int.ne_of_lt h),fun x f=>c.mem_iff.2 f⟩
 ·rintro⟨n,h2,k⟩;have d:L.Nodup:=i.imp fun h=>Int.ne_of_lt h
  have q:∀x∈L,x∈l:=fun x f=>by
   apply Decidable.byContradiction;intro g;have p:∀y∈l,y∈L.erase x:=fun y j=>(List.Nodup.mem_erase_iff d).2 ⟨fun e=>g (e▸j),k y j⟩;have o:=fO h2 p;rw[List.length_erase_of_mem f] at o;have:=fw f;omega
  have c:l.Perm L:=ak9 h2 d fun x=>⟨k x,q x⟩;exact gi (le:=(·<=·)) (fun a b _ _ n h2=>iA n h2) (Ř _) (i.imp fun h=>Int.le_of_lt h) ((ā l).trans c)
def akK (L l:CK Int) (k:Nat) (x:Int):Bool:=(L.findIdx? (·==x)).isNone||decide (l.findIdx? (·==x)≠some k)
def amg {L l:CK Int} (p:L.Pairwise (·<·)):(l.length=L.length/\∀(k:Nat) (x:Int),l[k]?=some x->akK L l k x=false)↔Υ l=L:=by
 rw[sameL p];constructor
 ·rintro⟨g,h2⟩;refine⟨g,?_,fun x h=>?_⟩
  ·rw[List.nodup_iff_pairwise_ne,List.pairwise_iff_getElem];intro i j hi f o e;have a:=h2 j l[j] (List.getElem?_eq_getElem f);have d:=h2 i l[i] (List.getElem?_eq_getElem hi);unfold akK at a d;simp only[Bool.or_eq_false_iff,decide_eq_false_iff_not,Decidable.not_not] at a d;rw[e,a.2] at d;have:=Option.some.inj d.2;omega
  ·obtain⟨k,c⟩:=List.mem_iff_getElem?.1 h;have a:=h2 k x c;unfold akK at a;simp only[Bool.or_eq_false_iff] at a;apply Decidable.byContradiction;intro n;rw[MI n] at a;simp at a
 ·rintro⟨g,h2,a⟩;refine⟨g,fun k x c=>?_⟩;obtain⟨j,f,_⟩:=WQ (a x (List.mem_of_getElem? c));unfold akK;rw[f,amS h2 c];simp
section
variable {ρ:Type} {m:Ň}
def ag1 {w:Way} {i:Nat} {l:CK Int} {y:Mx} (c:w[i]?=some l) (o:m.2[i]?=some y) (E:l.length<=100000) (A:y.2.length<=1000) {P:Prop} [Decidable P] (r:P↔∀(k:Nat) (x:Int),l[k]?=some x->akK y.2 l k x=false) (k0:Bool->BY ρ) (Z:BY ρ) :
 Ë (fun(v:Int) z=>kJ w i m.2 v (fun u=>z u) k0 (fun _=>Z)) 0=if P then Z else k0 false:=by
 refine ï (fun s:Int=>∃k:Nat,k<=l.length/\s=(k:Int)/\∀(j:Nat) (x:Int),j<k->l[j]?=some x->akK y.2 l j x=false) (fun s=>l.length-s.toNat) ?_ ⟨0,dU _,rfl,fun j x C _=>by omega⟩;rintro s ⟨k,F,rfl,p⟩;rcases dl k l.length with d|B
 ·have a:l[k]?=some l[k]:=cV d
  cases hb:akK y.2 l k l[k] with
  |true =>
   refine .inl fun n=>?_;rw[if_neg fun e=>by have:=(r.1 e) k _ a; rw[hb] at this; cases this]
   try dsimp only
   unfold kJ;rw[Ã c,Í d,Ã o,Ã c,Ã a,aa4 (by omega),À];unfold akK at hb
   cases h:y.2.findIdx? (·==l[k]) with
   |none=>rfl
   |some q =>
    rw[h] at hb;simp only[Option.isNone_some,Bool.false_or,decide_eq_true_eq] at hb;dsimp only;rw[Ì (by simp[ilt]),Ã c,Ã c,Ã a,aa4 (by omega),À]
    cases g:l.findIdx? (·==l[k]) with
    |none=>dsimp only; rw[Ð (by simp[ine])]
    |some D =>
     rw[g] at hb;dsimp only;rw[Ð (bne_iff_ne.2 fun e=>hb (by rw[Int.ofNat.inj e]))]
  |false =>
   refine .inr ⟨(k:Int)+1,⟨k+1,d,by simp,fun j x C f=>?_⟩,by omega,fun n=>?_⟩
   ·rcases dl j k with t|t
    ·exact p j x t f
    ·have:j=k:=by omega
     subst this;rw[a] at f; cases f;exact hb
   ·try dsimp only
    unfold kJ;rw[Ã c,Í d,Ã o,Ã c,Ã a,aa4 (by omega),À];unfold akK at hb;simp only[Bool.or_eq_false_iff,decide_eq_false_iff_not,Decidable.not_not] at hb
    cases h:y.2.findIdx? (·==l[k]) with
    |none=>rw[h] at hb; simp at hb
    |some q =>
     dsimp only;rw[Ì (by simp[ilt]),Ã c,Ã c,Ã a,aa4 (by omega),À,hb.2];dsimp only;rw[Ì (by simp[ine]),Ï (by omega) (by omega)]
 ·refine .inl fun n=>?_
  have:k=l.length:=by omega
  subst this;rw[if_pos (r.2 fun j x a=>p j x (cY.1 a).1 a)]
  try dsimp only
  unfold kJ;rw[Ã c,Ô]
def Ij:∀{ms:CK Mx} {w:Way},jQ ms w=true↔w.length=ms.length/\∀(i:Nat) (l:CK Int) (y:Mx),w[i]?=some l->ms[i]?=some y->Υ l=y.2
 |[],[]=>by simp[jQ]
 |[],_::_=>by simp[jQ]
 |_::_,[]=>by simp[jQ]
 |a::ms,b::w=>by
  simp only[jQ,cW,decide_eq_true_eq,Ij (ms:=ms) (w:=w),di];constructor
  ·rintro⟨e,h2,f⟩;refine⟨by omega,fun i l y d c=>?_⟩
   cases i with
   |zero=>simp at d c; subst d c; exact e
   |succ i=>exact f i l y (by simpa using d) (by simpa using c)
  ·rintro⟨e,h2⟩;exact⟨h2 0 b a rfl rfl,by omega,fun i l y d c=>h2 (i+1) l y (by simpa using d) (by simpa using c)⟩
def akB (h:MOk m) {w:Way} (G:∀l∈w,l.length<=100000):wQ m w=some (jQ m.2 w):=by
 have K:=h.n4;unfold wQ TZ;rw[Î,Î]
 by_cases f:w.length=m.2.length
 case neg =>
  rw[Ð (by simp[ine]; omega)]
  cases e:jQ m.2 w with
  |false=>rfl
  |true=>exact absurd (Ij.1 e).1 f
 rw[Ì (by simp[ine]; omega)];have r:∀y∈m.2,y.2.Pairwise (·<·):=fun y c=>(h.mix c).asc;refine ï (fun s:Int=>∃i:Nat,i<=w.length/\s=(i:Int)/\∀(j:Nat) (l:CK Int) (y:Mx),j<i->w[j]?=some l->m.2[j]?=some y->Υ l=y.2) (fun s=>w.length-s.toNat) ?_ ⟨0,dU _,rfl,fun j l y H _ _=>by omega⟩;rintro s ⟨i,hi,rfl,z⟩;rcases dl i w.length with d|I
 ·obtain⟨l,a⟩:∃l,w[i]?=some l:=⟨_,cV d⟩;obtain⟨y,c⟩:∃y,m.2[i]?=some y:=⟨_,cV (by omega)⟩;have o:=dc c;have p:=G l (dc a);have F:=h.len5 y o;have hb:=amg (l:=l) (r y o)
  have t:¬Υ l=y.2->some false=some (jQ m.2 w):=fun e=>by
   cases J:jQ m.2 w with
   |false=>rfl
   |true=>exact absurd ((Ij.1 J).2 i l y a c) e
  by_cases q:l.length=y.2.length
  ·have B:Υ l=y.2↔∀(k:Nat) (x:Int),l[k]?=some x->akK y.2 l k x=false:=⟨fun e=>(hb.2 e).2,fun e=>hb.1 ⟨q,e⟩⟩
   by_cases u:Υ l=y.2
   ·refine .inr ⟨(i:Int)+1,⟨i+1,d,by simp,fun j E D H n g=>?_⟩,by omega,fun v=>?_⟩
    ·rcases dl j i with C|C
     ·exact z j E D C n g
     ·have:j=i:=by omega
      subst this;rw[a] at n; rw[c] at g;cases n; cases g;exact u
    ·try dsimp only
     unfold kK;rw[Í d,Ã a,Ã c,Î,Î,Ì (by simp[ine]; omega),ag1 a c p (by omega) B,if_pos u,Ï (by omega) (by omega)]
   ·refine .inl fun v=>?_
    try dsimp only
    unfold kK;rw[Í d,Ã a,Ã c,Î,Î,Ì (by simp[ine]; omega),ag1 a c p (by omega) B,if_neg u];exact t u
  ·refine .inl fun v=>?_
   try dsimp only
   unfold kK;rw[Í d,Ã a,Ã c,Î,Î,Ð (by simp[ine]; omega)];exact t fun e=>q (hb.2 e).1
 ·refine .inl fun v=>?_
  have:i=w.length:=by omega
  subst this
  try dsimp only
  unfold kK;rw[Ô,Ij.2 ⟨f,fun j l y A c=>z j l y (List.getElem?_eq_some_iff.1 A).1 A c⟩]
end
def aks {b:ò} (g:iX b) (i:0<=b.1.1/\b.1.1<=b.1.2/\b.1.2<=1000000) {c:Cmp} (h:amB b c) {d:Int} (hd : -2305843009213693952<=d/\d<=2305843009213693952):rl b c d=some (d+agK b c,d+Mk b c):=by
 have f:=(Ŝ c).1 h.ok.nums;have ha:=Ī f.2.2.2.2.2.1;have hb:=Ī f.2.2.2.2.2.2;obtain⟨e,a,q,p,b3⟩:=Kz i h.ok;have o:=xf e;have n:=sF a;have l:=sH (b:=b) (c:=c) (by omega) (by omega) (by omega) (by omega) (by omega) (by omega);unfold rl T6 agK Mk;rw[Vb g h,À,aaX (by omega) (by omega) (by omega) (by omega) (by omega) (by omega),À,aeS e.rat,aaV a.rat];simp only[À];rw[Ï (by omega) (by omega),Ï (by omega) (by omega),Ï (by omega) (by omega),Ï (by omega) (by omega),Ï (by omega) (by omega),Ï (by omega) (by omega)]
 have k:d+(lr b c).1+Kj (ń b c).1-c.2.2.2.2.2.1=d+(Kj (ń b c).1+(lr b c).1-c.2.2.2.2.2.1):=by omega
 have j:d+(lr b c).2+(ń b c).2.1 / (ń b c).2.2+c.2.2.2.2.2.1=d+((ń b c).2.1 / (ń b c).2.2+(lr b c).2+c.2.2.2.2.2.1):=by omega
 rw[k,j]
section
variable {L:CK Lk} {N:Nat}
def rG:∀(A B:CK Lk),mB (A++B)=mB A+mB B
 |[],B=>by simp[mB,CQ]
 |l::A,B=>by
  have:=rG A B;simp only[mB,CQ,if_true,fe] at this ⊢;omega
def ahZ (k:Nat) (L:CK Lk):mB L<=mB (L.take k):=by
 have h:=rG (L.take k) (L.drop k);rw[List.take_append_drop] at h;have:=nY (fun _=>true) (L.drop k);unfold mB at *;omega
def NU (L:CK Lk):mB L<=0:=nY _ _
def afi (L:CK Lk) (l:Lk) (x:CK Int):i5 (L++[l]) x=iF (i5 L x) l:=by
 unfold i5;rw[List.foldl_append];rfl
def Vs:∀{L:CK Lk},InR L N->∀{x:CK Int} {B:Int},x.length=N->B<=0->(∀v:Int,0<=v->v<N->B<=gv x v)->∀v:Int,0<=v->v<N->B+mB L<=gv (i5 L x) v
 |[],_,x,B,_,_,c,v,h0,a=>by have:=c v h0 a; simp[mB,CQ,i5]; omega
 |l::t,f,x,B,g,i,c,v,h0,a=>by
  have d:=f l (by simp)
  have key:∀v:Int,0<=v->v<N->B+min l.2.2 0<=gv (iF x l) v:=by
   intro v h0 a;have h2:=c v h0 a;have j:=c l.1 d.1.1 d.1.2;unfold iF
   split
   ·rw[qj d.2.1 h0 (by omega)]
    split<;>omega
   ·omega
  have:=Vs (L:=t) (fun m h=>f m (by simp[h])) (x:=iF x l) (B:=B+min l.2.2 0) (by rw[mG]; exact g) (by omega) key v h0 a;show B+mB (l::t)<=gv (i5 t (iF x l)) v
  have e:mB (l::t)=min l.2.2 0+mB t:=by simp[mB,CQ]
  rw[e];omega
def ak6 {d x:CK Int} {l:Lk} (c:(0<=l.1/\l.1<N)/\(0<=l.2.1/\l.2.1<N)) (g:x.length=N) (a:∀v:Int,0<=v->gv x v<=gv d v) (f:gv x l.1+l.2.2<gv x l.2.1):x.set l.2.1.toNat (gv x l.1+l.2.2)≠d:=by
 intro e;have h:=a l.2.1 c.2.1
 have h2:gv (x.set l.2.1.toNat (gv x l.1+l.2.2)) l.2.1=gv x l.1+l.2.2:=by rw[qj c.2.1 c.2.1 (by omega),if_pos rfl]
 rw[e] at h2;omega
def aec {ρ:Type} {x:CK Int} {v:Int} (h0:0<=v) (a:v<x.length) (f:Int->BY ρ):à ((ile (0:Int) v)&&(ilt v (î x))) (Į x (Int.toNat v) f)=f (gv x v):=by
 rw[show î x=((x.length:Nat):Int) from rfl,ź h0 a,lD (by omega)]
set_option maxHeartbeats 1000000 in
def ahO (z:InR L N) (H:∀l∈L,-4503599627370496<=l.2.2/\l.2.2<=4503599627370496) (y:L.length<=1000000) {a:CK Int} (r:a.length=N) (h0:∀v:Int,0<=v->v<N->gv a v<=0) {B:Int} (I:B<=0) (g:∀v:Int,0<=v->v<N->B<=gv a v) (hb : -9000000000000000000<=B+mB L) (K:Bool×CK Int->BY Bool) :
 Ë (fun(e:Bool×Int×CK Int) f=>pu L e.1 e.2.1 e.2.2 (fun q p o=>f (q,p,o)) K) (false,(0:Int),a)=K (decide (i5 L a≠a),i5 L a):=by
 refine ï (fun s:Bool×Int×CK Int=>∃k:Nat,k<=L.length/\s=(decide (i5 (L.take k) a≠a),(k:Int),i5 (L.take k) a)) (fun s=>L.length-s.2.1.toNat) ?_ ⟨0,by omega,by simp[i5]⟩;rintro s ⟨k,M,rfl⟩;rcases dl k L.length with d|G
 ·have ha:L[k]?=some L[k]:=cV d;have c:=z _ (dc ha);have J:=H _ (dc ha);have n:InR (L.take k) N:=fun l c=>z l (fM c)
  have u:(i5 (L.take k) a).length=N:=by rw[tj,r]
  have i:=xy n r;have D:=ahZ k L;have F:=Vs n r I g L[k].1 c.1.1 c.1.2;have C:=i L[k].1 c.1.1;have x:=h0 L[k].1 c.1.1 c.1.2;have E:=NU L;refine .inr ⟨(decide (i5 (L.take (k+1)) a≠a),((k+1:Nat):Int),i5 (L.take (k+1)) a),⟨k+1,d,rfl⟩,by simp only[dj]; omega,fun A=>?_⟩
  try dsimp only
  unfold pu;rw[Í d,Ã ha,aec c.1.1 (by omega),Ï (by omega) (by omega),aec c.2.1 (by omega),é,take_succ ha,afi]
  by_cases j:gv (i5 (L.take k) a) L[k].1+L[k].2.2<gv (i5 (L.take k) a) L[k].2.1
  ·have t:iF (i5 (L.take k) a) L[k]=(i5 (L.take k) a).set L[k].2.1.toNat (gv (i5 (L.take k) a) L[k].1+L[k].2.2):=by
    unfold iF;rw[if_pos ⟨by unfold Ś; omega,j⟩]
   rw[if_pos (by simpa[ilt] using j),aec c.1.1 (by omega),Ï (by omega) (by omega),aec c.2.1 (by omega),È d (by omega),t];have:decide ((i5 (L.take k) a).set L[k].2.1.toNat (gv (i5 (L.take k) a) L[k].1+L[k].2.2)≠a)=true:=decide_eq_true (ak6 c u i j);rw[this];rfl
  ·have t:iF (i5 (L.take k) a) L[k]=i5 (L.take k) a:=by
    unfold iF;rw[if_neg (fun h=>j h.2)]
   rw[if_neg (by simpa[ilt] using j),È d (by omega),t];rfl
 ·have:k=L.length:=by omega
  subst this;refine .inl fun A=>?_
  try dsimp only
  unfold pu;rw[Ô,List.take_length]
def ahA {x:CK Int} {n:Nat} (h:i5 L (Ķ L n x)=Ķ L n x):∀m,n<=m->Ķ L m x=Ķ L n x:=by
 intro m d
 induction m with
 |zero =>
  have:n=0:=by omega
  subst this; rfl
 |succ m c =>
  rcases dl m n with a|a
  ·have:n=m+1:=by omega
   subst this; rfl
  ·rw[jf,c a,h]
def Ns:List.replicate N (0:Int)=iZ (zu N) N:=by
 refine aad (by simp[ý]) fun v h0 c=>?_
 have a:v<N:=by simpa using c
 rw[Μ _ h0 a,if_pos (by simp[zu,h0,a])];unfold gv;rw[List.getElem?_replicate]
 split<;>rfl
set_option maxHeartbeats 1000000 in
def amx (h:jz L N) (r : -140000000000000000<=mB L):IJ ((N:Int),L)=some (lC L N):=by
 have h2:=h.n60;have G:=h.n1;have F:=h.len;have z:=NU L;unfold IJ Zt;dsimp only;rw[Cm (by omega),Int.toNat_natCast,Ns]
 have bd:∀n:Nat,(∀v:Int,0<=v->v<N->gv (Ķ L n (iZ (zu N) N)) v<=0)/\(∀v:Int,0<=v->v<N->(n:Int)*mB L<=gv (Ķ L n (iZ (zu N) N)) v):=by
  intro n
  induction n with
  |zero =>
   constructor
   ·intro v h0 c;show gv (iZ (zu N) N) v<=0;rw[Μ _ h0 c,if_pos (by simp[zu,h0,c])]; omega
   ·intro v h0 c;show _<=gv (iZ (zu N) N) v;rw[Μ _ h0 c,if_pos (by simp[zu,h0,c])]; simp
  |succ n q =>
   have j:(Ķ L n (iZ (zu N) N)).length=N:=by rw[Ń,ý]
   rw[jf];constructor
   ·intro v h0 c;have:=xy h.inr j v h0;have:=q.1 v h0 c;omega
   ·intro v h0 c;have:=Vs h.inr j (B:=(n:Int)*mB L) (by have:=fW (show(0:Int)<=n by omega) (show 0<=-mB L by omega); rw[Int.mul_neg] at this; omega) q.2 v h0 c;rw[fX,fZ,gd];exact this
 refine ï (fun s:Bool×Int×CK Int=>∃n:Nat,n<=N+1/\s.2.1=(n:Int)/\s.2.2=Ķ L n (iZ (zu N) N)/\s.1=(if n=0 then true else decide (Ķ L n (iZ (zu N) N)≠Ķ L (n-1) (iZ (zu N) N)))) (fun s=>N+1-s.2.1.toNat) ?_ ⟨0,by omega,rfl,rfl,rfl⟩;rintro⟨H,i,x⟩ ⟨n,E,y,u,t⟩;dsimp only at y u t ⊢;subst y u t
 have j:(Ķ L n (iZ (zu N) N)).length=N:=by rw[Ń,ý]
 by_cases A:n<=N
 ·by_cases g:(if n=0 then true else decide (Ķ L n (iZ (zu N) N)≠Ķ L (n-1) (iZ (zu N) N)))=true
  ·refine .inr ⟨(decide (i5 L (Ķ L n (iZ (zu N) N))≠Ķ L n (iZ (zu N) N)),((n+1:Nat):Int),i5 L (Ķ L n (iZ (zu N) N))),⟨n+1,by omega,rfl,(jf L n _).symm,?_⟩,by simp only[dj]; omega,fun p=>?_⟩
   ·rw[if_neg (by omega),Nat.add_sub_cancel,jf]
   ·unfold pv;rw[g,Ð (by simp[ile]; omega),kQ]
    have C : -9000000000000000000<=(n:Int)*mB L+mB L:=by
     have D:(n:Int)*(-mB L)<=60*140000000000000000:=fG (by omega) (by omega) (by omega) (by omega);rw[Int.mul_neg] at D;omega
    have o:(n:Int)*mB L<=0:=by
     have:=fW (show(0:Int)<=n by omega) (show 0<=-mB L by omega);rw[Int.mul_neg] at this;omega
    refine Eq.trans (ahO h.inr h.most (by omega) j (bd n).1 o (bd n).2 C _) ?_;dsimp only;rw[Ï (by omega) (by omega)];rfl
  ·refine .inl fun p=>?_;have a:=Bool.eq_false_iff.2 g;unfold pv;rw[a,Ð (by simp[ile]; omega),æ]
   have k:n≠0:=by intro e; rw[e] at a; simp at a
   rw[if_neg k] at a
   have l:Ķ L n (iZ (zu N) N)=Ķ L (n-1) (iZ (zu N) N):=by simpa using a
   have d:i5 L (Ķ L (n-1) (iZ (zu N) N))=Ķ L (n-1) (iZ (zu N) N):=by
    rw[<-jf,Nat.sub_add_cancel (by omega)];exact l
   have f:=ahA d N (by omega)
   have:lC L N=true:=by
    unfold lC i7;rw[f];exact decide_eq_true d
   rw[this];rfl
 ·refine .inl fun p=>?_
  have:n=N+1:=by omega
  subst this;unfold pv;rw[Ì (by simp[ile]; omega),if_neg (by omega),Nat.add_sub_cancel,jf];unfold lC i7
  by_cases hd:i5 L (Ķ L N (iZ (zu N) N))=Ķ L N (iZ (zu N) N)
  ·simp[hd]
  ·simp[hd]
end
def NV {α:Type} (F:α->CK Lk) (B:Int):∀l:CK α,(∀a∈l,-B<=mB (F a))->-(l.length*B)<=mB (l.flatMap F)
 |[],_=>by simp[mB,CQ]
 |a::l,h=>by
  rw[dz,rG];have e:=h a (by simp);have h2:=NV F B l fun c d=>h c (by simp[d]);rw[di,fX,fZ,gd];omega
def ahY {L:CK Lk} (h:∀l∈L,0<=l.2.2):mB L=0:=by
 induction L with
 |nil=>rfl
 |cons l t a =>
  have d:=h l (by simp);have h2:=a fun m c=>h m (by simp[c])
  have e:mB (l::t)=min l.2.2 0+mB t:=by simp[mB,CQ]
  rw[e,h2];omega
def ţ.neg {b:ò} (h:ţ b) : -140000000000000000<=mB (ů b):=by
 have s:=h.nG;have t:=h.nC
 have o:∀g∈b.2.1,-1130000000000000<=mB (ö b g):=by
  intro g d;have e:=h.gaugeR d;have r1:=e.2.2.2.2.2.1;have r2:=e.2.2.2.2.2.2.1;unfold ö
  rw[rG,ahY (L:=(List.range ((Û b g).length-1)).flatMap _) (fun l a=>by
   obtain⟨k,i,a⟩:=dA.1 a;have f:=ff.1 i;simp only[df,iu,or_false] at a;rcases a with rfl|rfl
   ·exact dQ _
   ·have hd:(Û b g)[k]?=some ((Û b g)[k]?.getD 0):=by rw[cV (by omega)]; rfl
    exact(kd h d (h.day d (dc hd)).2.1).1)]
  simp only[mB,CQ,if_true];omega
 have n:∀c∈b.2.2.2.2.1,-2260000000000000<=mB (Ľ b c):=by
  intro c j;have p:=xx h j;unfold Ľ;simp only[mB,CQ,if_true];omega
 have r:=NV (ö b) 1130000000000000 b.2.1 o;have q:=NV (Ľ b) 2260000000000000 b.2.2.2.2.1 n;unfold ů;rw[rG];omega
def Kr {b:ò} (h:ţ b):ov b=some (((Ò b).length:Int)+1,ů b):=by
 have a:=h.nodes;unfold ov O9;rw[xn h.pre,À,Î,Ï (by omega) (by omega),akr h,À]
section
variable {m:Ň} {w:Way}
def aa2 (h:MOk m) (c:ĵ m.2 w):qO m w=some (nq m w):=by
 have a:=nP h c;unfold qO Hk;rw[qV h c,À,Kr a,À];have:=amx a.sys a.neg;rw[show((((Ò (trP m w)).length:Int)+1,ů (trP m w)):Sys)=((((Ò (trP m w)).length+1:Nat):Int),ů (trP m w)) from by push_cast; rfl,this];rfl
def amq (h:MOk m):By m=some (nA m):=by
 have e:=oA h;have d:((((m.1.1.1,m.1.1.2),m.1.2.1,m.1.2.2.1,m.1.2.2.2.1,m.1.2.2.2.2.1,m.1.2.2.2.2.2),m.2):Ň)=m:=rfl;unfold By Zg nA;rw[Xy h,À];refine(ù (Ğ m.2) (nq m) (fun _=>some true) (some true) (some false) (fun _=>rfl) (fun i w hi a c=>?_) (fun c=>?_)).trans ?_
 ·try dsimp only
  unfold t8;rw[Í hi,Ã a,d,aa2 h (mF a),À,È hi (by omega),é]
 ·try dsimp only
  unfold t8;rw[Ô]
 ·cases(Ğ m.2).any (nq m)<;>rfl
end
section
variable {b:ò}
def QG (b:ò) (g:è) (k:Nat):Int:=(Û b g)[k]?.getD 0
def sP {g:è} {k:Nat} (a:k<(Û b g).length):(Û b g)[k]?=some (QG b g k):=by
 unfold QG;rw[List.getElem?_eq_getElem a];rfl
end
section
variable {b:ò}
def anP (id d:Int):0<=Mi b id d/\Mi b id d<=(Ò b).length:=by
 unfold Mi
 cases h:iG (Ò b) id d with
 |none=>simp only; omega
 |some j =>
  have:=(ky h).1;simp only;omega
def Va (h:Pre b) {x:CK Int} (a:Ů b x=true) (e:(Ò b).length<=1000000) (id d:Int):jr b x id d=some (gv (0::x) (Mi b id d)):=by
 have hb:=anP (b:=b) id d;have c:=(uN.1 a).1;unfold jr O4;rw[Rc h,À,é];dsimp only
 by_cases h0:Mi b id d=0
 ·rw[if_pos (by simpa[ieq] using h0),h0];rfl
 ·rw[if_neg (by simpa[ieq] using h0),Ï (by omega) (by omega),lG (by omega) (by omega),WS _ _ hb.1,if_neg h0]
def zR (b:ò) (x:CK Int) (k:Nat) (n:Int×Int):Bool :=
 match í b n.1 with
 | some g => if n.2 = g.2.1 then inP (gv x k) (g.2.2.1 + g.2.2.2.1.1) (g.2.2.1 + g.2.2.2.1.2) else
   decide (0<=gv x ((k:Int)-1)-gv x k)&&decide (gv x ((k:Int)-1)-gv x k<=υ b g ((Ò b)[k-1]?.getD (0,0)).2 n.2)
 |none=>true
def agJ (b:ò) (x:CK Int) (i:Nat) (g:è) (j:Nat) (d:Int):Bool:=match j with
 |0=>inP (gv x (off b i)) (g.2.2.1+g.2.2.2.1.1) (g.2.2.1+g.2.2.2.1.2)
 |j+1=>decide (0<=gv x ((off b i:Int)+j)-gv x ((off b i:Int)+j+1))&&decide (gv x ((off b i:Int)+j)-gv x ((off b i:Int)+j+1)<=υ b g (QG b g j) d)
def vL (h:ţ b) (x:CK Int) {i:Nat} {g:è} (n:b.2.1[i]?=some g) {j:Nat} {d:Int} (hd:(Û b g)[j]?=some d):zR b x (off b i+j) (g.1,d)=agJ b x i g j d:=by
 have f:=List.mem_of_getElem? n;obtain⟨r,c⟩:=xd h f;unfold zR agJ;rw[jp h.ids f]
 cases j with
 |zero =>
  have:d=g.2.1:=by rw[c] at hd; simpa using hd.symm
  simp only;rw[if_pos this,f6]
 |succ j =>
  have o:=(cY.1 hd).1
  have l:d≠g.2.1:=by
   have e:=oy b g;rw[c] at hd e;rw[eQ] at hd;have:=(dG.1 e).1 d (dc hd);omega
  have a:=xC n (sP (b:=b) (g:=g) (k:=j) (by omega));simp only;rw[if_neg l,show off b i+(j+1)-1=off b i+j by omega,a];simp only[fc]
  have q:(((off b i+(j+1):Nat):Int)-1)=(off b i:Int)+j:=by omega
  have p:((off b i+(j+1):Nat):Int)=(off b i:Int)+j+1:=by omega
  rw[q,p]
def ael (h:ţ b) {x:CK Int}:ab5 b x=true↔(∀k n,(Ò b)[k]?=some n->zR b x k n=true)/\∀c∈b.2.2.2.2.1,jR b c x+agK b c<=c.2.2.2.2.1/\c.2.2.2.2.1<=jR b c x+Mk b c:=by
 show WZ _ _=true↔_;rw[ai2]
 have f:∀(i:Nat) (g:è),b.2.1[i]?=some g->((∀l∈ö b g,gv (0::x) l.2.1<=gv (0::x) l.1+l.2.2)↔∀j d,(Û b g)[j]?=some d->zR b x (off b i+j) (g.1,d)=true):=by
  intro i g o;have M:=dc o;have q:=fw (nr (b:=b) g);have G:gv (0::x) 0=0:=rfl
  have F:gv (0::x) ((off b i:Int)+1)=gv x (off b i):=by
   rw[WS _ _ (by omega),if_neg (by omega)];congr 1;omega
  have E:∀j:Nat,gv (0::x) ((off b i:Int)+j+1)=gv x ((off b i:Int)+j):=fun j=>by
   rw[WS _ _ (by omega),if_neg (by omega)];congr 1;omega
  have D:∀j:Nat,gv (0::x) ((off b i:Int)+j+2)=gv x ((off b i:Int)+j+1):=fun j=>by
   rw[WS _ _ (by omega),if_neg (by omega)];congr 1;omega
  constructor
  ·intro a j d hd;rw[vL h x o hd];unfold agJ
   cases j with
   |zero =>
    have t:=a _ ((Ĉ h o).2 (.inl rfl));have s:=a _ ((Ĉ h o).2 (.inr (.inl rfl)));simp only at t s ⊢;rw[G,F] at t s;simp only[inP,cW,decide_eq_true_eq];omega
   |succ j =>
    have K:=(cY.1 hd).1;have H:=sP (b:=b) (g:=g) (k:=j) (by omega);have t:=a _ ((Ĉ h o).2 (.inr (.inr ⟨j,_,_,H,hd,.inl rfl⟩)));have s:=a _ ((Ĉ h o).2 (.inr (.inr ⟨j,_,_,H,hd,.inr rfl⟩)));simp only at t s ⊢;rw[E,D] at t s;simp only[cW,decide_eq_true_eq];omega
  ·intro p l a;rcases(Ĉ h o).1 a with rfl|rfl|⟨j,d,e,hd,z,rfl|rfl⟩
   ·have:=p 0 _ (sP q);rw[vL h x o (sP q)] at this;unfold agJ at this;simp only[inP,Bool.and_eq_true,decide_eq_true_eq] at this;simp only;rw[G,F];omega
   ·have:=p 0 _ (sP q);rw[vL h x o (sP q)] at this;unfold agJ at this;simp only[inP,Bool.and_eq_true,decide_eq_true_eq] at this;simp only;rw[G,F];omega
   ·have:=p (j+1) _ z;rw[vL h x o z] at this;unfold agJ at this;simp only[Bool.and_eq_true,decide_eq_true_eq] at this;simp only;rw[E,D];omega
   ·have:=p (j+1) _ z
    have B:QG b g j=d:=by unfold QG; rw[hd]; rfl
    rw[vL h x o z] at this;unfold agJ at this;simp only at this;rw[B] at this;simp only[Bool.and_eq_true,decide_eq_true_eq] at this;simp only;rw[E,D];omega
 have r:∀c,(ql b c).1=c.2.2.2.2.1-Mk b c/\(ql b c).2=c.2.2.2.2.1-agK b c:=by
  intro c;unfold ql Mk agK;constructor
  ·simp only; omega
  ·simp only; omega
 constructor
 ·intro q;refine⟨fun k n p=>?_,fun c A=>?_⟩
  ·obtain⟨i,g,j,d,J,h2,O,I⟩:=VM (cY.1 p).1;rw[p] at I;cases I;rw[O];exact(f i g J).1 (fun l a=>q l.1 l.2.1 l.2.2 (jD.2 (.inl ⟨i,g,J,a⟩))) j d h2
  ·have t:=q _ _ _ (jD.2 (.inr ⟨c,A,.inl rfl⟩));have s:=q _ _ _ (jD.2 (.inr ⟨c,A,.inr rfl⟩));have:=r c;unfold jR;omega
 ·rintro⟨p,A⟩ u v m a;rcases jD.1 a with⟨i,g,y,a⟩|⟨c,C,a⟩
  ·exact(f i g y).2 (fun j d hd=>p _ _ (xC y hd)) (u,v,m) a
  ·have:=A c C;have:=r c;unfold jR at *;rcases a with a|a
   ·obtain⟨rfl,rfl,rfl⟩:u=cy b c/\v=cx b c/\m=(ql b c).2:=by simpa using a
    omega
   ·obtain⟨rfl,rfl,rfl⟩:u=cx b c/\v=cy b c/\m = -(ql b c).1:=by simpa using a
    omega
def anR {x:CK Int} (a:Ů b x=true) (v:Int) : -4503599627370496<=gv x v/\gv x v<=4503599627370496:=gv_bd (by omega) (uN.1 a).2 v
set_option maxHeartbeats 2000000 in
def amy (h:ţ b) {x:CK Int} (s:Ů b x=true):wT b x=some (ab5 b x):=by
 have hN:=h.nodes;have hG:=h.nG;have hC:=h.nC;have hlx:=(uN.1 s).1;unfold wT Zx;rw[xn h.pre,À];refine Eq.trans (iQ (Ò b) (fun k n=>if zR b x k n then none else some false) some (some (decide (∀c∈b.2.2.2.2.1,jR b c x+agK b c<=c.2.2.2.2.1/\c.2.2.2.2.1<=jR b c x+Mk b c))) (fun k n U p P=>?_) (fun P=>?_)) ?_
 ·try dsimp only
  unfold uA;obtain⟨i,g,j,d,H,h2,V,h4⟩:=VM U;rw[p] at h4;cases h4;have f:=List.mem_of_getElem? H;have hr:=h.gaugeR f;have r1:=hr.2.2.2.2.2.1;have r2:=hr.2.2.2.2.2.2.1
  have A:b.2.1.findIdx? (fun y=>y.1==g.1)=some i:=by
   rcases rk (b:=b) (id:=g.1) with⟨j',g',Y,M,X⟩|⟨Y,M⟩
   ·have:g'=g:=by
     rw[jp h.ids f] at X;exact(Option.some.inj X).symm
    subst this;have:=(Td h M H rfl).1;rw[Y,this]
   ·rw[jp h.ids f] at M; cases M
  rw[Í U,Ã p,CN (b:=((b.1.1,b.1.2),b.2.1,b.2.2.1,b.2.2.2.1,b.2.2.2.2.1,b.2.2.2.2.2)) (by simp only; omega),À]
  try dsimp only
  rw[A]
  try dsimp only
  rw[Ã H,Ã p,V,vL h x H h2];have T:=U;rw[V] at T;have x1:=anR s ((off b i:Int)+j)
  cases j with
  |zero =>
   obtain⟨tl,u⟩:=xd h f
   have:d=g.2.1:=by rw[u] at h2; simpa using h2.symm
   rw[Ð (by simp[ieq,this]),f6,lG (by omega) (by omega),Ï (by omega) (by omega),Ï (by omega) (by omega),sR,À];have I:agJ b x i g 0 d=inP (gv x (off b i)) (g.2.2.1+g.2.2.2.1.1) (g.2.2.1+g.2.2.2.1.2):=rfl;rw[I]
   cases inP (gv x (off b i)) (g.2.2.1+g.2.2.2.1.1) (g.2.2.1+g.2.2.2.1.2) with
   |true=>rw[Ì (by rfl),Ï (by omega) (by omega)]; rfl
   |false=>rfl
  |succ j =>
   have hjl:=(cY.1 h2).1;obtain⟨tl,u⟩:=xd h f
   have R:d≠g.2.1:=by
    have D:=oy b g;have C:=h2;rw[u] at C D;rw[eQ] at C;have:=(dG.1 D).1 d (dc C);omega
   have hj:=sP (b:=b) (g:=g) (k:=j) (by omega);have z:=xC H hj;have d1:=h.day f (dc hj);have d2:=h.day f (dc h2);have x2:=anR s ((off b i:Int)+j);have x3:=anR s ((off b i:Int)+j+1)
   have e1:(((off b i+(j+1):Nat):Int)-1)=((off b i+j:Nat):Int):=by omega
   have O:((off b i+j:Nat):Int)=(off b i:Int)+j:=by omega
   have e3:((off b i+(j+1):Nat):Int)=(off b i:Int)+j+1:=by omega
   rw[Ì (by simpa[ieq] using R),Ï (by omega) (by omega),e1,lG (by omega) (by omega),lG (by omega) (by omega),O,e3,Ï (by omega) (by omega),é];have I:agJ b x i g (j+1) d=(decide (0<=gv x ((off b i:Int)+j)-gv x ((off b i:Int)+j+1))&&decide (gv x ((off b i:Int)+j)-gv x ((off b i:Int)+j+1)<=υ b g (QG b g j) d)):=rfl
   by_cases K:gv x ((off b i:Int)+j)-gv x ((off b i:Int)+j+1)<0
   ·have o:agJ b x i g (j+1) d=false:=by rw[I,decide_eq_false (by omega)]; rfl
    rw[if_pos (by simpa[ilt] using K),o];rfl
   ·have S:(Ò b)[off b i+(j+1)]?=some (g.1,d):=by rw[<-V]; exact p
    have W:(off b i:Int)+j+1=((off b i+(j+1):Nat):Int):=by omega
    rw[if_neg (by simpa[ilt] using K),Ï (by omega) (by omega),W,<-O,Ã z,Ã S]
    try dsimp only
    rw[show nh ((b.1.1,b.1.2),b.2.1,b.2.2.1,b.2.2.2.1,b.2.2.2.2.1,b.2.2.2.2.2) g.1 (QG b g j) d=nh b g.1 (QG b g j) d from rfl,aeU h (jp h.ids f) ⟨by omega,by omega⟩ (by omega),À,é]
    by_cases J:υ b g (QG b g j) d<gv x ((off b i:Int)+j)-gv x ((off b i:Int)+j+1)
    ·have o:agJ b x i g (j+1) d=false:=by rw[I,decide_eq_false (show ¬(gv x ((off b i:Int)+j)-gv x ((off b i:Int)+j+1)<=υ b g (QG b g j) d) by omega),Bool.and_false]
     rw[<-W,O,if_pos (by simpa[igt] using J),o];rfl
    ·have o:agJ b x i g (j+1) d=true:=by rw[I,decide_eq_true (show 0<=gv x ((off b i:Int)+j)-gv x ((off b i:Int)+j+1) by omega),decide_eq_true (show gv x ((off b i:Int)+j)-gv x ((off b i:Int)+j+1)<=υ b g (QG b g j) d by omega)]; rfl
     rw[<-W,O,if_neg (by simpa[igt] using J),Ï (by omega) (by omega),o];rfl
 ·try dsimp only
  unfold uA;rw[Ô]
  try dsimp only
  refine dJ (ù b.2.2.2.2.1 (fun c=>decide (¬(jR b c x+agK b c<=c.2.2.2.2.1/\c.2.2.2.2.1<=jR b c x+Mk b c))) (fun _=>some false) (some false) (some true) (fun _=>rfl) (fun i c hi q P=>?_) (fun P=>?_)) ?_
  ·try dsimp only
   unfold uz;have G:=List.mem_of_getElem? q;have E:=(Ŝ c).1 (h.nums G);have ha:=Ī E.2.2.2.2.2.1;have hb:=Ī E.2.2.2.2.2.2;obtain⟨Z,hd⟩:=amm s c;rw[Í hi,Ã q,BV (by omega) (by omega),À];rw[show ∀id d,jr ((b.1.1,b.1.2),b.2.1,b.2.2.1,b.2.2.2.1,b.2.2.2.2.1,b.2.2.2.2.2) x id d=jr b x id d from fun _ _=>rfl,Va h.pre s (by omega),À,BV (by omega) (by omega),À];rw[show ∀id d,jr ((b.1.1,b.1.2),b.2.1,b.2.2.1,b.2.2.2.1,b.2.2.2.2.1,b.2.2.2.2.2) x id d=jr b x id d from fun _ _=>rfl,Va h.pre s (by omega),À,WO h.pre,WO h.pre];rw[show gv (0::x) (atP (Ò b) (Þ c.2.2.1 c.2.2.2.1) c.2.1)-gv (0::x) (atP (Ò b) (Þ c.2.2.2.1 c.2.2.1) c.2.1)=jR b c x from rfl,Ï (by omega) (by omega)];rw[show rl ((b.1.1,b.1.2),b.2.1,b.2.2.1,b.2.2.2.1,b.2.2.2.2.1,b.2.2.2.2.2) c (jR b c x)=rl b c (jR b c x) from rfl,aks h.size h.film (h.cmpIn G) (by omega),À,È hi (by omega),é]
   by_cases K:c.2.2.2.2.1<jR b c x+agK b c
   ·rw[if_pos (by simpa[igt] using K),if_pos (by rw[decide_eq_true_eq]; omega)]
   ·rw[if_neg (by simpa[igt] using K),é]
    by_cases J:jR b c x+Mk b c<c.2.2.2.2.1
    ·rw[if_pos (by simpa[igt] using J),if_pos (by rw[decide_eq_true_eq]; omega)]
    ·rw[if_neg (by simpa[igt] using J),if_neg (by rw[decide_eq_true_eq]; omega)]
  ·try dsimp only
   unfold uz;rw[Ô]
  ·by_cases e:∀c∈b.2.2.2.2.1,jR b c x+agK b c<=c.2.2.2.2.1/\c.2.2.2.2.1<=jR b c x+Mk b c
   ·rw[decide_eq_true e]
    have:b.2.2.2.2.1.any (fun c=>decide (¬(jR b c x+agK b c<=c.2.2.2.2.1/\c.2.2.2.2.1<=jR b c x+Mk b c)))=false:=by
     rw[dI];intro c q;have:=e c q;rw[decide_eq_true_eq];exact fun p=>p this
    rw[this]; rfl
   ·rw[decide_eq_false e]
    have:b.2.2.2.2.1.any (fun c=>decide (¬(jR b c x+agK b c<=c.2.2.2.2.1/\c.2.2.2.2.1<=jR b c x+Mk b c)))=true:=by
     cases B:b.2.2.2.2.1.any (fun c=>decide (¬(jR b c x+agK b c<=c.2.2.2.2.1/\c.2.2.2.2.1<=jR b c x+Mk b c))) with
     |true=>rfl
     |false =>
      rw[dI] at B
      exact(e fun c q=>by
       have:=B c q;rw[decide_eq_true_eq] at this
       exact Classical.not_not.1 this).elim
    rw[this]; rfl
 ·cases B:ė (fun k n=>if zR b x k n then none else some false) 0 (Ò b) with
  |none =>
   have e:∀k n,(Ò b)[k]?=some n->zR b x k n=true:=by
    intro k n p;have:=ŕ.1 B k n p;rw[dH] at this
    split at this
    ·rename_i r; exact r
    ·cases this
   simp only;congr 1;rw[eI,decide_eq_true_eq,ael h];exact⟨fun q=>⟨e,q⟩,fun q=>q.2⟩
  |some v =>
   have Z:v=false:=by
    have:∀(k:Nat) (l:CK (Int×Int)) (v:Bool),ė (fun k n=>if zR b x k n then none else some false) k l=some v->v=false:=by
     intro k l
     induction l generalizing k with
     |nil=>intro v r; cases r
     |cons a t ih =>
      intro v r;unfold ė at r
      split at r
      ·rename_i w Q
       split at Q
       ·cases Q
       ·cases Q; cases r; rfl
      ·exact ih _ _ r
    exact this _ _ _ B
   subst Z;simp only;congr 1
   symm
   rw[eE];intro F;have:=((ael h).1 F).1;rw[ŕ.2 fun k n p=>by rw[dH,if_pos (this k n p)]] at B;cases B
end
def Bt (L:CK Lk):Int->Int->CK Int->Int×Int×Bool
 |u,s,[]=>(u,s,true)
 |u,s,i::t=>if lz L i then(0,0,false) else if (L[i.toNat]?.getD (0,0,0)).1=u then Bt L (L[i.toNat]?.getD (0,0,0)).2.1 (s+(L[i.toNat]?.getD (0,0,0)).2.2) t else(0,0,false)
def La {L:CK Lk}:∀(l:CK Int) (u s:Int),l.any (lz L)=false->Bt L u s l=xq L u s l
 |[],u,s,_=>rfl
 |i::t,u,s,h=>by
  rw[List.any_cons,fL] at h;rw[Bt,xq,h.1,if_neg (by simp),La t _ _ h.2]
def Qo {L:CK Lk}:∀(l:CK Int) (u s:Int),l.any (lz L)=true->(Bt L u s l).2.2=false
 |[],u,s,h=>by simp at h
 |i::t,u,s,h=>by
  rw[List.any_cons,iw] at h;rw[Bt]
  cases hb:lz L i with
  |true=>rfl
  |false =>
   rw[if_neg (by simp)]
   split
   ·exact Qo t _ _ (h.resolve_left (by simp[hb]))
   ·rfl
section
variable {L:CK Lk} {N:Nat}
def Vd (D:jz L N) (u:Int) {l:CK Int} (G:l.length<=80):yx ((N:Int),L) u l=some (Bt L u 0 l):=by
 unfold yx OV;dsimp only
 have:=sm (f:=fun(g:Int×Int×Int) p=>oJ l L g.1 g.2.1 g.2.2 (fun z y t=>p (z,y,t)) (fun d=>some (d.1,d.2.1,d.2.2)) (fun o=>some (o.1,o.2,true)))
  (F:=fun v=>some (Bt L v.1 v.2.1 (l.drop v.2.2.toNat))) (fun v=>∃i:Nat,v.2.2=i/\i<=l.length/\(-(i*4503599627370496)<=v.2.1/\v.2.1<=i*4503599627370496)) (fun v=>l.length-v.2.2.toNat) (fun v B E A=>?_) (x:=(u,0,0)) ⟨0,rfl,dU _,by simp⟩
 ·exact this
 ·obtain⟨w,s,n⟩:=v;obtain⟨i,e,H,h2⟩:=B;dsimp only at e h2 A ⊢;subst e;rw[Int.toNat_natCast] at A ⊢;unfold oJ;rcases Nat.lt_or_ge i l.length with k|k
  ·have ha:l[i]?=some l[i]:=List.getElem?_eq_getElem k;have hd:l.drop i=l[i]::l.drop (i+1):=List.drop_eq_getElem_cons k;rw[hd];generalize l[i]=a at ha;rw[Í k,Ã ha,Ã ha,Ã ha];unfold Bt
   by_cases c:a<0
   ·rw[Ð (decide_eq_true c),if_pos (by unfold lz; simp[c])]
   ·rw[Ì (decide_eq_false c),Î]
    by_cases h:(L.length:Int)<=a
    ·rw[Ð (decide_eq_true h),if_pos (by unfold lz; simp[h])]
    ·have hb:lz L a=false:=by unfold lz; simp; omega
     have q:0<=a/\a.toNat<L.length:=by omega
     have j:L[a.toNat]?=some L[a.toNat]:=cV q.2;have C:=D.most _ (dc j);generalize L[a.toNat]=x at j C;rw[Ì (decide_eq_false h),oq q.1 j,hb,if_neg (by simp),j];simp only[fc]
     by_cases r:x.1=w
     ·rw[Ì (by rw[r]; exact bne_self_eq_false' _),if_pos r,Ã ha,oq q.1 j,Ã ha,oq q.1 j,Ï (by omega) (by omega),È k (by omega),A _ ⟨i+1,by push_cast; rfl,k,by dsimp only; push_cast; omega⟩ (by simp; omega)];simp
     ·rw[Ð (bne_iff_ne.2 r),if_neg r]
  ·obtain rfl:i=l.length:=by omega
   rw[Ô,ip];rfl
def agI (n:jz L N) (l:CK Int) (p:l.length<=1000000):yy ((N:Int),L) l=some (decide (ø L l=0)):=by
 unfold yy OX;rw[Î]
 cases l with
 |nil =>
  have:ø L []≠0:=by
   unfold ø
   split
   ·assumption
   ·simp
  rw[Ð (by simp[ieq]),decide_eq_false this]
 |cons i t =>
  rw[Ì (show ieq _ _=false by simp[ieq]; omega)]
  by_cases h:80<(i::t).length
  ·have:ø L (i::t)≠0:=by
    have e:jo L (i::t)=2:=by unfold jo; rw[if_pos h]
    unfold ø;rw[e]; simp
   rw[Ð (decide_eq_true (by omega)),decide_eq_false this]
  ·rw[Ì (decide_eq_false (by omega))]
   have o:jo L (i::t)=if (i::t).any (lz L) then 1 else 0:=by unfold jo; rw[if_neg h]
   have s:∀f:Int->BY Bool,â (i::t) (0:Int) f=f i:=fun f=>rfl;simp only[s]
   cases hb:(i::t).any (lz L) with
   |true =>
    have k:ø L (i::t)≠0:=by unfold ø; rw[o,hb]; simp
    rw[decide_eq_false k]
    by_cases a:i<0
    ·rw[Ð (decide_eq_true a)]
    ·rw[Ì (decide_eq_false a),Î]
     by_cases d:(L.length:Int)<=i
     ·rw[Ð (decide_eq_true d)]
     ·have c:0<=i/\i.toNat<L.length:=by omega
      have j:L[i.toNat]?=some L[i.toNat]:=cV c.2;rw[Ì (decide_eq_false d),oq c.1 j,Vd n _ (by omega),À,Qo _ _ _ hb];rfl
   |false =>
    have g:lz L i=false:=by rw[List.any_cons,fL] at hb; exact hb.1
    have c:0<=i/\i.toNat<L.length:=by
     unfold lz at g;simp only[Bool.or_eq_false_iff,decide_eq_false_iff_not] at g;omega
    have j:L[i.toNat]?=some L[i.toNat]:=cV c.2;rw[Ì (decide_eq_false (by omega)),Î,Ì (decide_eq_false (by omega)),oq c.1 j,Vd n _ (by omega),À,La _ _ _ hb]
    have q:ø L (i::t)=UV (L[i.toNat]).1 (xq L (L[i.toNat]).1 0 (i::t)):=by
     unfold ø;rw[o,hb];simp only[Bool.false_eq_true,if_false,ne_eq,not_true_eq_false];rw[j]; rfl
    rw[q];generalize xq L (L[i.toNat]).1 0 (i::t)=w;unfold UV
    cases u:w.2.2 with
    |false=>rw[Ì (by rfl)]; simp
    |true =>
     rw[Ð (by rfl)]
     by_cases h2:w.1=(L[i.toNat]).1
     ·rw[Ð (by simp[ieq,h2])]
      by_cases r:w.2.1<0<;>simp[ilt,h2,r]
     ·rw[Ì (by simp[ieq,h2])]; simp[h2]
end
section
variable {m:Ň} {w:Way}
def Vc (h:MOk m) {a:CK (CK Int)} (p:∀l∈a,l.length<=1000000):ou m a=some (decide (a.length=(Ğ m.2).length)&&kp m a):=by
 have o:=oA h;have n:((((m.1.1.1,m.1.1.2),m.1.2.1,m.1.2.2.1,m.1.2.2.2.1,m.1.2.2.2.2.1,m.1.2.2.2.2.2),m.2):Ň)=m:=rfl;unfold ou OS;rw[Xy h,À]
 by_cases g:a.length=(Ğ m.2).length
 ·rw[Ì (by simp[ine,Î]; omega),decide_eq_true g,eD];refine dJ (WB (Ğ m.2).length (fun i=>match (Ğ m.2)[i]?,a[i]? with|some w,some c=>decide (ø (sT m w) c=0)|_,_=>false) (some false) (some true) (fun i hi k=>?_) (fun k=>?_)) ?_
  ·have e:(Ğ m.2)[i]?=some (Ğ m.2)[i]:=cV hi;have d:a[i]?=some a[i]:=cV (by omega)
   try dsimp only
   unfold oI;have j:=nP h (mF e);rw[Í hi,Ã e,n,qV h (mF e),À,Kr j,À,Ã d,Mv,agI j.sys _ (p _ (List.getElem_mem _)),À,e,d,é,È hi (by omega)];dsimp only
   by_cases f:ø (sT m (Ğ m.2)[i]) a[i]=0
   ·rw[if_neg (by simp[f]),if_pos (by simpa using f)]
   ·rw[if_pos (by simp[f]),if_neg (by simpa using f)]
  ·try dsimp only
   unfold oI;rw[Ô]
  ·unfold kp
   cases(List.range (Ğ m.2).length).all fun i=>match (Ğ m.2)[i]?,a[i]? with|some w,some c=>decide (ø (sT m w) c=0)|_,_=>false<;>rfl
 ·rw[Ð (by simp[ine,Î]; omega),decide_eq_false g,gZ]
def akk (h:MOk m) (g:ĵ m.2 w) {x:CK Int} (o:x.length<=1000000):wP m w x=some (aa1 (trP m w) x).1:=by
 have d:=nP h g;have p:=d.nodes;unfold wP TY;rw[qV h g,À]
 have l:(aa1 (trP m w) x).1=(Ů (trP m w) x&&ab5 (trP m w) x):=by
  unfold aa1;rw[if_neg (by simp[(ť _).2 d])]
  cases Ů (trP m w) x<;>rfl
 refine dJ (ù x (fun n=>!inP n (-4503599627370496) 4503599627370496) (fun _=>some false) (some false) (if x.length=(Ò (trP m w)).length then(if Ů (trP m w) x=true then some (ab5 (trP m w) x) else wT (trP m w) x) else some false) (fun j=>rfl) (fun i a hi ha k=>?_) (fun k=>?_)) ?_
 ·try dsimp only
  unfold qy;rw[Í hi,Ã ha,sR,À,È hi (by omega),é]
 ·try dsimp only
  unfold qy;rw[Ô,xn d.pre,À,Î,Î,é]
  by_cases c:x.length=(Ò (trP m w)).length
  ·rw[if_pos (by simp[ieq,c]),if_pos c]
   by_cases e:Ů (trP m w) x=true
   ·rw[amy d e,À,if_pos e]
   ·rw[if_neg e]
    cases wT (trP m w) x<;>rfl
  ·rw[if_neg (by simp[ieq]; omega),if_neg c]
 ·rw[show(x.any fun n=>!inP n (-4503599627370496) 4503599627370496)=!(x.all fun n=>inP n (-4503599627370496) 4503599627370496) from by rw[gy]; simp];rw[l]
  by_cases c:x.length=(Ò (trP m w)).length
  ·rw[if_pos c]
   have f:Ů (trP m w) x=x.all fun n=>inP n (-4503599627370496) 4503599627370496:=by unfold Ů; rw[decide_eq_true c,Bool.true_and]
   rw[f]
   cases x.all fun n=>inP n (-4503599627370496) 4503599627370496<;>rfl
  ·rw[if_neg c]
   have f:Ů (trP m w) x=false:=by unfold Ů; rw[decide_eq_false c,Bool.false_and]
   rw[f]
   cases x.all fun n=>inP n (-4503599627370496) 4503599627370496<;>rfl
end
def afh {m:Ň} (hn:∀g∈m.1.2.1,I64 g.2.2.2.2.1.1) (a w:CK (CK Int)) (x:CK Int):sI m a w x=some true:=by
 unfold sI rI;rw[ahi,À,afa]
 by_cases K:XY m=true
 case neg=>rw[eE.2 K]; rfl
 have o:=ahj K hn;have hl6:=o.n6
 have P:∀x∈m.2,x.2.length<=1000000:=fun x r=>by have:=o.l9 x r; omega
 rw[K,Ì (by rfl),adc a 160 (by omega),À]
 cases M:(decide ((a.length:Int)<=160)&&!a.any fun l=>decide (100<l.length)) with
 |false=>rfl
 |true =>
 obtain⟨S,k⟩:=Yh M;rw[Ì (by rfl),adc w 8 (by omega),À]
 cases Y:(decide ((w.length:Int)<=8)&&!w.any fun l=>decide (100<l.length)) with
 |false=>rfl
 |true =>
 obtain⟨X,j⟩:=Yh Y
 have t:∀l∈w,l.length<=100000:=fun l y=>by have:=j l y; omega
 have R:∀l∈a,l.length<=1000000:=fun l y=>by have:=k l y; omega
 rw[Ì (by rfl)]
 by_cases r:(70:Int)<Õ x
 case pos=>rw[Ð (by simpa[igt] using r)]; rfl
 have q:x.length<=1000000:=by rw[Î] at r; omega
 rw[Ì (by simpa[igt] using r),aeV o.inn (by omega),À,yP o.inn (by omega),À,acG o.inn (by omega) t,À,agF o.inn.size (by omega) P,À]
 by_cases c:Ĵ m=0
 case neg =>
  have ha:pN m w=Ĵ m:=by unfold pN; rw[if_pos c]
  have hA:pN m w≠0:=by rw[ha]; exact c
  rw[ze,ju,nz,if_pos hA,if_pos c,if_pos c,ha,Ð (by simp[ine,c]),À,kQ,Ð (by simp[ieq]),Ð (by simp[ieq]),Ð (by simp[ieq])];rw[Î];rfl
 have h:=(Ŗ m).1 c;have hl2:=oA h;have V:((((m.1.1.1,m.1.1.2),m.1.2.1,m.1.2.2.1,m.1.2.2.2.1,m.1.2.2.2.2.1,m.1.2.2.2.2.2),m.2):Ň)=m:=rfl;rw[Ì (by simp[ine,c]),Vc h R,À];simp only[alq,V]
 have hP:ze m=if nA m then([],5) else((Ğ m.2).map fun w=>uX (sT m w) (nT m w),0):=by unfold ze; rw[if_neg (by simp[c])]
 have T:ju m a=if (decide (a.length=(Ğ m.2).length)&&kp m a)=true then 0 else 8:=by
  unfold ju;rw[if_neg (by simp[c])]
  by_cases e:a.length=(Ğ m.2).length
  ·rw[if_neg (by simp[e]),decide_eq_true e,eD]
  ·rw[if_pos e,decide_eq_false e,gZ]; rfl
 have fin:∀Z:BY Bool,Z=(Å (By m) fun I=>ifb I (Å (some true) fun H=>ifb H (ifb (ieq (ze m).2 (5:Int)) (some (ieq (Õ (ze m).1) (0:Int))) (some false)) (some false)) (ifb (ine (ze m).2 (0:Int)) (some false) (Å (ou m (ze m).1) fun G=>ifb (!G) (some false) (Å (sJ m) fun F=>Ë (fun(C:Int) p=>Ξ (ze m).1 F m.1.1.1 m.1.1.2 m.1.2.1 m.1.2.2.1 m.1.2.2.2.1 m.1.2.2.2.2.1 m.1.2.2.2.2.2 m.2 C (fun D=>p D) (fun A=>some A) (fun _=>Å (some true) fun E=>some E)) (0:Int)))))->Z=some true:=by
  rintro Z rfl;rw[amq h,À,hP]
  cases s:nA m with
  |true=>rw[kQ,À,kQ,if_pos rfl,Ð (by rfl),Î]; rfl
  |false =>
   have u:∀v∈Ğ m.2,nq m v=false:=fun v d=>by
    have:=dI.1 s v d;simpa using this
   have Q:∀l∈(Ğ m.2).map (fun w=>uX (sT m w) (nT m w)),l.length<=1000000:=fun l y=>by
    obtain⟨v,d,rfl⟩:=dw.1 y;have n:=nP h (vw.1 d);exact du (IZ n.sys (u v d)).2.2 (by have:=n.nodes; omega)
   rw[æ,if_neg (by simp),Ì (by rfl)];dsimp only;rw[Vc h Q,À,List.length_map,decide_eq_true rfl,KD h s,Ì (by rfl),Xy h,À];refine air (Ğ m.2) _ (fun i v hi d W=>?_) (fun W=>?_)
   ·have z:=mF d;have n:=nP h z;have he:=u v (dc d);have U:=IZ n.sys he
    have O:((Ğ m.2).map fun w=>uX (sT m w) (nT m w))[i]?=some (uX (sT m v) (nT m v)):=by rw[eP,d]; rfl
    try dsimp only
    unfold Ξ;rw[Í hi,Ã d,V,qV h z,À,Kr n,À,Mv,U.1,À,Ì (by rfl),Ã O,XB (Nat.le_trans U.2.2 (by have:=n.nodes; omega)),À,Ì (by rfl),È hi (by omega)]
   ·try dsimp only
    unfold Ξ;rw[Ô]; rfl
 have mid:∀Z:BY Bool,Z=(Å (wQ m w) fun J=>ifb (!J) (ifb (ine (nz m w x) (1:Int)) (some false) (some true)) (Å (wP m w x) fun f=>ifb f (ifb (ine (nz m w x) (0:Int)) (some false) (ifb (!f) (ifb (ine (nz m w x) (8:Int)) (some false) (some true)) (some true))) (ifb (!f) (ifb (ine (nz m w x) (8:Int)) (some false) (some true)) (some true))))->Z=some true:=by
  rintro Z rfl;rw[akB h t,À]
  cases hi:jQ m.2 w with
  |false =>
   have ha:pN m w=1:=by unfold pN; rw[if_neg (by simp[c]),hi]; rfl
   rw[nz,if_pos (by rw[ha]; simp),ha]; rfl
  |true =>
   have ha:pN m w=0:=by unfold pN; rw[if_neg (by simp[c]),hi]; rfl
   have z:=(FN.1 ha).2;rw[Ì (by rfl),akk h z q,À,nz,if_neg (by simp[ha])]
   cases(aa1 (trP m w) x).1<;>rfl
 rw[fin _ rfl,mid _ rfl,T];generalize (decide (a.length=(Ğ m.2).length)&&kp m a)=B
 cases B<;>rfl
end Go.Proofs.ZzM
end
