/- lemmas -/
import Derived.Test.YtdmegkgjpgcfgaaGreatPlB
import Derived.Test.YtdmegkgjpgcfgaaGreatPlA
import Derived.Test.YtdmegkgjpgcfgaaGreatMdTA
set_option linter.all false
noncomputable section
namespace Go.Proofs.ZzM
open Go Go.Am
def ab2 {ρ α:Type} [DecidableEq α] {l m:Do α} (k:l.length=m.length) (K:Bool->CK ρ) {f:Int->(Int->CK ρ)->CK ρ}
 (h:∀(i:Nat) (a b:α),i<l.length->l[i]?=some a->m[i]?=some b->∀c,f i c=if a=b then c ((i:Int)+1) else K false) (j:∀c,f l.length c=K true):Ë f 0=K (decide (l=m)):=by
 refine ee (iP l (fun i a=>if m[i]?=some a then none else some false) K (K true) (fun i a hi ha c=>?_) j) ?_
 ·have g:m[i]?=some m[i]:=df (by omega);rw[h i a _ hi ha g,g]
  by_cases d:a=m[i]
  ·simp[d]
  ·have:¬m[i]=a:=fun e=>d e.symm;simp[d,this]
 ·cases h:Ě (fun i a=>if m[i]?=some a then none else some false) 0 l with
  |none=>simp[OJ k h]
  |some b =>
   obtain⟨n,h2⟩:=OI h;simp[n,h2]
def WS {a b:Way} (k:a.length<=1000000) (j:∀l∈a,l.length<=1000000):pl a b=some (decide (a=b)):=by
 unfold pl AC;rw[Î,Î]
 by_cases c:a.length=b.length
 ·rw[Í (by simp[ine,c])];refine ab2 c some (fun i x y hi d g f=>?_) (fun f=>?_)
  ·try dsimp only
   unfold mJ;rw[Ì hi,Ä d,Ä g,Gm (j x (List.mem_of_getElem? d)),À,É hi (by omega),ó]
   by_cases h:x=y<;>simp[h]
  ·try dsimp only
   unfold mJ;rw[Ó]
 ·rw[Ñ (by simp[ine]; omega)];have:a≠b:=fun e=>c (by rw[e]);simp[this]
def aeD {a b:Do Way} (k:a.length<=1000000) (j:∀w∈a,w.length<=1000000/\∀l∈w,l.length<=1000000):mR a b=some (decide (a=b)):=by
 unfold mR xI;rw[Î,Î]
 by_cases c:a.length=b.length
 ·rw[Í (by simp[ine,c])];refine ab2 c some (fun i x y hi d g f=>?_) (fun f=>?_)
  ·try dsimp only
   unfold lE;have:=j x (List.mem_of_getElem? d);rw[Ì hi,Ä d,Ä g,WS this.1 this.2,À,É hi (by omega),ó]
   by_cases h:x=y<;>simp[h]
  ·try dsimp only
   unfold lE;rw[Ó]
 ·rw[Ñ (by simp[ine]; omega)];have:a≠b:=fun e=>c (by rw[e]);simp[this]
def ako {L:Do Lk} {p:Int->Int} (d:Pot L p) (c:Do Int):ş L c≠0:=by
 unfold ş
 by_cases h2:mP L c=0
 case neg=>rw[if_pos h2]; exact h2
 rw[if_neg (by simp[h2])];have hi:=(ad4 h2).2
 cases c with
 |nil=>exact(by decide:(8:Int)≠0)
 |cons i t =>
  dsimp only;unfold af0
  split
  ·rename_i a;have:=aeL d (i::t) (L[i.toNat]?.getD (0,0,0)).1 0 hi a.1;rw[a.2.1] at this;have:=a.2.2;omega
  ·decide
def akn {m:Ļ} {w:Way} (h:MOk m) (d:ī m.2 w) {c:Do Int} (g:ş (sT m w) c=0):pI m w=false:=by
 rw[eQ];intro f;have a:=xf h d;have i:=a.sys.n60;obtain⟨p,e⟩:=(mo a.sys.links (by omega)).1 f;exact ako e c g
def aiL {m:Ļ} (h:MOk m) {a:Do (Do Int)} (f:yI m a=true):∀w∈ň m.2,pI m w=false:=by
 intro w e;obtain⟨i,hi,rfl⟩:=dv.1 e;have:=dM.1 f i (fu.2 hi);rw[df hi] at this
 cases d:a[i]? with
 |none=>rw[d] at this; cases this
 |some c =>
  rw[d] at this;exact akn h (vt.1 e) (of_decide_eq_true this)
def aay {m:Ļ} (h:MOk m) (d:pP m=false):yI m ((ň m.2).map fun w=>EG (sT m w) (nT m w))=true:=by
 refine dM.2 fun i hi=>?_;rw[fu] at hi;have c:(ň m.2)[i]?=some (ň m.2)[i]:=df hi;have a:(ň m.2)[i]∈ň m.2:=fI hi;rw[eZ,c];have e:=ej.1 d _ a;exact decide_eq_true (acx (xf h (vt.1 a)).sys (eQ.2 e)).2.1
def exM (l:Do Cmp):Ļ:=(((0,2),[(1,0,1000,(-5,5),(1,10),1),(2,0,1000,(-50,50),(1,4),0),(3,0,1100,(-1,1),(0,1),0)],[(1,10)],[(1,(20,29),3)],(7,10,[1],[2],-20,1,100,200)::l,[]),[(12,[2,3])])
def ex8:Cmp:=(8,15,[2],[1],100,1,0,0)
def ex9:Cmp:=(9,15,[3],[],1100,0,0,0)
def ajY {l:Do Cmp} (f:l.length<=10) (e:∀c∈l,c.2.2.1.length<=10/\c.2.2.2.1.length<=10):In (exM l).1:=by
 refine⟨⟨by simp[exM],by simp[exM],by simp[exM],by simp[exM]; omega,by simp[exM],fun c a=>?_⟩,fun g d=>?_⟩
 ·rcases dm.1 (show c∈(7,10,[1],[2],-20,1,100,200)::l from a) with rfl|a
  ·exact⟨by decide,by decide⟩
  ·have:=e c a; omega
 ·simp only[exM,dm,List.not_mem_nil,or_false] at d
  rcases d with rfl|rfl|rfl<;>exact⟨by decide,by decide⟩
def w0:Ī (exM [])=0/\Ī (exM [ex8])=0/\Ī (exM [ex8,ex9])=0:=by decide +kernel
def w1:ň (exM []).2=[[[2,3]],[[3,2]]]:=by decide +kernel
def w2:vp (exM [])=[[[2,3]],[[3,2]]]:=by decide +kernel
def w3:adX (exM [ex8])=([[3,2]],0):=by decide +kernel
def w4:aeE (exM [ex8]) 2 15=([(3,1099,1101)],0):=by decide +kernel
def w5:apl (exM [ex8,ex9])=([8,9],0):=by decide +kernel
def w6:alh (exM [ex8,ex9]) [7,8,9]=([8,9],0):=by decide +kernel
def w7:LH (exM [ex8,ex9]) 2=(false,0):=by decide +kernel
def w8:pP (exM [ex8,ex9])=false:=by decide +kernel
def w9:WhoP (exM [ex8,ex9]) [[3,2]] 2 13=(3,0):=by decide +kernel
def agF:ľ=some true:=by
 have d:In (exM []).1:=ajY (by decide) (by simp);have e:In (exM [ex8]).1:=ajY (by decide) (by decide);have a:In (exM [ex8,ex9]).1:=ajY (by decide) (by decide)
 have n:∀l,(exM l).2.length<=1000:=fun l=>by simp[exM]
 have h0:=(Ń _).1 w0.1;have h2:=(Ń _).1 w0.2.2;have o:ŭ []=some (exM []):=rfl;have k:ŭ [((8:Int),(15:Int),[(2:Int)],[(1:Int)],(100:Int),(1:Int),(0:Int),(0:Int))]=some (exM [ex8]):=rfl;have j:ŭ [((8:Int),(15:Int),[(2:Int)],[(1:Int)],(100:Int),(1:Int),(0:Int),(0:Int)),((9:Int),(15:Int),[(3:Int)],[],(1100:Int),(0:Int),(0:Int),(0:Int))]=some (exM [ex8,ex9]):=rfl
 have g:agp (exM [ex8,ex9])=((ň (exM [ex8,ex9]).2).map (fun w=>EG (sT (exM [ex8,ex9]) w) (nT (exM [ex8,ex9]) w)),0):=by
  unfold agp; rw[if_neg (by simp[w0.2.2]),w8]; rfl
 have q:oc (exM [ex8,ex9]) ((ň (exM [ex8,ex9]).2).map fun w=>EG (sT (exM [ex8,ex9]) w) (nT (exM [ex8,ex9]) w))=0:=by
  unfold oc;rw[if_neg (by simp[w0.2.2]),if_neg (by simp),aay h2 w8]; rfl
 have p:∀c,oc (exM []) c=8:=fun c=>by
  unfold oc;rw[if_neg (by simp[w0.1])]
  split
  ·rfl
  ·rw[if_neg];intro h;have:=aiL h0 h [[2,3]] (by rw[w1]; simp)
   have i:[[2,3]]∈vp (exM []):=by rw[w2]; simp
   rw[(afJ i).2] at this;cases this
 unfold ľ E8;rw[o,À,alg d (n _),À,if_neg (by simp[w0.1]),À,All_ok d (n _),À,if_neg (by simp[w0.1]),k,À,aly e (n _),À,À,alB e (n _),À,j,À,apk a (n _),À,aeC a (n _) (by simp),À,acO a (n _),À,w1,w2,w3,w4,w5,w6,w7];rw[anx a (n _),À,g,Í (by rfl),Í (by rfl),Í (by rfl),Í (by rfl),Í (by rfl),Í (by rfl),Í (by rfl),Í (by simp[ine,Î]),Í (by simp[ine,Î]),Í (by rfl)];rw[show ∀f:Way->CK Bool,ç [[[2,3]],[[3,2]]] (1:Int) f=f [[3,2]] from fun f=>rfl];dsimp only;rw[alf a (n _) (by decide),À,w9,Í (by rfl),Í (by rfl),Í (by rfl),JG a (n _),À,q,Í (by rfl),À,JG d (n _),À,p,Í (by rfl)];rw[WS (by decide) (by decide),À,Ñ (by rfl),Ñ (by simp[ieq,Î])];rw[show ∀f:Int×Int×Int->CK Bool,ç [((3:Int),(1099:Int),(1101:Int))] (0:Int) f=f (3,1099,1101) from fun f=>rfl];dsimp only;rw[Ñ (by rfl),Gm (by decide),À,Ñ (by rfl),À];rfl
structure apm (b:ö) (c:Cmp):Prop where
 ok:alC b c
 ids:b.2.1.Pairwise fun a b=>a.1<b.1
 pile:∀x∈c.2.2.1++c.2.2.2.1,∃g,ì b x=some g
def Ŭ.cmpIn {b:ö} (h:Ŭ b) {c:Cmp} (a:c∈b.2.2.2.2.1):apm b c:=⟨h.cmp a,h.ids,fun x d=>by obtain⟨⟨g,e,_⟩,_⟩:=h.pile a d; exact⟨g,e⟩⟩
def alC.ne {b:ö} {c:Cmp} (h:alC b c):∀x∈c.2.2.1++c.2.2.2.1,x≠0:=by
 intro x a;have d:=(Ų c).1 h.nums;have e:=((zG _).1 d.2.2.2.2.2.1).1;have h2:=((zG _).1 d.2.2.2.2.2.2).1;rcases dl.1 a with a|a
 ·have:=e x a; omega
 ·have:=h2 x a; omega
def acS {b:ö} (i:i5 b) (hi:b.2.1.Pairwise fun a b=>a.1<b.1) {p q:Do Int} (h:∀x∈p,x≠0/\∃g,ì b x=some g):wM b (MI p q)=some (Gx (ŕ b) (Þ p q)):=by
 have n:=i.gauges;unfold wM KC
 cases c:Þ p q with
 |nil =>
  have:MI p q=0:=by unfold MI; rw[c]; rfl
  rw[this];rfl
 |cons x t =>
  have e:MI p q=x:=by unfold MI; rw[c]; rfl
  have k:x∈p:=(kT.1 (show x∈Þ p q by rw[c]; simp)).1;obtain⟨h0,g,f⟩:=h x k;rw[e,Í (by simpa[ieq] using h0),CS (by omega),À];rcases qQ (b:=b) (id:=x) with⟨j,g',h2,d,l⟩|⟨h2,d⟩
  ·rw[h2]
   try dsimp only
   rw[Ä d];unfold Gx;dsimp only;rw[vI hi,l]
  ·rw[d] at f; cases f
def ahU {b:ö} (e:i5 b) {c:Cmp} (h:apm b c):yA b c=some (iR b c):=by
 have d:=(Ų c).1 h.ok.nums;have ha:=Ō d.2.2.2.2.2.1;have hb:=Ō d.2.2.2.2.2.2;have i:∀x∈c.2.2.1,x≠0/\∃g,ì b x=some g:=fun x a=>⟨h.ok.ne x (by simp[a]),h.pile x (by simp[a])⟩;have f:∀x∈c.2.2.2.1,x≠0/\∃g,ì b x=some g:=fun x a=>⟨h.ok.ne x (by simp[a]),h.pile x (by simp[a])⟩;unfold yA FM;rw[LJ (by omega) (by omega),À,acS e h.ids i,À,LJ (by omega) (by omega),À,acS e h.ids f,À,ape h.ok.r1 h.ok.r2,À]
 try dsimp only
 rw[alp (heat:=c.2.2.2.2.2.2) (Oz h.ok.r1 h.ok.r2) d.2.2.2.2.1,À];rfl
def als {b:ö} {c:Cmp} (d:c.2.2.1.length<=1000) (a:c.2.2.2.1.length<=1000) (h:0<=b.1.1) (h2:b.1.1<=1000000) (g:0<=b.1.2) (f:b.1.2<=1000000):Cx b c=some (pO b c):=by
 unfold Cx KM pO
 have e:∀n:Nat,UP 0 ((n:Int)-1)=((n-1:Nat):Int):=by
  intro n;unfold UP
  split<;>omega
 have bd:∀(n:Nat) (x:Int),n<=1000->0<=x->x<=1000000->0<=((n-1:Nat):Int)*x/\((n-1:Nat):Int)*x<=1000000000:=by
  intro n x j h0 i;refine⟨gK (by omega) h0,?_⟩;have:=fY (show((n-1:Nat):Int)<=1000 by omega) i h0 (by omega);omega
 have o:=bd _ _ d h h2;have l:=bd _ _ d g f;have b3:=bd _ _ a h h2;have k:=bd _ _ a g f;simp only[Î];rw[Ï (by omega) (by omega),Ï (by omega) (by omega)];simp only[e];rw[Ï (by omega) (by omega),Ï (by omega) (by omega),Ï (by omega) (by omega),Ï (by omega) (by omega),Ï (by omega) (by omega),Ï (by omega) (by omega)]
def anv {b:ö} (f:i5 b) (g:0<=b.1.1/\b.1.1<=b.1.2/\b.1.2<=1000000) {c:Cmp} (h:apm b c):wN b c=some (xn b c):=by
 have a:=(Ų c).1 h.ok.nums;have ha:=Ō a.2.2.2.2.2.1;have hb:=Ō a.2.2.2.2.2.2;obtain⟨e,d,n,l,b3⟩:=aan g h.ok;have k:=CM e;have j:=yw d;have i:=yy (b:=b) (c:=c) (by omega) (by omega) (by omega) (by omega) (by omega) (by omega);have hd:=a.2.2.1;unfold wN Qk xn;rw[ahU f h,À,als (by omega) (by omega) (by omega) (by omega) (by omega) (by omega),À,alm d.rat,ans e.rat];simp only[À];rw[Ï (by omega) (by omega),Ï (by omega) (by omega),Ï (by omega) (by omega),Ï (by omega) (by omega),Ï (by omega) (by omega),Ï (by omega) (by omega)]
section
variable {b:ö}
def anw (h:Ŭ b) {id:Int} {g:æ} (i:ì b id=some g) {f t:Int} (r:0<=f/\f<=100000) (E:t<=100000):wO b id f t=some (jG b g f t):=by
 have H:=h.nG;have F:=h.nU;have G:=h.nL;obtain⟨a,k⟩:=Φ i;unfold wO Qw;rw[CS (by omega),À];rcases qQ (b:=b) (id:=id) with⟨j,g',h2,o,u⟩|⟨h2,o⟩
 ·rw[h2]
  have:g'=g:=by rw[i] at u; exact(Option.some.inj u).symm
  subst this
  try dsimp only
  rw[Ä o];refine õ (fun x:Int×Int=>f<=x.2/\(x.2<=t\/x.2=f)/\x.1=jG b g' f x.2) (fun x=>(t-x.2).toNat) ?_ ⟨dY _,.inr rfl,(Bs g' (dY _)).symm⟩;rintro⟨s,d⟩ ⟨c,n,q⟩;simp only at c n q;subst q
  by_cases hd:d<t
  ·refine .inr ⟨(jG b g' f (d+1),d+1),⟨by simp only; omega,.inl (by simp only; omega),rfl⟩,by simp only; omega,fun y=>?_⟩;have e:=Ry h g' c;have D:=lU h a (f:=f) (t:=d) r.1;have v:=lU h a (f:=f) (t:=d+1) r.1;unfold ug;rw[Ñ (by simpa[ilt] using hd),Om (b:=((b.1.1,b.1.2),b.2.1,b.2.2.1,b.2.2.2.1,b.2.2.2.2.1,b.2.2.2.2.2)) (by simp only; omega),À];have C:Œ ((b.1.1,b.1.2),b.2.1,b.2.2.1,b.2.2.2.1,b.2.2.2.2.1,b.2.2.2.2.2) id d=Œ b id d:=rfl;rw[C];unfold aeg at e;rw[k] at e
   cases ha:Œ b id d with
   |some l =>
    rw[ha] at e;simp only at e;rw[Ñ rfl]
    try dsimp only
    rw[<-e,Ï (by omega) (by omega),Ï (by omega) (by omega)]
   |none =>
    rw[ha] at e;simp only at e;rw[Í rfl,anu (b:=((b.1.1,b.1.2),b.2.1,b.2.2.1,b.2.2.2.1,b.2.2.2.2.1,b.2.2.2.2.2)) (by simp only; omega),À];have B:MD ((b.1.1,b.1.2),b.2.1,b.2.2.1,b.2.2.2.1,b.2.2.2.2.1,b.2.2.2.2.2) id d=MD b id d:=rfl;rw[B]
    cases p:MD b id d with
    |true =>
     rw[p,if_pos rfl] at e;rw[Ñ rfl]
     try dsimp only
     rw[<-e,Ï (by omega) (by omega),Ï (by omega) (by omega)]
    |false =>
     rw[p,if_neg (by simp)] at e;rw[Í rfl,Ï (by omega) (by omega),e,gL]
  ·refine .inl fun y=>?_;unfold ug;rw[Í (by simpa[ilt] using hd)]
   have:jG b g' f d=jG b g' f t:=by
    rcases ic t f with z|A
    ·have:d=f:=by omega
     rw[this,Bs g' (dY _),Bs g' (by omega)]
    ·have:d=t:=by omega
     rw[this]
   rw[this]
 ·rw[o] at i; cases i
end
def acU {b:ö} (h:Pre b) (n:Int×Int):kz b n=some (Wn b n.1 n.2):=by
 have d:=J4 h.size;unfold kz KK;rw[S0 h,À];refine Eq.trans (iQ (Ø b) (fun m=>decide (n.1=m.1)&&decide (n.2=m.2)) (fun z=>some (z+1)) (some 0) (fun i a hi ha c=>?_) (fun c=>?_)) ?_
 ·try dsimp only
  unfold qo;rw[Ì hi,Ä ha,É hi (by omega),É hi (by omega),ó,Bool.and_true]
  have e:(iW a.1 n.1&&iW a.2 n.2)=(decide (n.1=a.1)&&decide (n.2=a.2)):=by
   rw[eP];simp only[iW,dg,decide_eq_true_eq];exact and_congr eq_comm eq_comm
  rw[e]
 ·try dsimp only
  unfold qo;rw[Ó]
 ·unfold Wn i9
  cases List.findIdx? (fun m=>decide (n.1=m.1)&&decide (n.2=m.2)) (Ø b)<;>rfl
def ajJ {b:ö} (h:Pre b) (p q:Do Int) (d:Int):Wn b (MI p q) d=atP (Ø b) (Þ p q) d:=by
 unfold Wn atP MI
 cases f:Þ p q with
 |nil =>
  simp only[List.head?_nil,Option.getD_none]
  have:i9 (Ø b) 0 d=none:=by
   unfold i9;rw[List.findIdx?_eq_none_iff];intro n a;obtain⟨g,c,a⟩:=List.mem_flatMap.1 a;obtain⟨e,_,rfl⟩:=List.mem_map.1 a;have:=((wJ g).1 (h.gauge g c)).2.2.2.1
   have:¬((0:Int)=g.1):=by omega
   simp[this]
  rw[this]
 |cons x t=>rfl
section
variable {b:ö}
def amd {k:Nat} (e:k<(Ø b).length):∃(i:Nat) (g:æ) (j:Nat) (d:Int),b.2.1[i]?=some g/\(Ý b g)[j]?=some d/\k=off b i+j/\(Ø b)[k]?=some (g.1,d):=by
 obtain⟨i,g,j,c,h2,a⟩:=aft (b:=b) b.2.1.length (dh _) k (by rw[ai2]; exact e);have hd:(Ý b g)[j]?=some (Ý b g)[j]:=df h2;exact⟨i,g,j,_,c,hd,a,by rw[a]; exact NU c hd⟩
def agG (h:Ŭ b) {i j:Nat} {g g':æ} (hi:b.2.1[i]?=some g) (e:b.2.1[j]?=some g') (f:g.1=g'.1):i=j/\g=g':=by
 obtain⟨d,rfl⟩:=dj.1 hi;obtain⟨h2,rfl⟩:=dj.1 e;have c:=dP.1 h.ids;rcases Nat.lt_trichotomy i j with a|rfl|a
 ·have:=c i j d h2 a; omega
 ·exact⟨rfl,rfl⟩
 ·have:=c j i h2 d a; omega
def sg (b:ö) (i:Nat) (g:æ) (k:Nat):Do Lk :=
 if k<=off b i then[] else[(0,(off b i:Int)+1,g.2.2.1+g.2.2.2.1.2),((off b i:Int)+1,0,-(g.2.2.1+g.2.2.2.1.1))] ++
  (List.range (min (k-off b i-1) ((Ý b g).length-1))).flatMap fun(k:Nat)=>[((off b i:Int)+1+k,(off b i:Int)+1+k+1,0),((off b i:Int)+1+k+1,(off b i:Int)+1+k,jG b g ((Ý b g)[k]?.getD 0) ((Ý b g)[k+1]?.getD 0))]
def ji (b:ö) (i:Nat) (g:æ) (k:Nat):Do (Int×Int) :=
 if k<=off b i then[] else[(1,(i:Int)),(1,(i:Int))]++(List.range (min (k-off b i-1) ((Ý b g).length-1))).flatMap fun _=>[(2,(i:Int)),(2,(i:Int))]
def aha (h:Ŭ b) {i:Nat} {g:æ} (a:b.2.1[i]?=some g):sg b i g (Ø b).length=ċ b g/\ji b i g (Ø b).length=ĕ b i g:=by
 have d:=ai1 h a;have c:=f6 (ow (b:=b) g)
 have e:min ((Ø b).length-off b i-1) ((Ý b g).length-1)=(Ý b g).length-1:=by omega
 unfold sg ji ċ ĕ;rw[if_neg (by omega),if_neg (by omega),e,age h a];exact⟨rfl,rfl⟩
def acg {i:Nat} {g:æ} {k:Nat} (a:k<off b i\/off b i+(Ý b g).length<=k) (c:0<(Ý b g).length):sg b i g (k+1)=sg b i g k/\ji b i g (k+1)=ji b i g k:=by
 unfold sg ji;rcases a with a|a
 ·rw[if_pos (by omega),if_pos (by omega),if_pos (by omega),if_pos (by omega)];exact⟨rfl,rfl⟩
 ·have e:min (k+1-off b i-1) ((Ý b g).length-1)=min (k-off b i-1) ((Ý b g).length-1):=by omega
  rw[if_neg (by omega),if_neg (by omega),if_neg (by omega),if_neg (by omega),e];exact⟨rfl,rfl⟩
def ach {i:Nat} {g:æ}:sg b i g (off b i+1)=sg b i g (off b i)++[(0,(off b i:Int)+1,g.2.2.1+g.2.2.2.1.2),((off b i:Int)+1,0,-(g.2.2.1+g.2.2.2.1.1))]/\ji b i g (off b i+1)=ji b i g (off b i)++[(1,(i:Int)),(1,(i:Int))]:=by
 unfold sg ji;rw[if_neg (by omega),if_pos (Nat.le_refl _),if_neg (by omega),if_pos (Nat.le_refl _),show off b i+1-off b i-1=0 by omega,Nat.zero_min];exact⟨by simp,by simp⟩
def ad7 {i:Nat} {g:æ} {j:Nat} (a:j+1<(Ý b g).length):sg b i g (off b i+(j+1)+1)=sg b i g (off b i+(j+1))++[((off b i:Int)+1+j,(off b i:Int)+1+j+1,0),((off b i:Int)+1+j+1,(off b i:Int)+1+j,jG b g ((Ý b g)[j]?.getD 0) ((Ý b g)[j+1]?.getD 0))] /\
 ji b i g (off b i+(j+1)+1)=ji b i g (off b i+(j+1))++[(2,(i:Int)),(2,(i:Int))]:=by
 unfold sg ji;rw[if_neg (by omega),if_neg (by omega),if_neg (by omega),if_neg (by omega),show min (off b i+(j+1)+1-off b i-1) ((Ý b g).length-1)=j+1 by omega,show min (off b i+(j+1)-off b i-1) ((Ý b g).length-1)=j by omega,vy,vy];exact⟨by simp,by simp⟩
def ag9 (i:Nat) (g:æ) (k:Nat) (hd:(Ý b g).length<=59):(sg b i g k).length<=120/\(ji b i g k).length<=120:=by
 unfold sg ji;constructor
 ·split
  ·simp
  ·rw[di,i6 _ _ (fun _=>rfl)];simp only[dr,dR]; omega
 ·split
  ·simp
  ·rw[di,i6 _ _ (fun _=>rfl)];simp only[dr,dR]; omega
set_option maxHeartbeats 1000000 in
def aim (h:Ŭ b) {i:Nat} {g:æ} (B:b.2.1[i]?=some g) {L:Do Lk} {S:Do (Int×Int)} (hL:L.length<=100000) (hS:S.length<=100000) (K:Do Lk×Do (Int×Int)->CK (Do Lk×Do (Int×Int))) :
 Ë (fun(p:Int×Do Lk×Do (Int×Int)) s=>rQ (Ø b) (i:Int) b.1.1 b.1.2 b.2.1 b.2.2.1 b.2.2.2.1 b.2.2.2.2.1 b.2.2.2.2.2 g.1 g.2.1 g.2.2.1 g.2.2.2.1.1 g.2.2.2.1.2 p.1 p.2.1 p.2.2 (fun E D C=>s (E,D,C)) K) ((0:Int),L,S)=K (L++ċ b g,S++ĕ b i g):=by
 have hN:=h.nodes;have c:=dk B;have O:=Jo h c;have Y:=f6 (ow (b:=b) g);have T:=h.gaugeR c;have r1:=T.2.2.2.2.2.1;have r2:=T.2.2.2.2.2.2.1;obtain⟨tl,u⟩:=Sl h c;refine î (Ø b) (fun k=>(L++sg b i g k,S++ji b i g k)) _ (by simp[sg,ji]) (fun k n f z W=>?_) (fun W=>?_)
 ·try dsimp only
  unfold rQ;have gl:=ag9 (b:=b) i g k O;rw[Ì f,Ä z];obtain⟨X,g',j,d,Q,h2,V,U⟩:=amd f
  have y:n=(g'.1,d):=by rw[z] at U; exact Option.some.inj U
  by_cases a:n.1=g.1
  ·obtain⟨M,N⟩:=agG h Q B (by rw[y] at a; exact a);subst N;have J:X=i:=M;rw[J] at V Q;rw[Í (by simp[ine,a]),Ä z]
   have A:n.2=d:=by rw[y]
   rw[A]
   cases j with
   |zero =>
    have r:d=g'.2.1:=by rw[u] at h2; simpa using h2.symm
    have q:k=off b i:=by omega
    rw[Ñ (by simp[ieq,r])];obtain⟨o,l⟩:=ach (b:=b) (i:=i) (g:=g');rw[<-q] at o l;rw[É f (by omega),Ï (by omega) (by omega),É f (by omega),Ï (by omega) (by omega),Ï (by omega) (by omega),Ò (by simp only[di,dr,dR]; omega),Am.iff_true,Ò (by simp only[di,dr,dR]; omega),Am.iff_true,É f (by omega),o,l]
    have R:0-g'.2.2.1-g'.2.2.2.1.1 = -(g'.2.2.1+g'.2.2.2.1.1):=by omega
    rw[R];simp only[dp]
   |succ j =>
    have I:=(dj.1 h2).1
    have r:d≠g'.2.1:=by
     have v:=su b g';rw[u] at h2 v;rw[fh] at h2;have:=(dO.1 v).1 d (dk h2);omega
    rw[Í (by simpa[ieq] using r)]
    have e:(Ý b g')[j]?=some ((Ý b g')[j]?.getD 0):=by rw[df (by omega)]; rfl
    have P:d=(Ý b g')[j+1]?.getD 0:=by rw[h2]; rfl
    have F:=NU Q e;have d1:=h.day c (dk e);have d2:=h.day c (dk h2);have q:k=off b i+(j+1):=V;obtain⟨o,l⟩:=ad7 (b:=b) (i:=i) (g:=g') I;rw[<-q] at o l
    have H:((k:Int)-1)=((off b i+j:Nat):Int):=by omega
    have lb:=lU h c (t:=d) d1.2.1;rw[Sr (by omega) (by omega),H,Ä F,Ä z,A]
    try dsimp only
    rw[show wO ((b.1.1,b.1.2),b.2.1,b.2.2.1,b.2.2.2.1,b.2.2.2.2.1,b.2.2.2.2.2) g'.1 ((Ý b g')[j]?.getD 0) d=wO b g'.1 ((Ý b g')[j]?.getD 0) d from rfl,anw h (sf h.ids c) ⟨by omega,by omega⟩ (by omega),À,É f (by omega),É f (by omega),Ò (by simp only[di,dr,dR]; omega),Am.iff_true,Ò (by simp only[di,dr,dR]; omega),Am.iff_true,É f (by omega),o,l,<-P]
    have R:(off b i:Int)+1+(j:Int)=(k:Int):=by omega
    rw[R];simp only[dp]
  ·rw[Ñ (by simp[ine,a]),É f (by omega)]
   have x:k<off b i\/off b i+(Ý b g).length<=k:=by
    rcases dw k (off b i) with G|Z
    ·exact .inl G
    ·rcases dw k (off b i+(Ý b g).length) with hlt2|hge2
     ·have:=NU B (k:=k-off b i) (df (by omega));rw[show off b i+(k-off b i)=k by omega,z] at this;exact absurd (by rw[Option.some.inj this]) a
     ·exact .inr hge2
   obtain⟨o,l⟩:=acg x Y;rw[o,l]
 ·try dsimp only
  unfold rQ;rw[Ó];obtain⟨o,l⟩:=aha h B;rw[o,l]
end
def acl {α β:Type} {e:Nat->α->CK β}:∀{l:Do α} {k i:Nat} {a:α} {b:β},(∀j c,j<i->l[j]?=some c->e (k+j) c=none)->l[i]?=some a->e (k+i) a=some b->Ě e k l=some b
 |[],_,_,_,_,_,ha,_=>by simp at ha
 |c::t,k,0,a,b,_,ha,hb=>by
  simp only[List.getElem?_cons_zero,Option.some.injEq] at ha;subst ha;unfold Ě;rw[Nat.add_zero] at hb;rw[hb]
 |c::t,k,i+1,a,b,h,ha,hb=>by
  unfold Ě;have h0:=h 0 c (by omega) rfl;rw[Nat.add_zero] at h0;rw[h0];refine acl (i:=i) (fun j d f hd=>?_) (by simpa using ha) (by rw[<-hb]; congr 1; omega);have:=h (j+1) d (by omega) (by simpa using hd);rw[<-this];congr 1;omega
def F6 {ρ α β:Type} (l:Do α) (e:Nat->α->CK β) (k0:β->CK ρ) (k1:CK ρ) {f:Int->(Int->CK ρ)->CK ρ}
 (h:∀(i:Nat) (a:α),i<l.length->l[i]?=some a->∀n,f i n=match e i a with|some b=>k0 b|none=>n ((i:Int)+1))
 (t:(∀j a,l[j]?=some a->e j a=none)->∀n,f l.length n=k1):Ë f 0=match Ě e 0 l with|some b=>k0 b|none=>k1:=by
 refine õ (fun x:Int=>∃i:Nat,i<=l.length/\x=i/\∀j a,j<i->l[j]?=some a->e j a=none) (fun x=>l.length-x.toNat) ?_ ⟨0,by omega,rfl,fun j a r=>by omega⟩;rintro x ⟨i,hi,rfl,q⟩;rcases dw i l.length with g|u
 ·have ha:l[i]?=some l[i]:=df g
  cases p:e i l[i] with
  |some b =>
   refine .inl fun n=>?_;rw[h i _ g ha,p,acl (k:=0) (b:=b) (fun j c r p=>by rw[dQ]; exact q j c r p) ha (by rw[dQ]; exact p)]
  |none =>
   refine .inr ⟨((i+1:Nat):Int),⟨i+1,g,rfl,fun j a r d=>?_⟩,by simp only[du]; omega,fun n=>?_⟩
   ·rcases dw j i with s|s
    ·exact q j a s d
    ·have:j=i:=by omega
     subst this;rw[ha] at d;rw[<-Option.some.inj d]; exact p
   ·rw[h i _ g ha,p];simp
 ·have:i=l.length:=by omega
  subst this;refine .inl fun n=>?_;have o:∀j a,l[j]?=some a->e j a=none:=fun j a d=>q j a (dj.1 d).1 d;rw[t o n,ź.2 fun j a d=>by rw[dQ]; exact o j a d]
def acp {e:Int}:Lu e=none↔e=0:=by
 unfold Lu
 split<;>simp_all
section
variable {b:ö}
def Wq (h:Ŭ b):∀i,((b.2.1.take i).flatMap (ċ b)).length<=1440/\(((b.2.1.take i).mapIdx (ĕ b)).flatten).length<=1440:=by
 have f:=h.nG
 have e:∀g∈b.2.1,(ċ b g).length<=120/\∀i,(ĕ b i g).length<=120:=by
  intro g a;have:=Jo h a;constructor
  ·unfold ċ;rw[List.length_append,i6 _ _ (fun _=>rfl)];simp only[List.length_cons,List.length_nil]; omega
  ·intro i;unfold ĕ;rw[List.length_append,i6 _ _ (fun _=>rfl)];simp only[List.length_cons,List.length_nil]; omega
 have key:∀i,i<=b.2.1.length->((b.2.1.take i).flatMap (ċ b)).length<=i*120/\(((b.2.1.take i).mapIdx (ĕ b)).flatten).length<=i*120:=by
  intro i
  induction i with
  |zero=>intro _; simp
  |succ i c =>
   intro hi;have c:=c (by omega);have a:b.2.1[i]?=some b.2.1[i]:=df hi;have h2:=e _ (dk a);have j:=h2.2 i;rw[jI _ a,take_succ a,eV,gY,di,di];simp only[dH,gn,dC,ip,iu];omega
 intro i;rcases dw b.2.1.length i with d|d
 ·rw[eD (by omega)];have:=key b.2.1.length (dh _);rw[fH] at this;omega
 ·have:=key i d;omega
set_option maxHeartbeats 1000000 in
def apd (h:Ŭ b):Cw b=some (jF b,NP b):=by
 have p:=h.nC;have o:=h.nG;unfold Cw Ye;rw[S0 h.pre,À];refine î b.2.1 (fun i=>((b.2.1.take i).flatMap (ċ b),((b.2.1.take i).mapIdx (ĕ b)).flatten)) _ rfl (fun i g hi e j=>?_) (fun j=>?_)
 ·try dsimp only
  unfold xN;have d:=Wq h i;rw[Ì hi,Ä e];refine Eq.trans (aim h e (by omega) (by omega) _) ?_;rw[É hi (by omega),jI _ e,take_succ e,List.flatMap_append,List.flatten_append];simp only[List.flatMap_cons,List.flatMap_nil,List.append_nil,List.flatten_cons,List.flatten_nil]
 ·try dsimp only
  unfold xN;rw[Ó,List.take_length];dsimp only;have d:=Wq h b.2.1.length;rw[List.take_length] at d;refine î b.2.2.2.2.1 (fun i=>(b.2.1.flatMap (ċ b)++(b.2.2.2.2.1.take i).flatMap (Ů b),(b.2.1.mapIdx (ĕ b)).flatten++((b.2.2.2.2.1.take i).mapIdx fun i _=>[((3:Int),(i:Int)),((3:Int),(i:Int))]).flatten)) _ (by simp) (fun i c hi f j=>?_) (fun j=>?_)
  ·try dsimp only
   unfold xM;have a:=List.mem_of_getElem? f;have k:=(Ų c).1 (h.nums a);have ha:=Ō k.2.2.2.2.2.1;have hb:=Ō k.2.2.2.2.2.2;have l:=ahO (b:=b) i (by omega);have n:=EP h a;rw[Ì hi,Ä f,LJ (by omega) (by omega),À];rw[show kz ((b.1.1,b.1.2),b.2.1,b.2.2.1,b.2.2.2.1,b.2.2.2.2.1,b.2.2.2.2.2) (MI c.2.2.1 c.2.2.2.1,c.2.1)=kz b (MI c.2.2.1 c.2.2.2.1,c.2.1) from rfl,acU h.pre,À,LJ (by omega) (by omega),À];rw[show kz ((b.1.1,b.1.2),b.2.1,b.2.2.1,b.2.2.2.1,b.2.2.2.2.1,b.2.2.2.2.2) (MI c.2.2.2.1 c.2.2.1,c.2.1)=kz b (MI c.2.2.2.1 c.2.2.1,c.2.1) from rfl,acU h.pre,À];rw[show wN ((b.1.1,b.1.2),b.2.1,b.2.2.1,b.2.2.2.1,b.2.2.2.2.1,b.2.2.2.2.2) c=wN b c from rfl,anv h.size h.film (h.cmpIn a),À];rw[Ï (by omega) (by omega),Ò (by simp only[List.length_append,List.length_cons,List.length_nil]; omega),Am.iff_true,Ò (by simp only[List.length_append,List.length_cons,List.length_nil]; omega),Am.iff_true,É hi (by omega)];rw[jI _ f,take_succ f,List.flatMap_append,List.flatten_append,ajJ h.pre,ajJ h.pre];simp only[List.flatMap_cons,List.flatMap_nil,List.append_nil,List.flatten_cons,List.flatten_nil,List.append_assoc];rw[Int.zero_sub];rfl
  ·try dsimp only
   unfold xM;rw[Ó,List.take_length];rfl
def lL (b:ö) (i:Nat) (c:Cmp):Int:=if !J3 c then 1 else if (b.2.2.2.2.1.take i).any (fun x=>x.1==c.1) then 6 else Dn b c
def WF (hi:b.2.1.Pairwise fun a b=>a.1<b.1) (i:Nat) (c:Cmp):lL b i c=lM b (ŕ b) i c:=by
 unfold lL lM;rw[al6 hi]
def aoe (b:ö):Int:=match (b.2.2.2.2.1.mapIdx (lL b)).find? (fun e=>e != 0) with
 |some e=>e
 |none=>match (b.2.2.2.2.2.map (Z7 b)).find? (fun e=>e != 0) with
  |some e=>e
  |none=>if 59<(Ø b).length then 2 else if 300<2*b.2.1.length+2*((Ø b).length-b.2.1.length:Int)+2*b.2.2.2.2.1.length then 2 else 0
def ajS {α:Type} {l:Do α} {E:α->Int} (h:(l.map E).find? (fun e=>e != 0)=none):∀a∈l,E a=0:=by
 intro a ha;have:=ew.1 h (E a) (dF.2 ⟨a,ha,rfl⟩);simpa using this
def ahb {α:Type} {l:Do α} {E:Nat->α->Int} (h:(l.mapIdx E).find? (fun e=>e != 0)=none):∀i a,l[i]?=some a->E i a=0:=by
 intro i a ha;obtain⟨hi,rfl⟩:=dj.1 ha;have:=ew.1 h (E i l[i]) (iz.2 ⟨i,hi,rfl⟩);simpa using this
def ZB {i:Nat} {c:Cmp} (h:lL b i c=0):J3 c=true/\(Þ c.2.2.1 c.2.2.2.1).length<=1/\(Þ c.2.2.2.1 c.2.2.1).length<=1:=by
 unfold lL at h
 split at h
 ·omega
 rename_i a
 split at h
 ·omega
 unfold Dn at h
 (repeat' split at h)<;>first|omega|exact⟨by simpa using a,by omega,by omega⟩
set_option maxHeartbeats 4000000 in
def aod (L:i5 b) (s:0<=b.1.1/\b.1.1<=b.1.2/\b.1.2<=1000000) (nG:b.2.1.length<=12) (nU:b.2.2.1.length<=40) (nL:b.2.2.2.1.length<=12) (nC:b.2.2.2.2.1.length<=40) (nK:b.2.2.2.2.2.length<=10)
 (U:∀g∈b.2.1,se g=true) (hi:b.2.1.Pairwise fun a b=>a.1<b.1) (W:∀u∈b.2.2.1,Z7 b u=0) (Y:∀i l,b.2.2.2.1[i]?=some l->UN b i l=0) :
 Ë (fun(E:Int) t=>kr b.1.1 b.1.2 b.2.1 b.2.2.1 b.2.2.2.1 b.2.2.2.2.1 b.2.2.2.2.2 E (fun G=>t G) (fun D=>some D) (fun _=>Ë (fun(F:Int) v=>kq b.1.1 b.1.2 b.2.1 b.2.2.1 b.2.2.2.1 b.2.2.2.2.1 b.2.2.2.2.2 F (fun H=>v H) (fun C=>some C) (fun _=>Å (md b) fun J=>ifb (igt (Õ J) (59:Int)) (some (2:Int)) (Å (Cw b) fun I=>ifb (igt (Õ I.1) (300:Int)) (some (2:Int)) (some (0:Int))))) (0:Int))) (0:Int)=some (aoe b):=by
 unfold aoe
 refine ee (F6 b.2.2.2.2.1 (fun i c=>Lu (lL b i c)) some (some (match (b.2.2.2.2.2.map (Z7 b)).find? (fun e=>e != 0) with
  |some e=>e
  |none=>if 59<(Ø b).length then 2 else if 300<2*b.2.1.length+2*((Ø b).length-b.2.1.length:Int)+2*b.2.2.2.2.1.length then 2 else 0)) (fun i c A o S=>?_) (fun Q S=>?_)) ?_
 ·try dsimp only
  unfold kr;have T:=L.piles c (List.mem_of_getElem? o);rw[Ì A,Ä o,ali (by omega) (by omega),À];unfold lL Lu
  cases J3 c with
  |false=>rfl
  |true =>
   rw[Í (by rfl)]
   have y:(b.2.2.2.2.1.take i).length=i:=by rw[dt]; omega
   refine ee (Ē (b.2.2.2.2.1.take i) (fun x=>x.1==c.1) (fun _=>some 6) (some 6) (if Dn b c=0 then S ((i:Int)+1) else some (Dn b c)) (fun _=>rfl) (fun j a r ha p=>?_) (fun p=>?_)) ?_
   ·try dsimp only
    unfold qp;rw[y] at r
    have R:b.2.2.2.2.1[j]?=some a:=by rwa [List.getElem?_take_of_lt r] at ha
    rw[Ñ (show ilt (j:Int) (i:Int)=true by simp[ilt]; omega),Ä R,Ä o,É r (by omega),ó]
   ·try dsimp only
    unfold qp;rw[y,Í (show ilt (i:Int) (i:Int)=false by simp[ilt])];dsimp only;rw[Ä o,show ky ((b.1.1,b.1.2),b.2.1,b.2.2.1,b.2.2.2.1,b.2.2.2.2.1,b.2.2.2.2.2) c=ky b c from rfl,acT L T.1 T.2,À,É A (by omega)]
    by_cases d:Dn b c=0
    ·rw[Í (by simp[ine,d]),if_pos d]
    ·rw[Ñ (by simp[ine,d]),if_neg d]
   ·cases V:(b.2.2.2.2.1.take i).any (fun x=>x.1==c.1) with
    |true=>simp
    |false =>
     by_cases d:Dn b c=0
     ·simp[d]
     ·simp[d]
 ·try dsimp only
  unfold kr;rw[Ó];dsimp only;have k:∀i c,b.2.2.2.2.1[i]?=some c->lL b i c=0:=fun i c o=>acp.1 (Q i c o);refine Eq.trans (F6 b.2.2.2.2.2 (fun _ u=>Lu (Z7 b u)) some (some (if 59<(Ø b).length then 2 else if 300<2*b.2.1.length+2*((Ø b).length-b.2.1.length:Int)+2*b.2.2.2.2.1.length then 2 else 0)) (fun i a z ha p=>?_) (fun M p=>?_)) ?_
  ·try dsimp only
   unfold kq;rw[Ì z,Ä ha,S6,À];unfold Z7 Lu
   cases zn a.2 with
   |false=>rfl
   |true =>
    rw[Í (by rfl),Ä ha,Ä ha,BU (b:=((b.1.1,b.1.2),b.2.1,b.2.2.1,b.2.2.2.1,b.2.2.2.2.1,b.2.2.2.2.2)) (by simp only; omega),À,É z (by omega)];have e:ń ((b.1.1,b.1.2),b.2.1,b.2.2.1,b.2.2.2.1,b.2.2.2.2.1,b.2.2.2.2.2) a.1 a.2=ń b a.1 a.2:=rfl;rw[e]
    by_cases d:ń b a.1 a.2=0
    ·rw[Í (by simp[ine,d])]; simp[d]
    ·rw[Ñ (by simp[ine,d])]; simp[d]
  ·try dsimp only
   unfold kq;rw[Ó];dsimp only
   have h:∀u∈b.2.2.2.2.2,Z7 b u=0:=fun u f=>by
    obtain⟨j,r,rfl⟩:=dv.1 f;exact acp.1 (M j _ (df r))
   have K:Pre b:=⟨L,U,fun c o=>by
    obtain⟨j,r,rfl⟩:=dv.1 o;have q:=ZB (k j _ (df r))
    exact⟨aba q.1,q.2⟩,fun n X=>by
    have:=h n X;unfold Z7 at this
    split at this
    ·omega
    ·rename_i hd; simpa using hd⟩
   rw[S0 K,À,Î]
   by_cases B:59<(Ø b).length
   ·rw[Ñ (by simp[igt]; omega),if_pos B]
   ·rw[Í (by simp[igt]; omega),if_neg B];have good:Ŭ b:=⟨s,nG,nU,nL,nC,nK,U,hi,fun u f=>by rw[<-aeN hi]; exact W u f,fun i l O=>by rw[<-ajr hi]; exact Y i l O,fun i c P=>by rw[<-WF hi]; exact k i c P,fun u f=>by rw[<-aeN hi]; exact h u f,by omega,by omega⟩;have N:=ab6 good;rw[apd good,À,Î];dsimp only;rw[N,Í (by simp[igt]; omega),if_neg (by omega)]
  ·rw[RW]
   cases(b.2.2.2.2.2.map (Z7 b)).find? (fun e=>e != 0)<;>rfl
 ·rw[RV (lL b)]
  cases(b.2.2.2.2.1.mapIdx (lL b)).find? (fun e=>e != 0)<;>rfl
end
def Zs {l m:Do Int}:(l++m).find? (fun e=>e != 0)=match l.find? (fun e=>e != 0) with|some e=>some e|none=>m.find? (fun e=>e != 0):=by
 rw[List.find?_append]
 cases l.find? (fun e=>e != 0)<;>rfl
set_option maxHeartbeats 4000000 in
def alu {b:ö} (p:i5 b):Cy b=some (ŝ b):=by
 unfold Cy KN ŝ;rw[yO,À]
 cases k:j7 b.1 0 1000000 with
 |false=>rfl
 |true =>
 have d:0<=b.1.1/\b.1.1<=b.1.2/\b.1.2<=1000000:=by
  simp only[j7,dg,decide_eq_true_eq] at k;exact k
 rw[Í (show(!true)=false from rfl),if_neg (by simp)];rw[Î b.2.1,Î b.2.2.1,Î b.2.2.2.1,Î b.2.2.2.2.1,Î b.2.2.2.2.2]
 by_cases c0:12<b.2.1.length
 ·rw[Ñ (by simp[igt]; omega),if_pos c0]
 rw[Í (by simp[igt]; omega),if_neg c0]
 by_cases B:40<b.2.2.1.length
 ·rw[Ñ (by simp[igt]; omega),if_pos B]
 rw[Í (by simp[igt]; omega),if_neg B]
 by_cases A:12<b.2.2.2.1.length
 ·rw[Ñ (by simp[igt]; omega),if_pos A]
 rw[Í (by simp[igt]; omega),if_neg A]
 by_cases z:40<b.2.2.2.2.1.length
 ·rw[Ñ (by simp[igt]; omega),if_pos z]
 rw[Í (by simp[igt]; omega),if_neg z]
 by_cases y:10<b.2.2.2.2.2.length
 ·rw[Ñ (by simp[igt]; omega),if_pos y]
 rw[Í (by simp[igt]; omega),if_neg y]
 refine ee (F6 b.2.1 (pN b.2.1) some (some (match (zI b (ŕ b)).find? (fun e=>e != 0) with
  |some e=>e
  |none=>if 59<(Ø b).length then 2 else if 300<2*b.2.1.length+2*((Ø b).length-b.2.1.length:Int)+2*b.2.2.2.2.1.length then 2 else 0)) (fun i g hi o C=>?_) (fun D C=>?_)) ?_
 ·try dsimp only
  unfold qq;rw[Ì hi,Ä o,alk,À];unfold pN
  cases se g with
  |false=>rfl
  |true =>
   rw[Í (by rfl)];rcases fM i with h0|h0
   ·subst h0
    have:igt ((0:Nat):Int) 0=false:=by simp[igt]
    rw[Í this,É hi (by omega)];simp[lW]
   ·obtain⟨q,x⟩:=vz hi h0
    have v:igt (i:Int) 0=true:=by simp[igt]; omega
    rw[Ñ v,Ä o,Sr h0 (by omega),IU h0 x];simp only[lW,h0,decide_true,Bool.true_and,x,Option.any_some];unfold ile
    cases h2:decide (g.1<=q.1) with
    |true=>simp
    |false=>rw[é,É hi (by omega)]; simp
 ·try dsimp only
  unfold qq;rw[Ó];dsimp only
  have s:jS b=0:=by
   unfold jS;rw[ź.2 fun j a ha=>by rw[Nat.zero_add]; exact D j a ha];rfl
  obtain⟨o,hi⟩:=(yu b).1 s;have G:b.2.2.1.map (Z7 b)=b.2.2.1.map fun u=>ac5 (ŕ b) u.1 u.2:=List.map_congr_left fun u _=>aeN hi u;have H:b.2.2.2.1.mapIdx (UN b)=b.2.2.2.1.mapIdx fun i l=>NA b (ŕ b) i l:=List.mapIdx_eq_mapIdx_iff.2 fun i K=>ajr hi i _;have J:b.2.2.2.2.1.mapIdx (lL b)=b.2.2.2.2.1.mapIdx fun i c=>lM b (ŕ b) i c:=List.mapIdx_eq_mapIdx_iff.2 fun i L=>WF hi i _;have I:b.2.2.2.2.2.map (Z7 b)=b.2.2.2.2.2.map fun u=>ac5 (ŕ b) u.1 u.2:=List.map_congr_left fun u _=>aeN hi u;unfold zI;rw[<-G,<-H,<-J,<-I,Zs,Zs,Zs,anp p,À]
  cases h:(b.2.2.1.map (Z7 b)).find? (fun e=>e != 0) with
  |some e =>
   have f:e≠0:=by have:=fD h; simpa using this
   simp only[fZ];rw[Í (by simpa[ieq] using f),Ñ (by simpa[ine] using f)]
  |none =>
   simp only[Option.getD_none];rw[Ñ (by rfl),alj p,À]
   cases n:(b.2.2.2.1.mapIdx (UN b)).find? (fun e=>e != 0) with
   |some e =>
    have f:e≠0:=by have:=fD n; simpa using this
    simp only[fZ];rw[Ñ (by simpa[ine] using f)]
   |none =>
    simp only[Option.getD_none];rw[Í (by rfl)];refine Eq.trans (aod p d (by omega) (by omega) (by omega) (by omega) (by omega) o hi (ajS h) (ahb n)) ?_;unfold aoe
    cases(b.2.2.2.2.1.mapIdx (lL b)).find? (fun e=>e != 0)<;>rfl
 ·unfold jS
  cases t:Ě (pN b.2.1) 0 b.2.1 with
  |none =>
   simp
   cases(zI b (ŕ b)).find? (fun e=>e != 0)<;>rfl
  |some e =>
   have f:jS b=e:=by unfold jS; rw[t]; rfl
   have r:e≠0:=by
    intro h0;rw[h0] at f;obtain⟨v,h2⟩:=(yu b).1 f
    have F:∀j a,b.2.1[j]?=some a->pN b.2.1 j a=none:=by
     intro j a ha;have E:=(JB (fun g:æ=>g.1) b.2.1).2 h2 j a ha;simp[pN,v a (dk ha),E]
    rw[ź.2 fun j a ha=>by rw[dQ]; exact F j a ha] at t;cases t
   simp[r]
def IG {ρ α:Type} (l:Do α) (K:CK ρ) {f:Int->(Int->CK ρ)->CK ρ} (h:∀(i:Nat) (a:α),i<l.length->l[i]?=some a->∀c,f i c=c ((i:Int)+1)) (d:∀c,f l.length c=K):Ë f 0=K:=by
 refine ee (iQ l (fun _=>false) (fun _=>K) K (fun i a hi ha c=>by rw[h i a hi ha c]; rfl) d) ?_;rw[eA.2 (by simp)]
def U4 {l:Do (Int×Int)} (a:l.length<=1000000):kZ l l=some true:=by rw[acR a]; simp
def JE {l:Do Int} (a:l.length<=1000000):ū l l=some true:=by rw[Gm a]; simp
def NJ {c:Cmp} (d:c.2.2.1.length<=1000) (a:c.2.2.2.1.length<=1000):lK c c=some true:=by
 unfold lK pD;rw[JE (by omega),À,JE (by omega),À];simp[ieq,iW]
def SZ {b:ö} (d:i5 b):δ b b=some true:=by
 have j:=d.gauges; have h2:=d.uses; have h:=d.loans; have g:=d.compares; have f:=d.looks;unfold δ Qp;rw[Í (by simp[iW]),Í (show ine (Õ b.2.1) (Õ b.2.1)=false by simp[ine]),Í (show ine (Õ b.2.2.1) (Õ b.2.2.1)=false by simp[ine]),Í (show ine (Õ b.2.2.2.1) (Õ b.2.2.2.1)=false by simp[ine]),Í (show ine (Õ b.2.2.2.2.1) (Õ b.2.2.2.2.1)=false by simp[ine])];refine IG b.2.1 _ (fun i a hi ha c=>?_) (fun c=>?_)
 ·try dsimp only
  unfold t7;rw[Ì hi,Ä ha,Ä ha,É hi (by omega)];simp[iW]
 ·try dsimp only
  unfold t7;rw[Ó];dsimp only;refine IG b.2.2.1 _ (fun i a hi ha c=>?_) (fun c=>?_)
  ·try dsimp only
   unfold tZ;rw[Ì hi,Ä ha,Ä ha,É hi (by omega)];simp[iW]
  ·try dsimp only
   unfold tZ;rw[Ó];dsimp only;refine IG b.2.2.2.1 _ (fun i a hi ha c=>?_) (fun c=>?_)
   ·try dsimp only
    unfold tY;rw[Ì hi,Ä ha,Ä ha,É hi (by omega)];simp[iW]
   ·try dsimp only
    unfold tY;rw[Ó];dsimp only;refine IG b.2.2.2.2.1 _ (fun i a hi ha c=>?_) (fun c=>?_)
    ·try dsimp only
     unfold tX;have e:=d.piles a (List.mem_of_getElem? ha);rw[Ì hi,Ä ha,Ä ha,NJ e.1 e.2,À,É hi (by omega)];rfl
    ·try dsimp only
     unfold tX;rw[Ó];dsimp only;rw[U4 (by omega),À]
def Same0:δ Gg Gg=some true:=SZ ⟨by simp[Gg],by simp[Gg],by simp[Gg],by simp[Gg],by simp[Gg],by simp[Gg]⟩
def bigP (c:Cmp):Bool:=decide (9<c.2.2.1.length)||decide (9<c.2.2.2.1.length)
def OE (m:Ļ):Bool:=decide (m.1.2.1.length<=6)&&(decide (m.1.2.2.1.length<=20)&&(decide (m.1.2.2.2.1.length<=6)&&(decide (m.1.2.2.2.2.1.length<=8)&&(decide (m.1.2.2.2.2.2.length<=6)&&decide (m.2.length<=6)))))
def aal (m:Ļ):Bool:=!((m.1.2.2.2.2.1.take 60).any bigP)&&(!((m.2.take 8).any fun x=>decide (9<x.2.length))&&OE m)
def aiv (m:Ļ):Cm m=some (aal m):=by
 unfold Cm J9
 have last:(ifb (ile (Õ m.1.2.1) (6:Int)) (ifb (ile (Õ m.1.2.2.1) (20:Int)) (ifb (ile (Õ m.1.2.2.2.1) (6:Int)) (ifb (ile (Õ m.1.2.2.2.2.1) (8:Int)) (ifb (ile (Õ m.1.2.2.2.2.2) (6:Int)) (some (ile (Õ m.2) (6:Int))) (some false)) (some false)) (some false)) (some false)) (some false))=some (OE m):=by
  have e:∀(n m:Nat),ile (n:Int) (m:Int)=decide (n<=m):=fun n m=>by simp[ile]
  unfold OE;rw[Î,Î,Î,Î,Î,Î,show(6:Int)=((6:Nat):Int) from rfl,show(20:Int)=((20:Nat):Int) from rfl,show(8:Int)=((8:Nat):Int) from rfl,e,e,e,e,e,e];generalize decide (m.1.2.1.length<=6)=s;generalize decide (m.1.2.2.1.length<=20)=r;generalize decide (m.1.2.2.2.1.length<=6)=q;generalize decide (m.1.2.2.2.2.1.length<=8)=p;generalize decide (m.1.2.2.2.2.2.length<=6)=o
  cases s<;>cases r<;>cases q<;>cases p<;>cases o<;>rfl
 rw[last];refine ee (Ē (m.1.2.2.2.2.1.take 60) bigP (fun _=>some false) (some false) (some (!((m.2.take 8).any fun x=>decide (9<x.2.length))&&OE m)) (fun _=>rfl) (fun i c hi l t=>?_) (fun t=>?_)) ?_
 ·try dsimp only
  unfold pU;rw[List.length_take] at hi
  have a:m.1.2.2.2.2.1[i]?=some c:=by rw[eF] at l; split at l<;>simp_all
  rw[Ì (show i<m.1.2.2.2.2.1.length by omega),Ñ (by simp[ilt]; omega),Ä a,Ä a,Ï (by omega) (by omega),ó,Î,Î];unfold bigP
  by_cases d:9<c.2.2.1.length
  ·rw[if_pos (by simp[igt]; omega),if_pos (by simp[d])]
  ·rw[if_neg (by simp[igt]; omega),ó]
   by_cases h2:9<c.2.2.2.1.length
   ·rw[if_pos (by simp[igt]; omega),if_pos (by simp[h2])]
   ·rw[if_neg (by simp[igt]; omega),if_neg (by simp[d,h2])]
 ·refine ee ?_ (ee (Ē (m.2.take 8) (fun x=>decide (9<x.2.length)) (fun _=>some false) (some false) (some (OE m)) (f:=fun v y=>my m.2 v (fun u=>y u) (fun z=>some z) (fun _=>some (OE m))) (fun _=>rfl) (fun i x hi k g=>?_) (fun g=>?_)) ?_)
  ·try dsimp only
   unfold pU;rw[List.length_take,ó]
   split
   ·rename_i h
    have h':60<m.1.2.2.2.2.1.length:=by rw[Î] at h; simp[ilt] at h; omega
    rw[Í (by simp[ilt]; omega)]
   ·rfl
  ·try dsimp only
   unfold my;rw[List.length_take] at hi
   have j:m.2[i]?=some x:=by rw[eF] at k; split at k<;>simp_all
   rw[Ì (show i<m.2.length by omega),Ñ (by simp[ilt]; omega),Ä j,Ï (by omega) (by omega),ó,Î]
   by_cases d:9<x.2.length
   ·rw[if_pos (by simp[igt]; omega),if_pos (by simp[d])]
   ·rw[if_neg (by simp[igt]; omega),if_neg (by simp[d])]
  ·try dsimp only
   unfold my;rw[List.length_take,ó]
   split
   ·rename_i h
    have h':8<m.2.length:=by rw[Î] at h; simp[ilt] at h; omega
    rw[Í (by simp[ilt]; omega)]
   ·rfl
  ·cases List.any (List.take 8 m.2) (fun x=>decide (9<x.2.length))<;>rfl
 ·unfold aal
  cases List.any (List.take 60 m.1.2.2.2.2.1) bigP<;>rfl
structure Small7 (m:Ļ):Prop where
 inn:In m.1
 n6:m.2.length<=6
 l9:∀x∈m.2,x.2.length<=9
 c8:m.1.2.2.2.2.1.length<=8
def aiw {m:Ļ} (h:aal m=true) (e:∀g∈m.1.2.1,I64 g.2.2.2.2.1.1):Small7 m:=by
 simp only[aal,OE,dg,eM,decide_eq_true_eq] at h;obtain⟨h0,a,h2,n,l,j,k,i⟩:=h;refine⟨⟨⟨by omega,by omega,by omega,by omega,by omega,fun c f=>?_⟩,e⟩,i,fun x d=>?_,j⟩
 ·rw[eD (by omega)] at h0;have:=ej.1 h0 c f;simp[bigP] at this;omega
 ·rw[eD (by omega)] at a;have:=ej.1 a x d;simp at this;omega
def al8 (w:Way) (n:Int) (e:0<=n/\n<=100000):Cn w n=some (decide ((w.length:Int)<=n)&&!w.any fun l=>decide (100<l.length)):=by
 unfold Cn Ka
 by_cases h:(w.length:Int)<=n
 ·rw[Í (by simp[igt,Î]; omega)];refine ee (Ē w (fun l=>decide (100<l.length)) (fun _=>some false) (some false) (some true) (fun _=>rfl) (fun i l hi d c=>?_) (fun c=>?_)) ?_
  ·try dsimp only
   unfold pV;rw[Ì hi,Ä d,É hi (by omega),ó,Î]
   by_cases a:100<l.length
   ·rw[if_pos (by simp[igt]; omega),if_pos (by simp[a])]
   ·rw[if_neg (by simp[igt]; omega),if_neg (by simp[a])]
  ·try dsimp only
   unfold pV;rw[Ó]
  ·rw[decide_eq_true h]
   cases w.any fun l=>decide (100<l.length)<;>rfl
 ·rw[Ñ (by simp[igt,Î]; omega),decide_eq_false h]; rfl
def aiN {w:Way} {n:Int} (h:(decide ((w.length:Int)<=n)&&!w.any fun l=>decide (100<l.length))=true):(w.length:Int)<=n/\∀l∈w,l.length<=100:=by
 simp only[dg,decide_eq_true_eq,eM,ej,Int.not_lt] at h;exact⟨h.1,fun l a=>by have:=h.2 l a; omega⟩
def aie {m:Ļ} (h:MOk m) {w:Way} (c:ī m.2 w):∀l∈w,l.length<=100000:=by
 intro l e;obtain⟨i,hi,rfl⟩:=dv.1 e;obtain⟨x,a⟩:∃x,m.2[i]?=some x:=⟨_,df (by rw[<-c.len]; exact hi)⟩;obtain⟨f,d,h2⟩:=c.at a;rw[df hi] at d;cases d;have:=h.len5 x (dk a);rw[h2.length_eq]; omega
section
variable {ρ:Type}
def WV {l:Do Int} (d:l.length<=1000000) (x:Int):Gd l x=some (match l.findIdx? (·==x) with|some j=>(j:Int)|none=>-1):=by
 unfold Gd adG;refine Eq.trans (iQ l (·==x) (fun z=>some z) (some (-1)) (fun i a hi ha c=>?_) (fun c=>?_)) ?_
 ·try dsimp only
  unfold Cb;rw[Ì hi,Ä ha,É hi (by omega),ó]
  try (by_cases h:a=x<;>simp[ieq,h])
 ·try dsimp only
  unfold Cb;rw[Ó]
 ·cases List.findIdx? (·==x) l<;>rfl
def aoE (b:ö) (x:Mx):Int :=
 if !(inP x.1 0 19999&&inP x.2.length 2 5) then 1 else
 if ¬x.2.Pairwise (·<·) then 1 else
 if x.2.any (fun g=>(ì b g).isNone) then 5 else
 if x.2.any (fun g=>ń b g x.1 != 0) then 4 else 0
def mixE_F (b:ö) (l:Do Mx) (i:Nat) (x:Mx):mixE b l i x=if aoE b x≠0 then aoE b x else if lW (fun y=>y.1) l i x then 6 else if x.2.any (fun g=>(Œ b g x.1).isSome||(Œ b g (x.1+1)).isSome) then 9 else 0:=by
 unfold mixE aoE
 split
 ·rfl
 ·split
  ·rfl
  ·split
   ·rfl
   ·split<;>rfl
def aoF {b:ö} (s:i5 b) {x:Mx} (t:x.2.length<=1000000):N9 b x=some (aoE b x):=by
 have v:=s.gauges;unfold N9 X0 aoE;rw[xc,À,xc,À,Î]
 cases y:inP x.1 0 19999 with
 |false=>rfl
 |true =>
  cases h2:inP (x.2.length:Int) 2 5 with
  |false=>rfl
  |true =>
   rw[Í (by rfl),Í (by rfl),if_neg (by simp)];refine(Y8 (l:=x.2) (K:=some 1) (k1:=if x.2.any (fun g=>(ì b g).isNone) then some 5 else if x.2.any (fun g=>ń b g x.1 != 0) then some 4 else some 0) (fun i a c ha r d=>?_) (fun n u d=>?_)).trans ?_
   ·have hi:=(dj.1 r).1
    try dsimp only
    unfold xG;rw[Î,Ñ (decide_eq_true (by omega)),show((i:Int)+1)=((i+1:Nat):Int) by omega,Ä r,show ∀f:Int->CK Int,ck (((i+1:Nat):Int)-1) f=f (i:Int) from fun f=>by rw[Ï (by omega) (by omega)]; congr 1; omega,Ä ha,Ï (by omega) (by omega),ó];simp[ile]
   ·try dsimp only
    unfold xG;rw[Î,Í (decide_eq_false (by omega))]
    refine(Ē x.2 (fun g=>(ì b g).isNone) (fun _=>some 5) (some 5) _ (fun _=>rfl) (fun i a hi ha d=>?_) (fun d=>?_))<;>(try dsimp only)<;>unfold Fy
    ·rw[Ì hi,Ä ha,show jX ((b.1.1,b.1.2),b.2.1,b.2.2.1,b.2.2.2.1,b.2.2.2.2.1,b.2.2.2.2.2) a=jX b a from rfl,CS (by omega),À,É hi (by omega),ó];rcases qQ (b:=b) (id:=a) with⟨j,g,q,_,p⟩|⟨q,p⟩
     ·rw[q,p]; simp[ilt]; omega
     ·rw[q,p]; simp[ilt]
    ·rw[Ó]
     refine(Ē x.2 (fun g=>ń b g x.1 != 0) (fun _=>some 4) (some 4) _ (fun _=>rfl) (fun i a hi ha d=>?_) (fun d=>?_))<;>(try dsimp only)<;>unfold Fx
     ·rw[Ì hi,Ä ha,show ju ((b.1.1,b.1.2),b.2.1,b.2.2.1,b.2.2.2.1,b.2.2.2.2.1,b.2.2.2.2.2) a x.1=ju b a x.1 from rfl,BU (by omega),À,É hi (by omega),ó]
      try simp[ine]
     ·rw[Ó]
   ·by_cases h:x.2.Pairwise (·<·)
    ·rw[if_pos h,if_neg (show ¬¬x.2.Pairwise (·<·) from fun e=>e h)]
     by_cases o:x.2.any (fun g=>(ì b g).isNone)=true
     ·rw[if_pos o,if_pos o]
     ·rw[if_neg o,if_neg o]
      by_cases k:x.2.any (fun g=>ń b g x.1 != 0)=true
      ·rw[if_pos k,if_pos k]
      ·rw[if_neg k,if_neg k]
    ·rw[if_neg h,if_pos h]
def r7_L1 {b:ö} (j:b.2.2.2.1.length<=1000000) {x:Mx} (t:x.2.length<=5) (hd:0<=x.1/\x.1<=19999) {p:Nat} (r:p<=1000000000) (k0:Int->CK ρ) (k1:Int->CK ρ) :
 Ë (fun(v:Int×Int) q=>jf b.1.1 b.1.2 b.2.1 b.2.2.1 b.2.2.2.1 b.2.2.2.2.1 b.2.2.2.2.2 x.1 x.2 v.1 v.2 (fun a b=>q (a,b)) k0 k1) ((p:Int),(0:Int)) =
  if x.2.any (fun g=>(Œ b g x.1).isSome||(Œ b g (x.1+1)).isSome) then k0 9 else k1 ((p*JI x.2.length:Nat):Int):=by
 refine wC x.2 (fun i=>((p*JI i:Nat):Int)) _ (fun i=>(x.2.take i).any (fun g=>(Œ b g x.1).isSome||(Œ b g (x.1+1)).isSome)=false) (by simp[JI]) (by simp) (fun i g hi c f o=>?_) (fun f o=>?_)
 ·have s:=Sb (n:=i) (by omega);have hb:p*JI i<=1000000000*120:=fK r s;have h2:p*JI i*(i+1)<=1000000000*120*6:=fK hb (by omega)
  have e:((p*JI i:Nat):Int)*((i:Int)+1)=((p*JI i*(i+1):Nat):Int):=by simp
  try dsimp only
  unfold jf
  rw[Ì hi,Ä c,show ∀d,jW ((b.1.1,b.1.2),b.2.1,b.2.2.1,b.2.2.2.1,b.2.2.2.2.1,b.2.2.2.2.2) g d=jW b g d from fun _=>rfl,Om j,À,Ä c,Ï (by omega) (by omega),
   show ∀d,jW ((b.1.1,b.1.2),b.2.1,b.2.2.1,b.2.2.2.1,b.2.2.2.2.1,b.2.2.2.2.2) g d=jW b g d from fun _=>rfl,Om j,À]
  cases h:Œ b g x.1 with
  |some l =>
   refine .inl ?_;rw[if_pos (dD.2 ⟨g,dk c,by rw[h]; rfl⟩)];rfl
  |none =>
   cases k:Œ b g (x.1+1) with
   |some l =>
    refine .inl ?_;rw[if_pos (dD.2 ⟨g,dk c,by rw[h,k]; rfl⟩)];rfl
   |none =>
    refine .inr ⟨by rw[take_succ c,List.any_append,f]; simp[h,k],?_⟩;dsimp only;rw[Í (by rfl),Í (by rfl),Ï (by omega) (by omega),e,Ï (by omega) (by omega),Ï (by omega) (by omega),JI,Nat.mul_assoc]
 ·try dsimp only
  unfold jf;rw[List.take_length] at f;rw[Ó,f]; rfl
def WU {m:Ļ} (I:i5 m.1) (W:m.2.length<=1000) (O:∀x∈m.2,x.2.length<=1000000):wL m=some (Ī m):=by
 unfold wL Kz Ī;rw[alu I,À]
 by_cases C:ŝ m.1=0
 ·have P:=(Μ _).1 C;have T:=P.nL;rw[Í (by simp[ine,C]),if_neg (by simp[C])]
  by_cases M:4<m.2.length
  ·rw[Ñ (by simp[igt,Î]; omega),if_pos M]
  ·rw[Í (by simp[igt,Î]; omega),if_neg M];refine wC m.2 (fun i=>((m8 (m.2.take i):Nat):Int)) _ (fun i=>∀j y,j<i->m.2[j]?=some y->mixE m.1 m.2 j y=0) (by simp[m8]) (fun j y h _=>by omega) (fun i x hi p s F=>?_) (fun s F=>?_)
   ·have V:∀y∈m.2.take i,y.2.length<=5:=fun y k=>by
     obtain⟨j,J,rfl⟩:=dv.1 k;rw[dt] at J;rw[fi];exact XB (s j _ (by omega) (df (by omega)))
    have hb:=Xe (l:=m.2.take i) (n:=4) (by rw[dt]; omega) V
    have S:(120:Nat) ^ 4=207360000:=by decide
    try dsimp only
    unfold qg;rw[Ì hi,Ä p,show(((m.1.1.1,m.1.1.2),m.1.2.1,m.1.2.2.1,m.1.2.2.2.1,m.1.2.2.2.2.1,m.1.2.2.2.2.2):ö)=m.1 from rfl,aoF I (O x (List.mem_of_getElem? p)),À];have d:=mixE_F m.1 m.2 i x
    by_cases o:aoE m.1 x=0
    case neg =>
     rw[if_pos o] at d;refine .inl ?_;rw[Ñ (by simp[ine,o]),GU p s (by rw[d]; exact o),d]
    rw[if_neg (by simp[o])] at d;rw[Í (by simp[ine,o])]
    have A:x.2.length<=5/\0<=x.1/\x.1<=19999:=by
     unfold aoE at o
     split at o
     ·simp at o
     ·rename_i H;simp only[eM,Bool.not_eq_false,dg,inP,decide_eq_true_eq] at H
      have G:x.2.length<=5:=by omega
      exact⟨G,H.1.1,H.1.2⟩
    have r:∀Z R:CK Int,(∀e,O8 m.1 m.2=some e->R=some e)->(∀(c:lW (fun y=>y.1) m.2 i x=false),Z=Ë (fun(v:Int×Int) N=>jf m.1.1.1 m.1.1.2 m.1.2.1 m.1.2.2.1 m.1.2.2.2.1 m.1.2.2.2.2.1 m.1.2.2.2.2.2 x.1 x.2 v.1 v.2 (fun a b=>N (a,b)) (fun z=>some z) (fun D=>ck ((i:Int)+1) fun E=>F (D,E))) (((m8 (m.2.take i):Nat):Int),(0:Int)))->(lW (fun y=>y.1) m.2 i x=true->Z=some 6) ->
     Z=R\/((∀j y,j<i+1->m.2[j]?=some y->mixE m.1 m.2 j y=0)/\Z=F (((m8 (m.2.take (i+1)):Nat):Int),(i:Int)+1)):=by
     intro Z R K U G
     cases c:lW (fun y=>y.1) m.2 i x with
     |true =>
      rw[c,if_pos rfl] at d;refine .inl ?_;rw[G c,K _ (GU p s (by rw[d]; simp)),d]
     |false =>
      rw[c,if_neg (by simp)] at d;rw[U c,r7_L1 (by omega) A.1 A.2 (by omega)]
      cases L:x.2.any (fun g=>(Œ m.1 g x.1).isSome||(Œ m.1 g (x.1+1)).isSome) with
      |true =>
       rw[L,if_pos rfl] at d;refine .inl ?_;rw[if_pos rfl,K _ (GU p s (by rw[d]; simp)),d]
      |false =>
       rw[L,if_neg (by simp)] at d;refine .inr ⟨fun j y J k=>?_,?_⟩
       ·rcases dw j i with h|h
        ·exact s j y h k
        ·have:j=i:=by omega
         subst this;rw[p] at k; cases k;exact d
       ·rw[if_neg (by simp),É hi (by omega),B4 p]
    refine r _ _ (fun e Q=>by rw[Q]) (fun c=>?_) (fun c=>?_)
    ·by_cases h0:0<i
     ·obtain⟨q,B⟩:=vz hi h0
      have t:¬x.1<=q.1:=by
       intro e;unfold lW at c;rw[B] at c;simp[h0,e] at c
      have u:∀f:Int->CK Int,ck ((i:Int)-1) f=f ((i-1:Nat):Int):=fun f=>by rw[Ï (by omega) (by omega)]; congr 1; omega
      rw[Ñ (decide_eq_true (by omega)),u,Ä B,Í (decide_eq_false t)]
     ·rw[Í (decide_eq_false (by omega))]
    ·have h0:0<i:=by
      unfold lW at c;simp only[Bool.and_eq_true,decide_eq_true_eq] at c;exact c.1
     obtain⟨q,B⟩:=vz hi h0
     have t:x.1<=q.1:=by
      unfold lW at c;rw[B] at c;simpa[h0] using c
     have u:∀f:Int->CK Int,ck ((i:Int)-1) f=f ((i-1:Nat):Int):=fun f=>by rw[Ï (by omega) (by omega)]; congr 1; omega
     rw[Ñ (decide_eq_true (by omega)),u,Ä B,Ñ (decide_eq_true t)]
   ·try dsimp only
    unfold qg;rw[Ó,E4 fun j y k=>s j y (List.getElem?_eq_some_iff.1 k).1 k,List.take_length];dsimp only;rw[ó];simp only[igt,decide_eq_true_eq]
    by_cases h:150<m8 m.2
    ·rw[if_pos (by omega),if_pos h]
    ·rw[if_neg (by omega),if_neg h]
 ·rw[Ñ (by simp[ine,C]),if_pos C]
end
def SW {m:Ļ} {w:Way} (h:ī m.2 w) (u:m.2.length<=1000) (p:∀x∈m.2,x.2.length<=1000) (x d:Int):qy m w x d=some (Ν m.2 w x d):=by
 unfold qy X4;rw[Î,Ï (by omega) (by omega)];refine õ (fun s:Int×Int=>∃i:Nat,i<=m.2.length/\s.2=(i:Int)-1/\s.1=Ν (m.2.drop i) (w.drop i) x d) (fun s=>(s.2+1).toNat) ?_ ⟨m.2.length,Nat.le_refl _,rfl,?_⟩
 ·rintro⟨t,r⟩ ⟨i,hi,g,h2⟩;simp only at g h2;subst g h2
  cases i with
  |zero =>
   refine .inl fun n=>?_
   try dsimp only
   unfold xH;rw[Í (by simp[ige])]; rfl
  |succ i =>
   obtain⟨y,a⟩:∃y,m.2[i]?=some y:=⟨_,df hi⟩;obtain⟨l,c,e⟩:=h.at a
   have o:l.length<=1000:=by rw[e.length_eq]; exact p y (dk a)
   have j:((i+1:Nat):Int)-1=i:=by omega
   refine .inr ⟨(Ν (m.2.drop i) (w.drop i) x d,(i:Int)-1),⟨i,by omega,rfl,rfl⟩,by simp only[j]; omega,fun n=>?_⟩
   try dsimp only
   unfold xH;rw[j,Ñ (by simp[ige]),Ä a,aeK a c];unfold stp
   by_cases hd:y.1<d
   ·rw[Ñ (by simp[ilt,hd]),if_pos hd,Ä c,WV (by omega),À]
    cases q:l.findIdx? (·==Ν (m.2.drop (i+1)) (w.drop (i+1)) x d) with
    |none =>
     dsimp only;rw[Í (by simp[ige]),Ï (by omega) (by omega)]
    |some k =>
     dsimp only
     have f:k<y.2.length:=by rw[<-e.length_eq]; exact(dN.1 q).1
     rw[Ñ (by simp[ige]),Ä a,Ä (df f),Ï (by omega) (by omega)];rw[eh,df f]; rfl
   ·rw[Í (by simp[ilt,hd]),Ï (by omega) (by omega),if_neg hd]
 ·simp only[List.drop_length];rw[<-h.len,List.drop_length];unfold Ν;rfl
def afE:∀{ms:Do Mx} {w:Way} {i:Nat} {m:Mx} {l:Do Int},ms[i]?=some m->w[i]?=some l->∀x d,Tb (ms.take (i+1)) (w.take (i+1)) x d=stp d (m.1,l) m.2 (Tb (ms.take i) (w.take i) x d)
 |a::ms,b::w,0,m,l,c,h2,x,d=>by
  simp at c h2;subst c h2;simp[Tb]
 |a::ms,b::w,i+1,m,l,c,h2,x,d=>by
  simp only[fh] at c h2;simp only[fW,Tb];exact afE c h2 _ d
 |[],_,_,_,_,h,_,_,_=>by simp at h
 |_::_,[],_,_,_,_,h,_,_=>by simp at h
def alA {m:Ļ} {w:Way} (h:ī m.2 w) (q:m.2.length<=1000) (o:∀x∈m.2,x.2.length<=1000) (x d:Int):wK m w x d=some (Tb m.2 w x d):=by
 unfold wK Kx;have c:=h.len;refine wC m.2 (fun i=>Tb (m.2.take i) (w.take i) x d) _ (fun _=>True) (by simp[Tb]) trivial (fun i y hi a _ g=>.inr ⟨trivial,?_⟩) (fun _ g=>?_)
 ·obtain⟨l,e,n⟩:=h.at a;have j:=o y (dk a)
  try dsimp only
  unfold qf;rw[Ì hi,Ä a,afE a e];unfold stp
  by_cases hd:y.1<d
  ·rw[Ñ (by simp[ilt,hd]),if_pos hd,Ä a,WV (by omega),À]
   cases p:y.2.findIdx? (·==Tb (m.2.take i) (w.take i) x d) with
   |none =>
    dsimp only;rw[Í (by simp[ige]),Ï (by omega) (by omega)]
   |some k =>
    dsimp only
    have f:k<l.length:=by rw[n.length_eq]; exact(dN.1 p).1
    rw[Ñ (by simp[ige]),Ä e,Ä (df f),Ï (by omega) (by omega)];rw[eh,df f]; rfl
  ·rw[Í (by simp[ilt,hd]),Ï (by omega) (by omega),if_neg hd]
 ·try dsimp only
  unfold qf;rw[Ó,List.take_length,<-c,List.take_length]
def WR {m:Ļ} {w:Way} (h:ī m.2 w) (C:m.2.length<=1000) (A:∀x∈m.2,x.2.length<=1000):jU m w=some (uR m.2 w):=by
 unfold jU Fz;have g:=h.len;refine õ (fun s:Int×Int=>∃i:Nat,i<=w.length/\s.2=(i:Int)/\s.1=uR (m.2.take i) (w.take i)) (fun s=>w.length-s.2.toNat) ?_ ⟨0,Nat.zero_le _,rfl,by simp[uR]⟩;rintro⟨K,J⟩ ⟨i,hi,j,h2⟩;simp only at j h2;subst j h2;rcases Nat.lt_or_ge i w.length with f|F
 ·obtain⟨y,o⟩:∃y,m.2[i]?=some y:=⟨_,df (by omega)⟩;obtain⟨l,p,q⟩:=h.at o
  have D:l.length<=1000:=by rw[q.length_eq]; exact A y (dk o)
  refine .inr ⟨(uR (m.2.take (i+1)) (w.take (i+1)),(i:Int)+1),⟨i+1,f,by simp,rfl⟩,by simp only[du]; omega,fun r=>?_⟩
  try dsimp only
  unfold ol;rw[Ì f];have hb:=ah9 (n:=0) C A (w.take i) i;refine õ (fun s:Int×Int=>∃k:Nat,k<=l.length/\s.2=(k:Int)/\s.1=uR (m.2.take i) (w.take i)+Z2 (l.take k) (y.2.take k)) (fun s=>l.length-s.2.toNat) ?_ ⟨0,Nat.zero_le _,rfl,by simp[Z2]⟩;rintro⟨I,t2⟩ ⟨k,L,j,h2⟩;simp only at j h2;subst j h2;have H:=Ou (l.take k) (y.2.take k)
  have G:(y.2.take k).length<=1000:=by rw[dt]; omega
  rcases dw k l.length with c|E
  ·obtain⟨u,z⟩:∃u,l[k]?=some u:=⟨_,df c⟩;obtain⟨v,t⟩:∃v,y.2[k]?=some v:=⟨_,df (by rw[<-q.length_eq]; exact c)⟩;refine .inr ⟨(uR (m.2.take i) (w.take i)+Z2 (l.take (k+1)) (y.2.take (k+1)),(k:Int)+1),⟨k+1,c,by simp,rfl⟩,by simp only[du]; omega,fun r=>?_⟩
   try dsimp only
   unfold oj;rw[Ä p,Ì c,Ä p,Ä z,Ä o,Ä t,Ot z t]
   by_cases a:v=u
   ·rw[Í (by simp[ine,a]),Ï (by omega) (by omega),if_pos a]; simp
   ·rw[Ñ (by simp[ine]; exact fun e=>a e.symm),Ï (by omega) (by omega),Ï (by omega) (by omega),if_neg a,Int.add_assoc]
  ·refine .inl fun B=>?_
   have d:k=l.length:=by omega
   subst d
   try dsimp only
   unfold oj;rw[Ä p,Ó];dsimp only;rw[Ï (by omega) (by omega),Oq o p,List.take_length,q.length_eq,List.take_length]
 ·refine .inl fun r=>?_
  have d:i=w.length:=by omega
  subst d
  try dsimp only
  unfold ol;rw[Ó,List.take_length,g,List.take_length]
def Wj (a:Int):∀{l:Do Int} {k:Nat},l.Pairwise (·<=·)->k<=l.length->(∀j x,j<k->l[j]?=some x->x<a)->(∀x,l[k]?=some x->a<=x)->ag6 a l=l.take k++[a]++l.drop k
 |[],k,_,d,_,_=>by simp[ag6]
 |b::t,0,_,_,_,h2=>by
  have:=h2 b rfl;unfold ag6;rw[if_pos this]; rfl
 |b::t,k+1,f,d,e,h2=>by
  have hb:=e 0 b (by omega) rfl;unfold ag6;rw[if_neg (by omega),Wj a (List.pairwise_cons.1 f).2 (by simpa using d) (fun j x g c=>e (j+1) x (by omega) c) (fun x c=>h2 x c)];rfl
def ae8 {m:Ļ} {w:Way} (h:ī m.2 w) (B:m.2.length<=1000) (E:∀x∈m.2,x.2.length<=1000) (d:Int) {l:Do Int} (D:l.length<=1000000):Bz m w l d=some (ny m w d l):=by
 unfold Bz PV;refine î l (fun i=>Υ ((l.take i).map fun x=>Ν m.2 w x d)) _ rfl (fun i a hi ha u=>?_) (fun u=>?_)
 ·have C:((((m.1.1.1,m.1.1.2),m.1.2.1,m.1.2.2.1,m.1.2.2.2.1,m.1.2.2.2.2.1,m.1.2.2.2.2.2),m.2):Ļ)=m:=rfl
  try dsimp only
  unfold tK;rw[Ì hi,Ä ha,C,SW h B E,À];generalize y:Υ ((l.take i).map fun x=>Ν m.2 w x d)=V
  have v:V.Pairwise (·<=·):=by rw[<-y]; exact œ _
  have I:V.length=i:=by rw[<-y,(þ _).length_eq,dL,dt]; omega
  have n:Υ ((l.take (i+1)).map fun x=>Ν m.2 w x d)=ag6 (Ν m.2 w a d) V:=by
   rw[<-y];refine gk (le:=(·<=·)) (fun a b _ _ t h2=>iA t h2) (œ _) (F9 _ (œ _)) ?_;rw[take_succ ha,fm,fc,fF];exact(þ _).trans (List.perm_append_comm.trans ((List.Perm.cons _ (þ _).symm).trans (IQ _ _).symm))
  rw[n];generalize Ν m.2 w a d=g;refine õ (fun s:Int=>∃k:Nat,k<=V.length/\s=(k:Int)/\∀j x,j<k->V[j]?=some x->x<g) (fun s=>V.length-s.toNat) ?_ ⟨0,d9 _,rfl,fun j x H _=>by omega⟩;rintro s ⟨k,G,rfl,A⟩
  have fin:∀(z:∀x,V[k]?=some x->g<=x),(fun c:Int=>à ((ile (0:Int) c)&&(ile c (ï V))) (à (ã (List.length (List.take (Int.toNat c) (List.drop 0 V)))) (à (ã ((List.length (List.take (Int.toNat c) (List.drop 0 V)))+(List.length ([g])))) (à ((ile (0:Int) c)&&(ile c (ï V))) (à (ã ((List.length ((List.take (Int.toNat c) (List.drop 0 V))++([g])))+(List.length (List.take (List.length V-(Int.toNat c)) (List.drop (Int.toNat c) V))))) (ck ((i:Int)+(1:Int)) fun n6=>u (n6,((List.take (Int.toNat c) (List.drop 0 V))++([g]))++(List.take (List.length V-(Int.toNat c)) (List.drop (Int.toNat c) V)))))))) ) (k:Int)=u ((i:Int)+1,ag6 g V):=fun z=>by
   dsimp only
   rw[Wj g v G A z,du,ä (by simp[ile,ï]; omega),ä (Ò (by simp; omega)),ä (Ò (by simp; omega)),ä (by simp[ile,ï]; omega),ä (Ò (by simp; omega)),É hi (by omega),
    eD (l:=V.drop k) (by simp),ij]
  rcases dw k V.length with f|F
  ·have r:V[k]?=some V[k]:=df f
   by_cases o:V[k]<g
   ·refine .inr ⟨(k:Int)+1,⟨k+1,f,by simp,fun j x H p=>?_⟩,by omega,fun q=>?_⟩
    ·rcases dw j k with t|t
     ·exact A j x t p
     ·have:j=k:=by omega
      subst this;rw[r] at p; cases p;exact o
    ·try dsimp only
     unfold oQ;rw[Ì f,ä (by simp[ile,ilt,ï]; omega),Int.toNat_natCast,Ž r,Ñ (decide_eq_true o),Ï (by omega) (by omega)]
   ·refine .inl fun q=>?_
    try dsimp only
    unfold oQ;rw[Ì f,ä (by simp[ile,ilt,ï]; omega),Int.toNat_natCast,Ž r,Í (decide_eq_false o)]
    exact fin fun x e=>by rw[r] at e; cases e; omega
  ·refine .inl fun q=>?_
   have:k=V.length:=by omega
   subst this
   try dsimp only
   unfold oQ;rw[Ó]
   exact fin fun x e=>by simp at e
 ·try dsimp only
  unfold tK;rw[Ó,List.take_length]; rfl
section
variable {m:Ļ} {w:Way}
def t7_L0 (h:MOk m) (f:ī m.2 w) {ρ:Type} (k0:Do (Int×Int)->CK ρ):Ë (fun(v:Int×Do (Int×Int)) d=>ki w m.1.1.1 m.1.1.2 m.1.2.1 m.1.2.2.1 m.1.2.2.2.1 m.1.2.2.2.2.1 m.1.2.2.2.2.2 m.2 v.1 v.2 (fun a b=>d (a,b)) k0) ((0:Int),[])=k0 (m.1.2.2.1.map fun u=>(Ν m.2 w u.1 u.2,u.2)):=by
 have g:m.2.length<=1000:=by have:=h.n4; omega
 have k:∀x∈m.2,x.2.length<=1000:=fun y e=>by have:=h.len5 y e; omega
 have j:((((m.1.1.1,m.1.1.2),m.1.2.1,m.1.2.2.1,m.1.2.2.2.1,m.1.2.2.2.2.1,m.1.2.2.2.2.2),m.2):Ļ)=m:=rfl;have n:=h.good.nU
 refine oq m.1.2.2.1 (fun u:Int×Int=>((Ν m.2 w u.1 u.2,u.2):Int×Int)) k0 (fun i a hi ha v c l=>?_) (fun v c=>?_)<;>(try dsimp only)<;>unfold ki
 ·rw[Ì hi,Ä ha,j,SW f g k,À,ä (Ò (by simp; omega)),É hi (by omega)]
 ·rw[Ó]
def t7_L1 (h:MOk m) (f:ī m.2 w) {ρ:Type} (k0:Do JK->CK ρ):Ë (fun(v:Int×Do JK) d=>kh w m.1.1.1 m.1.1.2 m.1.2.1 m.1.2.2.1 m.1.2.2.2.1 m.1.2.2.2.2.1 m.1.2.2.2.2.2 m.2 v.1 v.2 (fun a b=>d (a,b)) k0) ((0:Int),[])=k0 (m.1.2.2.2.1.map fun l=>(Ν m.2 w l.1 l.2.1.1,l.2)):=by
 have g:m.2.length<=1000:=by have:=h.n4; omega
 have k:∀x∈m.2,x.2.length<=1000:=fun y e=>by have:=h.len5 y e; omega
 have j:((((m.1.1.1,m.1.1.2),m.1.2.1,m.1.2.2.1,m.1.2.2.2.1,m.1.2.2.2.2.1,m.1.2.2.2.2.2),m.2):Ļ)=m:=rfl;have o:=h.good.nL
 refine oq m.1.2.2.2.1 (fun l:JK=>((Ν m.2 w l.1 l.2.1.1,l.2):JK)) k0 (fun i a hi ha v c n=>?_) (fun v c=>?_)<;>(try dsimp only)<;>unfold kh
 ·rw[Ì hi,Ä ha,j,SW f g k,À,ä (Ò (by simp; omega)),É hi (by omega)]
 ·rw[Ó]
def t7_L2 (h:MOk m) (c:ī m.2 w) {ρ:Type} (k0:Do Cmp->CK ρ):Ë (fun(v:Int×Do Cmp) g=>kg w m.1.1.1 m.1.1.2 m.1.2.1 m.1.2.2.1 m.1.2.2.2.1 m.1.2.2.2.2.1 m.1.2.2.2.2.2 m.2 v.1 v.2 (fun a b=>g (a,b)) k0) ((0:Int),[])=k0 (m.1.2.2.2.2.1.map (ahY m w)):=by
 have d:m.2.length<=1000:=by have:=h.n4; omega
 have e:∀x∈m.2,x.2.length<=1000:=fun y j=>by have:=h.len5 y j; omega
 have k:((((m.1.1.1,m.1.1.2),m.1.2.1,m.1.2.2.1,m.1.2.2.2.1,m.1.2.2.2.2.1,m.1.2.2.2.2.2),m.2):Ļ)=m:=rfl;have p:=h.good.nC
 refine oq m.1.2.2.2.2.1 (ahY m w) k0 (fun i a hi ha v f o=>?_) (fun v f=>?_)<;>(try dsimp only)<;>unfold kg
 ·obtain⟨n,l⟩:=h.good.size.piles a (dk ha);rw[Ì hi,Ä ha,k,ae8 c d e _ (by omega),À,ae8 c d e _ (by omega),À,ä (Ò (by simp; omega)),É hi (by omega)];rfl
 ·rw[Ó]
def t7_L3 (h:MOk m) (f:ī m.2 w) {ρ:Type} (k0:Do (Int×Int)->CK ρ):Ë (fun(v:Int×Do (Int×Int)) d=>ke w m.1.1.1 m.1.1.2 m.1.2.1 m.1.2.2.1 m.1.2.2.2.1 m.1.2.2.2.2.1 m.1.2.2.2.2.2 m.2 v.1 v.2 (fun a b=>d (a,b)) k0) ((0:Int),[])=k0 (m.1.2.2.2.2.2.map fun n=>(Ν m.2 w n.1 n.2,n.2)):=by
 have g:m.2.length<=1000:=by have:=h.n4; omega
 have k:∀x∈m.2,x.2.length<=1000:=fun y e=>by have:=h.len5 y e; omega
 have j:((((m.1.1.1,m.1.1.2),m.1.2.1,m.1.2.2.1,m.1.2.2.2.1,m.1.2.2.2.2.1,m.1.2.2.2.2.2),m.2):Ļ)=m:=rfl;have o:=h.good.nK
 refine oq m.1.2.2.2.2.2 (fun n:Int×Int=>((Ν m.2 w n.1 n.2,n.2):Int×Int)) k0 (fun i a hi ha v c l=>?_) (fun v c=>?_)<;>(try dsimp only)<;>unfold ke
 ·rw[Ì hi,Ä ha,j,SW f g k,À,ä (Ò (by simp; omega)),É hi (by omega)]
 ·rw[Ó]
def ZY (h:MOk m) (a:ī m.2 w):π m w=some (trP m w):=by
 unfold π uZ trP;rw[t7_L0 h a,t7_L1 h a,t7_L2 h a,t7_L3 h a]
end
def al7 {a b:Do Int} (ha:a.Nodup) (hb:b.Nodup) (h:∀x,x∈a↔x∈b):a.Perm b:=by
 have st:∀l:Do Int,l.Nodup->(Υ l).Pairwise (·<·):=fun l c=>((œ l).and ((þ l).nodup_iff.2 c)).imp fun⟨p,q⟩=>Int.lt_iff_le_and_ne.2 ⟨p,q⟩
 have:=ZS (st a ha) (st b hb) fun x=>by rw[(þ a).mem_iff,(þ b).mem_iff,h]
 exact(þ a).symm.trans (this▸þ b)
section
variable {ρ:Type}
def aoz {c:Do Int->CK (Do (Do Int))} {c0:Do Int} {i:Nat} {a:Int} (ha:c0[i]?=some a) {r v1:Do (Do Int)} (h:∀y∈r,y.length<=1000) (k:v1.length+r.length<=1000000) (K:Do (Do Int)->CK ρ) :
 Ë (fun(v:Int×Do (Do Int)) g=>kS c c0 i r v.1 v.2 (fun a b=>g (a,b)) K) ((0:Int),v1)=K (v1++r.map (a::·)):=by
 refine î r (fun j=>v1++(r.take j).map (a::·)) _ (by simp) (fun j y e d f=>?_) (fun f=>?_)
 ·have:=h y (dk d)
  try dsimp only
  unfold kS;rw[Ì e,Ä ha,Ä d,ä (Ò (by simp; omega)),ä (Ò (by simp; omega)),É e (by omega),take_succ d,List.map_append,List.append_assoc]; rfl
 ·try dsimp only
  unfold kS;rw[Ó,List.take_length]
def afs:∀(n:Nat) {l y:Do Int},l.length=n->y∈vF n l->y.length=n
 |0,l,y,_,h=>by simp[vF] at h; simp[h]
 |n+1,l,y,d,h=>by
  have a:¬l.length=0:=by omega
  simp only[vF,if_neg a,dI,fu,dF] at h;obtain⟨i,hi,z,c,rfl⟩:=h;have:=afs n (l:=l.take i++l.drop (i+1)) (by simp; omega) c;simp[this]
def RU {α β:Type} {f:α->Do β} {c:Nat}:∀{l:Do α},(∀x∈l,(f x).length=c)->(l.flatMap f).length=l.length*c
 |[],_=>by simp
 |x::l,h=>by
  rw[dH,di,h x (by simp),RU fun y a=>h y (dS _ a),dr,dK,ft,Nat.add_comm]
def VD:∀(n:Nat) {l:Do Int},l.length<n->l.length<=5->qY n l=some (vF l.length l)
 |0,l,h,_=>by omega
 |n+1,l,h,u=>by
  show nN (qY n) l some=_;unfold nN
  by_cases h0:l.length=0
  ·obtain rfl:l=[]:=List.eq_nil_of_length_eq_zero h0;rw[Ñ (by rw[Î]; rfl)]; rfl
  ·obtain⟨k,o⟩:∃k,l.length=k+1:=⟨l.length-1,by omega⟩
   have t:vF l.length l=(List.range l.length).flatMap fun i=>(vF k (l.take i++l.drop (i+1))).map (l.getD i 0::·):=by
    rw[o];show(if l.length=0 then[[]] else _)=_;rw[if_neg h0,o]
   have g:=Sb (n:=k) (by omega);rw[Í (by rw[Î]; exact decide_eq_false (by omega)),t]
   have d:∀i,i<=l.length->((List.range i).flatMap fun i=>(vF k (l.take i++l.drop (i+1))).map (l.getD i 0::·)).length=i*JI k:=fun i hi=>by
    rw[RU (c:=JI k) fun j s=>by
     rw[fu] at s
     rw[dL,GP (n:=k) (by simp; omega)],fj]
   refine î l (fun i=>(List.range i).flatMap fun i=>(vF k (l.take i++l.drop (i+1))).map (l.getD i 0::·)) _ rfl (fun i a hi ha p=>?_) (fun p=>?_)
   ·have e:(l.take i++l.drop (i+1)).length=k:=by simp; omega
    have f:l.getD i 0=a:=by rw[eh,ha]; rfl
    have r:(List.range (i+1)).flatMap (fun i=>(vF k (l.take i++l.drop (i+1))).map (l.getD i 0::·))=(List.range i).flatMap (fun i=>(vF k (l.take i++l.drop (i+1))).map (l.getD i 0::·))++(vF k (l.take i++l.drop (i+1))).map (a::·):=by
     rw[fC,eV,dH,gn,dC,f]
    have v:i*JI k<=5*120:=fK (by omega) g
    try dsimp only
    unfold oi
    rw[Ì hi,ä (by simp[ile,ï]; omega),ä (Ò (by simp; omega)),É hi (by omega),ä (by simp[ile,ï]; omega),ä (Ò (by simp; omega)),du,show Int.toNat ((i:Int)+1)=i+1 by omega,eE,
     VD n (by omega) (by omega),À,e,r]
    refine(aoz ha (fun y q=>by rw[afs k e q]; omega) (by rw[d i (by omega),GP e]; omega) _).trans ?_;dsimp only;rw[É hi (by omega)]
   ·try dsimp only
    unfold oi;rw[Ó]
def sh {α β:Type} {f g:α->Do β}:∀{l:Do α},(∀a∈l,f a=g a)->l.flatMap f=l.flatMap g
 |[],_=>rfl
 |a::l,h=>by rw[dH,dH,h a (by simp),sh fun x c=>h x (by simp[c])]
def acv (all:Do Way) (ms:Do Mx):Do Way:=ms.foldl (fun all m=>all.flatMap fun w=>(vF m.2.length m.2).map fun x=>w++[x]) all
def afZ:∀(ms:Do Mx) (all:Do Way),acv all ms=all.flatMap fun w=>(υ ms).map fun v=>w++v
 |[],all=>by
  show all=all.flatMap fun w=>[w++[]];simp
 |m::ms,all=>by
  show acv (all.flatMap fun w=>(vF m.2.length m.2).map fun x=>w++[x]) ms=_;rw[afZ ms,List.flatMap_assoc];refine sh fun w _=>?_;show((vF m.2.length m.2).map fun x=>w++[x]).flatMap (fun w=>(υ ms).map fun v=>w++v)=((vF m.2.length m.2).flatMap fun x=>(υ ms).map (x::·)).map fun v=>w++v;rw[List.flatMap_map,List.map_flatMap];refine sh fun x _=>?_;rw[List.map_map];refine fk fun v _=>?_;simp
def Sn (ms:Do Mx):acv [[]] ms=υ ms:=by rw[afZ]; simp
def ahl (all:Do Way) (ms:Do Mx) (m:Mx):acv all (ms++[m])=(acv all ms).flatMap fun w=>(vF m.2.length m.2).map fun x=>w++[x]:=by unfold acv; rw[List.foldl_append]; rfl
def w7_L2 {r:Do (Do Int)} {c v1:Do Way} {k:Nat} {w:Way} (e:c[k]?=some w) (i:w.length<=1000) (l:v1.length+r.length<=1000000) (K:Do Way->CK ρ) :
 Ë (fun(v:Int×Do Way) h=>oS r k c v.1 v.2 (fun a b=>h (a,b)) K) ((0:Int),v1)=K (v1++r.map fun x=>w++[x]):=by
 have n:=(dj.1 e).1;refine î r (fun j=>v1++(r.take j).map fun x=>w++[x]) _ (by simp) (fun j y f d g=>?_) (fun g=>?_)
 ·try dsimp only
  unfold oS;rw[Ì f,ä (by simp[ile,ilt,ï]; omega),Int.toNat_natCast,Ž e,ä (Ò (by omega)),Ä d,ä (Ò (by simp; omega)),ä (Ò (by simp; omega)),É f (by omega),take_succ d,List.map_append,List.append_assoc,List.nil_append]; rfl
 ·try dsimp only
  unfold oS;rw[Ó,List.take_length]
def w7_L1 {r:Do (Do Int)} {all:Do Way} (h:∀w∈all,w.length<=1000) (j:all.length*r.length<=100000) (i:r.length<=1000) (ha:all.length<=100000) (K:Do Way->CK ρ) :
 Ë (fun(v:Int×Do Way) g=>oT r all v.1 v.2 (fun a b=>g (a,b)) K) ((0:Int),[])=K (all.flatMap fun w=>r.map fun x=>w++[x]):=by
 refine î all (fun k=>(all.take k).flatMap fun w=>r.map fun x=>w++[x]) _ (by simp) (fun k w e d f=>?_) (fun f=>?_)
 ·have l:((all.take k).flatMap fun w=>r.map fun x=>w++[x]).length=k*r.length:=by
   rw[RU (c:=r.length) fun w _=>dL ..,dt,Nat.min_eq_left (by omega)]
  have h2:k*r.length<=all.length*r.length:=dG _ (by omega)
  try dsimp only
  unfold oT;rw[Ì e];refine(w7_L2 d (h w (List.mem_of_getElem? d)) (by omega) _).trans ?_;dsimp only;rw[É e (by omega),take_succ d,List.flatMap_append];simp
 ·try dsimp only
  unfold oT;rw[Ó,List.take_length]
def akh:∀(ms:Do Mx),(acv [[]] ms).length=m8 ms:=fun ms=>by rw[Sn,Jq]
def Wi {α:Type} {key:α->Int} {x:α}:∀{A R:Do α},(∀y∈A,key y<key x)->Zh key x (A++R)=A++Zh key x R
 |[],R,_=>rfl
 |a::A,R,h=>by
  have:=h a (by simp);simp only[fq];rw[Zh,if_neg (by omega),Wi fun y c=>h y (by simp[c])]
def ajG {α:Type} {key:α->Int} {x:α} {R:Do α} (h:∀y∈R,key x<=key y):Zh key x R=x::R:=by
 cases R with
 |nil=>rfl
 |cons y R=>rw[Zh,if_pos (h y (by simp))]
def NH {α:Type} (key:α->Int) (n:Nat) (l:Do α):Do α:=(List.range n).flatMap fun k:Nat=>l.filter fun y=>decide (key y=(k:Int))
def ahP {α:Type} {key:α->Int} {n k:Nat} {x:α} (e:key x=(k:Int)) (h:k<n) (l:Do α):NH key n (x::l)=Zh key x (NH key n l):=by
 have d:List.range n=List.range k++k::(List.range (n-k-1)).map (k+1+·):=by
  rw[show n=(k+1)+(n-k-1) by omega,List.range_add,fC,dp];simp[show k+1+(n-k-1)-k-1=n-k-1 by omega]
 unfold NH;rw[d,List.flatMap_append,List.flatMap_cons,List.flatMap_append,List.flatMap_cons]
 have g:(List.range k).flatMap (fun j:Nat=>(x::l).filter fun y=>decide (key y=(j:Int)))=(List.range k).flatMap fun j:Nat=>l.filter fun y=>decide (key y=(j:Int)):=sh fun j c=>by
  rw[fu] at c;rw[fU (by simp[e]; omega)]
 have f:((List.range (n-k-1)).map (k+1+·)).flatMap (fun j:Nat=>(x::l).filter fun y=>decide (key y=(j:Int)))=((List.range (n-k-1)).map (k+1+·)).flatMap fun j:Nat=>l.filter fun y=>decide (key y=(j:Int)):=sh fun j c=>by
  obtain⟨q,_,rfl⟩:=dF.1 c;rw[fU (by simp[e]; omega)]
 rw[g,f,gy (by simp[e]),Wi fun y a=>?_,ajG fun y a=>?_]
 ·rfl
 ·rcases dl.1 a with a|a
  ·have:=of_decide_eq_true (d8.1 a).2; omega
  ·obtain⟨j,c,a⟩:=dI.1 a;obtain⟨q,_,rfl⟩:=dF.1 c;have:=of_decide_eq_true (d8.1 a).2;omega
 ·obtain⟨j,c,a⟩:=dI.1 a;rw[fu] at c;have:=of_decide_eq_true (d8.1 a).2;omega
def SL {α:Type} {key:α->Int} {n:Nat}:∀{l:Do α},(∀y∈l,0<=key y/\key y<n)->NH key n l=Ķ key l
 |[],_=>by unfold NH; simp[Ķ]
 |x::l,h=>by
  have c:=h x (by simp);rw[ahP (k:=(key x).toNat) (by omega) (by omega),SL fun y a=>h y (by simp[a])];rfl
def afV:∀n:Nat,1<=JI n
 |0=>dh _
 |n+1=>by
  have:=afV n;unfold JI;exact Nat.le_trans this (Nat.le_mul_of_pos_right _ (by omega))
def aaz:∀l:Do Mx,1<=m8 l
 |[]=>dh _
 |x::l=>by
  unfold m8;exact Nat.mul_le_mul (afV _) (aaz l)
def OU:∀(l:Do Mx) (i:Nat),m8 (l.take i)<=m8 l
 |[],i=>by simp
 |x::l,0=>aaz _
 |x::l,i+1=>by
  simp only[fW,m8];exact Nat.mul_le_mul_left _ (OU l i)
def ah8:∀{ms:Do Mx} (w:Way),(∀x∈ms,x.2.length<=5)->0<=uR ms w/\uR ms w<=5*ms.length
 |[],w,_=>by cases w<;>simp[uR]
 |m::ms,[],_=>by simp[uR]; omega
 |m::ms,l::w,h=>by
  have d:=Ou l m.2;have h2:=h m (by simp);have c:=ah8 (ms:=ms) w fun x a=>h x (by simp[a]);simp only[uR,dr];omega
variable {m:Ļ}
def w7_L4 (h:MOk m) {all:Do Way} (l:∀w∈all,ī m.2 w) (ha:all.length<=150) (k:Nat) {v1:Do Way} (r:v1.length<=1000000) (K:Do Way->CK ρ) :
 Ë (fun(v:Int×Do Way) g=>oR k m.1.1.1 m.1.1.2 m.1.2.1 m.1.2.2.1 m.1.2.2.2.1 m.1.2.2.2.2.1 m.1.2.2.2.2.2 m.2 all v.1 v.2 (fun a b=>g (a,b)) K) ((0:Int),v1)=K (v1++all.filter fun w=>decide (uR m.2 w=(k:Int))):=by
 have n:m.2.length<=1000:=by have:=h.n4; omega
 have p:∀x∈m.2,x.2.length<=1000:=fun y i=>by have:=h.len5 y i; omega
 have o:((((m.1.1.1,m.1.1.2),m.1.2.1,m.1.2.2.1,m.1.2.2.2.1,m.1.2.2.2.2.1,m.1.2.2.2.2.2),m.2):Ļ)=m:=rfl;refine î all (fun j=>v1++(all.take j).filter fun w=>decide (uR m.2 w=(k:Int))) _ (by simp) (fun j w e c f=>?_) (fun f=>?_)
 ·have q:=eI (fun w=>decide (uR m.2 w=(k:Int))) (all.take j);rw[dt] at q
  try dsimp only
  unfold oR;rw[Ì e,ä (by simp[ile,ilt,ï]; omega),Int.toNat_natCast,Ž c,o,WR (l w (List.mem_of_getElem? c)) n p,À,take_succ c,List.filter_append]
  by_cases d:uR m.2 w=(k:Int)
  ·rw[Ñ (by simp[ieq,d]),ä (by simp[ile,ilt,ï]; omega),Ž c,ä (Ò (by simp only[di,dr,dR]; omega)),É e (by omega),gy (by simp[d]),ff,dp]
  ·rw[Í (by simp[ieq,d]),É e (by omega),fU (by simp[d]),ff,dC]
 ·try dsimp only
  unfold oR;rw[Ó,List.take_length]
def anm (h:MOk m):Jc m=some (ň m.2):=by
 have y:=h.n4;have p:m8 m.2<=150:=h.prod;unfold Jc P3;refine î m.2 (fun i=>acv [[]] (m.2.take i)) _ rfl (fun i x hi c e=>?_) (fun e=>?_)
 ·have o:=h.len5 x (dk c);have s:=OU m.2 (i+1);have r:=OU m.2 i;rw[B4 c] at s;have v:=Sb (n:=x.2.length) o;have f:=GP (n:=x.2.length) (l:=x.2) rfl;have a:=akh (m.2.take i)
  try dsimp only
  unfold tN;rw[Ì hi,Ä c,show Gc x.2=some (vF x.2.length x.2) from VD 100 (by omega) o,À,take_succ c,ahl];refine(w7_L1 (fun w d=>?_) (by rw[a,f]; omega) (by omega) (by omega) _).trans ?_
  ·rw[Sn] at d;have:=(wV.1 d).len;rw[this,dt]; omega
  ·dsimp only;rw[É hi (by omega)]
 ·try dsimp only
  unfold tN;rw[Ó,List.take_length,Sn];have a:(υ m.2).length<=150:=Oj h;refine(î (List.range 21) (fun k=>NH (uR m.2) k (υ m.2)) (some (NH (uR m.2) 21 (υ m.2))) rfl (fun k j t u e=>?_) (fun e=>?_)).trans ?_
  ·rw[fj] at t
   have g:(NH (uR m.2) k (υ m.2)).length<=1000000:=by
    have:∀n:Nat,(NH (uR m.2) n (υ m.2)).length<=n*150:=fun n=>by
     induction n with
     |zero=>simp[NH]
     |succ n q =>
      unfold NH at q ⊢;rw[List.range_succ,List.flatMap_append,List.length_append,List.flatMap_cons,List.flatMap_nil,List.append_nil];have:=List.length_filter_le (fun w=>decide (uR m.2 w=(n:Int))) (υ m.2);omega
    have:=this k;omega
   try dsimp only
   unfold tM;rw[Ñ (decide_eq_true (by omega))];refine(w7_L4 h (fun w d=>wV.1 d) a k g _).trans ?_;dsimp only;rw[Ï (by omega) (by omega)];congr 2;unfold NH;rw[List.range_succ,List.flatMap_append,List.flatMap_cons,List.flatMap_nil,List.append_nil]
  ·rw[fj]
   try dsimp only
   unfold tM;rw[Í (by rfl)]
  ·rw[SL fun w _=>?_]
   ·rfl
   ·have:=ah8 (ms:=m.2) w h.len5;omega
end
def sameL {L l:Do Int} (i:L.Pairwise (·<·)):Υ l=L↔l.length=L.length/\l.Nodup/\∀x∈l,x∈L:=by
 constructor
 ·rintro rfl;have c:=þ l;exact⟨c.length_eq.symm,c.nodup_iff.1 (i.imp fun h=>Int.ne_of_lt h),fun x f=>c.mem_iff.2 f⟩
 ·rintro⟨n,h2,k⟩;have d:L.Nodup:=i.imp fun h=>Int.ne_of_lt h
  have q:∀x∈L,x∈l:=fun x f=>by
   apply Decidable.byContradiction;intro g;have p:∀y∈l,y∈L.erase x:=fun y j=>(List.Nodup.mem_erase_iff d).2 ⟨fun e=>g (e▸j),k y j⟩;have o:=fQ h2 p;rw[List.length_erase_of_mem f] at o;have:=f6 f;omega
  have c:l.Perm L:=al7 h2 d fun x=>⟨k x,q x⟩;exact gk (le:=(·<=·)) (fun a b _ _ n h2=>iA n h2) (œ _) (i.imp fun h=>Int.le_of_lt h) ((þ l).trans c)
def alJ (L l:Do Int) (k:Nat) (x:Int):Bool:=(L.findIdx? (·==x)).isNone||decide (l.findIdx? (·==x)≠some k)
def anf {L l:Do Int} (p:L.Pairwise (·<·)):(l.length=L.length/\∀(k:Nat) (x:Int),l[k]?=some x->alJ L l k x=false)↔Υ l=L:=by
 rw[sameL p];constructor
 ·rintro⟨g,h2⟩;refine⟨g,?_,fun x h=>?_⟩
  ·rw[List.nodup_iff_pairwise_ne,List.pairwise_iff_getElem];intro i j hi f o e;have a:=h2 j l[j] (List.getElem?_eq_getElem f);have d:=h2 i l[i] (List.getElem?_eq_getElem hi);unfold alJ at a d;simp only[Bool.or_eq_false_iff,decide_eq_false_iff_not,Decidable.not_not] at a d;rw[e,a.2] at d;have:=Option.some.inj d.2;omega
  ·obtain⟨k,c⟩:=List.mem_iff_getElem?.1 h;have a:=h2 k x c;unfold alJ at a;simp only[Bool.or_eq_false_iff] at a;apply Decidable.byContradiction;intro n;rw[N4 n] at a;simp at a
 ·rintro⟨g,h2,a⟩;refine⟨g,fun k x c=>?_⟩;obtain⟨j,f,_⟩:=Zk (a x (List.mem_of_getElem? c));unfold alJ;rw[f,anR h2 c];simp
section
variable {ρ:Type} {m:Ļ}
def aif {w:Way} {i:Nat} {l:Do Int} {y:Mx} (c:w[i]?=some l) (o:m.2[i]?=some y) (E:l.length<=100000) (A:y.2.length<=1000) {P:Prop} [Decidable P] (r:P↔∀(k:Nat) (x:Int),l[k]?=some x->alJ y.2 l k x=false) (k0:Bool->CK ρ) (Z:CK ρ) :
 Ë (fun(v:Int) z=>kj w i m.2 v (fun u=>z u) k0 (fun _=>Z)) 0=if P then Z else k0 false:=by
 refine õ (fun s:Int=>∃k:Nat,k<=l.length/\s=(k:Int)/\∀(j:Nat) (x:Int),j<k->l[j]?=some x->alJ y.2 l j x=false) (fun s=>l.length-s.toNat) ?_ ⟨0,d9 _,rfl,fun j x C _=>by omega⟩;rintro s ⟨k,F,rfl,p⟩;rcases dw k l.length with d|B
 ·have a:l[k]?=some l[k]:=df d
  cases hb:alJ y.2 l k l[k] with
  |true =>
   refine .inl fun n=>?_;rw[if_neg fun e=>by have:=(r.1 e) k _ a; rw[hb] at this; cases this]
   try dsimp only
   unfold kj;rw[Ä c,Ì d,Ä o,Ä c,Ä a,WV (by omega),À];unfold alJ at hb
   cases h:y.2.findIdx? (·==l[k]) with
   |none=>rfl
   |some q =>
    rw[h] at hb;simp only[Option.isNone_some,Bool.false_or,decide_eq_true_eq] at hb;dsimp only;rw[Í (by simp[ilt]),Ä c,Ä c,Ä a,WV (by omega),À]
    cases g:l.findIdx? (·==l[k]) with
    |none=>dsimp only; rw[Ñ (by simp[ine])]
    |some D =>
     rw[g] at hb;dsimp only;rw[Ñ (bne_iff_ne.2 fun e=>hb (by rw[Int.ofNat.inj e]))]
  |false =>
   refine .inr ⟨(k:Int)+1,⟨k+1,d,by simp,fun j x C f=>?_⟩,by omega,fun n=>?_⟩
   ·rcases dw j k with t|t
    ·exact p j x t f
    ·have:j=k:=by omega
     subst this;rw[a] at f; cases f;exact hb
   ·try dsimp only
    unfold kj;rw[Ä c,Ì d,Ä o,Ä c,Ä a,WV (by omega),À];unfold alJ at hb;simp only[Bool.or_eq_false_iff,decide_eq_false_iff_not,Decidable.not_not] at hb
    cases h:y.2.findIdx? (·==l[k]) with
    |none=>rw[h] at hb; simp at hb
    |some q =>
     dsimp only;rw[Í (by simp[ilt]),Ä c,Ä c,Ä a,WV (by omega),À,hb.2];dsimp only;rw[Í (by simp[ine]),Ï (by omega) (by omega)]
 ·refine .inl fun n=>?_
  have:k=l.length:=by omega
  subst this;rw[if_pos (r.2 fun j x a=>p j x (dj.1 a).1 a)]
  try dsimp only
  unfold kj;rw[Ä c,Ó]
def IK:∀{ms:Do Mx} {w:Way},jm ms w=true↔w.length=ms.length/\∀(i:Nat) (l:Do Int) (y:Mx),w[i]?=some l->ms[i]?=some y->Υ l=y.2
 |[],[]=>by simp[jm]
 |[],_::_=>by simp[jm]
 |_::_,[]=>by simp[jm]
 |a::ms,b::w=>by
  simp only[jm,dg,decide_eq_true_eq,IK (ms:=ms) (w:=w),dr];constructor
  ·rintro⟨e,h2,f⟩;refine⟨by omega,fun i l y d c=>?_⟩
   cases i with
   |zero=>simp at d c; subst d c; exact e
   |succ i=>exact f i l y (by simpa using d) (by simpa using c)
  ·rintro⟨e,h2⟩;exact⟨h2 0 b a rfl rfl,by omega,fun i l y d c=>h2 (i+1) l y (by simpa using d) (by simpa using c)⟩
def acW (h:MOk m) {w:Way} (G:∀l∈w,l.length<=100000):mc m w=some (jm m.2 w):=by
 have K:=h.n4;unfold mc Ky;rw[Î,Î]
 by_cases f:w.length=m.2.length
 case neg =>
  rw[Ñ (by simp[ine]; omega)]
  cases e:jm m.2 w with
  |false=>rfl
  |true=>exact absurd (IK.1 e).1 f
 rw[Í (by simp[ine]; omega)];have r:∀y∈m.2,y.2.Pairwise (·<·):=fun y c=>(h.mix c).asc;refine õ (fun s:Int=>∃i:Nat,i<=w.length/\s=(i:Int)/\∀(j:Nat) (l:Do Int) (y:Mx),j<i->w[j]?=some l->m.2[j]?=some y->Υ l=y.2) (fun s=>w.length-s.toNat) ?_ ⟨0,d9 _,rfl,fun j l y H _ _=>by omega⟩;rintro s ⟨i,hi,rfl,z⟩;rcases dw i w.length with d|I
 ·obtain⟨l,a⟩:∃l,w[i]?=some l:=⟨_,df d⟩;obtain⟨y,c⟩:∃y,m.2[i]?=some y:=⟨_,df (by omega)⟩;have o:=dk c;have p:=G l (dk a);have F:=h.len5 y o;have hb:=anf (l:=l) (r y o)
  have t:¬Υ l=y.2->some false=some (jm m.2 w):=fun e=>by
   cases J:jm m.2 w with
   |false=>rfl
   |true=>exact absurd ((IK.1 J).2 i l y a c) e
  by_cases q:l.length=y.2.length
  ·have B:Υ l=y.2↔∀(k:Nat) (x:Int),l[k]?=some x->alJ y.2 l k x=false:=⟨fun e=>(hb.2 e).2,fun e=>hb.1 ⟨q,e⟩⟩
   by_cases u:Υ l=y.2
   ·refine .inr ⟨(i:Int)+1,⟨i+1,d,by simp,fun j E D H n g=>?_⟩,by omega,fun v=>?_⟩
    ·rcases dw j i with C|C
     ·exact z j E D C n g
     ·have:j=i:=by omega
      subst this;rw[a] at n; rw[c] at g;cases n; cases g;exact u
    ·try dsimp only
     unfold km;rw[Ì d,Ä a,Ä c,Î,Î,Í (by simp[ine]; omega),aif a c p (by omega) B,if_pos u,Ï (by omega) (by omega)]
   ·refine .inl fun v=>?_
    try dsimp only
    unfold km;rw[Ì d,Ä a,Ä c,Î,Î,Í (by simp[ine]; omega),aif a c p (by omega) B,if_neg u];exact t u
  ·refine .inl fun v=>?_
   try dsimp only
   unfold km;rw[Ì d,Ä a,Ä c,Î,Î,Ñ (by simp[ine]; omega)];exact t fun e=>q (hb.2 e).1
 ·refine .inl fun v=>?_
  have:i=w.length:=by omega
  subst this
  try dsimp only
  unfold km;rw[Ó,IK.2 ⟨f,fun j l y A c=>z j l y (List.getElem?_eq_some_iff.1 A).1 A c⟩]
end
def agh (m:Ļ) (w:Way) (d id:Int):Int:=if ţ m w≠0 then ţ m w else mO m.1 id d
def ala {m:Ļ} (f:In m.1) (k:m.2.length<=1000) (n:∀x∈m.2,x.2.length<=1000000) {w:Way} (i:∀l∈w,l.length<=100000) (d id:Int):Co m w d id=some (agh m w d id):=by
 have o:=f.size.gauges;unfold Co Kb agh;rw[WU f.size k n,À]
 by_cases a:Ī m=0
 case neg =>
  have ha:ţ m w=Ī m:=by unfold ţ; rw[if_pos a]
  rw[Ñ (by simp[ine,a]),ha,if_pos a]
 have h:=(Ń m).1 a;rw[Í (by simp[ine,a]),acW h i,À]
 cases hi:jm m.2 w with
 |false =>
  have ha:ţ m w=1:=by unfold ţ; rw[if_neg (by simp[a]),hi]; rfl
  rw[ha]; rfl
 |true =>
  have ha:ţ m w=0:=by unfold ţ; rw[if_neg (by simp[a]),hi]; rfl
  rw[Í (by rfl),S6,À,ha,if_neg (by simp)];unfold mO
  cases hd:zn d with
  |false=>rfl
  |true =>
   rw[Í (by rfl),if_neg (by simp),CS (by omega),À];rcases qQ (b:=m.1) (id:=id) with⟨j,g,e,_,c⟩|⟨e,c⟩
   ·rw[e,c]; dsimp only; rw[Í (by simp[ilt])]; rfl
   ·rw[e,c]; rfl
def aid {m:Ļ} (D:∀g∈m.1.2.1,I64 g.2.2.2.2.1.1) (w:Way) (id d:Int):yz m w id d=some true:=by
 unfold yz xr;rw[aiv,À,agF]
 by_cases q:aal m=true
 case neg=>rw[eQ.2 q]; rfl
 have f:=aiw q D;have E:=f.n6
 have p:∀x∈m.2,x.2.length<=1000000:=fun x z=>by have:=f.l9 x z; omega
 rw[q,Í (by rfl),al8 w 8 (by omega),À]
 cases C:(decide ((w.length:Int)<=8)&&!w.any fun l=>decide (100<l.length)) with
 |false=>rfl
 |true =>
 obtain⟨A,j⟩:=aiN C
 have c:∀l∈w,l.length<=100000:=fun l r=>by have:=j l r; omega
 rw[Í (by rfl),alg f.inn (by omega),À,ahS f.inn (by omega) c,À,alf f.inn (by omega) c,À,alz f.inn (by omega) c,À,acP f.inn (by omega) c,À,WU f.inn.size (by omega) p,À]
 by_cases e:Ī m=0
 case neg =>
  have ha:ţ m w=Ī m:=by unfold ţ; rw[if_pos e]
  have a:ţ m w≠0:=by rw[ha]; exact e
  rw[if_pos e,SX,WhoP,acV,xb,if_pos a,if_pos a,if_pos a,if_pos a,ha,Ñ (by simp[ine,e]),À,ot,Ñ (by simp[ieq]),Ñ (by simp[ieq]),Ñ (by simp[ieq]),Ñ (by simp[ieq]),Ñ (by simp[ieq])];dsimp only;rw[Î,Ï (by simp) (by simp),Ï (by simp) (by simp),Ï (by simp) (by simp),Ñ (by simp[ieq])];rw[show((((0:Int),(0:Int)),[],[],[],[],[]):ö)=Gg from rfl,Same0,À]
 have h:=(Ń m).1 e;have F:=sQ h;have G:=h.n4
 have n:∀x∈m.2,x.2.length<=1000:=fun y u=>by have:=h.len5 y u; omega
 have k:mR (ň m.2) (ň m.2)=some true:=by
  rw[aeD (by omega) fun v B=>by
   have i:=vt.1 B
   exact⟨by rw[i.len]; omega,fun l r=>by have:=aie h i l r; omega⟩]
  simp
 rw[if_neg (by simp[e]),Í (by simp[ine,e]),Í (by rfl),anm h,À];dsimp only;rw[k,À,Í (by rfl),ala f.inn (by omega) p c,À,acW h c];simp only[À];have s:δ Gg (((0:Int),(0:Int)),[],[],[],[],[])=some true:=Same0
 cases hi:jm m.2 w with
 |false =>
  have ha:ţ m w=1:=by unfold ţ; rw[if_neg (by simp[e]),hi]; rfl
  have a:ţ m w≠0:=by rw[ha]; simp
  rw[agh,SX,WhoP,acV,xb,if_pos a,if_pos a,if_pos a,if_pos a,if_pos a,ha];dsimp only;rw[s];rfl
 |true =>
  have ha:ţ m w=0:=by unfold ţ; rw[if_neg (by simp[e]),hi]; rfl
  have a:¬ţ m w≠0:=by rw[ha]; simp
  have i:=(sw.1 ha).2;have t:=xf h i;rw[agh,SX,WhoP,acV,xb,if_neg a,if_neg a,if_neg a,if_neg a,if_neg a,WR i (by omega) n,ZY h i,SW i (by omega) n,alA i (by omega) n];simp only[À]
  by_cases o:mO m.1 id d=0
  ·rw[if_neg (by simp[o]),if_neg (by simp[o]),o];dsimp only;rw[SZ t.size];simp[ó,ine,ieq]
  ·rw[if_pos o,if_pos o];dsimp only;rw[SZ t.size];simp[ó,ine,ieq,o]
end Go.Proofs.ZzM
end
