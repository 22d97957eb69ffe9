/- lemmas -/
import Derived.Test.YtiochmbenflhhaaGreatPlB
import Derived.Test.YtiochmbenflhhaaGreatPlA
import Derived.Test.YtiochmbenflhhaaGreatMdTA
set_option linter.all false
set_option linter.unusedSectionVars false
set_option linter.unusedVariables false
set_option linter.unusedSimpArgs false
noncomputable section
namespace Go.Proofs.ZzM
open Go Go.Am
def XH {n d:Int} (hd:0<d) (hn:n.natAbs≤2147483647) (hd2:d≤2147483647):ru n d=some (oJ n d,0):=by
 obtain⟨g,h0,hg,h1,h2⟩:=BC (n:=n) hd;have hr:=(kL _).1 (XY hd hn hd2)
 have z:Ě d 0=false:=by simp[Ě]; omega
 have zg:Ě (g:Int) 0=false:=by simp[Ě]; omega
 unfold ru EQ
 by_cases hn0:n=0
 ·subst hn0
  have e:oJ 0 d=(0,1):=by
   unfold oJ
   have:(Nat.gcd (0:Int).natAbs d.natAbs:Int)=d:=by simp; omega
   rw[this,Int.ediv_self (by omega)];simp
  rw[Ð (by rfl),Ð z,Ò (by simp) (by simp),Ð z,Int.tdiv_self (by omega),Ò (by omega) (by omega),Int.zero_tdiv,e];rfl
 ·rw[Õ (by simpa[ine] using hn0),Ð z];have a0:(Int.tmod n d).natAbs=n.natAbs % d.natAbs:=ik n d;have hlt:=gU n.natAbs (show 0<d.natAbs by omega);rw[aoC ⟨by omega,by omega⟩,À]
  have ed:d=((d.natAbs:Nat):Int):=by omega
  have eg:B9 ((Int.tmod n d).natAbs:Int) d=some (g:Int):=by
   have:=aoA (Int.tmod n d).natAbs d.natAbs;rw[←ed] at this;rw[this,a0,hg];congr 2;rw[il n.natAbs,Nat.gcd_rec d.natAbs n.natAbs]
  rw[eg,À,Ð zg]
  have q1:Int.tdiv n (g:Int)=(oJ n d).1:=by
   conv=>lhs; rw[h1]
   exact gL _ (by omega)
  have q2:Int.tdiv d (g:Int)=(oJ n d).2:=by
   conv=>lhs; rw[h2]
   exact gL _ (by omega)
  rw[q1,q2,Ò (by omega) (by omega),Ð zg,Ò (by omega) (by omega),Ð (by simp[igt]; omega),Ð (by simp[ilt]; omega),Ð (by simp[igt]; omega)]
def asq {x y:Int×Int} (hx:rO x 1000 100) (hy:rO y 1000 100):O3 x y=some (subP x y,0):=by
 obtain⟨b1,b2,b3⟩:=JR hx hy;have h1:=nI hx.num (show -100≤y.2∧y.2≤100 from⟨by have:=hy.pos; omega,hy.den⟩);have h2:=nI hy.num (show -100≤x.2∧x.2≤100 from⟨by have:=hx.pos; omega,hx.den⟩);have h3:=hy.num;unfold O3 Zl aa6 Zn aa7 Zu;rw[Ò (by omega) (by omega),À];dsimp only
 have e:(0-y.1)*x.2 = -(y.1*x.2):=by rw[Int.zero_sub,Int.neg_mul]
 rw[Ò (by omega) (by omega),e,Ò (by omega) (by omega),Ò (by omega) (by omega),Ò (by omega) (by omega)]
 have e2:x.1*y.2 + -(y.1*x.2)=x.1*y.2-y.1*x.2:=by omega
 rw[e2,XH b2 (by omega) (by omega),À,À];rfl
def aoy {k:Int×Int} (hk:rO k 200000 10000) {n:Int} (hn : -10000≤n∧n≤10000):xy (n,1) k=some (Gz k n,0):=by
 have b:=J6 hk hn;have p:=hk.pos;have q:=hk.den;unfold xy Zo;have e:n*k.1=k.1*n:=Int.mul_comm _ _;dsimp only;rw[e,Int.one_mul,Ò (by omega) (by omega),Ò (by omega) (by omega),XH (by omega) (by omega) (by omega),À];rfl
def aox {k:Int×Int} (hk:rO k 200000 10000) {heat:Int×Int} (hh:ku heat (-10000) 10000=true):B8 ((heat.1,1),(heat.2,1)) k=some (Yh k heat,0):=by
 simp only[ku,Bool.and_eq_true,decide_eq_true_eq] at hh;have hp:=hk.pos;rw[aj8 (by omega) hh.2.1];unfold B8 Ku Jc QM;dsimp only;rw[aoy hk ⟨by omega,by omega⟩,aoy hk ⟨by omega,by omega⟩]
 by_cases hn:k.1<0
 ·rw[Õ (by simpa[ilt] using hn),if_pos hn];rfl
 ·rw[Ð (by simpa[ilt] using hn),if_neg hn];rfl
def aou {r:Int×Int} (h:Mh r=true):Ca r=some (r.1 / r.2):=by
 have:=(kL r).1 h;have e:=aa3 (n:=r.1) (d:=r.2) (by omega) (by omega);unfold vO Ih at e;unfold Ca Kw SN QK;rw[e];rfl
def aqH {r:Int×Int} (h:Mh r=true):Jd r=some (LW r):=by
 have hr:=(kL r).1 h;unfold Jd QO ahC agL
 have z:Ě r.2 0=false:=by simp[Ě]; omega
 have t:=Int.mul_tdiv_add_tmod r.1 r.2
 have b1 : -4000000000≤Int.tdiv r.1 r.2∧Int.tdiv r.1 r.2≤4000000000:=by
  have:=Int.natAbs_tdiv_le_natAbs r.1 r.2;omega
 have h5 : -r.2<Int.tmod r.1 r.2∧Int.tmod r.1 r.2<r.2:=by
  have h6:=ik r.1 r.2;have h7:=gU r.1.natAbs (show 0<r.2.natAbs by omega);omega
 rw[Ð z,Ò (by omega) (by omega),Ð z,ĥ];unfold LW
 by_cases hp:0<Int.tmod r.1 r.2
 ·rw[if_pos (by simpa[igt] using hp),Ò (by omega) (by omega),À];congr 1
  have : -r.1 / r.2 = -(Int.tdiv r.1 r.2)-1:=by
   refine(gB (by omega)).2 ⟨?_,?_⟩
   ·rw[Int.sub_mul,Int.neg_mul,fZ (Int.tdiv r.1 r.2)]; omega
   ·rw[Int.sub_mul,Int.neg_mul,fZ (Int.tdiv r.1 r.2)]; omega
  omega
 ·rw[if_neg (by simpa[igt] using hp),À];congr 1
  have : -r.1 / r.2 = -(Int.tdiv r.1 r.2):=by
   refine(gB (by omega)).2 ⟨?_,?_⟩
   ·rw[Int.neg_mul,fZ (Int.tdiv r.1 r.2)]; omega
   ·rw[Int.neg_mul,fZ (Int.tdiv r.1 r.2)]; omega
  omega
structure asy (b:ß) (c:Cmp):Prop where
 ok:aic b c
 ids:b.2.1.Pairwise fun a b=>a.1<b.1
 pile:∀x∈c.2.2.1++c.2.2.2.1,∃g,ŷ b x=some g
def Ğ.cmpIn {b:ß} (h:Ğ b) {c:Cmp} (hc:c∈b.2.2.2.2.1):asy b c:=⟨h.cmp hc,h.ids,fun x hx=>by obtain⟨⟨g,hg,_⟩,_⟩:=h.pile hc hx; exact⟨g,hg⟩⟩
def aic.ne {b:ß} {c:Cmp} (h:aic b c):∀x∈c.2.2.1++c.2.2.2.1,x≠0:=by
 intro x hx;have hn:=(η c).1 h.nums;have h1:=((yV _).1 hn.2.2.2.2.2.1).1;have h2:=((yV _).1 hn.2.2.2.2.2.2).1;rcases dk.1 hx with hx|hx
 ·have:=h1 x hx; omega
 ·have:=h2 x hx; omega
def afN {b:ß} (hs:Η b) (hi:b.2.1.Pairwise fun a b=>a.1<b.1) {p q:List Int} (hx:∀x∈p,x≠0∧∃g,ŷ b x=some g):vG b (Nl p q)=some (Gc (iX b) (é p q)):=by
 have h1:=hs.gauges;unfold vG Kg
 cases hl:é p q with
 |nil =>
  have:Nl p q=0:=by unfold Nl; rw[hl]; rfl
  rw[this];rfl
 |cons x t =>
  have e:Nl p q=x:=by unfold Nl; rw[hl]; rfl
  have hm:x∈p:=(kD.1 (show x∈é p q by rw[hl]; simp)).1;obtain⟨h0,g,hg⟩:=hx x hm;rw[e,Ð (by simpa[ieq] using h0),O7 (by omega),À];rcases BZ (b:=b) (id:=x) with⟨j,g',h2,h3,h4⟩|⟨h2,h3⟩
  ·rw[h2]
   try dsimp only
   rw[Ç h3];unfold Gc;dsimp only;rw[BI hi,h4]
  ·rw[h3] at hg; cases hg
def alh {b:ß} (hs:Η b) {c:Cmp} (h:asy b c):xw b c=some (ń b c):=by
 have hn:=(η c).1 h.ok.nums;have ha:=Ļ hn.2.2.2.2.2.1;have hb:=Ļ hn.2.2.2.2.2.2;have hA:∀x∈c.2.2.1,x≠0∧∃g,ŷ b x=some g:=fun x hx=>⟨h.ok.ne x (by simp[hx]),h.pile x (by simp[hx])⟩;have hB:∀x∈c.2.2.2.1,x≠0∧∃g,ŷ b x=some g:=fun x hx=>⟨h.ok.ne x (by simp[hx]),h.pile x (by simp[hx])⟩;unfold xw EO;rw[L8 (by omega) (by omega),À,afN hs h.ids hA,À,L8 (by omega) (by omega),À,afN hs h.ids hB,À,asq h.ok.r1 h.ok.r2,À]
 try dsimp only
 rw[aox (heat:=c.2.2.2.2.2.2) (Pd h.ok.r1 h.ok.r2) hn.2.2.2.2.1,À];rfl
def aoB {b:ß} {c:Cmp} (hA:c.2.2.1.length≤1000) (hB:c.2.2.2.1.length≤1000) (h1:0≤b.1.1) (h2:b.1.1≤1000000) (h3:0≤b.1.2) (h4:b.1.2≤1000000):B6 b c=some (km b c):=by
 unfold B6 Ko km
 have e:∀n:Nat,BV 0 ((n:Int)-1)=((n-1:Nat):Int):=by
  intro n;unfold BV
  split<;>omega
 have bd:∀(n:Nat) (x:Int),n≤1000→0≤x→x≤1000000→0≤((n-1:Nat):Int)*x∧((n-1:Nat):Int)*x≤1000000000:=by
  intro n x hn h0 hx;refine⟨fG (by omega) h0,?_⟩;have:=fj (show((n-1:Nat):Int)≤1000 by omega) hx h0 (by omega);omega
 have b1:=bd _ _ hA h1 h2;have b2:=bd _ _ hA h3 h4;have b3:=bd _ _ hB h1 h2;have b4:=bd _ _ hB h3 h4;simp only[Û];rw[Ò (by omega) (by omega),Ò (by omega) (by omega)];simp only[e];rw[Ò (by omega) (by omega),Ò (by omega) (by omega),Ò (by omega) (by omega),Ò (by omega) (by omega),Ò (by omega) (by omega),Ò (by omega) (by omega)]
def aqK {b:ß} (hs:Η b) (hf:0≤b.1.1∧b.1.1≤b.1.2∧b.1.2≤1000000) {c:Cmp} (h:asy b c):vH b c=some (ζ b c):=by
 have hn:=(η c).1 h.ok.nums;have ha:=Ļ hn.2.2.2.2.2.1;have hb:=Ļ hn.2.2.2.2.2.2;obtain⟨q1,q2,b1,b2,b3⟩:=yQ hf h.ok;have c1:=Cm q1;have c2:=xq q2;have fb:=xu (b:=b) (c:=c) (by omega) (by omega) (by omega) (by omega) (by omega) (by omega);have hd:=hn.2.2.1;unfold vH Qf ζ;rw[alh hs h,À,aoB (by omega) (by omega) (by omega) (by omega) (by omega) (by omega),À,aou q2.rat,aqH q1.rat];simp only[À];rw[Ò (by omega) (by omega),Ò (by omega) (by omega),Ò (by omega) (by omega),Ò (by omega) (by omega),Ò (by omega) (by omega),Ò (by omega) (by omega)]
section
variable {b:ß}
def aqL (h:Ğ b) {id:Int} {g:ì} (hg:ŷ b id=some g) {f t:Int} (hf:0≤f∧f≤100000) (ht:t≤100000):vI b id f t=some (jq b g f t):=by
 have hG:=h.nG;have hU:=h.nU;have hL:=h.nL;obtain⟨hgm,hid⟩:=td hg;unfold vI Qm;rw[O7 (by omega),À];rcases BZ (b:=b) (id:=id) with⟨j,g',h2,h3,h4⟩|⟨h2,h3⟩
 ·rw[h2]
  have:g'=g:=by rw[hg] at h4; exact(Option.some.inj h4).symm
  subst this
  try dsimp only
  rw[Ç h3];refine Ĭ (fun x:Int×Int=>f≤x.2∧(x.2≤t∨x.2=f)∧x.1=jq b g' f x.2) (fun x=>(t-x.2).toNat) ?_ ⟨dR _,.inr rfl,(A0 g' (dR _)).symm⟩;rintro⟨s,d⟩ ⟨hfd,hdt,hs⟩;simp only at hfd hdt hs;subst hs
  by_cases hd:d<t
  ·refine .inr ⟨(jq b g' f (d+1),d+1),⟨by simp only; omega,.inl (by simp only; omega),rfl⟩,by simp only; omega,fun kn=>?_⟩;have e:=Sl h g' hfd;have lb:=lh h hgm (f:=f) (t:=d) hf.1;have lb2:=lh h hgm (f:=f) (t:=d+1) hf.1;unfold sj;rw[Õ (by simpa[ilt] using hd),ajM (b:=((b.1.1,b.1.2),b.2.1,b.2.2.1,b.2.2.2.1,b.2.2.2.2.1,b.2.2.2.2.2)) (by simp only; omega),À];have e1:mz ((b.1.1,b.1.2),b.2.1,b.2.2.1,b.2.2.2.1,b.2.2.2.2.1,b.2.2.2.2.2) id d=mz b id d:=rfl;rw[e1];unfold ahJ at e;rw[hid] at e
   cases ha:mz b id d with
   |some l =>
    rw[ha] at e;simp only at e;rw[Õ rfl]
    try dsimp only
    rw[←e,Ò (by omega) (by omega),Ò (by omega) (by omega)]
   |none =>
    rw[ha] at e;simp only at e;rw[Ð rfl,aqJ (b:=((b.1.1,b.1.2),b.2.1,b.2.2.1,b.2.2.2.1,b.2.2.2.2.1,b.2.2.2.2.2)) (by simp only; omega),À];have e2:Nc ((b.1.1,b.1.2),b.2.1,b.2.2.1,b.2.2.2.1,b.2.2.2.2.1,b.2.2.2.2.2) id d=Nc b id d:=rfl;rw[e2]
    cases hu:Nc b id d with
    |true =>
     rw[hu,if_pos rfl] at e;rw[Õ rfl]
     try dsimp only
     rw[←e,Ò (by omega) (by omega),Ò (by omega) (by omega)]
    |false =>
     rw[hu,if_neg (by simp)] at e;rw[Ð rfl,Ò (by omega) (by omega),e,gn]
  ·refine .inl fun kn=>?_;unfold sj;rw[Ð (by simpa[ilt] using hd)]
   have:jq b g' f d=jq b g' f t:=by
    rcases gT t f with hlt|hge
    ·have:d=f:=by omega
     rw[this,A0 g' (dR _),A0 g' (by omega)]
    ·have:d=t:=by omega
     rw[this]
   rw[this]
 ·rw[h3] at hg; cases hg
end
def JK {b:ß} (h:Pre b) (n:Int×Int):ŕ b n=some (yr b n.1 n.2):=by
 have hl:=J5 h.size;unfold ŕ Km;rw[JJ h,À];refine Eq.trans (iK (Í b) (fun m=>decide (n.1=m.1)&&decide (n.2=m.2)) (fun z=>some (z+1)) (some 0) (fun i a hi ha kn=>?_) (fun kn=>?_)) ?_
 ·try dsimp only
  unfold pD;rw[Ñ hi,Ç ha,Ê hi (by omega),Ê hi (by omega),ĥ,Bool.and_true]
  have e:(Ě a.1 n.1&&Ě a.2 n.2)=(decide (n.1=a.1)&&decide (n.2=a.2)):=by
   rw[dX];simp only[Ě,dh,decide_eq_true_eq];exact and_congr eq_comm eq_comm
  rw[e]
 ·try dsimp only
  unfold pD;rw[Ü]
 ·unfold yr jz
  cases List.findIdx? (fun m=>decide (n.1=m.1)&&decide (n.2=m.2)) (Í b)<;>rfl
def am5 {b:ß} (h:Pre b) (p q:List Int) (d:Int):yr b (Nl p q) d=atP (Í b) (é p q) d:=by
 unfold yr atP Nl
 cases hl:é p q with
 |nil =>
  simp only[List.head?_nil,Option.getD_none]
  have:jz (Í b) 0 d=none:=by
   unfold jz;rw[List.findIdx?_eq_none_iff];intro n hn;obtain⟨g,hg,hn⟩:=List.mem_flatMap.1 hn;obtain⟨e,_,rfl⟩:=List.mem_map.1 hn;have:=((vD g).1 (h.gauge g hg)).2.2.2.1
   have:¬((0:Int)=g.1):=by omega
   simp[this]
  rw[this]
 |cons x t=>rfl
section
variable {b:ß}
def apx {k:Nat} (hk:k<(Í b).length):∃(i:Nat) (g:ì) (j:Nat) (d:Int),b.2.1[i]?=some g∧(ã b g)[j]?=some d∧k=off b i+j∧(Í b)[k]?=some (g.1,d):=by
 obtain⟨i,g,j,h1,h2,h3⟩:=aiS (b:=b) b.2.1.length (dg _) k (by rw[amn]; exact hk);have hd:(ã b g)[j]?=some (ã b g)[j]:=df h2;exact⟨i,g,j,_,h1,hd,h3,by rw[h3]; exact OK h1 hd⟩
def aj2 (h:Ğ b) {i j:Nat} {g g':ì} (hi:b.2.1[i]?=some g) (hj:b.2.1[j]?=some g') (he:g.1=g'.1):i=j∧g=g':=by
 obtain⟨h1,rfl⟩:=dj.1 hi;obtain⟨h2,rfl⟩:=dj.1 hj;have hp:=dS.1 h.ids;rcases Nat.lt_trichotomy i j with hlt|rfl|hlt
 ·have:=hp i j h1 h2 hlt; omega
 ·exact⟨rfl,rfl⟩
 ·have:=hp j i h2 h1 hlt; omega
def rn (b:ß) (i:Nat) (g:ì) (k:Nat):List Lk :=
 if k≤off b i then[] else[(0,(off b i:Int)+1,g.2.2.1+g.2.2.2.1.2),((off b i:Int)+1,0,-(g.2.2.1+g.2.2.2.1.1))] ++
  (List.range (min (k-off b i-1) ((ã b g).length-1))).flatMap fun(k:Nat)=>[((off b i:Int)+1+k,(off b i:Int)+1+k+1,0),((off b i:Int)+1+k+1,(off b i:Int)+1+k,jq b g ((ã b g)[k]?.getD 0) ((ã b g)[k+1]?.getD 0))]
def je (b:ß) (i:Nat) (g:ì) (k:Nat):List (Int×Int) :=
 if k≤off b i then[] else[(1,(i:Int)),(1,(i:Int))]++(List.range (min (k-off b i-1) ((ã b g).length-1))).flatMap fun _=>[(2,(i:Int)),(2,(i:Int))]
def akA (h:Ğ b) {i:Nat} {g:ì} (hg:b.2.1[i]?=some g):rn b i g (Í b).length=ú b g∧je b i g (Í b).length=ö b i g:=by
 have ho:=amm h hg;have hp:=gy (kS (b:=b) g)
 have e:min ((Í b).length-off b i-1) ((ã b g).length-1)=(ã b g).length-1:=by omega
 unfold rn je ú ö;rw[if_neg (by omega),if_neg (by omega),e,ajD h hg];exact⟨rfl,rfl⟩
def ae4 {i:Nat} {g:ì} {k:Nat} (hk:k<off b i∨off b i+(ã b g).length≤k) (hp:0<(ã b g).length):rn b i g (k+1)=rn b i g k∧je b i g (k+1)=je b i g k:=by
 unfold rn je;rcases hk with hk|hk
 ·rw[if_pos (by omega),if_pos (by omega),if_pos (by omega),if_pos (by omega)];exact⟨rfl,rfl⟩
 ·have e:min (k+1-off b i-1) ((ã b g).length-1)=min (k-off b i-1) ((ã b g).length-1):=by omega
  rw[if_neg (by omega),if_neg (by omega),if_neg (by omega),if_neg (by omega),e];exact⟨rfl,rfl⟩
def ae5 {i:Nat} {g:ì}:rn b i g (off b i+1)=rn b i g (off b i)++[(0,(off b i:Int)+1,g.2.2.1+g.2.2.2.1.2),((off b i:Int)+1,0,-(g.2.2.1+g.2.2.2.1.1))]∧je b i g (off b i+1)=je b i g (off b i)++[(1,(i:Int)),(1,(i:Int))]:=by
 unfold rn je;rw[if_neg (by omega),if_pos (Nat.le_refl _),if_neg (by omega),if_pos (Nat.le_refl _),show off b i+1-off b i-1=0 by omega,Nat.zero_min];exact⟨by simp,by simp⟩
def ahz {i:Nat} {g:ì} {j:Nat} (hj:j+1<(ã b g).length):rn b i g (off b i+(j+1)+1)=rn b i g (off b i+(j+1))++[((off b i:Int)+1+j,(off b i:Int)+1+j+1,0),((off b i:Int)+1+j+1,(off b i:Int)+1+j,jq b g ((ã b g)[j]?.getD 0) ((ã b g)[j+1]?.getD 0))] ∧
 je b i g (off b i+(j+1)+1)=je b i g (off b i+(j+1))++[(2,(i:Int)),(2,(i:Int))]:=by
 unfold rn je;rw[if_neg (by omega),if_neg (by omega),if_neg (by omega),if_neg (by omega),show min (off b i+(j+1)+1-off b i-1) ((ã b g).length-1)=j+1 by omega,show min (off b i+(j+1)-off b i-1) ((ã b g).length-1)=j by omega,ur,ur];exact⟨by simp,by simp⟩
def akz (i:Nat) (g:ì) (k:Nat) (hd:(ã b g).length≤59):(rn b i g k).length≤120∧(je b i g k).length≤120:=by
 unfold rn je;constructor
 ·split
  ·simp
  ·rw[di,Ž _ _ (fun _=>rfl)];simp only[dn,dH]; omega
 ·split
  ·simp
  ·rw[di,Ž _ _ (fun _=>rfl)];simp only[dn,dH]; omega
set_option maxHeartbeats 1000000 in
def alI (h:Ğ b) {i:Nat} {g:ì} (hg:b.2.1[i]?=some g) {L:List Lk} {S:List (Int×Int)} (hL:L.length≤100000) (hS:S.length≤100000) (K:List Lk×List (Int×Int)→Option (List Lk×List (Int×Int))) :
 É (fun(v21:Int×List Lk×List (Int×Int)) kk25=>qE (Í b) (i:Int) b.1.1 b.1.2 b.2.1 b.2.2.1 b.2.2.2.1 b.2.2.2.2.1 b.2.2.2.2.2 g.1 g.2.1 g.2.2.1 g.2.2.2.1.1 g.2.2.2.1.2 v21.1 v21.2.1 v21.2.2 (fun u22 u23 u24=>kk25 (u22,u23,u24)) K) ((0:Int),L,S)=K (L++ú b g,S++ö b i g):=by
 have hN:=h.nodes;have hgm:=dl hg;have hdl:=Jr h hgm;have hp:=gy (kS (b:=b) g);have hr:=h.gaugeR hgm;have r1:=hr.2.2.2.2.2.1;have r2:=hr.2.2.2.2.2.2.1;obtain⟨tl,htl⟩:=S0 h hgm;refine ë (Í b) (fun k=>(L++rn b i g k,S++je b i g k)) _ (by simp[rn,je]) (fun k n hk hn kn=>?_) (fun kn=>?_)
 ·try dsimp only
  unfold qE;have gl:=akz (b:=b) i g k hdl;rw[Ñ hk,Ç hn];obtain⟨i',g',j,d,h1,h2,h3,h4⟩:=apx hk
  have hnd:n=(g'.1,d):=by rw[hn] at h4; exact Option.some.inj h4
  by_cases hsame:n.1=g.1
  ·obtain⟨hi',hgg⟩:=aj2 h h1 hg (by rw[hnd] at hsame; exact hsame);subst hgg;have hin:i'=i:=hi';rw[hin] at h3 h1;rw[Ð (by simp[ine,hsame]),Ç hn]
   have hdn:n.2=d:=by rw[hnd]
   rw[hdn]
   cases j with
   |zero =>
    have hdd:d=g'.2.1:=by rw[htl] at h2; simpa using h2.symm
    have hk0:k=off b i:=by omega
    rw[Õ (by simp[ieq,hdd])];obtain⟨e1,e2⟩:=ae5 (b:=b) (i:=i) (g:=g');rw[←hk0] at e1 e2;rw[Ê hk (by omega),Ò (by omega) (by omega),Ê hk (by omega),Ò (by omega) (by omega),Ò (by omega) (by omega),Ô (by simp only[di,dn,dH]; omega),Am.iff_true,Ô (by simp only[di,dn,dH]; omega),Am.iff_true,Ê hk (by omega),e1,e2]
    have e3:0-g'.2.2.1-g'.2.2.2.1.1 = -(g'.2.2.1+g'.2.2.2.1.1):=by omega
    rw[e3];simp only[dF]
   |succ j =>
    have hjl:=(dj.1 h2).1
    have hdd:d≠g'.2.1:=by
     have hp1:=xG b g';rw[htl] at h2 hp1;rw[List.getElem?_cons_succ] at h2;have:=(dQ.1 hp1).1 d (dl h2);omega
    rw[Ð (by simpa[ieq] using hdd)]
    have hprev:(ã b g')[j]?=some ((ã b g')[j]?.getD 0):=by rw[df (by omega)]; rfl
    have hd':d=(ã b g')[j+1]?.getD 0:=by rw[h2]; rfl
    have hpn:=OK h1 hprev;have d1:=h.day hgm (dl hprev);have d2:=h.day hgm (dl h2);have hk0:k=off b i+(j+1):=h3;obtain⟨e1,e2⟩:=ahz (b:=b) (i:=i) (g:=g') hjl;rw[←hk0] at e1 e2
    have hkm:((k:Int)-1)=((off b i+j:Nat):Int):=by omega
    have lb:=lh h hgm (t:=d) d1.2.1;rw[LU (by omega) (by omega),hkm,Ç hpn,Ç hn,hdn]
    try dsimp only
    rw[show vI ((b.1.1,b.1.2),b.2.1,b.2.2.1,b.2.2.2.1,b.2.2.2.2.1,b.2.2.2.2.2) g'.1 ((ã b g')[j]?.getD 0) d=vI b g'.1 ((ã b g')[j]?.getD 0) d from rfl,aqL h (xo h.ids hgm) ⟨by omega,by omega⟩ (by omega),À,Ê hk (by omega),Ê hk (by omega),Ô (by simp only[di,dn,dH]; omega),Am.iff_true,Ô (by simp only[di,dn,dH]; omega),Am.iff_true,Ê hk (by omega),e1,e2,←hd']
    have e3:(off b i:Int)+1+(j:Int)=(k:Int):=by omega
    rw[e3];simp only[dF]
  ·rw[Õ (by simp[ine,hsame]),Ê hk (by omega)]
   have hout:k<off b i∨off b i+(ã b g).length≤k:=by
    rcases dG k (off b i) with hlt|hge
    ·exact .inl hlt
    ·rcases dG k (off b i+(ã b g).length) with hlt2|hge2
     ·have:=OK hg (k:=k-off b i) (df (by omega));rw[show off b i+(k-off b i)=k by omega,hn] at this;exact absurd (by rw[Option.some.inj this]) hsame
     ·exact .inr hge2
   obtain⟨e1,e2⟩:=ae4 hout hp;rw[e1,e2]
 ·try dsimp only
  unfold qE;rw[Ü];obtain⟨e1,e2⟩:=akA h hg;rw[e1,e2]
end
def afc {α β:Type} {e:Nat→α→Option β}:∀{l:List α} {k i:Nat} {a:α} {b:β},(∀j c,j<i→l[j]?=some c→e (k+j) c=none)→l[i]?=some a→e (k+i) a=some b→Ħ e k l=some b
 |[],_,_,_,_,_,ha,_=>by simp at ha
 |c::t,k,0,a,b,_,ha,hb=>by
  simp only[List.getElem?_cons_zero,Option.some.injEq] at ha;subst ha;unfold Ħ;rw[Nat.add_zero] at hb;rw[hb]
 |c::t,k,i+1,a,b,h,ha,hb=>by
  unfold Ħ;have h0:=h 0 c (by omega) rfl;rw[Nat.add_zero] at h0;rw[h0];refine afc (i:=i) (fun j d hj hd=>?_) (by simpa using ha) (by rw[←hb]; congr 1; omega);have:=h (j+1) d (by omega) (by simpa using hd);rw[←this];congr 1;omega
def FR {ρ α β:Type} (l:List α) (e:Nat→α→Option β) (k0:β→Option ρ) (k1:Option ρ) {f:Int→(Int→Option ρ)→Option ρ}
 (h:∀(i:Nat) (a:α),i<l.length→l[i]?=some a→∀kn,f i kn=match e i a with|some b=>k0 b|none=>kn ((i:Int)+1))
 (hn:(∀j a,l[j]?=some a→e j a=none)→∀kn,f l.length kn=k1):É f 0=match Ħ e 0 l with|some b=>k0 b|none=>k1:=by
 refine Ĭ (fun x:Int=>∃i:Nat,i≤l.length∧x=i∧∀j a,j<i→l[j]?=some a→e j a=none) (fun x=>l.length-x.toNat) ?_ ⟨0,by omega,rfl,fun j a hj=>by omega⟩;rintro x ⟨i,hi,rfl,hp⟩;rcases dG i l.length with hlt|hge
 ·have ha:l[i]?=some l[i]:=df hlt
  cases hc:e i l[i] with
  |some b =>
   refine .inl fun kn=>?_;rw[h i _ hlt ha,hc,afc (k:=0) (b:=b) (fun j c hj hc=>by rw[dC]; exact hp j c hj hc) ha (by rw[dC]; exact hc)]
  |none =>
   refine .inr ⟨((i+1:Nat):Int),⟨i+1,hlt,rfl,fun j a hj hja=>?_⟩,by simp only[dE]; omega,fun kn=>?_⟩
   ·rcases dG j i with h1|h1
    ·exact hp j a h1 hja
    ·have:j=i:=by omega
     subst this;rw[ha] at hja;rw[←Option.some.inj hja]; exact hc
   ·rw[h i _ hlt ha,hc];simp
 ·have:i=l.length:=by omega
  subst this;refine .inl fun kn=>?_;have hall:∀j a,l[j]?=some a→e j a=none:=fun j a hja=>hp j a (dj.1 hja).1 hja;rw[hn hall kn,jf.2 fun j a hja=>by rw[dC]; exact hall j a hja]
def afi {e:Int}:ajf e=none↔e=0:=by
 unfold ajf
 split<;>simp_all
section
variable {b:ß}
def Xk (h:Ğ b):∀i,((b.2.1.take i).flatMap (ú b)).length≤1440∧(((b.2.1.take i).mapIdx (ö b)).flatten).length≤1440:=by
 have hG:=h.nG
 have gl:∀g∈b.2.1,(ú b g).length≤120∧∀i,(ö b i g).length≤120:=by
  intro g hg;have:=Jr h hg;constructor
  ·unfold ú;rw[List.length_append,Ž _ _ (fun _=>rfl)];simp only[List.length_cons,List.length_nil]; omega
  ·intro i;unfold ö;rw[List.length_append,Ž _ _ (fun _=>rfl)];simp only[List.length_cons,List.length_nil]; omega
 have key:∀i,i≤b.2.1.length→((b.2.1.take i).flatMap (ú b)).length≤i*120∧(((b.2.1.take i).mapIdx (ö b)).flatten).length≤i*120:=by
  intro i
  induction i with
  |zero=>intro _; simp
  |succ i ih =>
   intro hi;have ih:=ih (by omega);have hg:b.2.1[i]?=some b.2.1[i]:=df hi;have h2:=gl _ (dl hg);have h3:=h2.2 i;rw[i6 _ hg,take_succ hg,ft,fU,di,di];simp only[ez,gZ,dU,gC,gH];omega
 intro i;rcases dG b.2.1.length i with h1|h1
 ·rw[eA (by omega)];have:=key b.2.1.length (dg _);rw[List.take_length] at this;omega
 ·have:=key i h1;omega
set_option maxHeartbeats 1000000 in
def aow (h:Ğ b):xv b=some (æ b,Ť b):=by
 have hC:=h.nC;have hG:=h.nG;unfold xv YQ;rw[JJ h.pre,À];refine ë b.2.1 (fun i=>((b.2.1.take i).flatMap (ú b),((b.2.1.take i).mapIdx (ö b)).flatten)) _ rfl (fun i g hi hg kn=>?_) (fun kn=>?_)
 ·try dsimp only
  unfold wz;have hls:=Xk h i;rw[Ñ hi,Ç hg];refine Eq.trans (alI h hg (by omega) (by omega) _) ?_;rw[Ê hi (by omega),i6 _ hg,take_succ hg,List.flatMap_append,List.flatten_append];simp only[List.flatMap_cons,List.flatMap_nil,List.append_nil,List.flatten_cons,List.flatten_nil]
 ·try dsimp only
  unfold wz;rw[Ü,List.take_length];dsimp only;have hls:=Xk h b.2.1.length;rw[List.take_length] at hls;refine ë b.2.2.2.2.1 (fun i=>(b.2.1.flatMap (ú b)++(b.2.2.2.2.1.take i).flatMap (ĉ b),(b.2.1.mapIdx (ö b)).flatten++((b.2.2.2.2.1.take i).mapIdx fun i _=>[((3:Int),(i:Int)),((3:Int),(i:Int))]).flatten)) _ (by simp) (fun i c hi hc kn=>?_) (fun kn=>?_)
  ·try dsimp only
   unfold wy;have hcm:=List.mem_of_getElem? hc;have hn:=(η c).1 (h.nums hcm);have ha:=Ļ hn.2.2.2.2.2.1;have hb:=Ļ hn.2.2.2.2.2.2;have hcl:=XA (b:=b) i (by omega);have sb:=Ec h hcm;rw[Ñ hi,Ç hc,L8 (by omega) (by omega),À];rw[show ŕ ((b.1.1,b.1.2),b.2.1,b.2.2.1,b.2.2.2.1,b.2.2.2.2.1,b.2.2.2.2.2) (Nl c.2.2.1 c.2.2.2.1,c.2.1)=ŕ b (Nl c.2.2.1 c.2.2.2.1,c.2.1) from rfl,JK h.pre,À,L8 (by omega) (by omega),À];rw[show ŕ ((b.1.1,b.1.2),b.2.1,b.2.2.1,b.2.2.2.1,b.2.2.2.2.1,b.2.2.2.2.2) (Nl c.2.2.2.1 c.2.2.1,c.2.1)=ŕ b (Nl c.2.2.2.1 c.2.2.1,c.2.1) from rfl,JK h.pre,À];rw[show vH ((b.1.1,b.1.2),b.2.1,b.2.2.1,b.2.2.2.1,b.2.2.2.2.1,b.2.2.2.2.2) c=vH b c from rfl,aqK h.size h.film (h.cmpIn hcm),À];rw[Ò (by omega) (by omega),Ô (by simp only[List.length_append,List.length_cons,List.length_nil]; omega),Am.iff_true,Ô (by simp only[List.length_append,List.length_cons,List.length_nil]; omega),Am.iff_true,Ê hi (by omega)];rw[i6 _ hc,take_succ hc,List.flatMap_append,List.flatten_append,am5 h.pre,am5 h.pre];simp only[List.flatMap_cons,List.flatMap_nil,List.append_nil,List.flatten_cons,List.flatten_nil,List.append_assoc];rw[Int.zero_sub];rfl
  ·try dsimp only
   unfold wy;rw[Ü,List.take_length];rfl
def kT (b:ß) (i:Nat) (c:Cmp):Int:=if !Nn c then 1 else if (b.2.2.2.2.1.take i).any (fun x=>x.1==c.1) then 6 else C4 b c
def Xv (hi:b.2.1.Pairwise fun a b=>a.1<b.1) (i:Nat) (c:Cmp):kT b i c=pR b (iX b) i c:=by
 unfold kT pR;rw[apn hi]
def arq (b:ß):Int:=match (b.2.2.2.2.1.mapIdx (kT b)).find? (fun e=>e != 0) with
 |some e=>e
 |none=>match (b.2.2.2.2.2.map (abO b)).find? (fun e=>e != 0) with
  |some e=>e
  |none=>if 59<(Í b).length then 2 else if 300<2*b.2.1.length+2*((Í b).length-b.2.1.length:Int)+2*b.2.2.2.2.1.length then 2 else 0
def anj {α:Type} {l:List α} {E:α→Int} (h:(l.map E).find? (fun e=>e != 0)=none):∀a∈l,E a=0:=by
 intro a ha;have:=eT.1 h (E a) (dZ.2 ⟨a,ha,rfl⟩);simpa using this
def akC {α:Type} {l:List α} {E:Nat→α→Int} (h:(l.mapIdx E).find? (fun e=>e != 0)=none):∀i a,l[i]?=some a→E i a=0:=by
 intro i a ha;obtain⟨hi,rfl⟩:=dj.1 ha;have:=eT.1 h (E i l[i]) (ii.2 ⟨i,hi,rfl⟩);simpa using this
def abf {i:Nat} {c:Cmp} (h:kT b i c=0):Nn c=true∧(é c.2.2.1 c.2.2.2.1).length≤1∧(é c.2.2.2.1 c.2.2.1).length≤1:=by
 unfold kT at h
 split at h
 ·omega
 rename_i h1
 split at h
 ·omega
 unfold C4 at h
 (repeat' split at h)<;>first|omega|exact⟨by simpa using h1,by omega,by omega⟩
set_option maxHeartbeats 4000000 in
def arp (hs:Η b) (hfilm:0≤b.1.1∧b.1.1≤b.1.2∧b.1.2≤1000000) (nG:b.2.1.length≤12) (nU:b.2.2.1.length≤40) (nL:b.2.2.2.1.length≤12) (nC:b.2.2.2.2.1.length≤40) (nK:b.2.2.2.2.2.length≤10)
 (hg:∀g∈b.2.1,rl g=true) (hi:b.2.1.Pairwise fun a b=>a.1<b.1) (hu:∀u∈b.2.2.1,abO b u=0) (hl:∀i l,b.2.2.2.1[i]?=some l→VJ b i l=0) :
 É (fun(v41:Int) kk43=>j5 b.1.1 b.1.2 b.2.1 b.2.2.1 b.2.2.2.1 b.2.2.2.2.1 b.2.2.2.2.2 v41 (fun u42=>kk43 u42) (fun z26=>some z26) (fun _=>É (fun(v38:Int) kk40=>j4 b.1.1 b.1.2 b.2.1 b.2.2.1 b.2.2.2.1 b.2.2.2.2.1 b.2.2.2.2.2 v38 (fun u39=>kk40 u39) (fun z34=>some z34) (fun _=>Ã (kh b) fun r36=>ifb (igt (Ó r36) (59:Int)) (some (2:Int)) (Ã (xv b) fun r37=>ifb (igt (Ó r37.1) (300:Int)) (some (2:Int)) (some (0:Int))))) (0:Int))) (0:Int)=some (arq b):=by
 unfold arq
 refine fq (FR b.2.2.2.2.1 (fun i c=>ajf (kT b i c)) some (some (match (b.2.2.2.2.2.map (abO b)).find? (fun e=>e != 0) with
  |some e=>e
  |none=>if 59<(Í b).length then 2 else if 300<2*b.2.1.length+2*((Í b).length-b.2.1.length:Int)+2*b.2.2.2.2.1.length then 2 else 0)) (fun i c hci hc kn=>?_) (fun hcz kn=>?_)) ?_
 ·try dsimp only
  unfold j5;have hp:=hs.piles c (List.mem_of_getElem? hc);rw[Ñ hci,Ç hc,aor (by omega) (by omega),À];unfold kT ajf
  cases Nn c with
  |false=>rfl
  |true =>
   rw[Ð (by rfl)]
   have hl9:(b.2.2.2.2.1.take i).length=i:=by rw[dv]; omega
   refine fq (Ĺ (b.2.2.2.2.1.take i) (fun x=>x.1==c.1) (fun _=>some 6) (some 6) (if C4 b c=0 then kn ((i:Int)+1) else some (C4 b c)) (fun _=>rfl) (fun j a hj ha kn'=>?_) (fun kn'=>?_)) ?_
   ·try dsimp only
    unfold pE;rw[hl9] at hj
    have ha':b.2.2.2.2.1[j]?=some a:=by rwa [List.getElem?_take_of_lt hj] at ha
    rw[Õ (show ilt (j:Int) (i:Int)=true by simp[ilt]; omega),Ç ha',Ç hc,Ê hj (by omega),ĥ]
   ·try dsimp only
    unfold pE;rw[hl9,Ð (show ilt (i:Int) (i:Int)=false by simp[ilt])];dsimp only;rw[Ç hc,show kg ((b.1.1,b.1.2),b.2.1,b.2.2.1,b.2.2.2.1,b.2.2.2.2.1,b.2.2.2.2.2) c=kg b c from rfl,afO hs hp.1 hp.2,À,Ê hci (by omega)]
    by_cases hz:C4 b c=0
    ·rw[Ð (by simp[ine,hz]),if_pos hz]
    ·rw[Õ (by simp[ine,hz]),if_neg hz]
   ·cases hany:(b.2.2.2.2.1.take i).any (fun x=>x.1==c.1) with
    |true=>simp
    |false =>
     by_cases hz:C4 b c=0
     ·simp[hz]
     ·simp[hz]
 ·try dsimp only
  unfold j5;rw[Ü];dsimp only;have hcz':∀i c,b.2.2.2.2.1[i]?=some c→kT b i c=0:=fun i c hc=>afi.1 (hcz i c hc);refine Eq.trans (FR b.2.2.2.2.2 (fun _ u=>ajf (abO b u)) some (some (if 59<(Í b).length then 2 else if 300<2*b.2.1.length+2*((Í b).length-b.2.1.length:Int)+2*b.2.2.2.2.1.length then 2 else 0)) (fun i a hia ha kn'=>?_) (fun hlz kn'=>?_)) ?_
  ·try dsimp only
   unfold j4;rw[Ñ hia,Ç ha,abE,À];unfold abO ajf
   cases uh a.2 with
   |false=>rfl
   |true =>
    rw[Ð (by rfl),Ç ha,Ç ha,JI (b:=((b.1.1,b.1.2),b.2.1,b.2.2.1,b.2.2.2.1,b.2.2.2.2.1,b.2.2.2.2.2)) (by simp only; omega),À,Ê hia (by omega)];have e:ix ((b.1.1,b.1.2),b.2.1,b.2.2.1,b.2.2.2.1,b.2.2.2.2.1,b.2.2.2.2.2) a.1 a.2=ix b a.1 a.2:=rfl;rw[e]
    by_cases hz:ix b a.1 a.2=0
    ·rw[Ð (by simp[ine,hz])]; simp[hz]
    ·rw[Õ (by simp[ine,hz])]; simp[hz]
  ·try dsimp only
   unfold j4;rw[Ü];dsimp only
   have hlz':∀u∈b.2.2.2.2.2,abO b u=0:=fun u hum=>by
    obtain⟨j,hj,rfl⟩:=dz.1 hum;exact afi.1 (hlz j _ (df hj))
   have pre:Pre b:=⟨hs,hg,fun c hc=>by
    obtain⟨j,hj,rfl⟩:=dz.1 hc;have q:=abf (hcz' j _ (df hj))
    exact⟨acM q.1,q.2⟩,fun n hn=>by
    have:=hlz' n hn;unfold abO at this
    split at this
    ·omega
    ·rename_i hd; simpa using hd⟩
   rw[JJ pre,À,Û]
   by_cases h59:59<(Í b).length
   ·rw[Õ (by simp[igt]; omega),if_pos h59]
   ·rw[Ð (by simp[igt]; omega),if_neg h59];have good:Ğ b:=⟨hfilm,nG,nU,nL,nC,nK,hg,hi,fun u hum=>by rw[←ail hi]; exact hu u hum,fun i l hil=>by rw[←amQ hi]; exact hl i l hil,fun i c hic=>by rw[←Xv hi]; exact hcz' i c hic,fun u hum=>by rw[←ail hi]; exact hlz' u hum,by omega,by omega⟩;have hll:=Sq good;rw[aow good,À,Û];dsimp only;rw[hll,Ð (by simp[igt]; omega),if_neg (by omega)]
  ·rw[SJ]
   cases(b.2.2.2.2.2.map (abO b)).find? (fun e=>e != 0)<;>rfl
 ·rw[SI (kT b)]
  cases(b.2.2.2.2.1.mapIdx (kT b)).find? (fun e=>e != 0)<;>rfl
end
def aa5 {l m:List Int}:(l++m).find? (fun e=>e != 0)=match l.find? (fun e=>e != 0) with|some e=>some e|none=>m.find? (fun e=>e != 0):=by
 rw[List.find?_append]
 cases l.find? (fun e=>e != 0)<;>rfl
set_option maxHeartbeats 4000000 in
def TA {b:ß} (hs:Η b):lE b=some (ä b):=by
 unfold lE Kq ä;rw[xL,À]
 cases hsp:ku b.1 0 1000000 with
 |false=>rfl
 |true =>
 have hfilm:0≤b.1.1∧b.1.1≤b.1.2∧b.1.2≤1000000:=by
  simp only[ku,dh,decide_eq_true_eq] at hsp;exact hsp
 rw[Ð (show(!true)=false from rfl),if_neg (by simp)];rw[Û b.2.1,Û b.2.2.1,Û b.2.2.2.1,Û b.2.2.2.2.1,Û b.2.2.2.2.2]
 by_cases c0:12<b.2.1.length
 ·rw[Õ (by simp[igt]; omega),if_pos c0]
 rw[Ð (by simp[igt]; omega),if_neg c0]
 by_cases c1:40<b.2.2.1.length
 ·rw[Õ (by simp[igt]; omega),if_pos c1]
 rw[Ð (by simp[igt]; omega),if_neg c1]
 by_cases c2:12<b.2.2.2.1.length
 ·rw[Õ (by simp[igt]; omega),if_pos c2]
 rw[Ð (by simp[igt]; omega),if_neg c2]
 by_cases c3:40<b.2.2.2.2.1.length
 ·rw[Õ (by simp[igt]; omega),if_pos c3]
 rw[Ð (by simp[igt]; omega),if_neg c3]
 by_cases c4:10<b.2.2.2.2.2.length
 ·rw[Õ (by simp[igt]; omega),if_pos c4]
 rw[Ð (by simp[igt]; omega),if_neg c4]
 refine fq (FR b.2.1 (pk b.2.1) some (some (match (yX b (iX b)).find? (fun e=>e != 0) with
  |some e=>e
  |none=>if 59<(Í b).length then 2 else if 300<2*b.2.1.length+2*((Í b).length-b.2.1.length:Int)+2*b.2.2.2.2.1.length then 2 else 0)) (fun i g hi hg kn=>?_) (fun hz kn=>?_)) ?_
 ·try dsimp only
  unfold pF;rw[Ñ hi,Ç hg,aot,À];unfold pk
  cases rl g with
  |false=>rfl
  |true =>
   rw[Ð (by rfl)];rcases fE i with h0|h0
   ·subst h0
    have:igt ((0:Nat):Int) 0=false:=by simp[igt]
    rw[Ð this,Ê hi (by omega)];simp[Br]
   ·obtain⟨q,hq⟩:=yU hi h0
    have h1:igt (i:Int) 0=true:=by simp[igt]; omega
    rw[Õ h1,Ç hg,LU h0 (by omega),A6 h0 hq];simp only[Br,h0,decide_true,Bool.true_and,hq,Option.any_some];unfold ile
    cases h2:decide (g.1≤q.1) with
    |true=>simp
    |false=>rw[Ý,Ê hi (by omega)]; simp
 ·try dsimp only
  unfold pF;rw[Ü];dsimp only
  have hg0:jR b=0:=by
   unfold jR;rw[jf.2 fun j a ha=>by rw[Nat.zero_add]; exact hz j a ha];rfl
  obtain⟨hg,hi⟩:=(xn b).1 hg0;have eu:b.2.2.1.map (abO b)=b.2.2.1.map fun u=>alq (iX b) u.1 u.2:=List.map_congr_left fun u _=>ail hi u;have el:b.2.2.2.1.mapIdx (VJ b)=b.2.2.2.1.mapIdx fun i l=>VK b (iX b) i l:=List.mapIdx_eq_mapIdx_iff.2 fun i hl=>amQ hi i _;have ec:b.2.2.2.2.1.mapIdx (kT b)=b.2.2.2.2.1.mapIdx fun i c=>pR b (iX b) i c:=List.mapIdx_eq_mapIdx_iff.2 fun i hc=>Xv hi i _;have ek:b.2.2.2.2.2.map (abO b)=b.2.2.2.2.2.map fun u=>alq (iX b) u.1 u.2:=List.map_congr_left fun u _=>ail hi u;unfold yX;rw[←eu,←el,←ec,←ek,aa5,aa5,aa5,aqF hs,À]
  cases hue:(b.2.2.1.map (abO b)).find? (fun e=>e != 0) with
  |some e =>
   have he:e≠0:=by have:=gw hue; simpa using this
   simp only[fP];rw[Ð (by simpa[ieq] using he),Õ (by simpa[ine] using he)]
  |none =>
   simp only[Option.getD_none];rw[Õ (by rfl),aos hs,À]
   cases hle:(b.2.2.2.1.mapIdx (VJ b)).find? (fun e=>e != 0) with
   |some e =>
    have he:e≠0:=by have:=gw hle; simpa using this
    simp only[fP];rw[Õ (by simpa[ine] using he)]
   |none =>
    simp only[Option.getD_none];rw[Ð (by rfl)];refine Eq.trans (arp hs hfilm (by omega) (by omega) (by omega) (by omega) (by omega) hg hi (anj hue) (akC hle)) ?_;unfold arq
    cases(b.2.2.2.2.1.mapIdx (kT b)).find? (fun e=>e != 0)<;>rfl
 ·unfold jR
  cases hf:Ħ (pk b.2.1) 0 b.2.1 with
  |none =>
   simp
   cases(yX b (iX b)).find? (fun e=>e != 0)<;>rfl
  |some e =>
   have he:jR b=e:=by unfold jR; rw[hf]; rfl
   have hne:e≠0:=by
    intro h0;rw[h0] at he;obtain⟨h1,h2⟩:=(xn b).1 he
    have h3:∀j a,b.2.1[j]?=some a→pk b.2.1 j a=none:=by
     intro j a ha;have h4:=(abu (fun g:ì=>g.1) b.2.1).2 h2 j a ha;simp[pk,h1 a (dl ha),h4]
    rw[jf.2 fun j a ha=>by rw[dC]; exact h3 j a ha] at hf;cases hf
   simp[hne]
def alg {b:ß} (h:Ğ b):rr b=some (((Í b).length:Int)+1,æ b):=by
 have hN:=h.nodes;unfold rr EJ;rw[JJ h.pre,À,Û,Ò (by omega) (by omega),aow h,À]
section
variable {ρ:Type}
abbrev abF:Type:=ß×Sys×List (List Int)×Int
def Xb (e:Int):abF:=(mK,(0,[]),[],e)
def af4 (B:ß):List (List Int):=C0 ((Í B).length+1) (Ch B)
def abG (b:ß) (ns:List (Int×Int)):abF :=
 if (Ă b ns).2≠0 then Xb (Ă b ns).2 else((Ă b ns).1,Ng (Ă b ns).1,af4 (Ă b ns).1,0)
def aoz {b:ß} (h:Ğ b) (n:Int×Int):vJ b n=some (if ä (ox b n)≠0 then(mK,ä (ox b n)) else(ox b n,0)):=by
 have h5:=h.nK;unfold vJ Qo;rw[Ô (by omega),Am.iff_true,List.nil_append,Ô (by simp only[List.length_singleton]; omega),Am.iff_true];rw[show lE (b.1,b.2.1,b.2.2.1,b.2.2.2.1,b.2.2.2.2.1,b.2.2.2.2.2++[n])=lE (ox b n) from rfl,TA (aeP h n),À]
 by_cases hc2:ä (ox b n)=0
 ·rw[Ð (by simp[ine,hc2]),if_neg (show ¬(ä (ox b n)≠0) from fun h=>h hc2)];rfl
 ·rw[Õ (by simp[ine,hc2]),if_pos hc2];rfl
abbrev alm:Type:=Int×Int×List ì×List (Int×Int)×List M9×List Cmp×List (Int×Int)×Int×Int×Int×Int
def bkK (s:alm):ß:=((s.1,s.2.1),s.2.2.1,s.2.2.2.1,s.2.2.2.2.1,s.2.2.2.2.2.1,s.2.2.2.2.2.2.1)
def am0 {ns:List (Int×Int)} (hl:ns.length≤1000) (X:ß→Option abF) {E1 K1:alm→Option abF} (hK:∀s:alm,K1 s=X (bkK s))
 (hE:∀s:alm,s.2.2.2.2.2.2.2.1=0→s.2.2.2.2.2.2.2.2.1=0→s.2.2.2.2.2.2.2.2.2.1=0→E1 s=some (Xb s.2.2.2.2.2.2.2.2.2.2)) {b:ß} (hg:Ğ b) :
 É (fun(v12:Int×alm) kk25=>oa ns v12.1 v12.2.1 v12.2.2.1 v12.2.2.2.1 v12.2.2.2.2.1 v12.2.2.2.2.2.1 v12.2.2.2.2.2.2.1 v12.2.2.2.2.2.2.2.1 v12.2.2.2.2.2.2.2.2.1 v12.2.2.2.2.2.2.2.2.2.1 v12.2.2.2.2.2.2.2.2.2.2.1 v12.2.2.2.2.2.2.2.2.2.2.2 (fun u13 u14 u15 u16 u17 u18 u19 u20 u21 u22 u23 u24=>kk25 (u13,u14,u15,u16,u17,u18,u19,u20,u21,u22,u23,u24)) E1 K1) ((0:Int),b.1.1,b.1.2,b.2.1,b.2.2.1,b.2.2.2.1,b.2.2.2.2.1,b.2.2.2.2.2,(0:Int),(0:Int),(0:Int),(0:Int)) =
  if (ŵ b ns).2≠0 then some (Xb (ŵ b ns).2) else X (ŵ b ns).1:=by
 refine IU ns (fun(i:Nat) (s:alm) (t:List (Int×Int))=>if (ŵ (bkK s) t).2≠0 then some (Xb (ŵ (bkK s) t).2) else X (ŵ (bkK s) t).1)
  (fun i s=>Ğ (bkK s)∧s.2.2.2.2.2.2.2.1=0∧s.2.2.2.2.2.2.2.2.1=0∧s.2.2.2.2.2.2.2.2.2.1=0) (fun s hs kn=>?_) (fun i n t s hd hi ha hs kn hk=>?_) (s:=(b.1.1,b.1.2,b.2.1,b.2.2.1,b.2.2.2.1,b.2.2.2.2.1,b.2.2.2.2.2,(0:Int),(0:Int),(0:Int),(0:Int))) ⟨hg,rfl,rfl,rfl⟩
 ·dsimp only;unfold oa;rw[Ü];exact hK s
 ·dsimp only;unfold oa;obtain⟨hs1,z1,z2,z3⟩:=hs;rw[Ñ hi,Ç ha];rw[show ŕ ((s.1,s.2.1),s.2.2.1,s.2.2.2.1,s.2.2.2.2.1,s.2.2.2.2.2.1,s.2.2.2.2.2.2.1) n=ŕ (bkK s) n from rfl,JK hs1.pre,À,Ç ha];rw[show vJ ((s.1,s.2.1),s.2.2.1,s.2.2.2.1,s.2.2.2.2.1,s.2.2.2.2.2.1,s.2.2.2.2.2.2.1) n=vJ (bkK s) n from rfl,aoz hs1,À];have hr:=ş (bkK s) n
  have hu:ŵ (bkK s) (n::t)=if (mD (bkK s) n).2≠0 then(mK,(mD (bkK s) n).2) else ŵ (mD (bkK s) n).1 t:=rfl
  rw[hu]
  by_cases h0:yr (bkK s) n.1 n.2=0
  ·rw[Ð (decide_eq_false (by omega))]
   by_cases h2:ä (ox (bkK s) n)=0
   ·have e:mD (bkK s) n=(ox (bkK s) n,0):=by unfold mD; rw[if_neg (by simp[h0]),if_neg (by simp[h2])]
    rw[if_neg (show ¬ä (ox (bkK s) n)≠0 by simp[h2]),Ð (by rfl),Ê hi (by omega),e,if_neg (show ¬((0:Int)≠0) by simp)];exact hk (s.1,s.2.1,s.2.2.1,s.2.2.2.1,s.2.2.2.2.1,s.2.2.2.2.2.1,s.2.2.2.2.2.2.1++[n],s.2.2.2.2.2.2.2) ⟨(ð _).1 h2,z1,z2,z3⟩
   ·have e:mD (bkK s) n=(mK,ä (ox (bkK s) n)):=by unfold mD; rw[if_neg (by simp[h0]),if_pos h2]
    rw[if_pos h2,Õ (by simp[ine,h2]),e,if_pos h2,if_pos h2];exact hE _ rfl rfl rfl
  ·have e:mD (bkK s) n=(bkK s,0):=by unfold mD; rw[if_pos h0]
   rw[Õ (decide_eq_true (by omega)),Ê hi (by omega),e,if_neg (show ¬((0:Int)≠0) by simp)];exact hk s ⟨hs1,z1,z2,z3⟩
def asw {b:ß} (hI:In b) {ns:List (Int×Int)} (hl:ns.length≤1000):I8 b ns=some (abG b ns):=by
 unfold I8 P0;rw[TA hI.size,À]
 by_cases hc:ä b=0
 case neg =>
  have e:Ă b ns=(mK,ä b):=by unfold Ă; rw[if_pos hc]
  rw[Õ (bne_iff_ne.2 hc)];unfold abG;rw[e,if_pos hc];rfl
 have hg:=(ð b).1 hc
 have e:Ă b ns=if (ŵ b ns).2≠0 then(mK,(ŵ b ns).2) else if ĸ (æ (ŵ b ns).1) ((Í (ŵ b ns).1).length+1) then((ŵ b ns).1,0) else(mK,9):=by
  unfold Ă; rw[if_neg (show ¬ä b≠0 by simp[hc])]
 rw[Ð (by rw[hc]; rfl)];refine(am0 hl (fun B=>Ã (rr B) fun r10=>Ã (vK r10) fun r11=>ifb (!r11.2) (some ((((0:Int),(0:Int)),[],[],[],[],[]),((0:Int),[]),[],(9:Int))) (some (B,r10,r11.1,(0:Int)))) (fun s=>rfl) (fun s h1 h2 h3=>?_) hg).trans ?_
 ·rw[h1,h2,h3];rfl
 by_cases hr:(ŵ b ns).2=0
 case neg =>
  rw[if_pos hr] at e;unfold abG;rw[if_pos hr,e,if_pos hr]
 have hg':=Gb hg hr;rw[if_neg (show ¬(ŵ b ns).2≠0 by simp[hr])] at e ⊢;generalize (ŵ b ns).1=B at hg' e;rw[alg hg',À,show(((Í B).length:Int)+1,æ B)=((((Í B).length+1:Nat):Int),æ B) by push_cast; rfl,aqD hg'.sys hg'.tied,À];unfold abG
 cases ho:ĸ (æ B) ((Í B).length+1) with
 |true =>
  rw[if_pos ho] at e;rw[if_pos rfl,e,if_neg (by simp),Ð (by rfl),←JQ];rfl
 |false =>
  rw[if_neg (by simp[ho])] at e;rw[if_neg (by simp),e,if_pos (by simp),Õ (by rfl)];rfl
def ai4 (b:ß) (ns:List (Int×Int)):(abG b ns).2.2.2=(Ă b ns).2:=by
 unfold abG
 by_cases h:(Ă b ns).2=0
 ·rw[if_neg (by simp[h]),h]
 ·rw[if_pos h]; rfl
def aeS {b:ß} {ns:List (Int×Int)} (h:(Ă b ns).2=0):abG b ns=((Ă b ns).1,Ng (Ă b ns).1,af4 (Ă b ns).1,0):=by
 unfold abG; rw[if_neg (by simp[h])]
def aq1 {B:ß} (h:Ğ B) (s:Sys) (t:List (List Int)) (e:Int) (n:Int×Int):Ř (B,s,t,e) n=some (yr B n.1 n.2):=by
 unfold Ř wu;rw[show ŕ (B,s,t,e).1 n=ŕ B n from rfl,JK h.pre,À]
def aaX {B:ß} {u:Int} (hu:0≤u∧u<((Í B).length+1:Nat)) (f:List Int→Option ρ):ê (af4 B) u f=f (TH ((Í B).length+1) (Ch B u)) :=
 ka hu.1 (ait (Ch B) hu.1 hu.2) f
def aaY {N:Nat} (g:Int→Int) {u:Int} (hu:0≤u∧u<N) (f:Int→Option ρ):ê (TH N g) u f=f (g u) :=
 ka hu.1 (aiA g hu.1 hu.2) f
def aeT {B:ß} (h:afZ B) (s:Sys) (e:Int) {u:Int} (hu:0≤u∧u<((Í B).length+1:Nat)):Ŕ (B,s,af4 B,e) u=some (-(Ch B u 0),Ch B 0 u):=by
 unfold Ŕ kZ;have hb:=oW h hu (ħ B);dsimp only;rw[aaX hu,aaY _ (ħ B),Ò (by omega) (by omega),aaX (ħ B),aaY _ hu,Int.zero_sub]
end
def anq {B:ß} (h:afZ B) {s u t:Int} (hs:0≤s∧s<((Í B).length+1:Nat)) (hu:0≤u∧u<((Í B).length+1:Nat)) (ht:0≤t∧t<((Í B).length+1:Nat)):Ch B s t≤Ch B s u+Ch B u t:=by
 obtain⟨v1,w1⟩:=aba h.good.sys h.good.tied h.op hs hu;obtain⟨v2,w2⟩:=aba h.good.sys h.good.tied h.op hu ht;obtain⟨v3,w3⟩:=w1.app w2;exact ahF h.good.sys h.op hs w3
section
variable {B:ß} (h:afZ B)
end
section
variable {ρ:Type}
def aoe (M:List Int→List Int→(Int→Option ρ)→Option ρ) (T:List (List Int)) (F to:List Int) (v0 v1:Int) (kn:Int→Int→Option ρ) (k0:Int→Option ρ):Option ρ :=
 ifb (ilt v1 (Ó to)) (Þ ((ile (0:Int) v1)&&(ile v1 (ô to))) (Þ (â (0+(List.length (List.take (Int.toNat v1) (List.drop 0 to))))) (ck (v1+(1:Int)) fun n=>Þ ((ile (0:Int) n)&&(ile n (ô to)))
  (Þ (â ((List.length (([])++(List.take (Int.toNat v1) (List.drop 0 to))))+(List.length (List.take (List.length to-(Int.toNat n)) (List.drop (Int.toNat n) to))))) (Þ (ile (1:Int) (ô F))
   (M (List.drop 1 F) ((([])++(List.take (Int.toNat v1) (List.drop 0 to)))++(List.take (List.length to-(Int.toNat n)) (List.drop (Int.toNat n) to))) fun r=>ê F (0:Int) fun e=>ê T e fun row=>Þ ((ile (0:Int) v1)&&(ilt v1 (ô to))) (Ď to (Int.toNat v1) fun x=>ê row x fun w=>ck (w+r) fun s=>ck (v1+(1:Int)) fun m=>kn (yK v0 s) m))))))) (k0 v0)
def OT (kn:abF) (n:Nat) (F to:List Int) (K:Int→Option ρ):Option ρ:=Ã (Ī n kn F to) K
def aod (M:List Int→List Int→(Int→Option ρ)→Option ρ) (T:List (List Int)) (F to:List Int) (v0 v1:Int) (kn:Int→Int→Option ρ) (k0:Int→Option ρ):Option ρ :=
 ifb (ilt v1 (Ó to)) (Þ ((ile (0:Int) v1)&&(ile v1 (ô to))) (Þ (â (0+(List.length (List.take (Int.toNat v1) to)))) (ck (v1+(1:Int)) fun n=>Þ ((ile (0:Int) n)&&(ile n (ô to)))
  (Þ (â ((List.length (([])++(List.take (Int.toNat v1) to)))+(List.length (List.drop (Int.toNat n) to)))) (Þ (ile (1:Int) (ô F))
   (M (List.drop 1 F) ((([])++(List.take (Int.toNat v1) to))++(List.drop (Int.toNat n) to)) fun r=>ê F (0:Int) fun e=>ê T e fun row=>ê to v1 fun x=>ê row x fun w=>ck (w+r) fun s=>ck (v1+(1:Int)) fun m=>kn (yK v0 s) m)))))) (k0 v0)
def ake (kn:abF) (n:Nat) (F to:List Int):@jL ρ (Ī n) F to kn.1.1.1 kn.1.1.2 kn.1.2.1 kn.1.2.2.1 kn.1.2.2.2.1 kn.1.2.2.2.2.1 kn.1.2.2.2.2.2 kn.2.1.1 kn.2.1.2 kn.2.2.1 kn.2.2.2=aod (OT kn n) kn.2.2.1 F to:=rfl
def asi (M:List Int→List Int→(Int→Option ρ)→Option ρ) (T:List (List Int)) (F to:List Int):aod M T F to=aoe M T F to:=by
 funext v0 v1 kn k0;unfold aod aoe;have e1:List.drop 0 to=to:=rfl;have e2:∀n:Nat,List.take (to.length-n) (List.drop n to)=List.drop n to:=fun n=>List.take_of_length_le (by simp);simp only[e1,e2,xm]
def acU (kn:abF) (n:Nat) (F to:List Int):Ī (n+1) kn F to =
 ifb (ieq (Ó F) (0:Int)) (some (0:Int)) (É (fun(v:Int×Int) kk=>aoe (OT kn n) kn.2.2.1 F to v.1 v.2 (fun a b=>kk (a,b)) some) ((1152921504606846976:Int),(0:Int))):=by
 show ũ (Ī n) kn F to some=_;unfold ũ;simp only[ake,asi]
def VB (B:ß) (a:Int):Prop:=0≤a∧a<((Í B).length+1:Nat)
def agx {B:ß} (h:afZ B) (sy:Sys) (er:Int):∀(n:Nat) (F to:List Int),F.length<n→F.length=to.length→F.length≤6→(∀a∈F,VB B a)→(∀b∈to,VB B b)→Ī n (B,sy,af4 B,er) F to=some (ō (Ch B) F to):=by
 intro n
 induction n with
 |zero=>intro F to h1; omega
 |succ n ih =>
  intro F to h1 h2 h6 hF hto;have hb:∀a b,VB B a→VB B b→-9007199254740992≤Ch B a b∧Ch B a b≤9007199254740992:=fun a b ha hb=>oW h ha hb;rw[acU];dsimp only
  cases F with
  |nil=>rw[Õ (by rw[Û]; rfl)]; rfl
  |cons a f =>
   have ha:=hF a (by simp);have hf:∀b∈f,VB B b:=fun b hb=>hF b (eR _ hb);simp only[dn] at h1 h2 h6;rw[Ð (show ieq (Ó (a::f)) 0=false by rw[Û]; exact beq_eq_false_iff_ne.2 (by simp; omega))]
   have hsub:∀i,i<to.length→f.length=(to.take i++to.drop (i+1)).length:=fun i hi=>by simp; omega
   have hsv:∀i,∀b∈to.take i++to.drop (i+1),VB B b:=fun i b hb=>by
    rcases dk.1 hb with hb|hb
    ·exact hto b (gh hb)
    ·exact hto b (List.mem_of_mem_drop hb)
   have hm:∀i,i<to.length→-54043195528445952≤ō (Ch B) f (to.take i++to.drop (i+1))∧ō (Ch B) f (to.take i++to.drop (i+1))≤54043195528445952:=fun i hi=>by
    have hk:(f.length:Int)*9007199254740992≤6*9007199254740992:=fu (by omega) (by omega);have:=(J7 (V:=VB B) hb f (to.take i++to.drop (i+1)) hf (hsv i) (hsub i hi) (by omega) (by omega)).2.2;omega
   refine Ĭ (fun v:Int×Int=>∃i:Nat,i≤to.length∧v=(((List.range to.length).take i).foldl (fun v i=>min v (Ch B a (to[i]?.getD 0)+ō (Ch B) f (to.take i++to.drop (i+1)))) 1152921504606846976,(i:Int))) (fun v=>to.length-v.2.toNat) ?_ ⟨0,by omega,rfl⟩;rintro v ⟨i,hi,rfl⟩;rcases dG i to.length with h3|h3
   ·have hg:to[i]?=some to[i]:=df h3;have hv:=hto _ (eh h3)
    have hgr:(List.range to.length)[i]?=some i:=by rw[fe h3]
    have hbb:=hb a to[i] ha hv;have hmi:=hm i h3;refine .inr ⟨(((List.range to.length).take (i+1)).foldl (fun v i=>min v (Ch B a (to[i]?.getD 0)+ō (Ch B) f (to.take i++to.drop (i+1)))) 1152921504606846976,((i+1:Nat):Int)),⟨i+1,h3,rfl⟩,by simp; omega,fun kn=>?_⟩;rw[take_succ hgr,List.foldl_append];simp only[List.foldl_cons,List.foldl_nil];generalize ((List.range to.length).take i).foldl (fun v i=>min v (Ch B a (to[i]?.getD 0)+ō (Ch B) f (to.take i++to.drop (i+1)))) 1152921504606846976=v;unfold aoe;have e1:List.drop 0 to=to:=rfl;have e2:∀n:Nat,List.take (to.length-n) (List.drop n to)=List.drop n to:=fun n=>List.take_of_length_le (by simp);have ol:ô to=(to.length:Int):=rfl;rw[Ñ h3,Ĥ (by simp[ile,ol]; omega),e1,Ô (by simp; omega),Am.iff_true,Ê h3 (by omega)];rw[show(i:Int)+1=((i+1:Nat):Int) by push_cast; rfl,Ĥ (by simp[ile,ol]; omega),Int.toNat_natCast,Int.toNat_natCast,e2,Ô (by simp; omega),Am.iff_true,Ĥ (by simp[ile,ô]; omega),List.nil_append];rw[show List.drop 1 (a::f)=f from rfl,show ∀K,OT (B,sy,af4 B,er) n f (to.take i++to.drop (i+1)) K=K (ō (Ch B) f (to.take i++to.drop (i+1))) from fun K=>by unfold OT; rw[ih f _ (by omega) (hsub i h3) (by omega) hf (hsv i),À],aeZ,aaX ha];refine(xm to (i:Int) _).trans ?_;rw[Ç hg,aaY _ hv,Ò (by omega) (by omega),Ò (by omega) (by omega),tX,hg];rfl
   ·refine .inl fun kn=>?_
    obtain rfl:i=to.length:=by omega
    dsimp only;unfold aoe;rw[Ü,show(List.range to.length).take to.length=List.range to.length from List.take_of_length_le (by simp)];rfl
def VW {c:List Int} (hc:c.length≤1000) {l:List Int} (hl:l.length≤1000) (K:List Int→Option ρ) :
 É (fun(v10:(Val (.pair tI (.slice tI)))) kk13=>Ũ c v10.1 v10.2 (fun u11 u12=>kk13 (u11,u12)) K) ((0:Int),l)=K (l++zs c.length):=by
 refine ë c (fun i=>l++zs i) _ (by simp) (fun i a hi ha kn=>?_) (fun kn=>?_)
 ·try dsimp only
  unfold Ũ;rw[Ñ hi,Ô (by simp; omega),Am.iff_true,Ê hi (by omega),List.append_assoc,show zs i++[(0:Int)]=zs (i+1) from List.replicate_succ'.symm]
 ·try dsimp only
  unfold Ũ;rw[Ü]
def apC:@lW ρ=@Ũ ρ:=rfl
end
def ant {B:ß} (h:afZ B):Ch B 0 0=0:=by
 have h1:=anq h (ħ B) (ħ B) (ħ B);have h2:=ahF h.good.sys h.op (ħ B) (Wl.nil (L:=æ B) (S:=fun u=>u=(0:Int)) rfl);unfold Ch at *;omega
def ai5 {B:ß} (h:afZ B) (s:Sys) (e:Int) {p q:List (Int×Int)} (hp:p.length≤3) (hq:q.length≤3):jS (B,s,af4 B,e) (atL B p) (atL B q)=some (agu B (atL B p) (atL B q)):=by
 have l1:(atL B p).length=p.length:=by simp[atL]
 have l2:(atL B q).length=q.length:=by simp[atL]
 have hV:∀l:List (Int×Int),∀a∈atL B l,VB B a:=fun l a ha=>by
  obtain⟨n,_,rfl⟩:=dZ.1 ha;exact ş B n
 have hz:∀(l:List (Int×Int)) (n:Nat),∀b∈atL B l++zs n,VB B b:=fun l n b hb=>by
  rcases dk.1 hb with hb|hb
  ·exact hV l b hb
  ·rw[gj hb]; exact ħ B
 unfold jS qC;rw[Ô (by omega),Am.iff_true,Ô (by omega),Am.iff_true,List.nil_append,List.nil_append];refine(VW (by omega) (by omega) _).trans ?_;simp only[apC];refine(VW (by omega) (by omega) _).trans ?_;unfold mj;rw[agx h s e 100 _ _ (by simp; omega) (by simp; omega) (by simp; omega) (hz _ _) (hz _ _),À];have hk:(((atL B p).length+(atL B q).length:Nat):Int)*9007199254740992≤6*9007199254740992:=Int.mul_le_mul_of_nonneg_right (by omega) (by omega);rw[acV (V:=VB B) (D:=Ch B) (fun a b ha hb=>oW h ha hb) (by omega) (fun c x hc hx=>anq h hc (ħ B) hx) (ant h) (ħ B) (atL B p) (atL B q) (hV p) (hV q) (by omega)];rfl
def amZ {ρ:Type} {B:ß} (h:Ğ B) (r:abF) (hr:r.1=B) (day:Int) {x:List Int} (hx:x.length≤1000) (K:List Int→Option ρ) :
 É (fun(v26:(Val (.pair tI (.slice tI)))) kk29=>ň day x r.1.1.1 r.1.1.2 r.1.2.1 r.1.2.2.1 r.1.2.2.2.1 r.1.2.2.2.2.1 r.1.2.2.2.2.2 r.2.1.1 r.2.1.2 r.2.2.1 r.2.2.2 v26.1 v26.2 (fun u27 u28=>kk29 (u27,u28)) K) ((0:Int),[])=K (atL B (onP day x)):=by
 subst hr;refine ë x (fun i=>atL r.1 (onP day (x.take i))) _ rfl (fun i n hi hg kn=>?_) (fun kn=>?_)
 ·try dsimp only
  unfold ň
  have hlt:(atL r.1 (onP day (x.take i))).length≤1000:=by simp[atL,onP]; omega
  rw[Ñ hi,Ç hg,show Ř (((r.1.1.1,r.1.1.2),r.1.2.1,r.1.2.2.1,r.1.2.2.2.1,r.1.2.2.2.2.1,r.1.2.2.2.2.2),(r.2.1.1,r.2.1.2),r.2.2.1,r.2.2.2) (n,day)=Ř (r.1,r.2.1,r.2.2.1,r.2.2.2) (n,day) from rfl,aq1 h,À,Ô (by simp only[List.length_singleton]; omega),Am.iff_true,Ê hi (by omega),take_succ hg];unfold atL onP;rw[List.map_append,List.map_append];rfl
 ·try dsimp only
  unfold ň;rw[Ü,List.take_length]
def aku {ρ:Type}:@kq ρ=@ň ρ:=rfl
def akv {B:ß} (h:afZ B) (s:Sys) (e day:Int) {x y:List Int} (hx:x.length≤3) (hy:y.length≤3):ā (B,s,af4 B,e) day x y=some (ar3 B B.1 day x y):=by
 unfold ā nl;refine(amZ h.good (B,s,af4 B,e) rfl day (by omega) _).trans ?_;simp only[aku];refine(amZ h.good (B,s,af4 B,e) rfl day (by omega) _).trans ?_;have hf:=h.good.film;obtain⟨_,m2,m3⟩:=OP h (p:=onP day x) (q:=onP day y) (by simp[onP]; omega) (by simp[onP]; omega);obtain⟨_,m5,m6⟩:=OP h (p:=onP day y) (q:=onP day x) (by simp[onP]; omega) (by simp[onP]; omega);have k1:=ai5 h s e (p:=onP day x) (q:=onP day y) (by simp[onP]; omega) (by simp[onP]; omega);have k2:=ai5 h s e (p:=onP day y) (q:=onP day x) (by simp[onP]; omega) (by simp[onP]; omega)
 have hm:∀k z:Int,0≤k→k≤3→0≤z→z≤1000000→0≤k*z∧k*z≤10000000:=by
  intro k z k0 k1 h0 h1;have:k*z≤3*1000000:=fj k1 h1 h0 (by omega);exact⟨fG k0 h0,by omega⟩
 have a1:=hm (max 0 ((x.length:Int)-1)) B.1.1 (by omega) (by omega) (by omega) (by omega);have a2:=hm (max 0 ((x.length:Int)-1)) B.1.2 (by omega) (by omega) (by omega) (by omega);have a3:=hm (max 0 ((y.length:Int)-1)) B.1.1 (by omega) (by omega) (by omega) (by omega);have a4:=hm (max 0 ((y.length:Int)-1)) B.1.2 (by omega) (by omega) (by omega) (by omega);rw[Û,Û,Ò (by omega) (by omega),Ò (by omega) (by omega),k1,À];simp only[SA];rw[Ò (by omega) (by omega),Ò (by omega) (by omega),Ò (by omega) (by omega),Ò (by omega) (by omega),k2,À,Ò (by omega) (by omega),Ò (by omega) (by omega),Ò (by omega) (by omega),Ò (by omega) (by omega),Ò (by omega) (by omega)];unfold ar3;congr 1;refine Prod.ext ?_ ?_
 ·show @Eq Int _ _; dsimp only; omega
 ·show @Eq Int _ _; dsimp only; omega
section
variable {ρ:Type}
def TB {l:List Int} (hn:l.length≤1000000):vF l=some (Ů l):=by
 unfold vF PY;refine Eq.trans (j9 l (oK l) some (some (decide (l.length≤6))) (fun i a hi ha kn=>?_) (fun kn=>?_)) ?_
 ·try dsimp only
  unfold sa;rw[Ñ hi,Ç ha];unfold oK inP
  by_cases g1:a<1
  ·rw[Õ (show ilt a 1=true from decide_eq_true g1),show decide (1≤a)=false from decide_eq_false (by omega)]; rfl
  rw[Ð (show ilt a 1=false from decide_eq_false g1),Ç ha,show decide (1≤a)=true from decide_eq_true (by omega)]
  by_cases g2:1099511627776<a
  ·rw[Õ (show igt a 1099511627776=true from decide_eq_true g2),show decide (a≤1099511627776)=false from decide_eq_false (by omega)]; rfl
  rw[Ð (show igt a 1099511627776=false from decide_eq_false (by omega)),show decide (a≤1099511627776)=true from decide_eq_true (by omega)];simp only[Bool.and_self,dT,dw,if_false];rcases fE i with h0|h0
  ·subst h0
   have:igt ((0:Nat):Int) 0=false:=by simp[igt]
   rw[Ð this,Ê hi (by omega)];simp[Br]
  ·obtain⟨q,hq⟩:=yU hi h0
   have h1:igt (i:Int) 0=true:=by simp[igt]; omega
   rw[Õ h1,Ç ha,LU h0 (by omega),A6 h0 hq];simp only[Br,h0,decide_true,Bool.true_and,hq,Option.any_some];unfold ile
   cases h2:decide (a≤q) with
   |true=>rfl
   |false =>
    rw[Ý,Ê hi (by omega)];rfl
 ·try dsimp only
  unfold sa;rw[Ü,Û];simp[ile];omega
 ·have hb:∀x,Ħ (oK l) 0 l=some x→x=false:=by
   have:∀(m:List Int) (j:Nat) (x:Bool),Ħ (oK l) j m=some x→x=false:=by
    intro m
    induction m with
    |nil=>intro j x h; cases h
    |cons a m ih =>
     intro j x h;unfold Ħ at h
     cases hp:oK l j a with
     |none=>rw[hp] at h; exact ih _ _ h
     |some y =>
      rw[hp] at h;cases h;unfold oK at hp
      split at hp
      ·cases hp; rfl
      ·split at hp
       ·cases hp; rfl
       ·cases hp
   exact this l 0
  unfold Ů
  cases h:Ħ (oK l) 0 l with
  |none=>rfl
  |some x=>rw[hb x h]
def ajN (d:Int):I7 d=some (uh d):=by
 unfold I7 Yz uh inP
 by_cases h:0≤d
 ·rw[Õ (show ige d 0=true from decide_eq_true h),decide_eq_true h,dW]
  try rfl
 ·rw[Ð (show ige d 0=false from decide_eq_false h),decide_eq_false h,Bool.false_and]
def aqM {l:List Int} (hl:l.length≤1000) (x:Int):O2 l x=some (l.contains x):=by
 unfold O2 Zf;refine(Ĺ l (fun a=>a==x) (fun _=>some true) (some true) (some false) (fun _=>rfl) (fun i a hi ha kn=>?_) (fun kn=>?_)).trans ?_
 ·try dsimp only
  unfold wB;rw[Ñ hi,Ç ha,ĥ,Ê hi (by omega)]
 ·try dsimp only
  unfold wB;rw[Ü]
 ·have:(l.any fun a=>a==x)=l.contains x:=by rw[List.contains_eq_any_beq]; congr 1; funext a; exact BEq.comm
  rw[this]
  cases l.contains x<;>rfl
def agr {x:List Int} (hx:x.length≤1000) (day:Int) (K:List (Int×Int)→Option ρ) :
 É (fun(v6:(Val (.pair tI (.slice Â)))) kk9=>ő x day v6.1 v6.2 (fun u7 u8=>kk9 (u7,u8)) K) ((0:Int),[])=K (onP day x):=by
 refine ë x (fun i=>onP day (x.take i)) _ rfl (fun i n hi hg kn=>?_) (fun kn=>?_)
 ·try dsimp only
  unfold ő
  have hlt:(onP day (x.take i)).length≤1000:=by simp[onP]; omega
  rw[Ñ hi,Ç hg,Ô (by simp only[List.length_singleton]; omega),Am.iff_true,Ê hi (by omega),take_succ hg];unfold onP;rw[List.map_append];rfl
 ·try dsimp only
  unfold ő;rw[Ü,List.take_length]
def dn_L1:@ē ρ=@ő ρ:=rfl
def dn_L2:@Ē ρ=@ő ρ:=rfl
def afP (day:Int) {x:List Int} (hx:x.length≤1000):nQ day x=some (onP day x,Ů x&&(uh day&&decide (0<x.length))):=by
 unfold nQ tv;rw[TB (by omega),À];refine(agr hx day _).trans ?_;rw[ajN]
 cases Ů x with
 |false=>rfl
 |true =>
  rw[Ĕ,À]
  cases uh day with
  |false=>rfl
  |true =>
   rw[Ĕ,Û];congr 2;exact decide_eq_decide.2 (by omega)
def apT {x y:List Int} (hx:x.length≤1000) (hy:y.length≤1000) (ok:Bool) (K:Bool→Option ρ) :
 É (fun(v24:(Val (.pair .bool tI))) kk27=>ü x y v24.1 v24.2 (fun u25 u26=>kk27 (u25,u26)) K) (ok,(0:Int))=K (ok&&!(x.any fun i=>y.contains i)):=by
 refine Ĭ (fun v:Bool×Int=>∃i:Nat,i≤x.length∧v=(ok&&!((x.take i).any fun i=>y.contains i),(i:Int))) (fun v=>x.length-v.2.toNat) ?_ ⟨0,by omega,by simp⟩;rintro v ⟨i,hi,rfl⟩;rcases dG i x.length with h|h
 ·have hg:x[i]?=some x[i]:=List.getElem?_eq_getElem h;refine .inr ⟨(ok&&!((x.take (i+1)).any fun i=>y.contains i),((i+1:Nat):Int)),⟨i+1,h,rfl⟩,by simp; omega,fun kn=>?_⟩;dsimp only;unfold ü;rw[Ñ h,Ç hg,aqM (by omega),À,Ê h (by omega),take_succ hg,List.any_append];simp only[List.any_cons,List.any_nil,Bool.or_false];rw[Ê h (by omega)]
  cases ok<;>cases(x.take i).any (fun i=>y.contains i)<;>cases y.contains x[i]<;>rfl
 ·refine .inl fun kn=>?_
  obtain rfl:i=x.length:=by omega
  dsimp only;unfold ü;rw[Ü,List.take_length]
def VU (day:Int) {x y:List Int} (hx:x.length≤10) (hy:y.length≤10):kR day x y=some (onP day (x++y),arj day x y):=by
 unfold kR oO
 have fin:∀ok:Bool,É (fun(v24:(Val (.pair .bool tI))) kk27=>ü x y v24.1 v24.2 (fun u25 u26=>kk27 (u25,u26)) (fun z9=>É (fun(v20:(Val (.pair tI (.slice Â)))) kk23=>ē x day v20.1 v20.2 (fun u21 u22=>kk23 (u21,u22)) (fun z12=>É (fun(v16:(Val (.pair tI (.slice Â)))) kk19=>Ē y day v16.1 v16.2 (fun u17 u18=>kk19 (u17,u18)) (fun z15=>Þ (â ((List.length z12)+(List.length z15))) (some ((z12++z15),z9)))) ((0:Int),[]))) ((0:Int),[]))) (ok,(0:Int))=some (onP day (x++y),ok&&!(x.any fun i=>y.contains i)):=fun ok=>by
  refine(apT (by omega) (by omega) ok _).trans ?_;simp only[dn_L1,dn_L2];refine(agr (by omega) day _).trans ?_;refine(agr (by omega) day _).trans ?_;rw[Ô (by simp[onP]; omega),Am.iff_true];unfold onP;rw[List.map_append]
 unfold arj;rw[TB (by omega),À,TB (by omega),À,ajN]
 cases Ů x with
 |false=>rw[Ý]; exact fin false
 |true =>
  rw[Ĕ]
  cases Ů y with
  |false =>
   rw[Ý];refine(fin false).trans ?_;simp
  |true =>
   rw[Ĕ,À]
   cases uh day with
   |false =>
    rw[Ý];refine(fin false).trans ?_;simp
   |true =>
    rw[Ĕ]
    by_cases h1:x.length≤3
    ·rw[Õ (show ile (Ó x) 3=true by rw[Û]; exact decide_eq_true (by omega))]
     by_cases h2:y.length≤3
     ·rw[Õ (show ile (Ó y) 3=true by rw[Û]; exact decide_eq_true (by omega)),Û,Û,Ò (by omega) (by omega)];refine(fin _).trans ?_;rw[decide_eq_true h1,decide_eq_true h2];have:igt ((x.length:Int)+y.length) 0=decide (x.length+y.length≠0):=decide_eq_decide.2 (by omega);rw[this];simp
     ·rw[Ð (show ile (Ó y) 3=false by rw[Û]; exact decide_eq_false (by omega))];refine(fin false).trans ?_;rw[decide_eq_false h2];simp
    ·rw[Ð (show ile (Ó x) 3=false by rw[Û]; exact decide_eq_false (by omega))];refine(fin false).trans ?_;rw[decide_eq_false h1];simp
end
def apO {B:ß} (h:afZ B) (s:Sys) (e:Int) {ns:List (Int×Int)} (hl:ns.length≤6) (h0:0<ns.length):Š (B,s,af4 B,e) ns=some (apo B B.1 ns):=by
 unfold Š qD;have hf:=h.good.film
 have hm:∀x:Int,0≤x→x≤1000000→0≤((ns.length:Int)-1)*x∧((ns.length:Int)-1)*x≤10000000:=by
  intro x h0 h1;have:((ns.length:Int)-1)*x≤5*1000000:=fj (by omega) h1 h0 (by omega);exact⟨fG (by omega) h0,by omega⟩
 have m1:=hm B.1.1 (by omega) (by omega);have m2:=hm B.1.2 (by omega) (by omega);dsimp only;rw[Û,Ò (by omega) (by omega),Ò (by omega) (by omega),Ò (by omega) (by omega)];unfold apo;refine ë ns (fun i=>afX B (ns.take i) (((ns.length:Int)-1)*B.1.1,((ns.length:Int)-1)*B.1.2)) _ rfl (fun i n hi hn kn=>?_) (fun kn=>?_)
 ·try dsimp only
  unfold jF;have b1:=oW h (ş B n) (ħ B);have b2:=oW h (ħ B) (ş B n);have bs:=af5 h (ns.take i) (((ns.length:Int)-1)*B.1.1,((ns.length:Int)-1)*B.1.2) 10000000 (by dsimp only; omega) (by dsimp only; omega)
  have bl:((ns.take i).length:Int)≤6:=by rw[dv]; omega
  rw[Ñ hi,Ç hn,show Ř (((B.1.1,B.1.2),B.2.1,B.2.2.1,B.2.2.2.1,B.2.2.2.2.1,B.2.2.2.2.2),(s.1,s.2),af4 B,e) n=Ř (B,s,af4 B,e) n from rfl,aq1 h.good,À];rw[show Ŕ (((B.1.1,B.1.2),B.2.1,B.2.2.1,B.2.2.2.1,B.2.2.2.2.1,B.2.2.2.2.2),(s.1,s.2),af4 B,e) (yr B n.1 n.2)=Ŕ (B,s,af4 B,e) (yr B n.1 n.2) from rfl,aeT h _ _ (ş B n),À,take_succ hn,Pc];generalize afX B (ns.take i) (((ns.length:Int)-1)*B.1.1,((ns.length:Int)-1)*B.1.2)=z at bs ⊢;dsimp only;rw[Ò (by omega) (by omega),Ò (by omega) (by omega),Ê hi (by omega)];rfl
 ·try dsimp only
  unfold jF;rw[Ü,List.take_length]
def V5:∀{ns:List (Int×Int)} {b:ß},(ŵ b ns).2=0→(ŵ b ns).1.1=b.1
 |[],b,_=>rfl
 |n::t,b,e=>by
  unfold ŵ at e ⊢
  split
  ·rename_i h1; rw[if_pos h1] at e; exact absurd e h1
  ·rename_i h1;rw[if_neg h1] at e;rw[V5 e];unfold mD at h1 ⊢
   split
   ·rfl
   ·split
    ·rename_i h2 h3; rw[if_neg h2,if_pos h3] at h1; exact absurd h3 (by simpa using h1)
    ·rfl
def acK {b:ß} {ns:List (Int×Int)} (e:(Ă b ns).2=0) (hI:In b):(Ă b ns).1.1=b.1:=by
 have:=jn hI e;rw[this.2.1];exact V5 this.2.2.1
def Mj (b:ß) (ns:List (Int×Int)) (ok:Bool):abF:=if ä b≠0 then Xb (ä b) else if ok=false then Xb 1 else abG b ns
def aiD {b:ß} (hI:In b) {ns:List (Int×Int)} (hl:ns.length≤1000) (ok:Bool):vE b ns ok=some (Mj b ns ok):=by
 unfold vE J8 Mj;rw[TA hI.size,À]
 by_cases hc:ä b=0
 case neg=>rw[Õ (bne_iff_ne.2 hc),if_pos hc]; rfl
 rw[Ð (by rw[hc]; rfl),if_neg (by simp[hc])]
 cases ok with
 |false=>rfl
 |true=>rw[dT,Ý,if_neg (by simp),asw hI hl,À]
def al6 {b:ß} (hn:∀g∈b.2.1,I64 g.2.2.2.2.1.1) (day:Int) (x y:List Int):rq b day x y=some true:=by
 unfold rq qA;rw[few_ok,À,aj1]
 by_cases hf:fewP b=true
 case neg=>rw[fg.2 hf]; rfl
 have hI:In b:=⟨ap0 hf,hn⟩;rw[hf,Ð (by rfl)]
 by_cases lx:10<x.length
 ·rw[Õ (show igt (Ó x) 10=true by rw[Û]; exact decide_eq_true (by omega)),À]
 rw[Ð (show igt (Ó x) 10=false by rw[Û]; exact decide_eq_false (by omega))]
 by_cases ly:10<y.length
 ·rw[Õ (show igt (Ó y) 10=true by rw[Û]; exact decide_eq_true (by omega)),À]
 rw[Ð (show igt (Ó y) 10=false by rw[Û]; exact decide_eq_false (by omega))];rw[aoD hI day (by omega),À,aoL hI day (by omega) (by omega),À,afP day (by omega),À,VU day (by omega) (by omega),À];dsimp only;rw[aiD hI (by simp[onP]; omega),À,aiD hI (by simp[onP]; omega),À]
 -- Pile
 have P:((VT b day x).2=(Mj b (onP day x) (Ů x&&(uh day&&decide (0<x.length)))).2.2.2)∧((VT b day x).2≠0→(VT b day x).1=(0,0))∧((VT b day x).2=0→Š (Mj b (onP day x) (Ů x&&(uh day&&decide (0<x.length)))) (onP day x)=some (VT b day x).1):=by
  unfold VT Mj
  by_cases hc:ä b=0
  case neg=>rw[if_pos hc,if_pos hc]; exact⟨rfl,fun _=>rfl,fun h=>absurd h hc⟩
  rw[if_neg (show ¬(ä b≠0) by simp[hc]),if_neg (show ¬(ä b≠0) by simp[hc])]
  by_cases ha:x.length=0∨Ů x=false∨uh day=false
  ·rw[if_pos ha,if_pos (show(Ů x&&(uh day&&decide (0<x.length)))=false by
    rcases ha with h|h|h
    ·rw[decide_eq_false (by omega)]; simp
    ·rw[h]; rfl
    ·rw[h]; simp)]
   exact⟨rfl,fun _=>rfl,fun h=>by cases h⟩
  ·have h1:Ů x=true:=by cases h:Ů x<;>simp_all
   have h2:uh day=true:=by cases h:uh day<;>simp_all
   have h3:0<x.length:=by omega
   rw[if_neg ha,if_neg (show ¬(Ů x&&(uh day&&decide (0<x.length)))=false by rw[h1,h2,decide_eq_true h3]; simp)]
   by_cases ho:(Ă b (onP day x)).2=0
   ·rw[if_neg (show ¬((Ă b (onP day x)).2≠0) from fun h=>h ho),aeS ho];refine⟨rfl,fun h=>absurd rfl h,fun _=>?_⟩;have hr:=(jn hI ho).1;have hfilm:=acK ho hI;have h6:=((yV x).1 h1).2.2;rw[apO hr _ _ (by simp[onP]; omega) (by simp[onP]; omega),hfilm]
   ·rw[if_pos ho,ai4];exact⟨rfl,fun _=>rfl,fun h=>absurd h ho⟩
 have Q:((xM b day x y).2=(Mj b (onP day (x++y)) (arj day x y)).2.2.2)∧((xM b day x y).2≠0→(xM b day x y).1=(0,0))∧((xM b day x y).2=0→ā (Mj b (onP day (x++y)) (arj day x y)) day x y=some (xM b day x y).1):=by
  unfold xM Mj
  by_cases hc:ä b=0
  case neg=>rw[if_pos hc,if_pos hc]; exact⟨rfl,fun _=>rfl,fun h=>absurd h hc⟩
  rw[if_neg (show ¬(ä b≠0) by simp[hc]),if_neg (show ¬(ä b≠0) by simp[hc])]
  cases ha:arj day x y with
  |false =>
   rw[if_pos (show false=false from rfl),if_pos (show false=false from rfl)];exact⟨rfl,fun _=>rfl,fun h=>by cases h⟩
  |true =>
   rw[if_neg (show ¬true=false by simp),if_neg (show ¬true=false by simp)]
   by_cases ho:(Ă b (onP day (x++y))).2=0
   ·rw[if_neg (show ¬((Ă b (onP day (x++y))).2≠0) from fun h=>h ho),aeS ho];refine⟨rfl,fun h=>absurd rfl h,fun _=>?_⟩;have hr:=(jn hI ho).1;have hfilm:=acK ho hI;unfold arj at ha;simp only[Bool.and_eq_true,decide_eq_true_eq] at ha;rw[akv hr _ _ day ha.1.2 ha.2.1.2,hfilm]
   ·rw[if_pos ho,ai4];exact⟨rfl,fun _=>rfl,fun h=>absurd h ho⟩
 obtain⟨p1,p2,p3⟩:=P;obtain⟨q1,q2,q3⟩:=Q;rw[←p1,←q1,Ð (by simp[ine]),Ð (by simp[ine])];generalize VT b day x=p at *;generalize xM b day x y=q at *
 have en:∀e:Int,e=0→ine e 0=false:=fun e h=>by subst h; rfl
 have en':∀e:Int,e≠0→ine e 0=true:=fun e h=>bne_iff_ne.2 h;have z0:(!((Ě (0:Int) (0:Int))&&((Ě (0:Int) (0:Int))&&true)))=false:=rfl
 have zz:∀u v:Int,((Ě u u)&&((Ě v v)&&true))=true:=fun u v=>by simp[Ě]
 by_cases o1:p.2=0<;>by_cases o2:q.2=0
 ·simp only[en _ o1,en _ o2,Ĕ,Ý,À,p3 o1,q3 o2,zz]
 ·simp only[en _ o1,en' _ o2,Ĕ,Ý,À,p3 o1,q2 o2,zz,z0];rfl
 ·simp only[en' _ o1,en _ o2,Ĕ,Ý,À,q3 o2,p2 o1,zz,z0];rfl
 ·simp only[en' _ o1,en' _ o2,Ĕ,Ý,À,p2 o1,q2 o2,zz,z0];rfl
end Go.Proofs.ZzM
end
