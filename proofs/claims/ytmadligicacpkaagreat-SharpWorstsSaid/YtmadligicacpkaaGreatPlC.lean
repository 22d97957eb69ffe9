/- lemmas -/
import Derived.Test.YtmadligicacpkaaGreatPlA
import Derived.Test.YtmadligicacpkaaGreatPlB
import Derived.Test.YtmadligicacpkaaGreatMdTA
set_option linter.all false
set_option linter.unusedSectionVars false
set_option linter.unusedVariables false
set_option linter.unusedSimpArgs false
noncomputable section
namespace Go.Proofs.ZzM
open Go Go.Am
def oC {b:â} (h:Pre b) (n:Int×Int):Ĭ b n=some (wQ b n.1 n.2):=by
 have hl:=JA h.size;unfold Ĭ JO;rw[vA h,À];refine Eq.trans (iA (Í b) (fun m=>decide (n.1=m.1)&&decide (n.2=m.2)) (fun z=>some (z+1)) (some 0) (fun i a hi ha kn=>?_) (fun kn=>?_)) ?_
 ·try dsimp only
  unfold pq;rw[Ö hi,Ì ha,Ï hi (by omega),Ï hi (by omega),Ě,Bool.and_true]
  have e:(Ŏ a.1 n.1&&Ŏ a.2 n.2)=(decide (n.1=a.1)&&decide (n.2=a.2)):=by
   rw[dO];simp only[Ŏ,cR,decide_eq_true_eq];exact and_congr eq_comm eq_comm
  rw[e]
 ·try dsimp only
  unfold pq;rw[ã]
 ·unfold wQ iP
  cases List.findIdx? (fun m=>decide (n.1=m.1)&&decide (n.2=m.2)) (Í b)<;>rfl
def KS {b:â} (h:Pre b) (p q:List Int) (d:Int):wQ b (FJ p q) d=atP (Í b) (é p q) d:=by
 unfold wQ atP FJ
 cases hl:é p q with
 |nil =>
  simp only[List.head?_nil,Option.getD_none]
  have:iP (Í b) 0 d=none:=by
   unfold iP;rw[List.findIdx?_eq_none_iff];intro n hn;obtain⟨g,hg,hn⟩:=List.mem_flatMap.1 hn;obtain⟨e,_,rfl⟩:=List.mem_map.1 hn;have:=((vd g).1 (h.gauge g hg)).2.2.2.1
   have:¬((0:Int)=g.1):=by omega
   simp[this]
  rw[this]
 |cons x t=>rfl
section
variable {b:â}
def anj {k:Nat} (hk:k<(Í b).length):∃(i:Nat) (g:ñ) (j:Nat) (d:Int),b.2.1[i]?=some g∧(à b g)[j]?=some d∧k=off b i+j∧(Í b)[k]?=some (g.1,d):=by
 obtain⟨i,g,j,h1,h2,h3⟩:=ag1 (b:=b) b.2.1.length (cQ _) k (by rw[akf]; exact hk);have hd:(à b g)[j]?=some (à b g)[j]:=cO h2;exact⟨i,g,j,_,h1,hd,h3,by rw[h3]; exact Ol h1 hd⟩
def aic (h:Ē b) {i j:Nat} {g g':ñ} (hi:b.2.1[i]?=some g) (hj:b.2.1[j]?=some g') (he:g.1=g'.1):i=j∧g=g':=by
 obtain⟨h1,rfl⟩:=cY.1 hi;obtain⟨h2,rfl⟩:=cY.1 hj;have hp:=dM.1 h.ids;rcases Nat.lt_trichotomy i j with hlt|rfl|hlt
 ·have:=hp i j h1 h2 hlt; omega
 ·exact⟨rfl,rfl⟩
 ·have:=hp j i h2 h1 hlt; omega
def qO (b:â) (i:Nat) (g:ñ) (k:Nat):List Lk :=
 if k≤off b i then[] else[(0,(off b i:Int)+1,g.2.2.1+g.2.2.2.1.2),((off b i:Int)+1,0,-(g.2.2.1+g.2.2.2.1.1))] ++
  (List.range (min (k-off b i-1) ((à b g).length-1))).flatMap fun(k:Nat)=>[((off b i:Int)+1+k,(off b i:Int)+1+k+1,0),((off b i:Int)+1+k+1,(off b i:Int)+1+k,jc b g ((à b g)[k]?.getD 0) ((à b g)[k+1]?.getD 0))]
def iW (b:â) (i:Nat) (g:ñ) (k:Nat):List (Int×Int) :=
 if k≤off b i then[] else[(1,(i:Int)),(1,(i:Int))]++(List.range (min (k-off b i-1) ((à b g).length-1))).flatMap fun _=>[(2,(i:Int)),(2,(i:Int))]
def aiJ (h:Ē b) {i:Nat} {g:ñ} (hg:b.2.1[i]?=some g):qO b i g (Í b).length=ï b g∧iW b i g (Í b).length=ð b i g:=by
 have ho:=ake h hg;have hp:=gk (kD (b:=b) g)
 have e:min ((Í b).length-off b i-1) ((à b g).length-1)=(à b g).length-1:=by omega
 unfold qO iW ï ð;rw[if_neg (by omega),if_neg (by omega),e,ahJ h hg];exact⟨rfl,rfl⟩
def ac8 {i:Nat} {g:ñ} {k:Nat} (hk:k<off b i∨off b i+(à b g).length≤k) (hp:0<(à b g).length):qO b i g (k+1)=qO b i g k∧iW b i g (k+1)=iW b i g k:=by
 unfold qO iW;rcases hk with hk|hk
 ·rw[if_pos (by omega),if_pos (by omega),if_pos (by omega),if_pos (by omega)];exact⟨rfl,rfl⟩
 ·have e:min (k+1-off b i-1) ((à b g).length-1)=min (k-off b i-1) ((à b g).length-1):=by omega
  rw[if_neg (by omega),if_neg (by omega),if_neg (by omega),if_neg (by omega),e];exact⟨rfl,rfl⟩
def ac9 {i:Nat} {g:ñ}:qO b i g (off b i+1)=qO b i g (off b i)++[(0,(off b i:Int)+1,g.2.2.1+g.2.2.2.1.2),((off b i:Int)+1,0,-(g.2.2.1+g.2.2.2.1.1))]∧iW b i g (off b i+1)=iW b i g (off b i)++[(1,(i:Int)),(1,(i:Int))]:=by
 unfold qO iW;rw[if_neg (by omega),if_pos (Nat.le_refl _),if_neg (by omega),if_pos (Nat.le_refl _),show off b i+1-off b i-1=0 by omega,Nat.zero_min];exact⟨by simp,by simp⟩
def afE {i:Nat} {g:ñ} {j:Nat} (hj:j+1<(à b g).length):qO b i g (off b i+(j+1)+1)=qO b i g (off b i+(j+1))++[((off b i:Int)+1+j,(off b i:Int)+1+j+1,0),((off b i:Int)+1+j+1,(off b i:Int)+1+j,jc b g ((à b g)[j]?.getD 0) ((à b g)[j+1]?.getD 0))] ∧
 iW b i g (off b i+(j+1)+1)=iW b i g (off b i+(j+1))++[(2,(i:Int)),(2,(i:Int))]:=by
 unfold qO iW;rw[if_neg (by omega),if_neg (by omega),if_neg (by omega),if_neg (by omega),show min (off b i+(j+1)+1-off b i-1) ((à b g).length-1)=j+1 by omega,show min (off b i+(j+1)-off b i-1) ((à b g).length-1)=j by omega,pS,pS];exact⟨by simp,by simp⟩
def aiI (i:Nat) (g:ñ) (k:Nat) (hd:(à b g).length≤59):(qO b i g k).length≤120∧(iW b i g k).length≤120:=by
 unfold qO iW;constructor
 ·split
  ·simp
  ·rw[cW,Ů _ _ (fun _=>rfl)];simp only[df,dt]; omega
 ·split
  ·simp
  ·rw[cW,Ů _ _ (fun _=>rfl)];simp only[df,dt]; omega
set_option maxHeartbeats 1000000 in
def aas (h:Ē b) {i:Nat} {g:ñ} (hg:b.2.1[i]?=some g) {L:List Lk} {S:List (Int×Int)} (hL:L.length≤100000) (hS:S.length≤100000) (K:List Lk×List (Int×Int)→Option (List Lk×List (Int×Int))) :
 Î (fun(v21:Int×List Lk×List (Int×Int)) kk25=>kL (Í b) (i:Int) b.1.1 b.1.2 b.2.1 b.2.2.1 b.2.2.2.1 b.2.2.2.2.1 b.2.2.2.2.2 g.1 g.2.1 g.2.2.1 g.2.2.2.1.1 g.2.2.2.1.2 v21.1 v21.2.1 v21.2.2 (fun u22 u23 u24=>kk25 (u22,u23,u24)) K) ((0:Int),L,S)=K (L++ï b g,S++ð b i g):=by
 have hN:=h.nodes;have hgm:=cZ hg;have hdl:=IU h hgm;have hp:=gk (kD (b:=b) g);have hr:=h.gaugeR hgm;have r1:=hr.2.2.2.2.2.1;have r2:=hr.2.2.2.2.2.2.1;obtain⟨tl,htl⟩:=SD h hgm;refine ô (Í b) (fun k=>(L++qO b i g k,S++iW b i g k)) _ (by simp[qO,iW]) (fun k n hk hn kn=>?_) (fun kn=>?_)
 ·try dsimp only
  unfold kL;have gl:=aiI (b:=b) i g k hdl;rw[Ö hk,Ì hn];obtain⟨i',g',j,d,h1,h2,h3,h4⟩:=anj hk
  have hnd:n=(g'.1,d):=by rw[hn] at h4; exact Option.some.inj h4
  by_cases hsame:n.1=g.1
  ·obtain⟨hi',hgg⟩:=aic h h1 hg (by rw[hnd] at hsame; exact hsame);subst hgg;have hin:i'=i:=hi';rw[hin] at h3 h1;rw[Ô (by simp[ine,hsame]),Ì hn]
   have hdn:n.2=d:=by rw[hnd]
   rw[hdn]
   cases j with
   |zero =>
    have hdd:d=g'.2.1:=by rw[htl] at h2; simpa using h2.symm
    have hk0:k=off b i:=by omega
    rw[Ø (by simp[ieq,hdd])];obtain⟨e1,e2⟩:=ac9 (b:=b) (i:=i) (g:=g');rw[←hk0] at e1 e2;rw[Ï hk (by omega),Õ (by omega) (by omega),Ï hk (by omega),Õ (by omega) (by omega),Õ (by omega) (by omega),Ú (by simp only[cW,df,dt]; omega),Am.iff_true,Ú (by simp only[cW,df,dt]; omega),Am.iff_true,Ï hk (by omega),e1,e2]
    have e3:0-g'.2.2.1-g'.2.2.2.1.1 = -(g'.2.2.1+g'.2.2.2.1.1):=by omega
    rw[e3];simp only[dl]
   |succ j =>
    have hjl:=(cY.1 h2).1
    have hdd:d≠g'.2.1:=by
     have hp1:=rh b g';rw[htl] at h2 hp1;rw[List.getElem?_cons_succ] at h2;have:=(dK.1 hp1).1 d (cZ h2);omega
    rw[Ô (by simpa[ieq] using hdd)]
    have hprev:(à b g')[j]?=some ((à b g')[j]?.getD 0):=by rw[cO (by omega)]; rfl
    have hd':d=(à b g')[j+1]?.getD 0:=by rw[h2]; rfl
    have hpn:=Ol h1 hprev;have d1:=h.day hgm (cZ hprev);have d2:=h.day hgm (cZ h2);have hk0:k=off b i+(j+1):=h3;obtain⟨e1,e2⟩:=afE (b:=b) (i:=i) (g:=g') hjl;rw[←hk0] at e1 e2
    have hkm:((k:Int)-1)=((off b i+j:Nat):Int):=by omega
    have lb:=jB h hgm (t:=d) d1.2.1;rw[SH (by omega) (by omega),hkm,Ì hpn,Ì hn,hdn]
    try dsimp only
    rw[show vh ((b.1.1,b.1.2),b.2.1,b.2.2.1,b.2.2.2.1,b.2.2.2.2.1,b.2.2.2.2.2) g'.1 ((à b g')[j]?.getD 0) d=vh b g'.1 ((à b g')[j]?.getD 0) d from rfl,aov h (wS h.ids hgm) ⟨by omega,by omega⟩ (by omega),À,Ï hk (by omega),Ï hk (by omega),Ú (by simp only[cW,df,dt]; omega),Am.iff_true,Ú (by simp only[cW,df,dt]; omega),Am.iff_true,Ï hk (by omega),e1,e2,←hd']
    have e3:(off b i:Int)+1+(j:Int)=(k:Int):=by omega
    rw[e3];simp only[dl]
  ·rw[Ø (by simp[ine,hsame]),Ï hk (by omega)]
   have hout:k<off b i∨off b i+(à b g).length≤k:=by
    rcases dn k (off b i) with hlt|hge
    ·exact .inl hlt
    ·rcases dn k (off b i+(à b g).length) with hlt2|hge2
     ·have:=Ol hg (k:=k-off b i) (cO (by omega));rw[show off b i+(k-off b i)=k by omega,hn] at this;exact absurd (by rw[Option.some.inj this]) hsame
     ·exact .inr hge2
   obtain⟨e1,e2⟩:=ac8 hout hp;rw[e1,e2]
 ·try dsimp only
  unfold kL;rw[ã];obtain⟨e1,e2⟩:=aiJ h hg;rw[e1,e2]
end
def adh {α β:Type} {e:Nat→α→Option β}:∀{l:List α} {k i:Nat} {a:α} {b:β},(∀j c,j<i→l[j]?=some c→e (k+j) c=none)→l[i]?=some a→e (k+i) a=some b→Ľ e k l=some b
 |[],_,_,_,_,_,ha,_=>by simp at ha
 |c::t,k,0,a,b,_,ha,hb=>by
  simp only[List.getElem?_cons_zero,Option.some.injEq] at ha;subst ha;unfold Ľ;rw[Nat.add_zero] at hb;rw[hb]
 |c::t,k,i+1,a,b,h,ha,hb=>by
  unfold Ľ;have h0:=h 0 c (by omega) rfl;rw[Nat.add_zero] at h0;rw[h0];refine adh (i:=i) (fun j d hj hd=>?_) (by simpa using ha) (by rw[←hb]; congr 1; omega);have:=h (j+1) d (by omega) (by simpa using hd);rw[←this];congr 1;omega
def EO {ρ α β:Type} (l:List α) (e:Nat→α→Option β) (k0:β→Option ρ) (k1:Option ρ) {f:Int→(Int→Option ρ)→Option ρ}
 (h:∀(i:Nat) (a:α),i<l.length→l[i]?=some a→∀kn,f i kn=match e i a with|some b=>k0 b|none=>kn ((i:Int)+1))
 (hn:(∀j a,l[j]?=some a→e j a=none)→∀kn,f l.length kn=k1):Î f 0=match Ľ e 0 l with|some b=>k0 b|none=>k1:=by
 refine Ĕ (fun x:Int=>∃i:Nat,i≤l.length∧x=i∧∀j a,j<i→l[j]?=some a→e j a=none) (fun x=>l.length-x.toNat) ?_ ⟨0,by omega,rfl,fun j a hj=>by omega⟩;rintro x ⟨i,hi,rfl,hp⟩;rcases dn i l.length with hlt|hge
 ·have ha:l[i]?=some l[i]:=cO hlt
  cases hc:e i l[i] with
  |some b =>
   refine .inl fun kn=>?_;rw[h i _ hlt ha,hc,adh (k:=0) (b:=b) (fun j c hj hc=>by rw[du]; exact hp j c hj hc) ha (by rw[du]; exact hc)]
  |none =>
   refine .inr ⟨((i+1:Nat):Int),⟨i+1,hlt,rfl,fun j a hj hja=>?_⟩,by simp only[dk]; omega,fun kn=>?_⟩
   ·rcases dn j i with h1|h1
    ·exact hp j a h1 hja
    ·have:j=i:=by omega
     subst this;rw[ha] at hja;rw[←Option.some.inj hja]; exact hc
   ·rw[h i _ hlt ha,hc];simp
 ·have:i=l.length:=by omega
  subst this;refine .inl fun kn=>?_;have hall:∀j a,l[j]?=some a→e j a=none:=fun j a hja=>hp j a (cY.1 hja).1 hja;rw[hn hall kn,iX.2 fun j a hja=>by rw[du]; exact hall j a hja]
def adn {e:Int}:ahp e=none↔e=0:=by
 unfold ahp
 split<;>simp_all
section
variable {b:â}
def Bi (h:Ē b):∀i,((b.2.1.take i).flatMap (ï b)).length≤1440∧(((b.2.1.take i).mapIdx (ð b)).flatten).length≤1440:=by
 have hG:=h.nG
 have gl:∀g∈b.2.1,(ï b g).length≤120∧∀i,(ð b i g).length≤120:=by
  intro g hg;have:=IU h hg;constructor
  ·unfold ï;rw[List.length_append,Ů _ _ (fun _=>rfl)];simp only[List.length_cons,List.length_nil]; omega
  ·intro i;unfold ð;rw[List.length_append,Ů _ _ (fun _=>rfl)];simp only[List.length_cons,List.length_nil]; omega
 have key:∀i,i≤b.2.1.length→((b.2.1.take i).flatMap (ï b)).length≤i*120∧(((b.2.1.take i).mapIdx (ð b)).flatten).length≤i*120:=by
  intro i
  induction i with
  |zero=>intro _; simp
  |succ i ih =>
   intro hi;have ih:=ih (by omega);have hg:b.2.1[i]?=some b.2.1[i]:=cO hi;have h2:=gl _ (cZ hg);have h3:=h2.2 i;rw[ς _ hg,take_succ hg,eX,fp,cW,cW];simp only[dN,gQ,dL,fN,f8];omega
 intro i;rcases dn b.2.1.length i with h1|h1
 ·rw[dX (by omega)];have:=key b.2.1.length (cQ _);rw[List.take_length] at this;omega
 ·have:=key i h1;omega
set_option maxHeartbeats 1000000 in
def aml (h:Ē b):pD b=some (æ b,ŷ b):=by
 have hC:=h.nC;have hG:=h.nG;unfold pD Ot;rw[vA h.pre,À];refine ô b.2.1 (fun i=>((b.2.1.take i).flatMap (ï b),((b.2.1.take i).mapIdx (ð b)).flatten)) _ rfl (fun i g hi hg kn=>?_) (fun kn=>?_)
 ·try dsimp only
  unfold mP;have hls:=Bi h i;rw[Ö hi,Ì hg];refine Eq.trans (aas h hg (by omega) (by omega) _) ?_;rw[Ï hi (by omega),ς _ hg,take_succ hg,List.flatMap_append,List.flatten_append];simp only[List.flatMap_cons,List.flatMap_nil,List.append_nil,List.flatten_cons,List.flatten_nil]
 ·try dsimp only
  unfold mP;rw[ã,List.take_length];dsimp only;have hls:=Bi h b.2.1.length;rw[List.take_length] at hls;refine ô b.2.2.2.2.1 (fun i=>(b.2.1.flatMap (ï b)++(b.2.2.2.2.1.take i).flatMap (ò b),(b.2.1.mapIdx (ð b)).flatten++((b.2.2.2.2.1.take i).mapIdx fun i _=>[((3:Int),(i:Int)),((3:Int),(i:Int))]).flatten)) _ (by simp) (fun i c hi hc kn=>?_) (fun kn=>?_)
  ·try dsimp only
   unfold mO;have hcm:=List.mem_of_getElem? hc;have hn:=(Ŵ c).1 (h.nums hcm);have ha:=ĝ hn.2.2.2.2.2.1;have hb:=ĝ hn.2.2.2.2.2.2;have hcl:=WN (b:=b) i (by omega);have sb:=qm h hcm;rw[Ö hi,Ì hc,tK (by omega) (by omega),À];rw[show Ĭ ((b.1.1,b.1.2),b.2.1,b.2.2.1,b.2.2.2.1,b.2.2.2.2.1,b.2.2.2.2.2) (FJ c.2.2.1 c.2.2.2.1,c.2.1)=Ĭ b (FJ c.2.2.1 c.2.2.2.1,c.2.1) from rfl,oC h.pre,À,tK (by omega) (by omega),À];rw[show Ĭ ((b.1.1,b.1.2),b.2.1,b.2.2.1,b.2.2.2.1,b.2.2.2.2.1,b.2.2.2.2.2) (FJ c.2.2.2.1 c.2.2.1,c.2.1)=Ĭ b (FJ c.2.2.2.1 c.2.2.1,c.2.1) from rfl,oC h.pre,À];rw[show jG ((b.1.1,b.1.2),b.2.1,b.2.2.1,b.2.2.2.1,b.2.2.2.2.1,b.2.2.2.2.2) c=jG b c from rfl,ahT h.size h.film (h.cmpIn hcm),À];rw[Õ (by omega) (by omega),Ú (by simp only[List.length_append,List.length_cons,List.length_nil]; omega),Am.iff_true,Ú (by simp only[List.length_append,List.length_cons,List.length_nil]; omega),Am.iff_true,Ï hi (by omega)];rw[ς _ hc,take_succ hc,List.flatMap_append,List.flatten_append,KS h.pre,KS h.pre];simp only[List.flatMap_cons,List.flatMap_nil,List.append_nil,List.flatten_cons,List.flatten_nil,List.append_assoc];rw[Int.zero_sub];rfl
  ·try dsimp only
   unfold mO;rw[ã,List.take_length];rfl
def kE (b:â) (i:Nat) (c:Cmp):Int:=if !M7 c then 1 else if (b.2.2.2.2.1.take i).any (fun x=>x.1==c.1) then 6 else Cb b c
def WD (hi:b.2.1.Pairwise fun a b=>a.1<b.1) (i:Nat) (c:Cmp):kE b i c=pH b (iO b) i c:=by
 unfold kE pH;rw[anb hi]
def ao2 (b:â):Int:=match (b.2.2.2.2.1.mapIdx (kE b)).find? (fun e=>e != 0) with
 |some e=>e
 |none=>match (b.2.2.2.2.2.map (aaj b)).find? (fun e=>e != 0) with
  |some e=>e
  |none=>if 59<(Í b).length then 2 else if 300<2*b.2.1.length+2*((Í b).length-b.2.1.length:Int)+2*b.2.2.2.2.1.length then 2 else 0
def alh {α:Type} {l:List α} {E:α→Int} (h:(l.map E).find? (fun e=>e != 0)=none):∀a∈l,E a=0:=by
 intro a ha;have:=eA.1 h (E a) (dS.2 ⟨a,ha,rfl⟩);simpa using this
def aiL {α:Type} {l:List α} {E:Nat→α→Int} (h:(l.mapIdx E).find? (fun e=>e != 0)=none):∀i a,l[i]?=some a→E i a=0:=by
 intro i a ha;obtain⟨hi,rfl⟩:=cY.1 ha;have:=eA.1 h (E i l[i]) (gT.2 ⟨i,hi,rfl⟩);simpa using this
def ZO {i:Nat} {c:Cmp} (h:kE b i c=0):M7 c=true∧(é c.2.2.1 c.2.2.2.1).length≤1∧(é c.2.2.2.1 c.2.2.1).length≤1:=by
 unfold kE at h
 split at h
 ·omega
 rename_i h1
 split at h
 ·omega
 unfold Cb at h
 (repeat' split at h)<;>first|omega|exact⟨by simpa using h1,by omega,by omega⟩
set_option maxHeartbeats 4000000 in
def ao1 (hs:Ž b) (hfilm:0≤b.1.1∧b.1.1≤b.1.2∧b.1.2≤1000000) (nG:b.2.1.length≤12) (nU:b.2.2.1.length≤40) (nL:b.2.2.2.1.length≤12) (nC:b.2.2.2.2.1.length≤40) (nK:b.2.2.2.2.2.length≤10)
 (hg:∀g∈b.2.1,qN g=true) (hi:b.2.1.Pairwise fun a b=>a.1<b.1) (hu:∀u∈b.2.2.1,aaj b u=0) (hl:∀i l,b.2.2.2.1[i]?=some l→U5 b i l=0) :
 Î (fun(v41:Int) kk43=>jP b.1.1 b.1.2 b.2.1 b.2.2.1 b.2.2.2.1 b.2.2.2.2.1 b.2.2.2.2.2 v41 (fun u42=>kk43 u42) (fun z26=>some z26) (fun _=>Î (fun(v38:Int) kk40=>jO b.1.1 b.1.2 b.2.1 b.2.2.1 b.2.2.2.1 b.2.2.2.2.1 b.2.2.2.2.2 v38 (fun u39=>kk40 u39) (fun z34=>some z34) (fun _=>Ã (jV b) fun r36=>ifb (igt (Û r36) (59:Int)) (some (2:Int)) (Ã (pD b) fun r37=>ifb (igt (Û r37.1) (300:Int)) (some (2:Int)) (some (0:Int))))) (0:Int))) (0:Int)=some (ao2 b):=by
 unfold ao2
 refine eV (EO b.2.2.2.2.1 (fun i c=>ahp (kE b i c)) some (some (match (b.2.2.2.2.2.map (aaj b)).find? (fun e=>e != 0) with
  |some e=>e
  |none=>if 59<(Í b).length then 2 else if 300<2*b.2.1.length+2*((Í b).length-b.2.1.length:Int)+2*b.2.2.2.2.1.length then 2 else 0)) (fun i c hci hc kn=>?_) (fun hcz kn=>?_)) ?_
 ·try dsimp only
  unfold jP;have hp:=hs.piles c (List.mem_of_getElem? hc);rw[Ö hci,Ì hc,amh (by omega) (by omega),À];unfold kE ahp
  cases M7 c with
  |false=>rfl
  |true =>
   rw[Ô (by rfl)]
   have hl9:(b.2.2.2.2.1.take i).length=i:=by rw[dj]; omega
   refine eV (Ń (b.2.2.2.2.1.take i) (fun x=>x.1==c.1) (fun _=>some 6) (some 6) (if Cb b c=0 then kn ((i:Int)+1) else some (Cb b c)) (fun _=>rfl) (fun j a hj ha kn'=>?_) (fun kn'=>?_)) ?_
   ·try dsimp only
    unfold pr;rw[hl9] at hj
    have ha':b.2.2.2.2.1[j]?=some a:=by rwa [List.getElem?_take_of_lt hj] at ha
    rw[Ø (show ilt (j:Int) (i:Int)=true by simp[ilt]; omega),Ì ha',Ì hc,Ï hj (by omega),Ě]
   ·try dsimp only
    unfold pr;rw[hl9,Ô (show ilt (i:Int) (i:Int)=false by simp[ilt])];dsimp only;rw[Ì hc,show jU ((b.1.1,b.1.2),b.2.1,b.2.2.1,b.2.2.2.1,b.2.2.2.2.1,b.2.2.2.2.2) c=jU b c from rfl,adZ hs hp.1 hp.2,À,Ï hci (by omega)]
    by_cases hz:Cb b c=0
    ·rw[Ô (by simp[ine,hz]),if_pos hz]
    ·rw[Ø (by simp[ine,hz]),if_neg hz]
   ·cases hany:(b.2.2.2.2.1.take i).any (fun x=>x.1==c.1) with
    |true=>simp
    |false =>
     by_cases hz:Cb b c=0
     ·simp[hz]
     ·simp[hz]
 ·try dsimp only
  unfold jP;rw[ã];dsimp only;have hcz':∀i c,b.2.2.2.2.1[i]?=some c→kE b i c=0:=fun i c hc=>adn.1 (hcz i c hc);refine Eq.trans (EO b.2.2.2.2.2 (fun _ u=>ahp (aaj b u)) some (some (if 59<(Í b).length then 2 else if 300<2*b.2.1.length+2*((Í b).length-b.2.1.length:Int)+2*b.2.2.2.2.1.length then 2 else 0)) (fun i a hia ha kn'=>?_) (fun hlz kn'=>?_)) ?_
  ·try dsimp only
   unfold jO;rw[Ö hia,Ì ha,aac,À];unfold aaj ahp
   cases Jd a.2 with
   |false=>rfl
   |true =>
    rw[Ô (by rfl),Ì ha,Ì ha,I8 (b:=((b.1.1,b.1.2),b.2.1,b.2.2.1,b.2.2.2.1,b.2.2.2.2.1,b.2.2.2.2.2)) (by simp only; omega),À,Ï hia (by omega)];have e:ic ((b.1.1,b.1.2),b.2.1,b.2.2.1,b.2.2.2.1,b.2.2.2.2.1,b.2.2.2.2.2) a.1 a.2=ic b a.1 a.2:=rfl;rw[e]
    by_cases hz:ic b a.1 a.2=0
    ·rw[Ô (by simp[ine,hz])]; simp[hz]
    ·rw[Ø (by simp[ine,hz])]; simp[hz]
  ·try dsimp only
   unfold jO;rw[ã];dsimp only
   have hlz':∀u∈b.2.2.2.2.2,aaj b u=0:=fun u hum=>by
    obtain⟨j,hj,rfl⟩:=di.1 hum;exact adn.1 (hlz j _ (cO hj))
   have pre:Pre b:=⟨hs,hg,fun c hc=>by
    obtain⟨j,hj,rfl⟩:=di.1 hc;have q:=ZO (hcz' j _ (cO hj))
    exact⟨abk q.1,q.2⟩,fun n hn=>by
    have:=hlz' n hn;unfold aaj at this
    split at this
    ·omega
    ·rename_i hd; simpa using hd⟩
   rw[vA pre,À,ä]
   by_cases h59:59<(Í b).length
   ·rw[Ø (by simp[igt]; omega),if_pos h59]
   ·rw[Ô (by simp[igt]; omega),if_neg h59];have good:Ē b:=⟨hfilm,nG,nU,nL,nC,nK,hg,hi,fun u hum=>by rw[←agr hi]; exact hu u hum,fun i l hil=>by rw[←akO hi]; exact hl i l hil,fun i c hic=>by rw[←WD hi]; exact hcz' i c hic,fun u hum=>by rw[←agr hi]; exact hlz' u hum,by omega,by omega⟩;have hll:=RS good;rw[aml good,À,ä];dsimp only;rw[hll,Ô (by simp[igt]; omega),if_neg (by omega)]
  ·rw[Sk]
   cases(b.2.2.2.2.2.map (aaj b)).find? (fun e=>e != 0)<;>rfl
 ·rw[Sj (kE b)]
  cases(b.2.2.2.2.1.mapIdx (kE b)).find? (fun e=>e != 0)<;>rfl
end
def ZG {l m:List Int}:(l++m).find? (fun e=>e != 0)=match l.find? (fun e=>e != 0) with|some e=>some e|none=>m.find? (fun e=>e != 0):=by
 rw[List.find?_append]
 cases l.find? (fun e=>e != 0)<;>rfl
set_option maxHeartbeats 4000000 in
def Th {b:â} (hs:Ž b):jg b=some (è b):=by
 unfold jg JR è;rw[xi,À]
 cases hsp:j7 b.1 0 1000000 with
 |false=>rfl
 |true =>
 have hfilm:0≤b.1.1∧b.1.1≤b.1.2∧b.1.2≤1000000:=by
  simp only[j7,cR,decide_eq_true_eq] at hsp;exact hsp
 rw[Ô (show(!true)=false from rfl),if_neg (by simp)];rw[ä b.2.1,ä b.2.2.1,ä b.2.2.2.1,ä b.2.2.2.2.1,ä b.2.2.2.2.2]
 by_cases c0:12<b.2.1.length
 ·rw[Ø (by simp[igt]; omega),if_pos c0]
 rw[Ô (by simp[igt]; omega),if_neg c0]
 by_cases c1:40<b.2.2.1.length
 ·rw[Ø (by simp[igt]; omega),if_pos c1]
 rw[Ô (by simp[igt]; omega),if_neg c1]
 by_cases c2:12<b.2.2.2.1.length
 ·rw[Ø (by simp[igt]; omega),if_pos c2]
 rw[Ô (by simp[igt]; omega),if_neg c2]
 by_cases c3:40<b.2.2.2.2.1.length
 ·rw[Ø (by simp[igt]; omega),if_pos c3]
 rw[Ô (by simp[igt]; omega),if_neg c3]
 by_cases c4:10<b.2.2.2.2.2.length
 ·rw[Ø (by simp[igt]; omega),if_pos c4]
 rw[Ô (by simp[igt]; omega),if_neg c4]
 refine eV (EO b.2.1 (o8 b.2.1) some (some (match (yp b (iO b)).find? (fun e=>e != 0) with
  |some e=>e
  |none=>if 59<(Í b).length then 2 else if 300<2*b.2.1.length+2*((Í b).length-b.2.1.length:Int)+2*b.2.2.2.2.1.length then 2 else 0)) (fun i g hi hg kn=>?_) (fun hz kn=>?_)) ?_
 ·try dsimp only
  unfold pu;rw[Ö hi,Ì hg,amj,À];unfold o8
  cases qN g with
  |false=>rfl
  |true =>
   rw[Ô (by rfl)];rcases fC i with h0|h0
   ·subst h0
    have:igt ((0:Nat):Int) 0=false:=by simp[igt]
    rw[Ô this,Ï hi (by omega)];simp[EY]
   ·obtain⟨q,hq⟩:=Fq hi h0
    have h1:igt (i:Int) 0=true:=by simp[igt]; omega
    rw[Ø h1,Ì hg,SH h0 (by omega),Ip h0 hq];simp only[EY,h0,decide_true,Bool.true_and,hq,Option.any_some];unfold ile
    cases h2:decide (g.1≤q.1) with
    |true=>simp
    |false=>rw[ø,Ï hi (by omega)]; simp
 ·try dsimp only
  unfold pu;rw[ã];dsimp only
  have hg0:jE b=0:=by
   unfold jE;rw[iX.2 fun j a ha=>by rw[Nat.zero_add]; exact hz j a ha];rfl
  obtain⟨hg,hi⟩:=(wR b).1 hg0;have eu:b.2.2.1.map (aaj b)=b.2.2.1.map fun u=>ah5 (iO b) u.1 u.2:=List.map_congr_left fun u _=>agr hi u;have el:b.2.2.2.1.mapIdx (U5 b)=b.2.2.2.1.mapIdx fun i l=>U6 b (iO b) i l:=List.mapIdx_eq_mapIdx_iff.2 fun i hl=>akO hi i _;have ec:b.2.2.2.2.1.mapIdx (kE b)=b.2.2.2.2.1.mapIdx fun i c=>pH b (iO b) i c:=List.mapIdx_eq_mapIdx_iff.2 fun i hc=>WD hi i _;have ek:b.2.2.2.2.2.map (aaj b)=b.2.2.2.2.2.map fun u=>ah5 (iO b) u.1 u.2:=List.map_congr_left fun u _=>agr hi u;unfold yp;rw[←eu,←el,←ec,←ek,ZG,ZG,ZG,aoo hs,À]
  cases hue:(b.2.2.1.map (aaj b)).find? (fun e=>e != 0) with
  |some e =>
   have he:e≠0:=by have:=gi hue; simpa using this
   simp only[fQ];rw[Ô (by simpa[ieq] using he),Ø (by simpa[ine] using he)]
  |none =>
   simp only[Option.getD_none];rw[Ø (by rfl),ami hs,À]
   cases hle:(b.2.2.2.1.mapIdx (U5 b)).find? (fun e=>e != 0) with
   |some e =>
    have he:e≠0:=by have:=gi hle; simpa using this
    simp only[fQ];rw[Ø (by simpa[ine] using he)]
   |none =>
    simp only[Option.getD_none];rw[Ô (by rfl)];refine Eq.trans (ao1 hs hfilm (by omega) (by omega) (by omega) (by omega) (by omega) hg hi (alh hue) (aiL hle)) ?_;unfold ao2
    cases(b.2.2.2.2.1.mapIdx (kE b)).find? (fun e=>e != 0)<;>rfl
 ·unfold jE
  cases hf:Ľ (o8 b.2.1) 0 b.2.1 with
  |none =>
   simp
   cases(yp b (iO b)).find? (fun e=>e != 0)<;>rfl
  |some e =>
   have he:jE b=e:=by unfold jE; rw[hf]; rfl
   have hne:e≠0:=by
    intro h0;rw[h0] at he;obtain⟨h1,h2⟩:=(wR b).1 he
    have h3:∀j a,b.2.1[j]?=some a→o8 b.2.1 j a=none:=by
     intro j a ha;have h4:=(Z1 (fun g:ñ=>g.1) b.2.1).2 h2 j a ha;simp[o8,h1 a (cZ ha),h4]
    rw[iX.2 fun j a ha=>by rw[du]; exact h3 j a ha] at hf;cases hf
   simp[hne]
def amn {b:â} (hs:Ž b) (hf:0≤b.1.1∧b.1.1≤b.1.2∧b.1.2≤1000000) {c:Cmp} (h:ajq b c) {d:Int} (hd : -2305843009213693952≤d∧d≤2305843009213693952):lf b c d=some (d+MK b c,d+oo b c):=by
 have hn:=(Ŵ c).1 h.ok.nums;have ha:=ĝ hn.2.2.2.2.2.1;have hb:=ĝ hn.2.2.2.2.2.2;obtain⟨q1,q2,b1,b2,b3⟩:=nA hf h.ok;have c1:=vw q1;have c2:=qP q2;have fb:=qR (b:=b) (c:=c) (by omega) (by omega) (by omega) (by omega) (by omega) (by omega);unfold lf JM MK oo;rw[Ln hs h,À,Tg (by omega) (by omega) (by omega) (by omega) (by omega) (by omega),À,aaa q1.rat,Tf q2.rat];simp only[À];rw[Õ (by omega) (by omega),Õ (by omega) (by omega),Õ (by omega) (by omega),Õ (by omega) (by omega),Õ (by omega) (by omega),Õ (by omega) (by omega)]
 have e1:d+(iD b c).1+EV (Ģ b c).1-c.2.2.2.2.2.1=d+(EV (Ģ b c).1+(iD b c).1-c.2.2.2.2.2.1):=by omega
 have e2:d+(iD b c).2+(Ģ b c).2.1 / (Ģ b c).2.2+c.2.2.2.2.2.1=d+((Ģ b c).2.1 / (Ģ b c).2.2+(iD b c).2+c.2.2.2.2.2.1):=by omega
 rw[e1,e2]
section
variable {L:List Lk} {N:Nat}
def qt:∀(A B:List Lk),kU (A++B)=kU A+kU B
 |[],B=>by simp[kU,BN]
 |l::A,B=>by
  have:=qt A B;simp only[kU,BN,if_true,eP] at this ⊢;omega
def akp (k:Nat) (L:List Lk):kU L≤kU (L.take k):=by
 have h:=qt (L.take k) (L.drop k);rw[List.take_append_drop] at h;have:=mG (fun _=>true) (L.drop k);unfold kU at *;omega
def Ps (L:List Lk):kU L≤0:=mG _ _
def Vs (L:List Lk) (l:Lk) (x:List Int):ķ (L++[l]) x=ų (ķ L x) l:=by
 unfold ķ;rw[List.foldl_append];rfl
def Xh:∀{L:List Lk},InR L N→∀{x:List Int} {B:Int},x.length=N→B≤0→(∀v:Int,0≤v→v<N→B≤gv x v)→∀v:Int,0≤v→v<N→B+kU L≤gv (ķ L x) v
 |[],_,x,B,_,_,hB,v,h0,h1=>by have:=hB v h0 h1; simp[kU,BN,ķ]; omega
 |l::t,hL,x,B,hx,hB0,hB,v,h0,h1=>by
  have hl:=hL l (by simp)
  have key:∀v:Int,0≤v→v<N→B+min l.2.2 0≤gv (ų x l) v:=by
   intro v h0 h1;have h2:=hB v h0 h1;have h3:=hB l.1 hl.1.1 hl.1.2;unfold ų
   split
   ·rw[uY hl.2.1 h0 (by omega)]
    split<;>omega
   ·omega
  have:=Xh (L:=t) (fun m hm=>hL m (by simp[hm])) (x:=ų x l) (B:=B+min l.2.2 0) (by rw[lv]; exact hx) (by omega) key v h0 h1;show B+kU (l::t)≤gv (ķ t (ų x l)) v
  have e:kU (l::t)=min l.2.2 0+kU t:=by simp[kU,BN]
  rw[e];omega
def agJ {x0 x:List Int} {l:Lk} (hl:(0≤l.1∧l.1<N)∧(0≤l.2.1∧l.2.1<N)) (hx:x.length=N) (hle:∀v:Int,0≤v→gv x v≤gv x0 v) (hlt:gv x l.1+l.2.2<gv x l.2.1):x.set l.2.1.toNat (gv x l.1+l.2.2)≠x0:=by
 intro e;have h1:=hle l.2.1 hl.2.1
 have h2:gv (x.set l.2.1.toNat (gv x l.1+l.2.2)) l.2.1=gv x l.1+l.2.2:=by rw[uY hl.2.1 hl.2.1 (by omega),if_pos rfl]
 rw[e] at h2;omega
def Dx {ρ:Type} {x:List Int} {v:Int} (h0:0≤v) (h1:v<x.length) (f:Int→Option ρ):ë ((ile (0:Int) v)&&(ilt v (ĉ x))) (Ĺ x (Int.toNat v) f)=f (gv x v):=by
 rw[show ĉ x=((x.length:Nat):Int) from rfl,Ĵ h0 h1,j3 (by omega)]
set_option maxHeartbeats 1000000 in
def aka (hL:InR L N) (hM:∀l∈L,-4503599627370496≤l.2.2∧l.2.2≤4503599627370496) (hlen:L.length≤1000000) {x0:List Int} (hx:x0.length=N) (h0:∀v:Int,0≤v→v<N→gv x0 v≤0) {B:Int} (hB:B≤0) (hlow:∀v:Int,0≤v→v<N→B≤gv x0 v) (hb : -9000000000000000000≤B+kU L) (K:Bool×List Int→Option Bool) :
 Î (fun(v12:Bool×Int×List Int) kk16=>nX L v12.1 v12.2.1 v12.2.2 (fun u13 u14 u15=>kk16 (u13,u14,u15)) K) (false,(0:Int),x0)=K (decide (ķ L x0≠x0),ķ L x0):=by
 refine Ĕ (fun s:Bool×Int×List Int=>∃k:Nat,k≤L.length∧s=(decide (ķ (L.take k) x0≠x0),(k:Int),ķ (L.take k) x0)) (fun s=>L.length-s.2.1.toNat) ?_ ⟨0,by omega,by simp[ķ]⟩;rintro s ⟨k,hk,rfl⟩;rcases dn k L.length with hlt|hge
 ·have ha:L[k]?=some L[k]:=cO hlt;have hl:=hL _ (cZ ha);have hm:=hM _ (cZ ha);have hLt:InR (L.take k) N:=fun l hl=>hL l (fH hl)
  have hlx:(ķ (L.take k) x0).length=N:=by rw[nB,hx]
  have hle:=rz hLt hx;have hnt:=akp k L;have hlo:=Xh hLt hx hB hlow L[k].1 hl.1.1 hl.1.2;have hup:=hle L[k].1 hl.1.1;have hup0:=h0 L[k].1 hl.1.1 hl.1.2;have hnp:=Ps L;refine .inr ⟨(decide (ķ (L.take (k+1)) x0≠x0),((k+1:Nat):Int),ķ (L.take (k+1)) x0),⟨k+1,hlt,rfl⟩,by simp only[dk]; omega,fun kn=>?_⟩
  try dsimp only
  unfold nX;rw[Ö hlt,Ì ha,Dx hl.1.1 (by omega),Õ (by omega) (by omega),Dx hl.2.1 (by omega),Ě,take_succ ha,Vs]
  by_cases hc:gv (ķ (L.take k) x0) L[k].1+L[k].2.2<gv (ķ (L.take k) x0) L[k].2.1
  ·have hr:ų (ķ (L.take k) x0) L[k]=(ķ (L.take k) x0).set L[k].2.1.toNat (gv (ķ (L.take k) x0) L[k].1+L[k].2.2):=by
    unfold ų;rw[if_pos ⟨by unfold ĸ; omega,hc⟩]
   rw[if_pos (by simpa[ilt] using hc),Dx hl.1.1 (by omega),Õ (by omega) (by omega),Dx hl.2.1 (by omega),Ï hlt (by omega),hr];have:decide ((ķ (L.take k) x0).set L[k].2.1.toNat (gv (ķ (L.take k) x0) L[k].1+L[k].2.2)≠x0)=true:=decide_eq_true (agJ hl hlx hle hc);rw[this];rfl
  ·have hr:ų (ķ (L.take k) x0) L[k]=ķ (L.take k) x0:=by
    unfold ų;rw[if_neg (fun h=>hc h.2)]
   rw[if_neg (by simpa[ilt] using hc),Ï hlt (by omega),hr];rfl
 ·have:k=L.length:=by omega
  subst this;refine .inl fun kn=>?_
  try dsimp only
  unfold nX;rw[ã,List.take_length]
def aaR {x:List Int} {n:Nat} (h:ķ L (Ć L n x)=Ć L n x):∀m,n≤m→Ć L m x=Ć L n x:=by
 intro m hm
 induction m with
 |zero =>
  have:n=0:=by omega
  subst this; rfl
 |succ m ih =>
  rcases dn m n with h1|h1
  ·have:n=m+1:=by omega
   subst this; rfl
  ·rw[Ň,ih h1,h]
def O4:List.replicate N (0:Int)=ņ (yg N) N:=by
 refine Wp (by simp[ê]) fun v h0 h1=>?_
 have hv:v<N:=by simpa using h1
 rw[Ŷ _ h0 hv,if_pos (by simp[yg,h0,hv])];unfold gv;rw[List.getElem?_replicate]
 split<;>rfl
set_option maxHeartbeats 1000000 in
def aou (h:ł L N) (hneg : -140000000000000000≤kU L):IB ((N:Int),L)=some (Ğ L N):=by
 have h2:=h.n60;have h3:=h.n1;have h4:=h.len;have hnp:=Ps L;unfold IB P3;dsimp only;rw[wP (by omega),Int.toNat_natCast,O4]
 have bd:∀n:Nat,(∀v:Int,0≤v→v<N→gv (Ć L n (ņ (yg N) N)) v≤0)∧(∀v:Int,0≤v→v<N→(n:Int)*kU L≤gv (Ć L n (ņ (yg N) N)) v):=by
  intro n
  induction n with
  |zero =>
   constructor
   ·intro v h0 h1;show gv (ņ (yg N) N) v≤0;rw[Ŷ _ h0 h1,if_pos (by simp[yg,h0,h1])]; omega
   ·intro v h0 h1;show _≤gv (ņ (yg N) N) v;rw[Ŷ _ h0 h1,if_pos (by simp[yg,h0,h1])]; simp
  |succ n ih =>
   have hl:(Ć L n (ņ (yg N) N)).length=N:=by rw[ÿ,ê]
   rw[Ň];constructor
   ·intro v h0 h1;have:=rz h.inr hl v h0;have:=ih.1 v h0 h1;omega
   ·intro v h0 h1;have:=Xh h.inr hl (B:=(n:Int)*kU L) (by have:=fE (show(0:Int)≤n by omega) (show 0≤-kU L by omega); rw[Int.mul_neg] at this; omega) ih.2 v h0 h1;rw[fP,fS,f6];exact this
 refine Ĕ (fun s:Bool×Int×List Int=>∃n:Nat,n≤N+1∧s.2.1=(n:Int)∧s.2.2=Ć L n (ņ (yg N) N)∧s.1=(if n=0 then true else decide (Ć L n (ņ (yg N) N)≠Ć L (n-1) (ņ (yg N) N)))) (fun s=>N+1-s.2.1.toNat) ?_ ⟨0,by omega,rfl,rfl,rfl⟩;rintro⟨ag,i,x⟩ ⟨n,hn,e1,e2,e3⟩;dsimp only at e1 e2 e3 ⊢;subst e1 e2 e3
 have hl:(Ć L n (ņ (yg N) N)).length=N:=by rw[ÿ,ê]
 by_cases hnN:n≤N
 ·by_cases hag:(if n=0 then true else decide (Ć L n (ņ (yg N) N)≠Ć L (n-1) (ņ (yg N) N)))=true
  ·refine .inr ⟨(decide (ķ L (Ć L n (ņ (yg N) N))≠Ć L n (ņ (yg N) N)),((n+1:Nat):Int),ķ L (Ć L n (ņ (yg N) N))),⟨n+1,by omega,rfl,(Ň L n _).symm,?_⟩,by simp only[dk]; omega,fun kn=>?_⟩
   ·rw[if_neg (by omega),gh,Ň]
   ·unfold nY;rw[hag,Ø (by simp[ile]; omega),Ŋ]
    have hB : -9000000000000000000≤(n:Int)*kU L+kU L:=by
     have h5:(n:Int)*(-kU L)≤60*140000000000000000:=fj (by omega) (by omega) (by omega) (by omega);rw[Int.mul_neg] at h5;omega
    have hB0:(n:Int)*kU L≤0:=by
     have:=fE (show(0:Int)≤n by omega) (show 0≤-kU L by omega);rw[Int.mul_neg] at this;omega
    refine Eq.trans (aka h.inr h.most (by omega) hl (bd n).1 hB0 (bd n).2 hB _) ?_;dsimp only;rw[Õ (by omega) (by omega)];rfl
  ·refine .inl fun kn=>?_;have hagf:=Bool.eq_false_iff.2 hag;unfold nY;rw[hagf,Ø (by simp[ile]; omega),ø]
   have hn0:n≠0:=by intro e; rw[e] at hagf; simp at hagf
   rw[if_neg hn0] at hagf
   have heq:Ć L n (ņ (yg N) N)=Ć L (n-1) (ņ (yg N) N):=by simpa using hagf
   have hfix:ķ L (Ć L (n-1) (ņ (yg N) N))=Ć L (n-1) (ņ (yg N) N):=by
    rw[←Ň,Nat.sub_add_cancel (by omega)];exact heq
   have hall:=aaR hfix N (by omega)
   have:Ğ L N=true:=by
    unfold Ğ į;rw[hall];exact decide_eq_true hfix
   rw[this];rfl
 ·refine .inl fun kn=>?_
  have:n=N+1:=by omega
  subst this;unfold nY;rw[Ô (by simp[ile]; omega),if_neg (by omega),Nat.add_sub_cancel,Ň];unfold Ğ į
  by_cases hd:ķ L (Ć L N (ņ (yg N) N))=Ć L N (ņ (yg N) N)
  ·simp[hd]
  ·simp[hd]
end
section
variable {L:List Lk} {N:Nat}
def anl (h:ł L N) : -1400000000000000000≤kU L:=by
 have h1:=Pu (L:=L) (fun l hl=>(h.links.most l hl).1) h.links.m0;have h2:=h.len;omega
set_option maxHeartbeats 1000000 in
def af6 (h:ł L N) {p:Int→Int} (hp:Pot L p) {S:Int→Prop} {x0:List Int} (hx:x0.length=N) (h0:∀v:Int,0≤v→v<N→gv x0 v≤ĸ) (hat:Att L S N x0) (K:Bool×List Int→Option (List Int)) :
 Î (fun(v18:Bool×Int×List Int) kk22=>kf L v18.1 v18.2.1 v18.2.2 (fun u19 u20 u21=>kk22 (u19,u20,u21)) K) (false,(0:Int),x0)=K (decide (ķ L x0≠x0),ķ L x0):=by
 have hlen:=h.len;have hneg:=anl h;refine Ĕ (fun s:Bool×Int×List Int=>∃k:Nat,k≤L.length∧s=(decide (ķ (L.take k) x0≠x0),(k:Int),ķ (L.take k) x0)) (fun s=>L.length-s.2.1.toNat) ?_ ⟨0,by omega,by simp[ķ]⟩;rintro s ⟨k,hk,rfl⟩;rcases dn k L.length with hlt|hge
 ·have ha:L[k]?=some L[k]:=cO hlt;have hl:=h.inr _ (cZ ha);have hm:=h.most _ (cZ ha);have hLt:InR (L.take k) N:=fun l hl=>h.inr l (fH hl)
  have hlx:(ķ (L.take k) x0).length=N:=by rw[nB,hx]
  have hle:=rz hLt hx;have hatk:Att L S N (ķ (L.take k) x0):=O8 hLt (fun l hl=>fH hl) hx hat;refine .inr ⟨(decide (ķ (L.take (k+1)) x0≠x0),((k+1:Nat):Int),ķ (L.take (k+1)) x0),⟨k+1,hlt,rfl⟩,by simp only[dk]; omega,fun kn=>?_⟩
  try dsimp only
  unfold kf;rw[Ö hlt,Ì ha,Dx hl.1.1 (by omega),Ě,take_succ ha,Vs]
  by_cases hf:gv (ķ (L.take k) x0) L[k].1<ĸ
  ·obtain⟨vs,hw⟩:=hatk L[k].1 hl.1.1 hl.1.2 hf;have hlo:=hw.low' hp;have hup:gv (ķ (L.take k) x0) L[k].1<1152921504606846976:=hf;rw[if_pos (by simpa[ilt] using hf),Dx hl.1.1 (by omega),Õ (by omega) (by omega),Dx hl.2.1 (by omega),Ě]
   by_cases hc:gv (ķ (L.take k) x0) L[k].1+L[k].2.2<gv (ķ (L.take k) x0) L[k].2.1
   ·have hr:ų (ķ (L.take k) x0) L[k]=(ķ (L.take k) x0).set L[k].2.1.toNat (gv (ķ (L.take k) x0) L[k].1+L[k].2.2):=by
     unfold ų;rw[if_pos ⟨hf,hc⟩]
    rw[if_pos (by simpa[ilt] using hc),Dx hl.1.1 (by omega),Õ (by omega) (by omega),Dx hl.2.1 (by omega),Ï hlt (by omega),hr];have:decide ((ķ (L.take k) x0).set L[k].2.1.toNat (gv (ķ (L.take k) x0) L[k].1+L[k].2.2)≠x0)=true:=decide_eq_true (agJ hl hlx hle hc);rw[this];rfl
   ·have hr:ų (ķ (L.take k) x0) L[k]=ķ (L.take k) x0:=by
     unfold ų;rw[if_neg (fun h=>hc h.2)]
    rw[if_neg (by simpa[ilt] using hc),Ï hlt (by omega),hr];rfl
  ·have hr:ų (ķ (L.take k) x0) L[k]=ķ (L.take k) x0:=by
    unfold ų;rw[if_neg (fun h=>hf h.1)]
   rw[if_neg (by simpa[ilt] using hf),Ï hlt (by omega),hr];rfl
 ·have:k=L.length:=by omega
  subst this;refine .inl fun kn=>?_
  try dsimp only
  unfold kf;rw[ã,List.take_length]
def ajJ {S:Int→Bool}:Att L (fun v=>S v=true) N (ņ S N):=by
 intro v h0 h1 hf;rw[Ŷ _ h0 h1] at hf ⊢
 split at hf
 ·rename_i hs;rw[if_pos hs];exact⟨[],.nil hs⟩
 ·exact absurd hf (by omega)
set_option maxHeartbeats 1000000 in
def WW (h:ł L N) (ho:Ğ L N=true) {s:Int} (hs:0≤s∧s<N):qT ((N:Int),L) s=some (j5 L N s):=by
 have h2:=h.n60;have h3:=h.n1;have hlen:=h.len;obtain⟨p,hp⟩:=(œ h.links (by omega)).1 ho;unfold qT Eg;dsimp only;rw[wP (by omega),Int.toNat_natCast];refine ô (List.replicate N (0:Int)) (fun i=>List.replicate i ĸ++List.replicate (N-i) 0) _ (by simp) (fun i a hi ha kn=>?_) (fun kn=>?_)
 ·dsimp only;unfold np
  have hiN:i<N:=by simpa using hi
  have hl:i<(List.replicate i ĸ++List.replicate (N-i) (0:Int)).length:=by simp; omega
  rw[Ø (show ilt (i:Int) (N:Int)=true by simp[ilt]; omega),ψ hl,Ī (cO hl),Ï hiN (by omega),dk];congr 2;rw[gR _ _ (by simp)]
  have:N-i=(N-(i+1))+1:=by omega
  rw[this,fD,gG,gy,List.set_cons_zero,List.replicate_succ'];simp
 ·try dsimp only
  unfold np
  have e0:List.replicate (List.replicate N (0:Int)).length ĸ++List.replicate (N-(List.replicate N (0:Int)).length) 0=List.replicate N ĸ:=by simp
  rw[Ô (show ilt ((List.replicate N (0:Int)).length:Int) (N:Int)=false by simp[ilt]),e0];dsimp only;rw[Dx hs.1 (by simpa using hs.2),aaw hs]
  have bd:∀n:Nat,(∀v:Int,0≤v→v<N→gv (Ć L n (ņ (BM s) N)) v≤ĸ)∧Att L (fun v=>BM s v=true) N (Ć L n (ņ (BM s) N)):=by
   intro n;constructor
   ·intro v h0 h1;have h4:=yo h.inr n (ê (BM s) N) v h0
    have h5:gv (ņ (BM s) N) v≤ĸ:=by rw[Ŷ _ h0 h1]; unfold ĸ; split<;>omega
    omega
   ·exact Jp h.inr n (ê _ _) ajJ
  have fixN:ķ L (Ć L N (ņ (BM s) N))=Ć L N (ņ (BM s) N):=by
   rw[←Ň];have hd:=fun n hn=>DP (S:=BM s) hp h.inr (fun v hv=>by simp[BM] at hv; subst hv; exact hs) (fun l hl=>(h.links.most l hl).2) h.links.m0 (akn h.links (by omega)) n hn;refine Wp (by rw[ÿ,ÿ]) fun v h0 h1=>?_;rw[ÿ,ê] at h1;exact(hd (N+1) (by omega)).uniq (hd N (by omega)) h0 h1
  refine Ĕ (fun st:Bool×Int×List Int=>∃n:Nat,n≤N+1∧st.2.1=(n:Int)∧st.2.2=Ć L n (ņ (BM s) N)∧st.1=(if n=0 then true else decide (Ć L n (ņ (BM s) N)≠Ć L (n-1) (ņ (BM s) N)))) (fun st=>N+1-st.2.1.toNat) ?_ ⟨0,by omega,rfl,rfl,rfl⟩;rintro⟨ag,i,x⟩ ⟨n,hn,e1,e2,e3⟩;dsimp only at e1 e2 e3 ⊢;subst e1 e2 e3
  have hl:(Ć L n (ņ (BM s) N)).length=N:=by rw[ÿ,ê]
  by_cases hnN:n≤N
  ·by_cases hag:(if n=0 then true else decide (Ć L n (ņ (BM s) N)≠Ć L (n-1) (ņ (BM s) N)))=true
   ·refine .inr ⟨(decide (ķ L (Ć L n (ņ (BM s) N))≠Ć L n (ņ (BM s) N)),((n+1:Nat):Int),ķ L (Ć L n (ņ (BM s) N))),⟨n+1,by omega,rfl,(Ň L n _).symm,?_⟩,by simp only[dk]; omega,fun kn=>?_⟩
    ·rw[if_neg (by omega),gh,Ň]
    ·unfold kg;rw[hag,Ø (by simp[ile]; omega),Ŋ];refine Eq.trans (af6 h hp hl (bd n).1 (bd n).2 _) ?_;dsimp only;rw[Õ (by omega) (by omega)];rfl
   ·refine .inl fun kn=>?_;have hagf:=Bool.eq_false_iff.2 hag;unfold kg;rw[hagf,Ø (by simp[ile]; omega),ø]
    have hn0:n≠0:=by intro e; rw[e] at hagf; simp at hagf
    rw[if_neg hn0] at hagf
    have heq:Ć L n (ņ (BM s) N)=Ć L (n-1) (ņ (BM s) N):=by simpa using hagf
    have hfix:ķ L (Ć L (n-1) (ņ (BM s) N))=Ć L (n-1) (ņ (BM s) N):=by
     rw[←Ň,Nat.sub_add_cancel (by omega)];exact heq
    have hall:=aaR hfix N (by omega);unfold j5;rw[hall,heq]
  ·refine .inl fun kn=>?_
   have:n=N+1:=by omega
   subst this;unfold kg;rw[Ô (by simp[ile]; omega),Ň,fixN];rfl
end
def Pv {α:Type} (F:α→List Lk) (B:Int):∀l:List α,(∀a∈l,-B≤kU (F a))→-(l.length*B)≤kU (l.flatMap F)
 |[],_=>by simp[kU,BN]
 |a::l,h=>by
  rw[dN,qt];have h1:=h a (by simp);have h2:=Pv F B l fun c hc=>h c (by simp[hc]);rw[df,fP,fS,f6];omega
def ako {L:List Lk} (h:∀l∈L,0≤l.2.2):kU L=0:=by
 induction L with
 |nil=>rfl
 |cons l t ih =>
  have h1:=h l (by simp);have h2:=ih fun m hm=>h m (by simp[hm])
  have e:kU (l::t)=min l.2.2 0+kU t:=by simp[kU,BN]
  rw[e,h2];omega
def Ē.neg {b:â} (h:Ē b) : -140000000000000000≤kU (æ b):=by
 have hG:=h.nG;have hC:=h.nC
 have g1:∀g∈b.2.1,-1130000000000000≤kU (ï b g):=by
  intro g hg;have hr:=h.gaugeR hg;have r1:=hr.2.2.2.2.2.1;have r2:=hr.2.2.2.2.2.2.1;unfold ï
  rw[qt,ako (L:=(List.range ((à b g).length-1)).flatMap _) (fun l hl=>by
   obtain⟨k,hk,hl⟩:=dz.1 hl;have hk':=gK.1 hk;simp only[dc,fR,or_false] at hl;rcases hl with rfl|rfl
   ·exact dw _
   ·have hd:(à b g)[k]?=some ((à b g)[k]?.getD 0):=by rw[cO (by omega)]; rfl
    exact(jB h hg (h.day hg (cZ hd)).2.1).1)]
  simp only[kU,BN,if_true];omega
 have g2:∀c∈b.2.2.2.2.1,-2260000000000000≤kU (ò b c):=by
  intro c hc;have sb:=qm h hc;unfold ò;simp only[kU,BN,if_true];omega
 have s1:=Pv (ï b) 1130000000000000 b.2.1 g1;have s2:=Pv (ò b) 2260000000000000 b.2.2.2.2.1 g2;unfold æ;rw[qt];omega
def Lm {b:â} (h:Ē b):gZ b=some (((Í b).length:Int)+1,æ b):=by
 have hN:=h.nodes;unfold gZ vQ;rw[vA h.pre,À,ä,Õ (by omega) (by omega),aml h,À]
section
variable {ρ:Type}
abbrev aox:Type:=â×Sys×List (List Int)×Int
def ahe (e:Int):aox:=(lu,(0,[]),[],e)
def tabR (B:â):List (List Int):=BK ((Í B).length+1) (amF B)
def ad2 (b:â) (ns:List (Int×Int)):aox :=
 if (ù b ns).2≠0 then ahe (ù b ns).2 else((ù b ns).1,Og (ù b ns).1,tabR (ù b ns).1,0)
def amr {b:â} (h:Ē b) (n:Int×Int):vk b n=some (if è (jC b n)≠0 then(lu,è (jC b n)) else(jC b n,0)):=by
 have h5:=h.nK;unfold vk Qa;rw[Ú (by omega),Am.iff_true,List.nil_append,Ú (by simp only[List.length_singleton]; omega),Am.iff_true];rw[show jg (b.1,b.2.1,b.2.2.1,b.2.2.2.1,b.2.2.2.2.1,b.2.2.2.2.2++[n])=jg (jC b n) from rfl,Th (acV h n),À]
 by_cases hc2:è (jC b n)=0
 ·rw[Ô (by simp[ine,hc2]),if_neg (show ¬(è (jC b n)≠0) from fun h=>h hc2)];rfl
 ·rw[Ø (by simp[ine,hc2]),if_pos hc2];rfl
abbrev ajp:Type:=Int×Int×List ñ×List (Int×Int)×List Lp×List Cmp×List (Int×Int)×Int×Int×Int×Int
def bkK (s:ajp):â:=((s.1,s.2.1),s.2.2.1,s.2.2.2.1,s.2.2.2.2.1,s.2.2.2.2.2.1,s.2.2.2.2.2.2.1)
def akY {ns:List (Int×Int)} (hl:ns.length≤1000) (X:â→Option aox) {E1 K1:ajp→Option aox} (hK:∀s:ajp,K1 s=X (bkK s))
 (hE:∀s:ajp,s.2.2.2.2.2.2.2.1=0→s.2.2.2.2.2.2.2.2.1=0→s.2.2.2.2.2.2.2.2.2.1=0→E1 s=some (ahe s.2.2.2.2.2.2.2.2.2.2)) {b:â} (hg:Ē b) :
 Î (fun(v12:Int×ajp) kk25=>nT ns v12.1 v12.2.1 v12.2.2.1 v12.2.2.2.1 v12.2.2.2.2.1 v12.2.2.2.2.2.1 v12.2.2.2.2.2.2.1 v12.2.2.2.2.2.2.2.1 v12.2.2.2.2.2.2.2.2.1 v12.2.2.2.2.2.2.2.2.2.1 v12.2.2.2.2.2.2.2.2.2.2.1 v12.2.2.2.2.2.2.2.2.2.2.2 (fun u13 u14 u15 u16 u17 u18 u19 u20 u21 u22 u23 u24=>kk25 (u13,u14,u15,u16,u17,u18,u19,u20,u21,u22,u23,u24)) E1 K1) ((0:Int),b.1.1,b.1.2,b.2.1,b.2.2.1,b.2.2.2.1,b.2.2.2.2.1,b.2.2.2.2.2,(0:Int),(0:Int),(0:Int),(0:Int)) =
  if (ŕ b ns).2≠0 then some (ahe (ŕ b ns).2) else X (ŕ b ns).1:=by
 refine Ih ns (fun(i:Nat) (s:ajp) (t:List (Int×Int))=>if (ŕ (bkK s) t).2≠0 then some (ahe (ŕ (bkK s) t).2) else X (ŕ (bkK s) t).1)
  (fun i s=>Ē (bkK s)∧s.2.2.2.2.2.2.2.1=0∧s.2.2.2.2.2.2.2.2.1=0∧s.2.2.2.2.2.2.2.2.2.1=0) (fun s hs kn=>?_) (fun i n t s hd hi ha hs kn hk=>?_) (s:=(b.1.1,b.1.2,b.2.1,b.2.2.1,b.2.2.2.1,b.2.2.2.2.1,b.2.2.2.2.2,(0:Int),(0:Int),(0:Int),(0:Int))) ⟨hg,rfl,rfl,rfl⟩
 ·dsimp only;unfold nT;rw[ã];exact hK s
 ·dsimp only;unfold nT;obtain⟨hs1,z1,z2,z3⟩:=hs;rw[Ö hi,Ì ha];rw[show Ĭ ((s.1,s.2.1),s.2.2.1,s.2.2.2.1,s.2.2.2.2.1,s.2.2.2.2.2.1,s.2.2.2.2.2.2.1) n=Ĭ (bkK s) n from rfl,oC hs1.pre,À,Ì ha];rw[show vk ((s.1,s.2.1),s.2.2.1,s.2.2.2.1,s.2.2.2.2.1,s.2.2.2.2.2.1,s.2.2.2.2.2.2.1) n=vk (bkK s) n from rfl,amr hs1,À];have hr:=Θ (bkK s) n
  have hu:ŕ (bkK s) (n::t)=if (j6 (bkK s) n).2≠0 then(lu,(j6 (bkK s) n).2) else ŕ (j6 (bkK s) n).1 t:=rfl
  rw[hu]
  by_cases h0:wQ (bkK s) n.1 n.2=0
  ·rw[Ô (decide_eq_false (by omega))]
   by_cases h2:è (jC (bkK s) n)=0
   ·have e:j6 (bkK s) n=(jC (bkK s) n,0):=by unfold j6; rw[if_neg (by simp[h0]),if_neg (by simp[h2])]
    rw[if_neg (show ¬è (jC (bkK s) n)≠0 by simp[h2]),Ô (by rfl),Ï hi (by omega),e,if_neg (show ¬((0:Int)≠0) by simp)];exact hk (s.1,s.2.1,s.2.2.1,s.2.2.2.1,s.2.2.2.2.1,s.2.2.2.2.2.1,s.2.2.2.2.2.2.1++[n],s.2.2.2.2.2.2.2) ⟨(ó _).1 h2,z1,z2,z3⟩
   ·have e:j6 (bkK s) n=(lu,è (jC (bkK s) n)):=by unfold j6; rw[if_neg (by simp[h0]),if_pos h2]
    rw[if_pos h2,Ø (by simp[ine,h2]),e,if_pos h2,if_pos h2];exact hE _ rfl rfl rfl
  ·have e:j6 (bkK s) n=(bkK s,0):=by unfold j6; rw[if_pos h0]
   rw[Ø (decide_eq_true (by omega)),Ï hi (by omega),e,if_neg (show ¬((0:Int)≠0) by simp)];exact hk s ⟨hs1,z1,z2,z3⟩
def amz {b:â} (hI:In b) {ns:List (Int×Int)} (hl:ns.length≤1000):Ţ b ns=some (ad2 b ns):=by
 unfold Ţ PG;rw[Th hI.size,À]
 by_cases hc:è b=0
 case neg =>
  have e:ù b ns=(lu,è b):=by unfold ù; rw[if_pos hc]
  rw[Ø (bne_iff_ne.2 hc)];unfold ad2;rw[e,if_pos hc];rfl
 have hg:=(ó b).1 hc
 have e:ù b ns=if (ŕ b ns).2≠0 then(lu,(ŕ b ns).2) else if Ğ (æ (ŕ b ns).1) ((Í (ŕ b ns).1).length+1) then((ŕ b ns).1,0) else(lu,9):=by
  unfold ù; rw[if_neg (show ¬è b≠0 by simp[hc])]
 rw[Ô (by rw[hc]; rfl)];refine(akY hl (fun B=>Ã (gZ B) fun r10=>Ã (pZ r10) fun r11=>ifb (!r11.2) (some ((((0:Int),(0:Int)),[],[],[],[],[]),((0:Int),[]),[],(9:Int))) (some (B,r10,r11.1,(0:Int)))) (fun s=>rfl) (fun s h1 h2 h3=>?_) hg).trans ?_
 ·rw[h1,h2,h3];rfl
 by_cases hr:(ŕ b ns).2=0
 case neg =>
  rw[if_pos hr] at e;unfold ad2;rw[if_pos hr,e,if_pos hr]
 have hg':=Fm hg hr;rw[if_neg (show ¬(ŕ b ns).2≠0 by simp[hr])] at e ⊢;generalize (ŕ b ns).1=B at hg' e;rw[Lm hg',À,show(((Í B).length:Int)+1,æ B)=((((Í B).length+1:Nat):Int),æ B) by push_cast; rfl,ahS hg'.sys hg'.tied,À];unfold ad2
 cases ho:Ğ (æ B) ((Í B).length+1) with
 |true =>
  rw[if_pos ho] at e;rw[if_pos rfl,e,if_neg (by simp),Ô (by rfl),←Jh];rfl
 |false =>
  rw[if_neg (by simp[ho])] at e;rw[if_neg (by simp),e,if_pos (by simp),Ø (by rfl)];rfl
def ahf (b:â) (ns:List (Int×Int)):(ad2 b ns).2.2.2=(ù b ns).2:=by
 unfold ad2
 by_cases h:(ù b ns).2=0
 ·rw[if_neg (by simp[h]),h]
 ·rw[if_pos h]; rfl
def akX {b:â} {ns:List (Int×Int)} (h:(ù b ns).2=0):ad2 b ns=((ù b ns).1,Og (ù b ns).1,tabR (ù b ns).1,0):=by
 unfold ad2; rw[if_neg (by simp[h])]
def Oz {N:Nat} (g:Int→Int) {u:Int} (hu:0≤u∧u<N) (f:Int→Option ρ):ā (Tm N g) u f=f (g u) :=
 iC hu.1 (agH g hu.1 hu.2) f
end
section
variable {b:â} {c:Cmp} {n:Int×Int} (hR:aop b) (hn:MW b n) (hp:(Þ b c).2=0)
include hR hn hp
theorem akj:MW (Ù b (Â c)) n:=by
 obtain⟨g,hg,e,hd⟩:=hn;exact⟨g,hg,e,rg hd⟩
theorem agn {d:Int} (h1:(Þ b c).1.1≤d) (h2:d≤(Þ b c).1.2):0≤Į (mo b n c) d:=by
 obtain⟨g1,g2⟩:=mf hp
 have hh:Ğ (å (Ù b (Â c))) ((Í (Ù b (Â c))).length+1)=true:=by rw[ki g1 g2]; exact hR.op
 have hnm:=akj hR hn hp;have hpr:=yn hp;have o:=hpr.order;have nn:=hpr.ends;obtain⟨f,z,hf,ht⟩:=hpr.each (max ((Þ b c).1.1-MK b c) (d-oo b c)) (by omega) (by omega);obtain⟨hpot,hdiff⟩:=ac5 g1 g2 hf;obtain⟨a1,a2⟩:=am4 b (Â c);have e1:oo b (Â c)=oo b c:=rfl;have e2:MK b (Â c)=MK b c:=rfl;have e3:(Â c).2.2.2.2.1=0:=rfl;have e4:B5 f z (Â c)=B5 f z c:=rfl;rw[e1,e3] at a1;rw[e2,e3] at a2;rw[e4] at hdiff;have hx:=vv g2;have hy:=vu g2;have hk:=Θ (Ù b (Â c)) n;have hz:=iq (Ù b (Â c));have m:∀{s t:Int},0≤s∧s<((Í (Ù b (Â c))).length+1:Nat)→0≤t∧t<((Í (Ù b (Â c))).length+1:Nat)→Tn (Ù b (Â c)) f z t-Tn (Ù b (Â c)) f z s≤aec b (Â c) s t:=fun hs ht=>SA (ś g2) (ι g2) hh hs ht hpot;have m1:=m hz hk;have m2:=m hz hy;have m3:=m hx hk;have m4:=m hz hx;have m5:=m hy hk;have l1:=m hk hz;have l2:=m hk hy;have l3:=m hx hz;have l4:=m hk hx;have l5:=m hy hz;unfold Į jt mo atE apC;dsimp only;omega
end
def ck_wr {ρ:Type} (n:Int) (f:Int→Option ρ):ck n f=f (agk n):=rfl
def tie_cs {ρ:Type} (c0:List (Int×Int)) (c1 c2 c3:Int) (c4:List ñ) (c5:List (Int×Int)) (c6:List Lp) (cs cs':List Cmp) (c8:List (Int×Int)):@kL ρ c0 c1 c2 c3 c4 c5 c6 cs c8=@kL ρ c0 c1 c2 c3 c4 c5 c6 cs' c8:=rfl
section
variable {b:â} {c:Cmp}
def akv (g:ñ):à (Ù b c) g=à (Ù b (Â c)) g:=by
 refine Z2 (rh _ _) (rh _ _) fun y=>?_;rw[je,je];refine or_congr Iff.rfl (or_congr ?_ Iff.rfl);constructor
 ·rintro⟨q,hq,h1,h2⟩;rcases cX.1 (show q∈b.2.2.2.2.1++[c] from hq) with hq|hq
  ·exact⟨q,cX.2 (.inl hq),h1,h2⟩
  ·rw[dg] at hq;subst hq;exact⟨Â q,kv,h1,h2⟩
 ·rintro⟨q,hq,h1,h2⟩;rcases cX.1 (show q∈b.2.2.2.2.1++[Â c] from hq) with hq|hq
  ·exact⟨q,cX.2 (.inl hq),h1,h2⟩
  ·rw[dg] at hq;subst hq;exact⟨c,kv,h1,h2⟩
def A3:Í (Ù b c)=Í (Ù b (Â c)):=ain rfl fun g _=>akv g
def AZ (h':Ē (Ù b (Â c))):Pre (Ù b c):=by
 have hs:=h'.size;have hp:=h'.pre;refine⟨⟨hs.gauges,hs.uses,hs.loans,?_,hs.looks,fun d hd=>?_⟩,h'.gauge,fun d hd=>?_,hp.look⟩
 ·have:=hs.compares;simp only[Ù,cW,dE] at this ⊢;exact this
 ·rcases cX.1 (show d∈b.2.2.2.2.1++[c] from hd) with hd|hd
  ·exact hs.piles d (cX.2 (.inl hd))
  ·rw[dg] at hd;subst hd;exact hs.piles (Â d) kv
 ·rcases cX.1 (show d∈b.2.2.2.2.1++[c] from hd) with hd|hd
  ·exact hp.cmp d (cX.2 (.inl hd))
  ·rw[dg] at hd;subst hd;exact hp.cmp (Â d) kv
def amp (h':Ē (Ù b (Â c))):∃s,jG (Ù b c) c=some s:=by
 have h0:ajq (Ù b (Â c)) (Â c):=h'.cmpIn kv;have hn:=(Ŵ _).1 h0.ok.nums;have ha:c.2.2.1.length≤6:=ĝ hn.2.2.2.2.2.1;have hb:c.2.2.2.1.length≤6:=ĝ hn.2.2.2.2.2.2;have hf:0≤b.1.1∧b.1.1≤b.1.2∧b.1.2≤1000000:=h'.film;obtain⟨q1,q2,_⟩:=nA (b:=Ù b (Â c)) hf h0.ok
 have eg:m7 (Ù b c) c=some (Ģ (Ù b (Â c)) (Â c)):=by
  rw[←Ln h'.size h0];rfl
 have ef:pY (Ù b c) c=some (iD (Ù b c) c):=Tg (by omega) (by omega) hf.1 (by show b.1.1≤_; omega) (by show 0≤b.1.2; omega) hf.2.2;unfold jG F9;rw[eg,À,ef,À,Tf q2.rat,aaa q1.rat];simp only[À];unfold ck;exact⟨_,rfl⟩
set_option maxHeartbeats 2000000 in
def amm (h':Ē (Ù b (Â c))):∃u v S,pD (Ù b c)=some (å (Ù b (Â c))++[u,v],S):=by
 have hC:=h'.nC;have hG:b.2.1.length≤12:=h'.nG;have hp:=AZ h';obtain⟨s,hs⟩:=amp h'
 have hlen:(Ù b c).2.2.2.2.1.length=b.2.2.2.2.1.length+1:=by simp[Ù]
 have hlen0:(Ù b (Â c)).2.2.2.2.1.length=b.2.2.2.2.1.length+1:=by simp[Ù]
 let LL:List (List Lk):=b.2.2.2.2.1.map (ò (Ù b (Â c)))++[[(cy (Ù b (Â c)) (Â c),cx (Ù b (Â c)) (Â c),s.2),(cx (Ù b (Â c)) (Â c),cy (Ù b (Â c)) (Â c),agk (0-s.1))]]
 have hLL:LL.length=b.2.2.2.2.1.length+1:=by simp[LL]
 have hL2:∀l∈LL,l.length=2:=by
  intro l hl;rcases cX.1 hl with hl|hl
  ·obtain⟨d,_,rfl⟩:=dS.1 hl;rfl
  ·rw[dg] at hl;subst hl; rfl
 have hfl:∀i,(LL.take i).flatten.length≤2*i:=by
  intro i
  have:∀l:List (List Lk),(∀x∈l,x.length=2)→l.flatten.length=2*l.length:=by
   intro l
   induction l with
   |nil=>intro _; rfl
   |cons x t ih =>
    intro hx;rw[fN,cW,hx x (by simp),ih fun y hy=>hx y (by simp[hy]),df];omega
  rw[this _ fun x hx=>hL2 x (fH hx),dj];omega
 refine⟨(cy (Ù b (Â c)) (Â c),cx (Ù b (Â c)) (Â c),s.2),(cx (Ù b (Â c)) (Â c),cy (Ù b (Â c)) (Â c),agk (0-s.1)),(b.2.1.mapIdx (ð (Ù b (Â c)))).flatten++(List.range (b.2.2.2.2.1.length+1)).flatMap fun(k:Nat)=>[((3:Int),(k:Int)),((3:Int),(k:Int))],?_⟩;unfold pD Ot;rw[vA hp,À,A3];refine ô b.2.1 (fun i=>((b.2.1.take i).flatMap (ï (Ù b (Â c))),((b.2.1.take i).mapIdx (ð (Ù b (Â c)))).flatten)) _ rfl (fun i g hi hg kn=>?_) (fun kn=>?_)
 ·try dsimp only
  unfold mP;have hls:=Bi h' i;have hls1:((b.2.1.take i).flatMap (ï (Ù b (Â c)))).length≤1440∧(((b.2.1.take i).mapIdx (ð (Ù b (Â c)))).flatten).length≤1440:=hls;rw[show(Ù b c).2.1=b.2.1 from rfl,Ö hi,Ì hg,tie_cs _ _ _ _ _ _ _ (Ù b c).2.2.2.2.1 (Ù b (Â c)).2.2.2.2.1];refine Eq.trans (aas h' hg (by omega) (by omega) _) ?_;rw[Ï hi (by omega),ς _ hg,take_succ hg,List.flatMap_append,List.flatten_append];simp only[List.flatMap_cons,List.flatMap_nil,List.append_nil,List.flatten_cons,List.flatten_nil]
 ·try dsimp only
  unfold mP;rw[show(Ù b c).2.1=b.2.1 from rfl,ã,List.take_length];dsimp only;have hls:=Bi h' b.2.1.length;rw[show(Ù b (Â c)).2.1=b.2.1 from rfl,List.take_length] at hls;refine ô (Ù b c).2.2.2.2.1 (fun i=>(b.2.1.flatMap (ï (Ù b (Â c)))++(LL.take i).flatten,(b.2.1.mapIdx (ð (Ù b (Â c)))).flatten++(List.range i).flatMap fun(k:Nat)=>[((3:Int),(k:Int)),((3:Int),(k:Int))])) _ (by simp) (fun i d hi hd kn=>?_) (fun kn=>?_)
  ·try dsimp only
   unfold mO;have hcl:=hfl i;have hrl:=Ů (fun(k:Nat)=>[((3:Int),(k:Int)),((3:Int),(k:Int))]) i (fun _=>rfl)
   have hil:i<LL.length:=by omega
   have hLi:LL[i]?=some LL[i]:=cO hil;have hdm:=cZ hd;have hpl:=hp.size.piles d hdm
   -- what the comparison says
   have says:∃t,jG (Ù b c) d=some t∧[(atP (Í (Ù b (Â c))) (é d.2.2.2.1 d.2.2.1) d.2.1,atP (Í (Ù b (Â c))) (é d.2.2.1 d.2.2.2.1) d.2.1,t.2),(atP (Í (Ù b (Â c))) (é d.2.2.1 d.2.2.2.1) d.2.1,atP (Í (Ù b (Â c))) (é d.2.2.2.1 d.2.2.1) d.2.1,agk (0-t.1))]=LL[i]:=by
    rcases dn i b.2.2.2.2.1.length with hlt|hge
    ·have hd':b.2.2.2.2.1[i]?=some d:=by
      have:(b.2.2.2.2.1++[c])[i]?=some d:=hd
      rwa [fG hlt] at this
     have hdm0:d∈(Ù b (Â c)).2.2.2.2.1:=cX.2 (.inl (cZ hd'));have sb:=qm h' hdm0;refine⟨Œ (Ù b (Â c)) d,?_,?_⟩
     ·rw[←ahT h'.size h'.film (h'.cmpIn hdm0)];rfl
     ·have e:agk (0-(Œ (Ù b (Â c)) d).1) = -(Œ (Ù b (Â c)) d).1:=by
       have:=Õ (ρ:=Int) (n:=0-(Œ (Ù b (Â c)) d).1) (by omega) (by omega) some;unfold ck at this;have:=Option.some.inj this;omega
      have e2:LL[i]=ò (Ù b (Â c)) d:=by
       have:LL[i]?=some (ò (Ù b (Â c)) d):=by
        rw[fG (by simpa using hlt),fM,hd'];rfl
       rw[hLi] at this;exact Option.some.inj this
      rw[e,e2];rfl
    ·have hin:i=b.2.2.2.2.1.length:=by omega
     have hd':d=c:=by
      have:(b.2.2.2.2.1++[c])[i]?=some d:=hd;rw[hin,fB (cQ _),gG] at this;exact(Option.some.inj this).symm
     subst hd';refine⟨s,hs,?_⟩
     have:LL[i]?=some [(cy (Ù b (Â d)) (Â d),cx (Ù b (Â d)) (Â d),s.2),(cx (Ù b (Â d)) (Â d),cy (Ù b (Â d)) (Â d),agk (0-s.1))]:=by
      rw[fB (by simp; omega),hin];simp
     rw[hLi] at this;rw[Option.some.inj this];rfl
   obtain⟨t,ht1,ht2⟩:=says;rw[Ö hi,Ì hd,tK (by omega) (by omega),À];rw[show Ĭ (((Ù b c).1.1,(Ù b c).1.2),b.2.1,(Ù b c).2.2.1,(Ù b c).2.2.2.1,(Ù b c).2.2.2.2.1,(Ù b c).2.2.2.2.2) (FJ d.2.2.1 d.2.2.2.1,d.2.1)=Ĭ (Ù b c) (FJ d.2.2.1 d.2.2.2.1,d.2.1) from rfl,oC hp,À,tK (by omega) (by omega),À];rw[show Ĭ (((Ù b c).1.1,(Ù b c).1.2),b.2.1,(Ù b c).2.2.1,(Ù b c).2.2.2.1,(Ù b c).2.2.2.2.1,(Ù b c).2.2.2.2.2) (FJ d.2.2.2.1 d.2.2.1,d.2.1)=Ĭ (Ù b c) (FJ d.2.2.2.1 d.2.2.1,d.2.1) from rfl,oC hp,À];rw[show jG (((Ù b c).1.1,(Ù b c).1.2),b.2.1,(Ù b c).2.2.1,(Ù b c).2.2.2.1,(Ù b c).2.2.2.2.1,(Ù b c).2.2.2.2.2) d=jG (Ù b c) d from rfl,ht1,À];rw[ck_wr,Ú (by simp only[cW,df,dt]; omega),Am.iff_true,Ú (by simp only[cW,df,dt]; omega),Am.iff_true,Ï hi (by omega),take_succ hLi,fp,pS,KS hp,KS hp,A3];simp only[fN,f8,dL,dl];rw[←ht2]
  ·try dsimp only
   unfold mO;rw[ã,hlen,List.take_of_length_le (by omega)];show some _=some _;rw[Zz]
   have:LL.flatten=b.2.2.2.2.1.flatMap (ò (Ù b (Â c)))++[(cy (Ù b (Â c)) (Â c),cx (Ù b (Â c)) (Â c),s.2),(cx (Ù b (Â c)) (Â c),cy (Ù b (Â c)) (Â c),agk (0-s.1))]:=by
    simp[LL,List.flatMap]
   rw[this,←dl];rfl
def ad0 (h':Ē (Ù b (Â c))):∃u v,gZ (Ù b c)=some (((Í (Ù b (Â c))).length:Int)+1,å (Ù b (Â c))++[u,v]):=by
 have hN:=h'.nodes;obtain⟨u,v,S,hT⟩:=amm h';refine⟨u,v,?_⟩;unfold gZ vQ;rw[vA (AZ h'),À,A3,ä,Õ (by omega) (by omega),hT,À]
def aiW (h':Ē (Ù b (Â c))):ajq b (Â c):=by
 have q:=h'.cmpIn (kv (c:=Â c));exact⟨⟨q.ok.nums,q.ok.r1,q.ok.r2⟩,q.ids,q.pile⟩
def WV (h:Ē b) (h':Ē (Ù b (Â c))) {d:Int} (hd : -2305843009213693952≤d∧d≤2305843009213693952):lf b c d=some (d+MK b c,d+oo b c) :=
 (show lf b c d=lf b (Â c) d from rfl).trans (amn h.size h.film (aiW h') hd)
def agb (h:Ē b) (h':Ē (Ù b (Â c))) (hA:c.2.2.1.length≤1000) (hB:c.2.2.2.1.length≤1000):lg b c=some (Þ b c):=by
 have h2:=(ś h').n60;have hC:=h.nC;obtain⟨u,v,hS⟩:=ad0 h';rw[E5 h h'];unfold lg yL;rw[Lm h,À,show(((Í b).length:Int)+1)=(((Í b).length+1:Nat):Int) by push_cast; rfl,aou h.sys h.neg,À]
 by_cases ho:Ğ (æ b) ((Í b).length+1)=true
 ·rw[ho,if_pos rfl]
  have ho':Ğ (å (Ù b (Â c))) ((Í (Ù b (Â c))).length+1)=true:=by rw[ki h h']; exact ho
  have em:ve b c=some (Ù b c):=by
   unfold ve FX;rw[Ú (by omega),Am.iff_true,List.nil_append,Ú (by simp only[List.length_singleton]; omega),Am.iff_true];rfl
  rw[Ô (by rfl),em,À,hS,À];dsimp only;have hl:=(ś h').len;rw[ä,Õ (by simp only[List.length_append,List.length_cons,List.length_nil]; omega) (by simp only[List.length_append,List.length_cons,List.length_nil]; omega)]
  have e1:(((å (Ù b (Â c))++[u,v]).length:Int)-2)=((å (Ù b (Â c))).length:Int):=by
   simp only[cW,df,dt]; omega
  rw[e1,ĩ (by simp[ile,ĉ]; omega),Int.toNat_natCast,List.take_left,tK (by omega) (by omega),À,oC (AZ h'),À,tK (by omega) (by omega),À,oC (AZ h'),À];dsimp only;rw[KS (AZ h'),KS (AZ h'),A3 (b:=b) (c:=c)];rw[show atP (Í (Ù b (Â c))) (é c.2.2.1 c.2.2.2.1) c.2.1=cx (Ù b (Â c)) (Â c) from rfl,show atP (Í (Ù b (Â c))) (é c.2.2.2.1 c.2.2.1) c.2.1=cy (Ù b (Â c)) (Â c) from rfl];have hx:=vv h';have hy:=vu h';have bxy:=WB (ś h') (ι h') ho' hx hy;have byx:=WB (ś h') (ι h') ho' hy hx;rw[show(((Í (Ù b (Â c))).length:Int)+1)=(((Í (Ù b (Â c))).length+1:Nat):Int) by push_cast; rfl];rw[WW (ś h') ho' hx,À,tB hy.1 (by rw[S6]; omega)];rw[show gv (j5 (å (Ù b (Â c))) ((Í (Ù b (Â c))).length+1) (cx (Ù b (Â c)) (Â c))) (cy (Ù b (Â c)) (Â c))=dst (å (Ù b (Â c))) ((Í (Ù b (Â c))).length+1) (cx (Ù b (Â c)) (Â c)) (cy (Ù b (Â c)) (Â c)) from rfl];rw[Õ (by omega) (by omega),WV h h' (by omega),À,WW (ś h') ho' hy,À,tB hx.1 (by rw[S6]; omega)];rw[show gv (j5 (å (Ù b (Â c))) ((Í (Ù b (Â c))).length+1) (cy (Ù b (Â c)) (Â c))) (cx (Ù b (Â c)) (Â c))=dHi b (Â c) from rfl];rw[show dst (å (Ù b (Â c))) ((Í (Ù b (Â c))).length+1) (cy (Ù b (Â c)) (Â c)) (cx (Ù b (Â c)) (Â c))=dHi b (Â c) from rfl] at byx;rw[WV h h' (by omega),À]
  have e2:0-dst (å (Ù b (Â c))) ((Í (Ù b (Â c))).length+1) (cx (Ù b (Â c)) (Â c)) (cy (Ù b (Â c)) (Â c))=dLo b (Â c):=by unfold dLo; omega
  rw[e2,Ě];unfold Lw;rw[show oo b (Â c)=oo b c from rfl,show MK b (Â c)=MK b c from rfl]
  by_cases hlt:oo b c<MK b c
  ·rw[if_pos (by simp[igt]; omega),if_pos hlt]
  ·rw[if_neg (by simp[igt]; omega),if_neg hlt]
 ·have:Ğ (æ b) ((Í b).length+1)=false:=by simpa using ho
  rw[this,Ø (by rfl),if_neg (by simp)]
end
def aos {b:â} (h:Ē b) {c:Cmp} (hA:c.2.2.1.length≤1000) (hB:c.2.2.2.1.length≤1000):vg b c=some (if è (Ù b c)≠0 then(lu,è (Ù b c)) else(Ù b c,0)):=by
 have h5:=h.nC;unfold vg PT ve FX;rw[Ú (by omega),Am.iff_true,List.nil_append,Ú (by simp only[List.length_singleton]; omega),Am.iff_true,À];rw[show jg (b.1,b.2.1,b.2.2.1,b.2.2.2.1,b.2.2.2.2.1++[c],b.2.2.2.2.2)=jg (Ù b c) from rfl,Th (abo h hA hB),À]
 by_cases hc2:è (Ù b c)=0
 ·rw[Ô (by simp[ine,hc2]),if_neg (show ¬(è (Ù b c)≠0) from fun h=>h hc2)];rfl
 ·rw[Ø (by simp[ine,hc2]),if_pos hc2];rfl
section
variable {ρ:Type}
abbrev ahW:Type:=Int×Int×Int×Int×Int×Int×Int×Int
def nar0:ahW:=(0,0,0,0,0,0,0,0)
def sW (w:oA):ahW:=(w.2.1.1,w.2.1.2.1,w.2.1.2.2,-w.2.2.1,-w.2.2.2.2,-w.2.2.2.1,w.1.1,w.1.2)
def pL (B:â) (n:Int×Int) (c:Cmp):ahW×Int:=if (Þ B c).2≠0 then(nar0,(Þ B c).2) else(sW (mo B n c),0)
def Io {N:Nat} (g:Int→Int→Int) {u:Int} (hu:0≤u∧u<N) (f:List Int→Option ρ):ā (BK N g) u f=f (Tm N (g u)):=iC hu.1 (agz g hu.1 hu.2) f
def ajo {B:â} (hr:aop B) (s:Sys) (t:List (List Int)) (e:Int) (n:Int×Int) {c:Cmp} (hA:c.2.2.1.length≤1000) (hB:c.2.2.2.1.length≤1000):sM (B,s,t,e) n c=some (pL B n c):=by
 unfold sM yF;rw[show vg (B,s,t,e).1 (c.1,c.2.1,c.2.2.1,c.2.2.2.1,(0:Int),c.2.2.2.2.2)=vg B (Â c) from rfl,aos hr.good (c:=Â c) hA hB,À];have hcB:=(ó B).2 hr.good
 by_cases hc:è (Ù B (Â c))=0
 case neg =>
  have ew:xh B (Â c)=(lu,è (Ù B (Â c))):=by unfold xh; rw[if_neg (by simp[hcB]),if_pos hc]
  have ep:(Þ B c).2=è (Ù B (Â c)):=by unfold Þ; rw[ew,if_pos hc]
  rw[if_pos hc,Ø (bne_iff_ne.2 hc)];unfold pL;rw[ep,if_pos hc];rfl
 have h':=(ó _).1 hc;rw[if_neg (by simp[hc]),Ô (by rfl)];rw[show lg (B,s,t,e).1 (c.1,c.2.1,c.2.2.1,c.2.2.2.1,(0:Int),c.2.2.2.2.2)=lg B (Â c) from rfl,agb hr.good (c:=Â c) h' hA hB,À,show Þ B (Â c)=Þ B c from rfl];unfold pL
 by_cases hp:(Þ B c).2=0
 case neg=>rw[if_pos hp,Ø (bne_iff_ne.2 hp)]; rfl
 rw[if_neg (by simp[hp]),Ô (by rw[hp]; rfl)];have hs:=ś h'
 have ho:Ğ (å (Ù B (Â c))) ((Í (Ù B (Â c))).length+1)=true:=by rw[ki hr.good h']; exact hr.op
 have hx:=vv h';have hy:=vu h';have hz:=iq (Ù B (Â c));have hk:=Θ (Ù B (Â c)) n;have b6:=aev hr.good h' hr.op;have bd:=fun {s t:Int} (hs:0≤s∧s<((Í (Ù B (Â c))).length+1:Nat)) (ht:0≤t∧t<((Í (Ù B (Â c))).length+1:Nat))=>qM hr.good h' hr.op hs ht;have hlen:=hs.len;rw[Lm h',À,KL B (Â c) h'];dsimp only;rw[show Œ (Ù B (Â c)) (Â c)=Œ B (Â c) from rfl,oC h'.pre];have eH:apC B (Â c)=fun s t=>(aec B (Â c) s t,aec B (Â c) s (cy (Ù B (Â c)) (Â c))+(Œ B (Â c)).2+aec B (Â c) (cx (Ù B (Â c)) (Â c)) t,aec B (Â c) s (cx (Ù B (Â c)) (Â c))-(Œ B (Â c)).1+aec B (Â c) (cy (Ù B (Â c)) (Â c)) t):=rfl;unfold mo;rw[eH];have tt:=ahS hs (ι h');rw[ho,if_pos rfl] at tt;have eD:dst (å (Ù B (Â c))) ((Í (Ù B (Â c))).length+1)=aec B (Â c):=rfl;rw[eD] at tt;generalize å (Ù B (Â c))=H at hs hlen tt ⊢;generalize cx (Ù B (Â c)) (Â c)=x at hx ⊢;generalize cy (Ù B (Â c)) (Â c)=y at hy ⊢;generalize wQ (Ù B (Â c)) n.1 n.2=k at hk ⊢;generalize (Í (Ù B (Â c))).length=N at *;generalize aec B (Â c)=D at *;generalize Œ B (Â c)=S at *
 have el:Û (H++[(y,x,S.2),(x,y,-S.1)])=(H.length:Int)+2:=by rw[ä]; simp
 have g1:(H++[(y,x,S.2),(x,y,-S.1)])[((H.length:Int)).toNat]?=some (y,x,S.2):=by simp
 have g2:(H++[(y,x,S.2),(x,y,-S.1)])[((H.length:Int)+1).toNat]?=some (x,y,-S.1):=by
  rw[show((H.length:Int)+1).toNat=H.length+1 by omega]; simp
 rw[el,Õ (by omega) (by omega),show(H.length:Int)+2-2=(H.length:Int) by omega,iC (by omega) g1,Õ (by omega) (by omega),iC (by omega) g2,ĩ (by simp[ile,ĉ]; omega),Int.toNat_natCast,List.take_left];rw[show((N:Int)+1,H)=(((N+1:Nat):Int),H) by push_cast; rfl,tt,À,À];dsimp only;have b1:=bd hz hk;have b2:=bd hk hz;have b3:=bd hz hy;have b4:=bd hx hk;have b5:=bd hz hx;have b7:=bd hy hk;have b8:=bd hk hy;have b9:=bd hx hz;have b10:=bd hk hx;have b11:=bd hy hz;simp only[Io D hz,Io D hk,Io D hx,Io D hy,Oz _ hz,Oz _ hk,Oz _ hx,Oz _ hy];rw[Õ (by omega) (by omega),Õ (by omega) (by omega),Õ (by omega) (by omega),Õ (by omega) (by omega),Õ (by omega) (by omega),Õ (by omega) (by omega),Õ (by omega) (by omega),Õ (by omega) (by omega),Õ (by omega) (by omega),Õ (by omega) (by omega),Õ (by omega) (by omega)];unfold sW;dsimp only;simp only[Option.some.injEq,Prod.mk.injEq,and_true,true_and];exact⟨by show @Eq Int _ _; omega,by show @Eq Int _ _; omega,by show @Eq Int _ _; omega,by show @Eq Int _ _; omega⟩
end
def Z0 {ρ:Type}:@Ex ρ=@Č ρ:=rfl
def ag4 (l:List Int) (m:Int):Int:=l.foldl min m
def akw:∀(l:List Int) (m:Int),ag4 l m≤m∧(∀x∈l,ag4 l m≤x)∧(ag4 l m=m∨ag4 l m∈l)
 |[],m=>⟨dw _,fun x h=>by simp at h,.inl rfl⟩
 |a::l,m=>by
  obtain⟨h1,h2,h3⟩:=akw l (min m a);unfold ag4 at *;rw[List.foldl_cons];refine⟨by omega,fun x hx=>?_,?_⟩
  ·rcases dc.1 hx with rfl|hx
   ·omega
   ·exact h2 x hx
  ·rcases h3 with h3|h3
   ·by_cases h:m≤a
    ·left; omega
    ·right; rw[h3]; simp; omega
   ·right; exact f5 _ h3
def aow {w:oA} (h:E4 w) {d:Int} (hd:Sm d):kB (sW w) d=some (jt w d):=by
 have e:=h.high.s;have e1:=h.high.u;have e2:=h.high.d;have e3:=h.low.s;have e4:=h.low.u;have e5:=h.low.d;unfold Sm at *;unfold kB oK sW;dsimp only;rw[Õ (by omega) (by omega),Õ (by omega) (by omega),Õ (by omega) (by omega),Õ (by omega) (by omega)];simp only[tz,Zy];unfold jt atE;congr 1;refine Prod.ext ?_ ?_
 ·show @Eq Int _ _; dsimp only; omega
 ·show @Eq Int _ _; dsimp only; omega
def AO {w:oA} (h:E4 w) {d:Int} (hd:Sm d):ý (sW w) d=some (Į w d):=by
 unfold ý mN;have b1:=adT h.high hd;have b2:=adT h.low hd;rw[aow h hd,À];unfold Į jt;dsimp only;rw[Õ (by omega) (by omega)]
def ahL (e:End) (d:Int):atE e (d+2)+atE e d≤2*atE e (d+1):=by unfold atE; omega
def ah4 (w:oA) (d:Int):Į w (d+2)+Į w d≤2*Į w (d+1):=by
 have h1:=ahL w.2.1 d;have h2:=ahL w.2.2 d;unfold Į jt;dsimp only;omega
def aly {f:Int→Int} (hf:∀d,f (d+2)+f d≤2*f (d+1)) {m:Int} (h:f m<f (m+1)):∀k:Nat,f (m-k)<f (m-k+1)∧f (m-k)≤f m
 |0=>by simpa using h
 |k+1=>by
  obtain⟨h1,h2⟩:=aly hf h k;have h3:=hf (m-k-1);rw[show m-(k:Int)-1+2=m-k+1 by omega,show m-(k:Int)-1+1=m-k by omega] at h3;rw[show m-((k+1:Nat):Int)=m-k-1 by push_cast; omega,show m-(k:Int)-1+1=m-k by omega];omega
def adu {f:Int→Int} (hf:∀d,f (d+2)+f d≤2*f (d+1)) {m:Int} (h:f (m+1)≤f m):∀k:Nat,f (m+k+1)≤f (m+k)∧f (m+k)≤f m
 |0=>by simpa using h
 |k+1=>by
  obtain⟨h1,h2⟩:=adu hf h k;have h3:=hf (m+k);rw[show m+((k+1:Nat):Int)=m+k+1 by push_cast; omega,show m+(k:Int)+1+1=m+k+2 by omega];omega
def ad1 {w:oA} (h:E4 w) (hr:w.1.1≤w.1.2) (hw:∀d,w.1.1≤d→d≤w.1.2→0≤Į w d):ī (sW w)=some (oT w):=by
 unfold ī mM;have h1:=h.lo;have h2:=h.hi;have hc:=ah4 w;refine Ĕ (fun x:Int×Int=>w.1.1≤x.1∧x.1≤x.2∧x.2≤w.1.2∧∀d,w.1.1≤d→d≤w.1.2→∃e,x.1≤e∧e≤x.2∧Į w d≤Į w e) (fun x=>(x.2-x.1).toNat) ?_ (x:=(w.1.1,w.1.2)) ⟨Int.le_refl _,hr,Int.le_refl _,fun d d1 d2=>⟨d,d1,d2,Int.le_refl _⟩⟩;rintro⟨lo,hi⟩ ⟨g1,g2,g3,g4⟩;dsimp only at g1 g2 g3 g4
 by_cases hlt:lo<hi
 ·have q:=Int.tdiv_eq_ediv_of_nonneg (a:=hi-lo) (b:=2) (by omega);generalize hm:lo+(hi-lo) / 2=m
  have hmid:lo≤m∧m<hi:=by omega
  unfold Sm at h1 h2
  have s1:Sm m:=by unfold Sm; omega
  have s2:Sm (m+1):=by unfold Sm; omega
  have up:=fun hh=>aly hc (m:=m) hh;have down:=fun hh=>adu hc (m:=m) hh
  by_cases hh:Į w m<Į w (m+1)
  ·refine .inr ⟨(m+1,hi),⟨by dsimp only; omega,by dsimp only; omega,by dsimp only; omega,fun d d1 d2=>?_⟩,by dsimp only; omega,fun kn=>?_⟩
   ·obtain⟨e,e1,e2,e3⟩:=g4 d d1 d2
    by_cases he:m+1≤e
    ·exact⟨e,he,e2,e3⟩
    ·have:=(up hh (m-e).toNat).2;rw[show m-((m-e).toNat:Int)=e by omega] at this;exact⟨m+1,Int.le_refl _,by dsimp only; omega,by omega⟩
   ·dsimp only;unfold ŵ;rw[Ø (show ilt lo hi=true from decide_eq_true hlt),Õ (by omega) (by omega),q,Õ (by omega) (by omega),hm,Õ (by omega) (by omega),Õ (by omega) (by omega)];rw[show ý ((sW w).1,(sW w).2.1,(sW w).2.2.1,(sW w).2.2.2.1,(sW w).2.2.2.2.1,(sW w).2.2.2.2.2.1,(sW w).2.2.2.2.2.2.1,(sW w).2.2.2.2.2.2.2) (m+1)=ý (sW w) (m+1) from rfl,AO h s2,À];rw[show ý ((sW w).1,(sW w).2.1,(sW w).2.2.1,(sW w).2.2.2.1,(sW w).2.2.2.2.1,(sW w).2.2.2.2.2.1,(sW w).2.2.2.2.2.2.1,(sW w).2.2.2.2.2.2.2) m=ý (sW w) m from rfl,AO h s1,À];rw[Ø (show igt (Į w (m+1)) (Į w m)=true from decide_eq_true hh),Õ (by omega) (by omega)]
  ·refine .inr ⟨(lo,m),⟨by dsimp only; omega,by dsimp only; omega,by dsimp only; omega,fun d d1 d2=>?_⟩,by dsimp only; omega,fun kn=>?_⟩
   ·obtain⟨e,e1,e2,e3⟩:=g4 d d1 d2
    by_cases he:e≤m
    ·exact⟨e,e1,he,e3⟩
    ·have:=(down (by omega) (e-m).toNat).2;rw[show m+((e-m).toNat:Int)=e by omega] at this;exact⟨m,by dsimp only; omega,Int.le_refl _,by omega⟩
   ·dsimp only;unfold ŵ;rw[Ø (show ilt lo hi=true from decide_eq_true hlt),Õ (by omega) (by omega),q,Õ (by omega) (by omega),hm,Õ (by omega) (by omega),Õ (by omega) (by omega)];rw[show ý ((sW w).1,(sW w).2.1,(sW w).2.2.1,(sW w).2.2.2.1,(sW w).2.2.2.2.1,(sW w).2.2.2.2.2.1,(sW w).2.2.2.2.2.2.1,(sW w).2.2.2.2.2.2.2) (m+1)=ý (sW w) (m+1) from rfl,AO h s2,À];rw[show ý ((sW w).1,(sW w).2.1,(sW w).2.2.1,(sW w).2.2.2.1,(sW w).2.2.2.2.1,(sW w).2.2.2.2.2.1,(sW w).2.2.2.2.2.2.1,(sW w).2.2.2.2.2.2.2) m=ý (sW w) m from rfl,AO h s1,À];rw[Ô (show igt (Į w (m+1)) (Į w m)=false from decide_eq_false (by omega))]
 ·have heq:hi=lo:=by omega
  subst heq;refine .inl fun kn=>?_;dsimp only;unfold ŵ;rw[Ô (show ilt hi hi=false from decide_eq_false hlt)];dsimp only;rw[AO h (by unfold Sm at *; omega),À];obtain⟨d,d1,d2,d3⟩:=amJ w hr hw;obtain⟨e,e1,e2,e3⟩:=g4 d d1 d2
  have:e=hi:=by omega
  subst this;have:=ajz w g1 g3;congr 1;show @Eq Int _ _;omega
def wsR (B:â) (n:Int×Int) (l:List Cmp):List Int:=l.map fun c=>oT (mo B n c)
def Lh (B:â) (n:Int×Int) (l:List Cmp):Int×Int :=
 match l.findIdx? (fun c=>decide ((Þ B c).2≠0)) with
 |some i=>((0:Int),(Þ B (l[i]?.getD cmp0)).2)
 |none=>(((match (wsR B n l).findIdx? (·==ag4 (wsR B n l) ((wsR B n l)[0]?.getD 0)) with|some j=>(j:Int)|none=>-1):Int),(0:Int))
def aea (b:â) (n:Int×Int) (l:List Cmp):Int×Int :=
 if (ù b [n]).2≠0 then(0,(ù b [n]).2) else if l.length=0 then(0,1) else if 20<l.length then(0,2) else Lh (ù b [n]).1 n l
def ap8 {b:â} (hI:In b) (n:Int×Int) {l:List Cmp} (hl25:l.length≤25) (hc:∀c∈l,c.2.2.1.length≤1000∧c.2.2.2.1.length≤1000):nw b n l=some (aea b n l):=by
 have hopen:=fun K=>rB (ρ:=Int×Int) hI (ns:=[n]) (by simp) (E0:=fun r1=>ifb (ine r1 (0:Int)) (some ((0:Int),r1)) (ifb (ieq (Û l) (0:Int)) (some ((0:Int),(1:Int))) (ë (igt (Û l) (20:Int)) (some ((0:Int),(2:Int)))))) (E1:=fun z7=>ifb (ine z7.1 (0:Int)) (some ((0:Int),z7.1)) (ifb (ieq (Û l) (0:Int)) (some ((0:Int),(1:Int))) (ë (igt (Û l) (20:Int)) (some ((0:Int),(2:Int))))))
  (E2:=fun z8 r9=>ifb (ine r9.2.2 (0:Int)) (some ((0:Int),r9.2.2)) (ifb (ieq (Û l) (0:Int)) (some ((0:Int),(1:Int))) (ë (igt (Û l) (20:Int)) (some ((0:Int),(2:Int)))))) (E3:=fun _ _ _=>some ((0:Int),(9:Int))) (K:=K)
  (fun e=>some ((0:Int),e)) (fun e he=>by rw[Ø (by simp[ine,he])]) (fun z he=>by rw[Ø (by simp[ine,he])]) (fun _ _ _=>rfl)
 unfold aea
 by_cases ho:(ù b [n]).2=0
 case neg =>
  rw[if_pos ho];unfold nw A9;rw[Z0];exact(hopen _).trans (by rw[if_pos ho])
 rw[if_neg (show ¬(ù b [n]).2≠0 by simp[ho])]
 by_cases l0:l.length=0
 ·rw[if_pos l0];unfold nw A9;rw[Z0];refine(hopen _).trans ?_;rw[if_neg (by simp[ho])];dsimp only;rw[ä,Ø (beq_iff_eq.2 (by omega))]
 by_cases l20:20<l.length
 ·rw[if_neg l0,if_pos l20];unfold nw A9;rw[Z0];refine(hopen _).trans ?_;rw[if_neg (by simp[ho])];dsimp only;rw[ä,Ô (beq_eq_false_iff_ne.2 (by omega)),Ø (decide_eq_true (by omega))]
 rw[if_neg l0,if_neg l20]
 have hl:0<l.length∧l.length≤20:=by omega
 have hr:=(jw hI ho).1;generalize hB:(ù b [n]).1=B at hr
 -- the loop: an error, or all worsts
 let worsts:List Int:=l.map fun c=>oT (mo B n c)
 have hin:∀K0:Int×Int×List Int→Option (Int×Int),∀K1:List Int→Option (Int×Int),Î (fun(v26:(Val (.pair tI (.slice tI)))) kk29=>mW (B,Og B) l (Û l) n.1 n.2 v26.1 v26.2 (fun u27 u28=>kk29 (u27,u28)) K0 K1) ((0:Int),[]) =
  match l.findIdx? (fun c=>decide ((Þ B c).2≠0)) with|some i=>K0 (0,(Þ B (l[i]?.getD cmp0)).2,(l.take i).map fun c=>oT (mo B n c))|none=>K1 worsts:=by
  intro K0 K1;refine Ĕ (fun v=>∃i:Nat,i≤l.length∧v=((i:Int),(l.take i).map fun c=>oT (mo B n c))∧∀j c,j<i→l[j]?=some c→(Þ B c).2=0) (fun v=>l.length-v.1.toNat) ?_ ⟨0,by omega,rfl,fun j c h=>by omega⟩;rintro v ⟨i,hi,rfl,hall⟩;rcases dn i l.length with h2|h2
  ·have hg:l[i]?=some l[i]:=cO h2;have hcc:=hc l[i] (eO _)
   by_cases hp:(Þ B l[i]).2=0
   ·refine .inr ⟨((i+1:Nat),(l.take (i+1)).map fun c=>oT (mo B n c)),⟨i+1,h2,by simp,fun j c hj hjc=>by
     rcases eZ.1 hj with h|rfl
     ·exact hall j c h hjc
     ·rw[hg] at hjc; cases hjc; exact hp⟩,by simp; omega,fun kn=>?_⟩
    dsimp only;unfold mW;rw[Ö h2,Ì hg,show(n.1,n.2)=n from rfl,Ii hr n hcc.1 hcc.2,À];unfold KO;rw[if_neg (by simp[hp]),Ô (by rfl),agl (E8 hp),À,ĩ (Ú (by rw[List.length_map,List.length_take]; simp only[List.length_singleton]; omega)),Ï h2 (by omega),take_succ hg,List.map_append];rfl
   ·refine .inl fun kn=>?_
    have hf:l.findIdx? (fun c=>decide ((Þ B c).2≠0))=some i:=by
     rw[dA];exact⟨h2,decide_eq_true hp,fun j hj=>by have:=hall j _ hj (cO (by omega)); simp[this]⟩
    rw[hf];dsimp only;unfold mW;rw[Ö h2,Ì hg,show(n.1,n.2)=n from rfl,Ii hr n hcc.1 hcc.2,À];unfold KO;rw[if_pos hp,Ø (bne_iff_ne.2 hp),hg];rfl
  ·refine .inl fun kn=>?_
   obtain rfl:i=l.length:=by omega
   have hf:l.findIdx? (fun c=>decide ((Þ B c).2≠0))=none:=by
    rw[dT];intro c hcm;obtain⟨j,hj,rfl⟩:=di.1 hcm;have:=hall j _ hj (cO hj);simp[this]
   rw[hf];dsimp only;unfold mW;rw[ã,List.take_length]
 have hgo:∀r,(match l.findIdx? (fun c=>decide ((Þ B c).2≠0)) with|some i=>some ((0:Int),(Þ B (l[i]?.getD cmp0)).2)|none=>some (((match worsts.findIdx? (·==ag4 worsts (worsts[0]?.getD 0)) with|some j=>(j:Int)|none=>-1):Int),(0:Int)))=some r→nw b n l=some r:=by
  intro r hrr;unfold nw A9;rw[Z0];refine(hopen _).trans ?_;rw[if_neg (by simp[ho])];dsimp only;rw[ä,Ô (beq_eq_false_iff_ne.2 (by omega)),Ô (decide_eq_false (by omega)),hB,wU,show((((Í B).length:Int)+1,æ B):Sys)=Og B from rfl,←ä l];refine(hin _ _).trans ?_;rw[←hrr]
  cases hf:l.findIdx? (fun c=>decide ((Þ B c).2≠0)) with
  |some i=>rfl
  |none =>
   dsimp only
   have hwl:worsts.length=l.length:=by simp[worsts]
   have hw0:worsts[0]?=some (worsts[0]?.getD 0):=by rw[cO (by omega)]; rfl
   rw[ä,Ô (decide_eq_false (by omega)),ĩ (decide_eq_true (by show(0:Int)<(worsts.length:Int); omega)),nk hw0];generalize worsts[0]?.getD 0=w0 at hw0
   refine Ĕ (fun v=>∃i:Nat,1≤i∧i≤worsts.length∧v=(ag4 (worsts.take i) w0,(i:Int))) (fun v=>worsts.length-v.2.toNat) ?_ ⟨1,by omega,by omega,by
    rw[show worsts.take 1=[w0] by
     rw[take_succ (i:=0) hw0]; rfl]
    simp[ag4]⟩
   rintro v ⟨i,h1,h2,rfl⟩;rcases dn i worsts.length with h3|h3
   ·have hg:worsts[i]?=some worsts[i]:=List.getElem?_eq_getElem h3;refine .inr ⟨(ag4 (worsts.take (i+1)) w0,((i+1:Nat):Int)),⟨i+1,by omega,h3,rfl⟩,by simp; omega,fun kn=>?_⟩;dsimp only;unfold wm;rw[Ö h3,ahh,Ì hg,Ï h3 (by omega),tz,take_succ hg];unfold ag4;rw[List.foldl_append];rfl
   ·refine .inl fun kn=>?_
    obtain rfl:i=worsts.length:=by omega
    dsimp only;unfold wm;rw[ã,List.take_length];dsimp only;rw[ad4 (by omega),À];rfl
 refine hgo _ ?_;unfold Lh
 cases hf:l.findIdx? (fun c=>decide ((Þ B c).2≠0)) with
 |some i=>rfl
 |none=>rfl
def Fr {b:â} {c:Cmp} (hp:(Þ b c).2=0):(Þ b c).1.1≤(Þ b c).1.2:=by
 have h:=yn hp;have:=h.order;have:=h.ends;omega
def WO {l:List Cmp} (hl:l.length≤1000) (K:Option Bool) :
 Î (fun(v174:Int) kk176=>Ŗ l v174 (fun u175=>kk176 u175) (fun z11=>some z11) (fun _=>K)) (0:Int)=if l.any (fun c=>!sQ c) then some true else K:=by
 refine Ń l (fun c=>!sQ c) (fun _=>some true) (some true) K (fun _=>rfl) (fun i c hi hc kn=>?_) (fun kn=>?_)
 ·try dsimp only
  unfold Ŗ;rw[Ö hi,Ì hc,S0,À,Vm,À,Ï hi (by omega)]
  cases sQ c<;>rfl
 ·try dsimp only
  unfold Ŗ;rw[ã]
def Jc (b:â) (n:Int×Int) (c:Cmp):ahW×Int:=if (ù b [n]).2≠0 then(nar0,(ù b [n]).2) else pL (ù b [n]).1 n c
def adU {b:â} (hI:In b) (n:Int×Int) {c:Cmp} (hA:c.2.2.1.length≤1000) (hB:c.2.2.2.1.length≤1000):ld b n c=some (Jc b n c):=by
 unfold ld JF Jc;rw[amz hI (by simp),À,ahf]
 by_cases ho:(ù b [n]).2=0
 case neg=>rw[if_pos ho,Ø (bne_iff_ne.2 ho)]; rfl
 rw[if_neg (by simp[ho]),Ô (by rw[ho]; rfl),akX ho,ajo (jw hI ho).1 _ _ _ n hA hB,À]
abbrev St4:Type:=Int×Int×Int×Int
def Je (b:â) (n:Int×Int) (l:List Cmp) {g:Int} (hg:g≠0) (K:Int×Int→Option Bool) :
 Î (fun(v30:St4) kk35=>È l b.1.1 b.1.2 b.2.1 b.2.2.1 b.2.2.2.1 b.2.2.2.2.1 b.2.2.2.2.2 n.1 n.2 v30.1 v30.2.1 v30.2.2.1 v30.2.2.2 (fun u31 u32 u33 u34=>kk35 (u31,u32,u33,u34)) K) (g,(0:Int),(0:Int),(0:Int))=K (g,0):=by
 refine Ĕ (fun x:St4=>x=(g,0,0,0)) (fun _=>0) ?_ rfl;rintro x rfl;refine .inl fun kn=>?_;dsimp only;unfold È;rw[Ô (show ieq g 0=false from beq_eq_false_iff_ne.2 hg)]
 cases ilt (0:Int) (Û l)<;>rfl
def alg {ws:List Int} {bi:Nat} {v:Int} (hb:ws[bi]?=some v) (h1:∀(j:Nat) w,ws[j]?=some w→v≤w) (h2:∀(j:Nat) w,j<bi→ws[j]?=some w→v<w) :
 ws.findIdx? (·==ag4 ws (ws[0]?.getD 0))=some bi:=by
 have hlt:bi<ws.length:=(cY.1 hb).1
 have hw0:ws[0]?=some (ws[0]?.getD 0):=by rw[cO (by omega)]; rfl
 generalize ws[0]?.getD 0=w0 at hw0;obtain⟨m1,m2,m3⟩:=akw ws w0
 have hm:ag4 ws w0=v:=by
  have a1:=m2 v (cZ hb)
  have a2:v≤ag4 ws w0:=by
   rcases m3 with h|h
   ·rw[h]; exact h1 0 _ hw0
   ·obtain⟨k,hk,ek⟩:=di.1 h;exact h1 k _ (by rw[cO hk,ek])
  omega
 rw[dA];refine⟨hlt,?_,fun j hj=>?_⟩
 ·rw[cO hlt] at hb;rw[Option.some.inj hb,hm];exact beq_self_eq_true _
 ·have:=h2 j _ hj (cO (by omega));rw[hm];intro e;have:=eq_of_beq e;omega
def aeh {b:â} (hI:In b) {n:Int×Int} {l:List Cmp} (hl:0<l.length∧l.length≤20) (hc:∀c∈l,c.2.2.1.length≤1000∧c.2.2.2.1.length≤1000) (ho:(ù b [n]).2=0) (K:Int×Int→Option Bool)
 (hK1:(Lh (ù b [n]).1 n l).2≠0→∀z,K ((Lh (ù b [n]).1 n l).2,z)=some true) (hK2:(Lh (ù b [n]).1 n l).2=0→K (0,(Lh (ù b [n]).1 n l).1)=some true) :
 Î (fun(v30:St4) kk35=>È l b.1.1 b.1.2 b.2.1 b.2.2.1 b.2.2.2.1 b.2.2.2.2.1 b.2.2.2.2.2 n.1 n.2 v30.1 v30.2.1 v30.2.2.1 v30.2.2.2 (fun u31 u32 u33 u34=>kk35 (u31,u32,u33,u34)) K) ((0:Int),(0:Int),(0:Int),(0:Int))=some true:=by
 have hA:=VF hI ho;have hr:=hA.room;have hnode:=hA.nodes n (by simp)
 have hask:∀c∈l,ld ((b.1.1,b.1.2),b.2.1,b.2.2.1,b.2.2.2.1,b.2.2.2.2.1,b.2.2.2.2.2) (n.1,n.2) c=some (pL (ù b [n]).1 n c):=fun c hcm=>by
  have:=adU hI n (hc c hcm).1 (hc c hcm).2;unfold Jc at this;rw[if_neg (by simp[ho])] at this;exact this
 generalize (ù b [n]).1=B at *
 have hwl:(wsR B n l).length=l.length:=by simp[wsR]
 have wi:∀(j:Nat) d,l[j]?=some d→(wsR B n l)[j]?=some (oT (mo B n d)):=fun j d hd=>by unfold wsR; rw[List.getElem?_map,hd]; rfl
 refine Ĕ (fun x:St4=>(∃i:Nat,i≤l.length∧x.2.2.2=i∧x.1=0∧(∀(j:Nat) c,j<i→l[j]?=some c→(Þ B c).2=0)∧(0<i→∃bi:Nat,bi<i∧x.2.1=bi∧(wsR B n l)[bi]?=some x.2.2.1∧(∀(j:Nat) w,j<i→(wsR B n l)[j]?=some w→x.2.2.1≤w)∧(∀(j:Nat) w,j<bi→(wsR B n l)[j]?=some w→x.2.2.1<w)))∨(x.1≠0∧x.1=(Lh B n l).2))
  (fun x=>if x.1=0 then l.length+1-x.2.2.2.toNat else 0) ?_ (.inl ⟨0,by omega,rfl,rfl,fun j c h=>by omega,fun h=>by omega⟩)
 rintro⟨v0,v1,v2,v3⟩ (⟨i,hi,h3,h0,hall,hbest⟩|⟨h0,h1⟩)
 ·dsimp only at h3 h0 hbest;subst h3 h0;rcases Nat.lt_or_ge i l.length with h2|h2
  ·have hg:l[i]?=some l[i]:=cO h2;have hmem:=eO h2;have hwi:=wi i _ hg
   by_cases hp:(Þ B l[i]).2=0
   ·have hall':∀(j:Nat) c,j<i+1→l[j]?=some c→(Þ B c).2=0:=fun j c hj hjc=>by
     rcases eZ.1 hj with h|rfl
     ·exact hall j c h hjc
     ·rw[hg] at hjc; cases hjc; exact hp
    have hW:=ad1 (E8 (n:=n) hp) (Fr hp) (fun d d1 d2=>agn hr hnode hp d1 d2);generalize oT (mo B n l[i])=w at hwi hW
    have run:∀kn:St4→Option Bool,È l b.1.1 b.1.2 b.2.1 b.2.2.1 b.2.2.2.1 b.2.2.2.2.1 b.2.2.2.2.2 n.1 n.2 0 v1 v2 (i:Int) (fun u31 u32 u33 u34=>kn (u31,u32,u33,u34)) K =
     if i=0∨w<v2 then kn (0,(i:Int),w,((i+1:Nat):Int)) else kn (0,v1,v2,((i+1:Nat):Int)):=fun kn=>by
     unfold È;rw[Ö h2,Ø (by rfl),Ì hg,hask _ hmem,À];unfold pL;rw[if_neg (by simp[hp]),Ø (by rfl)];dsimp only
     by_cases hi0:i=0
     ·rw[Ø (show ieq (i:Int) 0=true from beq_iff_eq.2 (by omega)),hW,À,Ï h2 (by omega),if_pos (.inl hi0)];rfl
     ·rw[Ô (show ieq (i:Int) 0=false from beq_eq_false_iff_ne.2 (by omega)),hW,À,À,Ï h2 (by omega)]
      by_cases hw:w<v2
      ·rw[Ø (show ilt w v2=true from decide_eq_true hw),if_pos (.inr hw)]; rfl
      ·rw[Ô (show ilt w v2=false from decide_eq_false hw),Ï h2 (by omega),if_neg (by omega)]; rfl
    by_cases hsel:i=0∨w<v2
    ·refine .inr ⟨(0,(i:Int),w,((i+1:Nat):Int)),.inl ⟨i+1,h2,rfl,rfl,hall',fun _=>⟨i,by omega,rfl,hwi,fun j u hj hu=>?_,fun j u hj hu=>?_⟩⟩,?_,fun kn=>?_⟩
     ·rcases eZ.1 hj with h|rfl
      ·rcases hsel with h'|h'
       ·omega
       ·obtain⟨_,_,_,_,g1,_⟩:=hbest (by omega);have:=g1 j u h hu;dsimp only; omega
      ·rw[hwi] at hu; cases hu; exact dw _
     ·rcases hsel with h'|h'
      ·omega
      ·obtain⟨_,_,_,_,g1,_⟩:=hbest (by omega);have:=g1 j u hj hu;dsimp only; omega
     ·dsimp only; rw[if_pos rfl,if_pos rfl]; omega
     ·exact(run kn).trans (if_pos hsel)
    ·have hi0:0<i:=by omega
     obtain⟨bi,g1,g2,g3,g4,g5⟩:=hbest hi0;refine .inr ⟨(0,v1,v2,((i+1:Nat):Int)),.inl ⟨i+1,h2,rfl,rfl,hall',fun _=>⟨bi,by omega,g2,g3,fun j u hj hu=>?_,g5⟩⟩,?_,fun kn=>?_⟩
     ·rcases eZ.1 hj with h|rfl
      ·exact g4 j u h hu
      ·rw[hwi] at hu; cases hu; dsimp only; omega
     ·dsimp only; rw[if_pos rfl,if_pos rfl]; omega
     ·exact(run kn).trans (if_neg hsel)
   ·have hf:l.findIdx? (fun c=>decide ((Þ B c).2≠0))=some i:=by
     rw[dA];exact⟨h2,decide_eq_true hp,fun j hj=>by have:=hall j _ hj (cO (by omega)); simp[this]⟩
    have hbr:(Lh B n l).2=(Þ B l[i]).2:=by unfold Lh; rw[hf]; dsimp only; rw[hg]; rfl
    refine .inr ⟨((Þ B l[i]).2,v1,v2,((i+1:Nat):Int)),.inr ⟨hp,hbr.symm⟩,?_,fun kn=>?_⟩
    ·dsimp only; rw[if_neg hp,if_pos rfl]; omega
    ·dsimp only;unfold È;rw[Ö h2,Ø (by rfl),Ì hg,hask _ hmem,À];unfold pL;rw[if_pos hp,Ô (show ieq (Þ B l[i]).2 0=false from beq_eq_false_iff_ne.2 hp),Ï h2 (by omega)];rfl
  ·refine .inl fun kn=>?_
   obtain rfl:i=l.length:=by omega
   have hf:l.findIdx? (fun c=>decide ((Þ B c).2≠0))=none:=by
    rw[dT];intro c hcm;obtain⟨j,hj,rfl⟩:=di.1 hcm;have:=hall j _ hj (cO hj);simp[this]
   obtain⟨bi,g1,g2,g3,g4,g5⟩:=hbest hl.1;have hfm:=alg g3 (fun j w hw=>g4 j w (by rw[←hwl]; exact(cY.1 hw).1) hw) g5
   have e:Lh B n l=((bi:Int),0):=by unfold Lh; rw[hf]; dsimp only; rw[hfm]
   dsimp only;unfold È;rw[ã];have:=hK2 (by rw[e]);rw[e] at this;rw[g2];exact this
 ·dsimp only at h0 h1;refine .inl fun kn=>?_;dsimp only;unfold È;rw[Ô (show ieq v0 0=false from beq_eq_false_iff_ne.2 h0)];have hk:=hK1 (by rw[←h1]; exact h0) v1;rw[←h1] at hk
  cases ilt v3 (Û l)<;>exact hk
def aeg {b:â} (hI:In b) (n:Int×Int) {l:List Cmp} (hl:l.length≤25) (hc:∀c∈l,c.2.2.1.length≤1000∧c.2.2.2.1.length≤1000) {R:Int×Int} (hR:R=aea b n l) :
 (Ã (Ţ b ([n])) fun r17=>ifb (ine r17.2.2.2 (0:Int)) (Î (fun(v30:(Val (.pair tI ú))) kk35=>È l b.1.1 b.1.2 b.2.1 b.2.2.1 b.2.2.2.1 b.2.2.2.2.1 b.2.2.2.2.2 n.1 n.2 v30.1 v30.2.1 v30.2.2.1 v30.2.2.2 (fun u31 u32 u33 u34=>kk35 (u31,u32,u33,u34)) (fun z27=>ifb (ine z27.1 (0:Int)) (Ã (some true) fun r28=>ifb r28 (ifb (ieq R.2 z27.1) (some (ieq R.1 (0:Int))) (some false)) (some false)) (Ã (some true) fun r29=>ifb r29 (ifb (ieq R.2 (0:Int)) (some (ieq R.1 z27.2)) (some false)) (some false)))) (r17.2.2.2,(0:Int),(0:Int),(0:Int))) (ifb (ieq (Û l) (0:Int)) (Î (fun(v39:(Val (.pair tI ú))) kk44=>È l b.1.1 b.1.2 b.2.1 b.2.2.1 b.2.2.2.1 b.2.2.2.2.1 b.2.2.2.2.2 n.1 n.2 v39.1 v39.2.1 v39.2.2.1 v39.2.2.2 (fun u40 u41 u42 u43=>kk44 (u40,u41,u42,u43)) (fun z36=>ifb (ine z36.1 (0:Int)) (Ã (some true) fun r37=>ifb r37 (ifb (ieq R.2 z36.1) (some (ieq R.1 (0:Int))) (some false)) (some false)) (Ã (some true) fun r38=>ifb r38 (ifb (ieq R.2 (0:Int)) (some (ieq R.1 z36.2)) (some false)) (some false)))) ((1:Int),(0:Int),(0:Int),(0:Int))) (ifb (igt (Û l) (20:Int)) (Î (fun(v48:(Val (.pair tI ú))) kk53=>È l b.1.1 b.1.2 b.2.1 b.2.2.1 b.2.2.2.1 b.2.2.2.2.1 b.2.2.2.2.2 n.1 n.2 v48.1 v48.2.1 v48.2.2.1 v48.2.2.2 (fun u49 u50 u51 u52=>kk53 (u49,u50,u51,u52)) (fun z45=>ifb (ine z45.1 (0:Int)) (Ã (some true) fun r46=>ifb r46 (ifb (ieq R.2 z45.1) (some (ieq R.1 (0:Int))) (some false)) (some false)) (Ã (some true) fun r47=>ifb r47 (ifb (ieq R.2 (0:Int)) (some (ieq R.1 z45.2)) (some false)) (some false)))) ((2:Int),(0:Int),(0:Int),(0:Int))) (Î (fun(v57:(Val (.pair tI ú))) kk62=>È l b.1.1 b.1.2 b.2.1 b.2.2.1 b.2.2.2.1 b.2.2.2.2.1 b.2.2.2.2.2 n.1 n.2 v57.1 v57.2.1 v57.2.2.1 v57.2.2.2 (fun u58 u59 u60 u61=>kk62 (u58,u59,u60,u61)) (fun z54=>ifb (ine z54.1 (0:Int)) (Ã (some true) fun r55=>ifb r55 (ifb (ieq R.2 z54.1) (some (ieq R.1 (0:Int))) (some false)) (some false)) (Ã (some true) fun r56=>ifb r56 (ifb (ieq R.2 (0:Int)) (some (ieq R.1 z54.2)) (some false)) (some false)))) (r17.2.2.2,(0:Int),(0:Int),(0:Int))))))=some true:=by
 rw[amz hI (by simp),À,ahf]
 by_cases ho:(ù b [n]).2=0
 case neg =>
  have e:R=(0,(ù b [n]).2):=by rw[hR]; unfold aea; rw[if_pos ho]
  rw[Ø (show ine (ù b [n]).2 0=true from bne_iff_ne.2 ho)];refine(Je b n l ho _).trans ?_;rw[e];dsimp only;rw[Ø (show ine (ù b [n]).2 0=true from bne_iff_ne.2 ho),À,Ŋ,Ø (by simp[ieq])];rfl
 rw[Ô (by rw[ho]; rfl),ä]
 by_cases l0:l.length=0
 ·have e:R=(0,1):=by rw[hR]; unfold aea; rw[if_neg (by simp[ho]),if_pos l0]
  rw[Ø (show ieq ((l.length:Nat):Int) 0=true from beq_iff_eq.2 (by omega))];refine(Je b n l (by decide) _).trans ?_;rw[e];rfl
 rw[Ô (show ieq ((l.length:Nat):Int) 0=false from beq_eq_false_iff_ne.2 (by omega))]
 by_cases l20:20<l.length
 ·have e:R=(0,2):=by rw[hR]; unfold aea; rw[if_neg (by simp[ho]),if_neg l0,if_pos l20]
  rw[Ø (show igt ((l.length:Nat):Int) 20=true from decide_eq_true (by omega))];refine(Je b n l (by decide) _).trans ?_;rw[e];rfl
 have e:R=Lh (ù b [n]).1 n l:=by rw[hR]; unfold aea; rw[if_neg (by simp[ho]),if_neg l0,if_neg l20]
 rw[Ô (show igt ((l.length:Nat):Int) 20=false from decide_eq_false (by omega)),ho];refine aeh hI (by omega) hc ho _ (fun h z=>?_) (fun h=>?_)
 ·have h1:R.1=0:=by
   rw[e] at *;unfold Lh at h ⊢
   split
   ·rfl
   ·rename_i hf; rw[hf] at h; exact absurd rfl h
  rw[←e] at h ⊢;dsimp only;rw[Ø (show ine R.2 0=true from bne_iff_ne.2 h),À,Ŋ,Ø (by simp[ieq]),h1];rfl
 ·rw[←e] at h ⊢;dsimp only;rw[Ô (by rfl),À,Ŋ,Ø (show ieq R.2 0=true from beq_iff_eq.2 h)];simp[ieq]
def ah3 {b:â} (hn:∀g∈b.2.1,I64 g.2.2.2.2.1.1) (n:Int×Int) (c:Cmp) (l:List Cmp):oR b n c l=some true:=by
 unfold oR oI;rw[few_ok,À,Vm]
 by_cases hf:fewP b=true
 case neg=>rw[eF.2 hf]; rfl
 have hI:In b:=⟨anJ hf,hn⟩;rw[hf,Ô (by rfl),S0,À]
 by_cases hb:sQ c=true
 case neg=>rw[eF.2 hb]; rfl
 rw[hb,Ô (by rfl)];simp only[sQ,cR,decide_eq_true_eq] at hb
 by_cases l25:25<l.length
 ·rw[Ø (show igt (Û l) 25=true by rw[ä]; exact decide_eq_true (by omega)),À]
 rw[Ô (show igt (Û l) 25=false by rw[ä]; exact decide_eq_false (by omega))]
 have key:∀T:Option Bool,((∀c∈l,c.2.2.1.length≤1000∧c.2.2.2.1.length≤1000)→T=some true)→(if l.any (fun c=>!sQ c) then some true else T)=some true:=fun T hT=>by
  cases h:l.any (fun c=>!sQ c) with
  |true=>rfl
  |false =>
   rw[if_neg (by simp)];refine hT fun d hd=>?_;have:=eG.1 h d hd;simp only[sQ,Bool.not_eq_true,fe,cR,decide_eq_true_eq] at this;omega
 have main:(∀c∈l,c.2.2.1.length≤1000∧c.2.2.2.1.length≤1000)→(Ã (ov b n c) fun r13=>Ã (nw b n l) fun r14=>Ã (ld b n c) fun r15=>ifb (ine r13.2 r15.2) (some false) (ifb (ieq r13.2 (0:Int)) (Ã (ī r15.1) fun r16=>ifb (ine r13.1 r16) (some false) (ifb (ine r13.2 (0:Int)) (ifb (ine r13.1 (0:Int)) (some false) (Ã (Ţ b ([n])) fun r17=>ifb (ine r17.2.2.2 (0:Int)) (Î (fun(v30:(Val (.pair tI ú))) kk35=>È l b.1.1 b.1.2 b.2.1 b.2.2.1 b.2.2.2.1 b.2.2.2.2.1 b.2.2.2.2.2 n.1 n.2 v30.1 v30.2.1 v30.2.2.1 v30.2.2.2 (fun u31 u32 u33 u34=>kk35 (u31,u32,u33,u34)) (fun z27=>ifb (ine z27.1 (0:Int)) (Ã (some true) fun r28=>ifb r28 (ifb (ieq r14.2 z27.1) (some (ieq r14.1 (0:Int))) (some false)) (some false)) (Ã (some true) fun r29=>ifb r29 (ifb (ieq r14.2 (0:Int)) (some (ieq r14.1 z27.2)) (some false)) (some false)))) (r17.2.2.2,(0:Int),(0:Int),(0:Int))) (ifb (ieq (Û l) (0:Int)) (Î (fun(v39:(Val (.pair tI ú))) kk44=>È l b.1.1 b.1.2 b.2.1 b.2.2.1 b.2.2.2.1 b.2.2.2.2.1 b.2.2.2.2.2 n.1 n.2 v39.1 v39.2.1 v39.2.2.1 v39.2.2.2 (fun u40 u41 u42 u43=>kk44 (u40,u41,u42,u43)) (fun z36=>ifb (ine z36.1 (0:Int)) (Ã (some true) fun r37=>ifb r37 (ifb (ieq r14.2 z36.1) (some (ieq r14.1 (0:Int))) (some false)) (some false)) (Ã (some true) fun r38=>ifb r38 (ifb (ieq r14.2 (0:Int)) (some (ieq r14.1 z36.2)) (some false)) (some false)))) ((1:Int),(0:Int),(0:Int),(0:Int))) (ifb (igt (Û l) (20:Int)) (Î (fun(v48:(Val (.pair tI ú))) kk53=>È l b.1.1 b.1.2 b.2.1 b.2.2.1 b.2.2.2.1 b.2.2.2.2.1 b.2.2.2.2.2 n.1 n.2 v48.1 v48.2.1 v48.2.2.1 v48.2.2.2 (fun u49 u50 u51 u52=>kk53 (u49,u50,u51,u52)) (fun z45=>ifb (ine z45.1 (0:Int)) (Ã (some true) fun r46=>ifb r46 (ifb (ieq r14.2 z45.1) (some (ieq r14.1 (0:Int))) (some false)) (some false)) (Ã (some true) fun r47=>ifb r47 (ifb (ieq r14.2 (0:Int)) (some (ieq r14.1 z45.2)) (some false)) (some false)))) ((2:Int),(0:Int),(0:Int),(0:Int))) (Î (fun(v57:(Val (.pair tI ú))) kk62=>È l b.1.1 b.1.2 b.2.1 b.2.2.1 b.2.2.2.1 b.2.2.2.2.1 b.2.2.2.2.2 n.1 n.2 v57.1 v57.2.1 v57.2.2.1 v57.2.2.2 (fun u58 u59 u60 u61=>kk62 (u58,u59,u60,u61)) (fun z54=>ifb (ine z54.1 (0:Int)) (Ã (some true) fun r55=>ifb r55 (ifb (ieq r14.2 z54.1) (some (ieq r14.1 (0:Int))) (some false)) (some false)) (Ã (some true) fun r56=>ifb r56 (ifb (ieq r14.2 (0:Int)) (some (ieq r14.1 z54.2)) (some false)) (some false)))) (r17.2.2.2,(0:Int),(0:Int),(0:Int))))))) (Ã (Ţ b ([n])) fun r63=>ifb (ine r63.2.2.2 (0:Int)) (Î (fun(v67:(Val (.pair tI ú))) kk72=>È l b.1.1 b.1.2 b.2.1 b.2.2.1 b.2.2.2.1 b.2.2.2.2.1 b.2.2.2.2.2 n.1 n.2 v67.1 v67.2.1 v67.2.2.1 v67.2.2.2 (fun u68 u69 u70 u71=>kk72 (u68,u69,u70,u71)) (fun z64=>ifb (ine z64.1 (0:Int)) (Ã (some true) fun r65=>ifb r65 (ifb (ieq r14.2 z64.1) (some (ieq r14.1 (0:Int))) (some false)) (some false)) (Ã (some true) fun r66=>ifb r66 (ifb (ieq r14.2 (0:Int)) (some (ieq r14.1 z64.2)) (some false)) (some false)))) (r63.2.2.2,(0:Int),(0:Int),(0:Int))) (ifb (ieq (Û l) (0:Int)) (Î (fun(v76:(Val (.pair tI ú))) kk81=>È l b.1.1 b.1.2 b.2.1 b.2.2.1 b.2.2.2.1 b.2.2.2.2.1 b.2.2.2.2.2 n.1 n.2 v76.1 v76.2.1 v76.2.2.1 v76.2.2.2 (fun u77 u78 u79 u80=>kk81 (u77,u78,u79,u80)) (fun z73=>ifb (ine z73.1 (0:Int)) (Ã (some true) fun r74=>ifb r74 (ifb (ieq r14.2 z73.1) (some (ieq r14.1 (0:Int))) (some false)) (some false)) (Ã (some true) fun r75=>ifb r75 (ifb (ieq r14.2 (0:Int)) (some (ieq r14.1 z73.2)) (some false)) (some false)))) ((1:Int),(0:Int),(0:Int),(0:Int))) (ifb (igt (Û l) (20:Int)) (Î (fun(v85:(Val (.pair tI ú))) kk90=>È l b.1.1 b.1.2 b.2.1 b.2.2.1 b.2.2.2.1 b.2.2.2.2.1 b.2.2.2.2.2 n.1 n.2 v85.1 v85.2.1 v85.2.2.1 v85.2.2.2 (fun u86 u87 u88 u89=>kk90 (u86,u87,u88,u89)) (fun z82=>ifb (ine z82.1 (0:Int)) (Ã (some true) fun r83=>ifb r83 (ifb (ieq r14.2 z82.1) (some (ieq r14.1 (0:Int))) (some false)) (some false)) (Ã (some true) fun r84=>ifb r84 (ifb (ieq r14.2 (0:Int)) (some (ieq r14.1 z82.2)) (some false)) (some false)))) ((2:Int),(0:Int),(0:Int),(0:Int))) (Î (fun(v94:(Val (.pair tI ú))) kk99=>È l b.1.1 b.1.2 b.2.1 b.2.2.1 b.2.2.2.1 b.2.2.2.2.1 b.2.2.2.2.2 n.1 n.2 v94.1 v94.2.1 v94.2.2.1 v94.2.2.2 (fun u95 u96 u97 u98=>kk99 (u95,u96,u97,u98)) (fun z91=>ifb (ine z91.1 (0:Int)) (Ã (some true) fun r92=>ifb r92 (ifb (ieq r14.2 z91.1) (some (ieq r14.1 (0:Int))) (some false)) (some false)) (Ã (some true) fun r93=>ifb r93 (ifb (ieq r14.2 (0:Int)) (some (ieq r14.1 z91.2)) (some false)) (some false)))) (r63.2.2.2,(0:Int),(0:Int),(0:Int)))))))) (ifb (ine r13.2 (0:Int)) (ifb (ine r13.1 (0:Int)) (some false) (Ã (Ţ b ([n])) fun r100=>ifb (ine r100.2.2.2 (0:Int)) (Î (fun(v104:(Val (.pair tI ú))) kk109=>È l b.1.1 b.1.2 b.2.1 b.2.2.1 b.2.2.2.1 b.2.2.2.2.1 b.2.2.2.2.2 n.1 n.2 v104.1 v104.2.1 v104.2.2.1 v104.2.2.2 (fun u105 u106 u107 u108=>kk109 (u105,u106,u107,u108)) (fun z101=>ifb (ine z101.1 (0:Int)) (Ã (some true) fun r102=>ifb r102 (ifb (ieq r14.2 z101.1) (some (ieq r14.1 (0:Int))) (some false)) (some false)) (Ã (some true) fun r103=>ifb r103 (ifb (ieq r14.2 (0:Int)) (some (ieq r14.1 z101.2)) (some false)) (some false)))) (r100.2.2.2,(0:Int),(0:Int),(0:Int))) (ifb (ieq (Û l) (0:Int)) (Î (fun(v113:(Val (.pair tI ú))) kk118=>È l b.1.1 b.1.2 b.2.1 b.2.2.1 b.2.2.2.1 b.2.2.2.2.1 b.2.2.2.2.2 n.1 n.2 v113.1 v113.2.1 v113.2.2.1 v113.2.2.2 (fun u114 u115 u116 u117=>kk118 (u114,u115,u116,u117)) (fun z110=>ifb (ine z110.1 (0:Int)) (Ã (some true) fun r111=>ifb r111 (ifb (ieq r14.2 z110.1) (some (ieq r14.1 (0:Int))) (some false)) (some false)) (Ã (some true) fun r112=>ifb r112 (ifb (ieq r14.2 (0:Int)) (some (ieq r14.1 z110.2)) (some false)) (some false)))) ((1:Int),(0:Int),(0:Int),(0:Int))) (ifb (igt (Û l) (20:Int)) (Î (fun(v122:(Val (.pair tI ú))) kk127=>È l b.1.1 b.1.2 b.2.1 b.2.2.1 b.2.2.2.1 b.2.2.2.2.1 b.2.2.2.2.2 n.1 n.2 v122.1 v122.2.1 v122.2.2.1 v122.2.2.2 (fun u123 u124 u125 u126=>kk127 (u123,u124,u125,u126)) (fun z119=>ifb (ine z119.1 (0:Int)) (Ã (some true) fun r120=>ifb r120 (ifb (ieq r14.2 z119.1) (some (ieq r14.1 (0:Int))) (some false)) (some false)) (Ã (some true) fun r121=>ifb r121 (ifb (ieq r14.2 (0:Int)) (some (ieq r14.1 z119.2)) (some false)) (some false)))) ((2:Int),(0:Int),(0:Int),(0:Int))) (Î (fun(v131:(Val (.pair tI ú))) kk136=>È l b.1.1 b.1.2 b.2.1 b.2.2.1 b.2.2.2.1 b.2.2.2.2.1 b.2.2.2.2.2 n.1 n.2 v131.1 v131.2.1 v131.2.2.1 v131.2.2.2 (fun u132 u133 u134 u135=>kk136 (u132,u133,u134,u135)) (fun z128=>ifb (ine z128.1 (0:Int)) (Ã (some true) fun r129=>ifb r129 (ifb (ieq r14.2 z128.1) (some (ieq r14.1 (0:Int))) (some false)) (some false)) (Ã (some true) fun r130=>ifb r130 (ifb (ieq r14.2 (0:Int)) (some (ieq r14.1 z128.2)) (some false)) (some false)))) (r100.2.2.2,(0:Int),(0:Int),(0:Int))))))) (Ã (Ţ b ([n])) fun r137=>ifb (ine r137.2.2.2 (0:Int)) (Î (fun(v141:(Val (.pair tI ú))) kk146=>È l b.1.1 b.1.2 b.2.1 b.2.2.1 b.2.2.2.1 b.2.2.2.2.1 b.2.2.2.2.2 n.1 n.2 v141.1 v141.2.1 v141.2.2.1 v141.2.2.2 (fun u142 u143 u144 u145=>kk146 (u142,u143,u144,u145)) (fun z138=>ifb (ine z138.1 (0:Int)) (Ã (some true) fun r139=>ifb r139 (ifb (ieq r14.2 z138.1) (some (ieq r14.1 (0:Int))) (some false)) (some false)) (Ã (some true) fun r140=>ifb r140 (ifb (ieq r14.2 (0:Int)) (some (ieq r14.1 z138.2)) (some false)) (some false)))) (r137.2.2.2,(0:Int),(0:Int),(0:Int))) (ifb (ieq (Û l) (0:Int)) (Î (fun(v150:(Val (.pair tI ú))) kk155=>È l b.1.1 b.1.2 b.2.1 b.2.2.1 b.2.2.2.1 b.2.2.2.2.1 b.2.2.2.2.2 n.1 n.2 v150.1 v150.2.1 v150.2.2.1 v150.2.2.2 (fun u151 u152 u153 u154=>kk155 (u151,u152,u153,u154)) (fun z147=>ifb (ine z147.1 (0:Int)) (Ã (some true) fun r148=>ifb r148 (ifb (ieq r14.2 z147.1) (some (ieq r14.1 (0:Int))) (some false)) (some false)) (Ã (some true) fun r149=>ifb r149 (ifb (ieq r14.2 (0:Int)) (some (ieq r14.1 z147.2)) (some false)) (some false)))) ((1:Int),(0:Int),(0:Int),(0:Int))) (ifb (igt (Û l) (20:Int)) (Î (fun(v159:(Val (.pair tI ú))) kk164=>È l b.1.1 b.1.2 b.2.1 b.2.2.1 b.2.2.2.1 b.2.2.2.2.1 b.2.2.2.2.2 n.1 n.2 v159.1 v159.2.1 v159.2.2.1 v159.2.2.2 (fun u160 u161 u162 u163=>kk164 (u160,u161,u162,u163)) (fun z156=>ifb (ine z156.1 (0:Int)) (Ã (some true) fun r157=>ifb r157 (ifb (ieq r14.2 z156.1) (some (ieq r14.1 (0:Int))) (some false)) (some false)) (Ã (some true) fun r158=>ifb r158 (ifb (ieq r14.2 (0:Int)) (some (ieq r14.1 z156.2)) (some false)) (some false)))) ((2:Int),(0:Int),(0:Int),(0:Int))) (Î (fun(v168:(Val (.pair tI ú))) kk173=>È l b.1.1 b.1.2 b.2.1 b.2.2.1 b.2.2.2.1 b.2.2.2.2.1 b.2.2.2.2.2 n.1 n.2 v168.1 v168.2.1 v168.2.2.1 v168.2.2.2 (fun u169 u170 u171 u172=>kk173 (u169,u170,u171,u172)) (fun z165=>ifb (ine z165.1 (0:Int)) (Ã (some true) fun r166=>ifb r166 (ifb (ieq r14.2 z165.1) (some (ieq r14.1 (0:Int))) (some false)) (some false)) (Ã (some true) fun r167=>ifb r167 (ifb (ieq r14.2 (0:Int)) (some (ieq r14.1 z165.2)) (some false)) (some false)))) (r137.2.2.2,(0:Int),(0:Int),(0:Int)))))))))=some true:=fun hc=>by
  rw[ahP hI n (by omega) (by omega),À,ap8 hI n (by omega) hc,À,adU hI n (by omega) (by omega),À];have rest:=aeg hI n (show l.length≤25 by omega) hc (R:=aea b n l) rfl
  by_cases ho:(ù b [n]).2=0
  case neg =>
   have e1:DC b n c=(0,(ù b [n]).2):=by unfold DC; rw[if_pos ho]
   have e2:Jc b n c=(nar0,(ù b [n]).2):=by unfold Jc; rw[if_pos ho]
   rw[e1,e2,Ô (by simp[ine]),Ô (show ieq (ù b [n]).2 0=false from beq_eq_false_iff_ne.2 ho),Ø (show ine (ù b [n]).2 0=true from bne_iff_ne.2 ho),Ô (by rfl)];exact rest
  have hA:=VF hI ho;have hr:=hA.room;have hnode:=hA.nodes n (by simp)
  by_cases hp:(Þ (ù b [n]).1 c).2=0
  case neg =>
   have e1:DC b n c=(0,(Þ (ù b [n]).1 c).2):=by unfold DC; rw[if_neg (by simp[ho]),if_pos hp]
   have e2:Jc b n c=(nar0,(Þ (ù b [n]).1 c).2):=by unfold Jc pL; rw[if_neg (by simp[ho]),if_pos hp]
   rw[e1,e2,Ô (by simp[ine]),Ô (show ieq (Þ (ù b [n]).1 c).2 0=false from beq_eq_false_iff_ne.2 hp),Ø (show ine (Þ (ù b [n]).1 c).2 0=true from bne_iff_ne.2 hp),Ô (by rfl)];exact rest
  have e1:DC b n c=(oT (mo (ù b [n]).1 n c),0):=by unfold DC; rw[if_neg (by simp[ho]),if_neg (by simp[hp])]
  have e2:Jc b n c=(sW (mo (ù b [n]).1 n c),0):=by unfold Jc pL; rw[if_neg (by simp[ho]),if_neg (by simp[hp])]
  rw[e1,e2,Ô (by rfl),Ø (by rfl),ad1 (E8 hp) (Fr hp) (fun d d1 d2=>agn hr hnode hp d1 d2),À,Ô (by simp[ine]),Ô (by rfl)];exact rest
 by_cases l4:4<l.length
 ·rw[Ø (show igt (Û l) 4=true by rw[ä]; exact decide_eq_true (by omega))]
  by_cases l20:l.length≤20
  ·rw[Ø (show ile (Û l) 20=true by rw[ä]; exact decide_eq_true (by omega)),À]
  ·rw[Ô (show ile (Û l) 20=false by rw[ä]; exact decide_eq_false (by omega))];refine(WO (by omega) _).trans (key _ fun hc=>?_);exact main hc
 ·rw[Ô (show igt (Û l) 4=false by rw[ä]; exact decide_eq_false (by omega))];refine(WO (by omega) _).trans (key _ fun hc=>?_);exact main hc
end Go.Proofs.ZzM
end
