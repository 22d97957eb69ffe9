/- lemmas -/
import Derived.Test.YtmadligicacpkaaGreatPlA
import Derived.Test.YtmadligicacpkaaGreatPlB
import Derived.Test.YtmadligicacpkaaGreatMdTA
set_option linter.all false
set_option linter.unusedSectionVars false
set_option linter.unusedVariables false
set_option linter.unusedSimpArgs false
noncomputable section
namespace Go.Proofs.ZzM
open Go Go.Am
def vr {b:Þ} (h:Pre b) (n:Int×Int):Ľ b n=some (mN b n.1 n.2):=by
 have hl:=JZ h.size;unfold Ľ Ki;rw[Jz h,À];refine Eq.trans (Υ (Í b) (fun m=>decide (n.1=m.1)&&decide (n.2=m.2)) (fun z=>some (z+1)) (some 0) (fun i a hi ha kn=>?_) (fun kn=>?_)) ?_
 ·try dsimp only
  unfold oU;rw[Ó hi,É ha,Ì hi (by omega),Ì hi (by omega),Ė,Bool.and_true]
  have e:(ü a.1 n.1&&ü a.2 n.2)=(decide (n.1=a.1)&&decide (n.2=a.2)):=by
   rw[dJ];simp only[ü,cW,decide_eq_true_eq];exact and_congr eq_comm eq_comm
  rw[e]
 ·try dsimp only
  unfold oU;rw[Ü]
 ·unfold mN iD
  cases List.findIdx? (fun m=>decide (n.1=m.1)&&decide (n.2=m.2)) (Í b)<;>rfl
def al4 {b:Þ} (h:Pre b) (p q:List Int) (d:Int):mN b (Nu p q) d=atP (Í b) (è p q) d:=by
 unfold mN atP Nu
 cases hl:è p q with
 |nil =>
  simp only[List.head?_nil,Option.getD_none]
  have:iD (Í b) 0 d=none:=by
   unfold iD;rw[List.findIdx?_eq_none_iff];intro n hn;obtain⟨g,hg,hn⟩:=List.mem_flatMap.1 hn;obtain⟨e,_,rfl⟩:=List.mem_map.1 hn;have:=((uU g).1 (h.gauge g hg)).2.2.2.1
   have:¬((0:Int)=g.1):=by omega
   simp[this]
  rw[this]
 |cons x t=>rfl
section
variable {b:Þ}
def aoB {k:Nat} (hk:k<(Í b).length):∃(i:Nat) (g:é) (j:Nat) (d:Int),b.2.1[i]?=some g∧(à b g)[j]?=some d∧k=off b i+j∧(Í b)[k]?=some (g.1,d):=by
 obtain⟨i,g,j,h1,h2,h3⟩:=ahV (b:=b) b.2.1.length (cR _) k (by rw[alm]; exact hk);have hd:(à b g)[j]?=some (à b g)[j]:=cQ h2;exact⟨i,g,j,_,h1,hd,h3,by rw[h3]; exact OT h1 hd⟩
def ai8 (h:Č b) {i j:Nat} {g g':é} (hi:b.2.1[i]?=some g) (hj:b.2.1[j]?=some g') (he:g.1=g'.1):i=j∧g=g':=by
 obtain⟨h1,rfl⟩:=cY.1 hi;obtain⟨h2,rfl⟩:=cY.1 hj;have hp:=dG.1 h.ids;rcases Nat.lt_trichotomy i j with hlt|rfl|hlt
 ·have:=hp i j h1 h2 hlt; omega
 ·exact⟨rfl,rfl⟩
 ·have:=hp j i h2 h1 hlt; omega
def qq (b:Þ) (i:Nat) (g:é) (k:Nat):List Lk :=
 if k≤off b i then[] else[(0,(off b i:Int)+1,g.2.2.1+g.2.2.2.1.2),((off b i:Int)+1,0,-(g.2.2.1+g.2.2.2.1.1))] ++
  (List.range (min (k-off b i-1) ((à b g).length-1))).flatMap fun(k:Nat)=>[((off b i:Int)+1+k,(off b i:Int)+1+k+1,0),((off b i:Int)+1+k+1,(off b i:Int)+1+k,ip b g ((à b g)[k]?.getD 0) ((à b g)[k+1]?.getD 0))]
def iM (b:Þ) (i:Nat) (g:é) (k:Nat):List (Int×Int) :=
 if k≤off b i then[] else[(1,(i:Int)),(1,(i:Int))]++(List.range (min (k-off b i-1) ((à b g).length-1))).flatMap fun _=>[(2,(i:Int)),(2,(i:Int))]
def ajG (h:Č b) {i:Nat} {g:é} (hg:b.2.1[i]?=some g):qq b i g (Í b).length=ä b g∧iM b i g (Í b).length=â b i g:=by
 have ho:=alk h hg;have hp:=gd (kw (b:=b) g)
 have e:min ((Í b).length-off b i-1) ((à b g).length-1)=(à b g).length-1:=by omega
 unfold qq iM ä â;rw[if_neg (by omega),if_neg (by omega),e,aiL h hg];exact⟨rfl,rfl⟩
def aeg {i:Nat} {g:é} {k:Nat} (hk:k<off b i∨off b i+(à b g).length≤k) (hp:0<(à b g).length):qq b i g (k+1)=qq b i g k∧iM b i g (k+1)=iM b i g k:=by
 unfold qq iM;rcases hk with hk|hk
 ·rw[if_pos (by omega),if_pos (by omega),if_pos (by omega),if_pos (by omega)];exact⟨rfl,rfl⟩
 ·have e:min (k+1-off b i-1) ((à b g).length-1)=min (k-off b i-1) ((à b g).length-1):=by omega
  rw[if_neg (by omega),if_neg (by omega),if_neg (by omega),if_neg (by omega),e];exact⟨rfl,rfl⟩
def aeh {i:Nat} {g:é}:qq b i g (off b i+1)=qq b i g (off b i)++[(0,(off b i:Int)+1,g.2.2.1+g.2.2.2.1.2),((off b i:Int)+1,0,-(g.2.2.1+g.2.2.2.1.1))]∧iM b i g (off b i+1)=iM b i g (off b i)++[(1,(i:Int)),(1,(i:Int))]:=by
 unfold qq iM;rw[if_neg (by omega),if_pos (Nat.le_refl _),if_neg (by omega),if_pos (Nat.le_refl _),show off b i+1-off b i-1=0 by omega,Nat.zero_min];exact⟨by simp,by simp⟩
def agz {i:Nat} {g:é} {j:Nat} (hj:j+1<(à b g).length):qq b i g (off b i+(j+1)+1)=qq b i g (off b i+(j+1))++[((off b i:Int)+1+j,(off b i:Int)+1+j+1,0),((off b i:Int)+1+j+1,(off b i:Int)+1+j,ip b g ((à b g)[j]?.getD 0) ((à b g)[j+1]?.getD 0))] ∧
 iM b i g (off b i+(j+1)+1)=iM b i g (off b i+(j+1))++[(2,(i:Int)),(2,(i:Int))]:=by
 unfold qq iM;rw[if_neg (by omega),if_neg (by omega),if_neg (by omega),if_neg (by omega),show min (off b i+(j+1)+1-off b i-1) ((à b g).length-1)=j+1 by omega,show min (off b i+(j+1)-off b i-1) ((à b g).length-1)=j by omega,tG,tG];exact⟨by simp,by simp⟩
def ajF (i:Nat) (g:é) (k:Nat) (hd:(à b g).length≤59):(qq b i g k).length≤120∧(iM b i g k).length≤120:=by
 unfold qq iM;constructor
 ·split
  ·simp
  ·rw[cX,œ _ _ (fun _=>rfl)];simp only[dg,dw]; omega
 ·split
  ·simp
  ·rw[cX,œ _ _ (fun _=>rfl)];simp only[dg,dw]; omega
set_option maxHeartbeats 1000000 in
def akJ (h:Č b) {i:Nat} {g:é} (hg:b.2.1[i]?=some g) {L:List Lk} {S:List (Int×Int)} (hL:L.length≤100000) (hS:S.length≤100000) (K:List Lk×List (Int×Int)→Option (List Lk×List (Int×Int))) :
 Ñ (fun(v21:Int×List Lk×List (Int×Int)) kk25=>pO (Í b) (i:Int) b.1.1 b.1.2 b.2.1 b.2.2.1 b.2.2.2.1 b.2.2.2.2.1 b.2.2.2.2.2 g.1 g.2.1 g.2.2.1 g.2.2.2.1.1 g.2.2.2.1.2 v21.1 v21.2.1 v21.2.2 (fun u22 u23 u24=>kk25 (u22,u23,u24)) K) ((0:Int),L,S)=K (L++ä b g,S++â b i g):=by
 have hN:=h.nodes;have hgm:=cZ hg;have hdl:=Ji h hgm;have hp:=gd (kw (b:=b) g);have hr:=h.gaugeR hgm;have r1:=hr.2.2.2.2.2.1;have r2:=hr.2.2.2.2.2.2.1;obtain⟨tl,htl⟩:=Tk h hgm;refine ò (Í b) (fun k=>(L++qq b i g k,S++iM b i g k)) _ (by simp[qq,iM]) (fun k n hk hn kn=>?_) (fun kn=>?_)
 ·try dsimp only
  unfold pO;have gl:=ajF (b:=b) i g k hdl;rw[Ó hk,É hn];obtain⟨i',g',j,d,h1,h2,h3,h4⟩:=aoB hk
  have hnd:n=(g'.1,d):=by rw[hn] at h4; exact Option.some.inj h4
  by_cases hsame:n.1=g.1
  ·obtain⟨hi',hgg⟩:=ai8 h h1 hg (by rw[hnd] at hsame; exact hsame);subst hgg;have hin:i'=i:=hi';rw[hin] at h3 h1;rw[Ò (by simp[ine,hsame]),É hn]
   have hdn:n.2=d:=by rw[hnd]
   rw[hdn]
   cases j with
   |zero =>
    have hdd:d=g'.2.1:=by rw[htl] at h2; simpa using h2.symm
    have hk0:k=off b i:=by omega
    rw[Ô (by simp[ieq,hdd])];obtain⟨e1,e2⟩:=aeh (b:=b) (i:=i) (g:=g');rw[←hk0] at e1 e2;rw[Ì hk (by omega),Õ (by omega) (by omega),Ì hk (by omega),Õ (by omega) (by omega),Õ (by omega) (by omega),Ø (by simp only[cX,dg,dw]; omega),Am.iff_true,Ø (by simp only[cX,dg,dw]; omega),Am.iff_true,Ì hk (by omega),e1,e2]
    have e3:0-g'.2.2.1-g'.2.2.2.1.1 = -(g'.2.2.1+g'.2.2.2.1.1):=by omega
    rw[e3];simp only[du]
   |succ j =>
    have hjl:=(cY.1 h2).1
    have hdd:d≠g'.2.1:=by
     have hp1:=tq b g';rw[htl] at h2 hp1;rw[List.getElem?_cons_succ] at h2;have:=(dP.1 hp1).1 d (cZ h2);omega
    rw[Ò (by simpa[ieq] using hdd)]
    have hprev:(à b g')[j]?=some ((à b g')[j]?.getD 0):=by rw[cQ (by omega)]; rfl
    have hd':d=(à b g')[j+1]?.getD 0:=by rw[h2]; rfl
    have hpn:=OT h1 hprev;have d1:=h.day hgm (cZ hprev);have d2:=h.day hgm (cZ h2);have hk0:k=off b i+(j+1):=h3;obtain⟨e1,e2⟩:=agz (b:=b) (i:=i) (g:=g') hjl;rw[←hk0] at e1 e2
    have hkm:((k:Int)-1)=((off b i+j:Nat):Int):=by omega
    have lb:=kM h hgm (t:=d) d1.2.1;rw[Tp (by omega) (by omega),hkm,É hpn,É hn,hdn]
    try dsimp only
    rw[show uX ((b.1.1,b.1.2),b.2.1,b.2.2.1,b.2.2.2.1,b.2.2.2.2.1,b.2.2.2.2.2) g'.1 ((à b g')[j]?.getD 0) d=uX b g'.1 ((à b g')[j]?.getD 0) d from rfl,apV h (Ż h.ids hgm) ⟨by omega,by omega⟩ (by omega),À,Ì hk (by omega),Ì hk (by omega),Ø (by simp only[cX,dg,dw]; omega),Am.iff_true,Ø (by simp only[cX,dg,dw]; omega),Am.iff_true,Ì hk (by omega),e1,e2,←hd']
    have e3:(off b i:Int)+1+(j:Int)=(k:Int):=by omega
    rw[e3];simp only[du]
  ·rw[Ô (by simp[ine,hsame]),Ì hk (by omega)]
   have hout:k<off b i∨off b i+(à b g).length≤k:=by
    rcases dz k (off b i) with hlt|hge
    ·exact .inl hlt
    ·rcases dz k (off b i+(à b g).length) with hlt2|hge2
     ·have:=OT hg (k:=k-off b i) (cQ (by omega));rw[show off b i+(k-off b i)=k by omega,hn] at this;exact absurd (by rw[Option.some.inj this]) hsame
     ·exact .inr hge2
   obtain⟨e1,e2⟩:=aeg hout hp;rw[e1,e2]
 ·try dsimp only
  unfold pO;rw[Ü];obtain⟨e1,e2⟩:=ajG h hg;rw[e1,e2]
end
def aeo {α β:Type} {e:Nat→α→Option β}:∀{l:List α} {k i:Nat} {a:α} {b:β},(∀j c,j<i→l[j]?=some c→e (k+j) c=none)→l[i]?=some a→e (k+i) a=some b→Ĩ e k l=some b
 |[],_,_,_,_,_,ha,_=>by simp at ha
 |c::t,k,0,a,b,_,ha,hb=>by
  simp only[List.getElem?_cons_zero,Option.some.injEq] at ha;subst ha;unfold Ĩ;rw[Nat.add_zero] at hb;rw[hb]
 |c::t,k,i+1,a,b,h,ha,hb=>by
  unfold Ĩ;have h0:=h 0 c (by omega) rfl;rw[Nat.add_zero] at h0;rw[h0];refine aeo (i:=i) (fun j d hj hd=>?_) (by simpa using ha) (by rw[←hb]; congr 1; omega);have:=h (j+1) d (by omega) (by simpa using hd);rw[←this];congr 1;omega
def E5 {ρ α β:Type} (l:List α) (e:Nat→α→Option β) (k0:β→Option ρ) (k1:Option ρ) {f:Int→(Int→Option ρ)→Option ρ}
 (h:∀(i:Nat) (a:α),i<l.length→l[i]?=some a→∀kn,f i kn=match e i a with|some b=>k0 b|none=>kn ((i:Int)+1))
 (hn:(∀j a,l[j]?=some a→e j a=none)→∀kn,f l.length kn=k1):Ñ f 0=match Ĩ e 0 l with|some b=>k0 b|none=>k1:=by
 refine ņ (fun x:Int=>∃i:Nat,i≤l.length∧x=i∧∀j a,j<i→l[j]?=some a→e j a=none) (fun x=>l.length-x.toNat) ?_ ⟨0,by omega,rfl,fun j a hj=>by omega⟩;rintro x ⟨i,hi,rfl,hp⟩;rcases dz i l.length with hlt|hge
 ·have ha:l[i]?=some l[i]:=cQ hlt
  cases hc:e i l[i] with
  |some b =>
   refine .inl fun kn=>?_;rw[h i _ hlt ha,hc,aeo (k:=0) (b:=b) (fun j c hj hc=>by rw[dl]; exact hp j c hj hc) ha (by rw[dl]; exact hc)]
  |none =>
   refine .inr ⟨((i+1:Nat):Int),⟨i+1,hlt,rfl,fun j a hj hja=>?_⟩,by simp only[dn]; omega,fun kn=>?_⟩
   ·rcases dz j i with h1|h1
    ·exact hp j a h1 hja
    ·have:j=i:=by omega
     subst this;rw[ha] at hja;rw[←Option.some.inj hja]; exact hc
   ·rw[h i _ hlt ha,hc];simp
 ·have:i=l.length:=by omega
  subst this;refine .inl fun kn=>?_;have hall:∀j a,l[j]?=some a→e j a=none:=fun j a hja=>hp j a (cY.1 hja).1 hja;rw[hn hall kn,iN.2 fun j a hja=>by rw[dl]; exact hall j a hja]
def aet {e:Int}:aim e=none↔e=0:=by
 unfold aim
 split<;>simp_all
section
variable {b:Þ}
def Xk (h:Č b):∀i,((b.2.1.take i).flatMap (ä b)).length≤1440∧(((b.2.1.take i).mapIdx (â b)).flatten).length≤1440:=by
 have hG:=h.nG
 have gl:∀g∈b.2.1,(ä b g).length≤120∧∀i,(â b i g).length≤120:=by
  intro g hg;have:=Ji h hg;constructor
  ·unfold ä;rw[List.length_append,œ _ _ (fun _=>rfl)];simp only[List.length_cons,List.length_nil]; omega
  ·intro i;unfold â;rw[List.length_append,œ _ _ (fun _=>rfl)];simp only[List.length_cons,List.length_nil]; omega
 have key:∀i,i≤b.2.1.length→((b.2.1.take i).flatMap (ä b)).length≤i*120∧(((b.2.1.take i).mapIdx (â b)).flatten).length≤i*120:=by
  intro i
  induction i with
  |zero=>intro _; simp
  |succ i ih =>
   intro hi;have ih:=ih (by omega);have hg:b.2.1[i]?=some b.2.1[i]:=cQ hi;have h2:=gl _ (cZ hg);have h3:=h2.2 i;rw[iG _ hg,take_succ hg,eW,fI,cX,cX];simp only[dK,gO,dR,fV,gq];omega
 intro i;rcases dz b.2.1.length i with h1|h1
 ·rw[ee (by omega)];have:=key b.2.1.length (cR _);rw[gL] at this;omega
 ·have:=key i h1;omega
set_option maxHeartbeats 1000000 in
def anC (h:Č b):wU b=some (Û b,ľ b):=by
 have hC:=h.nC;have hG:=h.nG;unfold wU YI;rw[Jz h.pre,À];refine ò b.2.1 (fun i=>((b.2.1.take i).flatMap (ä b),((b.2.1.take i).mapIdx (â b)).flatten)) _ rfl (fun i g hi hg kn=>?_) (fun kn=>?_)
 ·try dsimp only
  unfold vP;have hls:=Xk h i;rw[Ó hi,É hg];refine Eq.trans (akJ h hg (by omega) (by omega) _) ?_;rw[Ì hi (by omega),iG _ hg,take_succ hg,List.flatMap_append,List.flatten_append];simp only[List.flatMap_cons,List.flatMap_nil,List.append_nil,List.flatten_cons,List.flatten_nil]
 ·try dsimp only
  unfold vP;rw[Ü,List.take_length];dsimp only;have hls:=Xk h b.2.1.length;rw[List.take_length] at hls;refine ò b.2.2.2.2.1 (fun i=>(b.2.1.flatMap (ä b)++(b.2.2.2.2.1.take i).flatMap (û b),(b.2.1.mapIdx (â b)).flatten++((b.2.2.2.2.1.take i).mapIdx fun i _=>[((3:Int),(i:Int)),((3:Int),(i:Int))]).flatten)) _ (by simp) (fun i c hi hc kn=>?_) (fun kn=>?_)
  ·try dsimp only
   unfold vO;have hcm:=List.mem_of_getElem? hc;have hn:=(Ο c).1 (h.nums hcm);have ha:=ĺ hn.2.2.2.2.2.1;have hb:=ĺ hn.2.2.2.2.2.2;have hcl:=XB (b:=b) i (by omega);have sb:=DU h hcm;rw[Ó hi,É hc,LO (by omega) (by omega),À];rw[show Ľ ((b.1.1,b.1.2),b.2.1,b.2.2.1,b.2.2.2.1,b.2.2.2.2.1,b.2.2.2.2.2) (Nu c.2.2.1 c.2.2.2.1,c.2.1)=Ľ b (Nu c.2.2.1 c.2.2.2.1,c.2.1) from rfl,vr h.pre,À,LO (by omega) (by omega),À];rw[show Ľ ((b.1.1,b.1.2),b.2.1,b.2.2.1,b.2.2.2.1,b.2.2.2.2.1,b.2.2.2.2.2) (Nu c.2.2.2.1 c.2.2.1,c.2.1)=Ľ b (Nu c.2.2.2.1 c.2.2.1,c.2.1) from rfl,vr h.pre,À];rw[show uW ((b.1.1,b.1.2),b.2.1,b.2.2.1,b.2.2.2.1,b.2.2.2.2.1,b.2.2.2.2.2) c=uW b c from rfl,apU h.size h.film (h.cmpIn hcm),À];rw[Õ (by omega) (by omega),Ø (by simp only[List.length_append,List.length_cons,List.length_nil]; omega),Am.iff_true,Ø (by simp only[List.length_append,List.length_cons,List.length_nil]; omega),Am.iff_true,Ì hi (by omega)];rw[iG _ hc,take_succ hc,List.flatMap_append,List.flatten_append,al4 h.pre,al4 h.pre];simp only[List.flatMap_cons,List.flatMap_nil,List.append_nil,List.flatten_cons,List.flatten_nil,List.append_assoc];rw[Int.zero_sub];rfl
  ·try dsimp only
   unfold vO;rw[Ü,List.take_length];rfl
def ky (b:Þ) (i:Nat) (c:Cmp):Int:=if !Nv c then 1 else if (b.2.2.2.2.1.take i).any (fun x=>x.1==c.1) then 6 else Cb b c
def Xv (hi:b.2.1.Pairwise fun a b=>a.1<b.1) (i:Nat) (c:Cmp):ky b i c=lX b (Ů b) i c:=by
 unfold ky lX;rw[aou hi]
def aqu (b:Þ):Int:=match (b.2.2.2.2.1.mapIdx (ky b)).find? (fun e=>e != 0) with
 |some e=>e
 |none=>match (b.2.2.2.2.2.map (abh b)).find? (fun e=>e != 0) with
  |some e=>e
  |none=>if 59<(Í b).length then 2 else if 300<2*b.2.1.length+2*((Í b).length-b.2.1.length:Int)+2*b.2.2.2.2.1.length then 2 else 0
def ami {α:Type} {l:List α} {E:α→Int} (h:(l.map E).find? (fun e=>e != 0)=none):∀a∈l,E a=0:=by
 intro a ha;have:=eJ.1 h (E a) (dM.2 ⟨a,ha,rfl⟩);simpa using this
def ajI {α:Type} {l:List α} {E:Nat→α→Int} (h:(l.mapIdx E).find? (fun e=>e != 0)=none):∀i a,l[i]?=some a→E i a=0:=by
 intro i a ha;obtain⟨hi,rfl⟩:=cY.1 ha;have:=eJ.1 h (E i l[i]) (gV.2 ⟨i,hi,rfl⟩);simpa using this
def aaG {i:Nat} {c:Cmp} (h:ky b i c=0):Nv c=true∧(è c.2.2.1 c.2.2.2.1).length≤1∧(è c.2.2.2.1 c.2.2.1).length≤1:=by
 unfold ky at h
 split at h
 ·omega
 rename_i h1
 split at h
 ·omega
 unfold Cb at h
 (repeat' split at h)<;>first|omega|exact⟨by simpa using h1,by omega,by omega⟩
set_option maxHeartbeats 4000000 in
def aqt (hs:ō b) (hfilm:0≤b.1.1∧b.1.1≤b.1.2∧b.1.2≤1000000) (nG:b.2.1.length≤12) (nU:b.2.2.1.length≤40) (nL:b.2.2.2.1.length≤12) (nC:b.2.2.2.2.1.length≤40) (nK:b.2.2.2.2.2.length≤10)
 (hg:∀g∈b.2.1,qp g=true) (hi:b.2.1.Pairwise fun a b=>a.1<b.1) (hu:∀u∈b.2.2.1,abh b u=0) (hl:∀i l,b.2.2.2.1[i]?=some l→VN b i l=0) :
 Ñ (fun(v41:Int) kk43=>jD b.1.1 b.1.2 b.2.1 b.2.2.1 b.2.2.2.1 b.2.2.2.2.1 b.2.2.2.2.2 v41 (fun u42=>kk43 u42) (fun z26=>some z26) (fun _=>Ñ (fun(v38:Int) kk40=>jC b.1.1 b.1.2 b.2.1 b.2.2.1 b.2.2.2.1 b.2.2.2.2.1 b.2.2.2.2.2 v38 (fun u39=>kk40 u39) (fun z34=>some z34) (fun _=>Ã (jO b) fun r36=>ifb (igt (Ú r36) (59:Int)) (some (2:Int)) (Ã (wU b) fun r37=>ifb (igt (Ú r37.1) (300:Int)) (some (2:Int)) (some (0:Int))))) (0:Int))) (0:Int)=some (aqu b):=by
 unfold aqu
 refine eG (E5 b.2.2.2.2.1 (fun i c=>aim (ky b i c)) some (some (match (b.2.2.2.2.2.map (abh b)).find? (fun e=>e != 0) with
  |some e=>e
  |none=>if 59<(Í b).length then 2 else if 300<2*b.2.1.length+2*((Í b).length-b.2.1.length:Int)+2*b.2.2.2.2.1.length then 2 else 0)) (fun i c hci hc kn=>?_) (fun hcz kn=>?_)) ?_
 ·try dsimp only
  unfold jD;have hp:=hs.piles c (List.mem_of_getElem? hc);rw[Ó hci,É hc,anv (by omega) (by omega),À];unfold ky aim
  cases Nv c with
  |false=>rfl
  |true =>
   rw[Ò (by rfl)]
   have hl9:(b.2.2.2.2.1.take i).length=i:=by rw[di]; omega
   refine eG (ī (b.2.2.2.2.1.take i) (fun x=>x.1==c.1) (fun _=>some 6) (some 6) (if Cb b c=0 then kn ((i:Int)+1) else some (Cb b c)) (fun _=>rfl) (fun j a hj ha kn'=>?_) (fun kn'=>?_)) ?_
   ·try dsimp only
    unfold oV;rw[hl9] at hj
    have ha':b.2.2.2.2.1[j]?=some a:=by rwa [List.getElem?_take_of_lt hj] at ha
    rw[Ô (show ilt (j:Int) (i:Int)=true by simp[ilt]; omega),É ha',É hc,Ì hj (by omega),Ė]
   ·try dsimp only
    unfold oV;rw[hl9,Ò (show ilt (i:Int) (i:Int)=false by simp[ilt])];dsimp only;rw[É hc,show jM ((b.1.1,b.1.2),b.2.1,b.2.2.1,b.2.2.2.1,b.2.2.2.2.1,b.2.2.2.2.2) c=jM b c from rfl,aeX hs hp.1 hp.2,À,Ì hci (by omega)]
    by_cases hz:Cb b c=0
    ·rw[Ò (by simp[ine,hz]),if_pos hz]
    ·rw[Ô (by simp[ine,hz]),if_neg hz]
   ·cases hany:(b.2.2.2.2.1.take i).any (fun x=>x.1==c.1) with
    |true=>simp
    |false =>
     by_cases hz:Cb b c=0
     ·simp[hz]
     ·simp[hz]
 ·try dsimp only
  unfold jD;rw[Ü];dsimp only;have hcz':∀i c,b.2.2.2.2.1[i]?=some c→ky b i c=0:=fun i c hc=>aet.1 (hcz i c hc);refine Eq.trans (E5 b.2.2.2.2.2 (fun _ u=>aim (abh b u)) some (some (if 59<(Í b).length then 2 else if 300<2*b.2.1.length+2*((Í b).length-b.2.1.length:Int)+2*b.2.2.2.2.1.length then 2 else 0)) (fun i a hia ha kn'=>?_) (fun hlz kn'=>?_)) ?_
  ·try dsimp only
   unfold jC;rw[Ó hia,É ha,aa8,À];unfold abh aim
   cases Jk a.2 with
   |false=>rfl
   |true =>
    rw[Ò (by rfl),É ha,É ha,Jy (b:=((b.1.1,b.1.2),b.2.1,b.2.2.1,b.2.2.2.1,b.2.2.2.2.1,b.2.2.2.2.2)) (by simp only; omega),À,Ì hia (by omega)];have e:ω ((b.1.1,b.1.2),b.2.1,b.2.2.1,b.2.2.2.1,b.2.2.2.2.1,b.2.2.2.2.2) a.1 a.2=ω b a.1 a.2:=rfl;rw[e]
    by_cases hz:ω b a.1 a.2=0
    ·rw[Ò (by simp[ine,hz])]; simp[hz]
    ·rw[Ô (by simp[ine,hz])]; simp[hz]
  ·try dsimp only
   unfold jC;rw[Ü];dsimp only
   have hlz':∀u∈b.2.2.2.2.2,abh b u=0:=fun u hum=>by
    obtain⟨j,hj,rfl⟩:=dj.1 hum;exact aet.1 (hlz j _ (cQ hj))
   have pre:Pre b:=⟨hs,hg,fun c hc=>by
    obtain⟨j,hj,rfl⟩:=dj.1 hc;have q:=aaG (hcz' j _ (cQ hj))
    exact⟨acr q.1,q.2⟩,fun n hn=>by
    have:=hlz' n hn;unfold abh at this
    split at this
    ·omega
    ·rename_i hd; simpa using hd⟩
   rw[Jz pre,À,á]
   by_cases h59:59<(Í b).length
   ·rw[Ô (by simp[igt]; omega),if_pos h59]
   ·rw[Ò (by simp[igt]; omega),if_neg h59];have good:Č b:=⟨hfilm,nG,nU,nL,nC,nK,hg,hi,fun u hum=>by rw[←ahj hi]; exact hu u hum,fun i l hil=>by rw[←alP hi]; exact hl i l hil,fun i c hic=>by rw[←Xv hi]; exact hcz' i c hic,fun u hum=>by rw[←ahj hi]; exact hlz' u hum,by omega,by omega⟩;have hll:=SD good;rw[anC good,À,á];dsimp only;rw[hll,Ò (by simp[igt]; omega),if_neg (by omega)]
  ·rw[S6]
   cases(b.2.2.2.2.2.map (abh b)).find? (fun e=>e != 0)<;>rfl
 ·rw[S0 (ky b)]
  cases(b.2.2.2.2.1.mapIdx (ky b)).find? (fun e=>e != 0)<;>rfl
end
def aax {l m:List Int}:(l++m).find? (fun e=>e != 0)=match l.find? (fun e=>e != 0) with|some e=>some e|none=>m.find? (fun e=>e != 0):=by
 rw[List.find?_append]
 cases l.find? (fun e=>e != 0)<;>rfl
set_option maxHeartbeats 4000000 in
def TS {b:Þ} (hs:ō b):kW b=some (ê b):=by
 unfold kW Kl ê;rw[xg,À]
 cases hsp:jX b.1 0 1000000 with
 |false=>rfl
 |true =>
 have hfilm:0≤b.1.1∧b.1.1≤b.1.2∧b.1.2≤1000000:=by
  simp only[jX,cW,decide_eq_true_eq] at hsp;exact hsp
 rw[Ò (show(!true)=false from rfl),if_neg (by simp)];rw[á b.2.1,á b.2.2.1,á b.2.2.2.1,á b.2.2.2.2.1,á b.2.2.2.2.2]
 by_cases c0:12<b.2.1.length
 ·rw[Ô (by simp[igt]; omega),if_pos c0]
 rw[Ò (by simp[igt]; omega),if_neg c0]
 by_cases c1:40<b.2.2.1.length
 ·rw[Ô (by simp[igt]; omega),if_pos c1]
 rw[Ò (by simp[igt]; omega),if_neg c1]
 by_cases c2:12<b.2.2.2.1.length
 ·rw[Ô (by simp[igt]; omega),if_pos c2]
 rw[Ò (by simp[igt]; omega),if_neg c2]
 by_cases c3:40<b.2.2.2.2.1.length
 ·rw[Ô (by simp[igt]; omega),if_pos c3]
 rw[Ò (by simp[igt]; omega),if_neg c3]
 by_cases c4:10<b.2.2.2.2.2.length
 ·rw[Ô (by simp[igt]; omega),if_pos c4]
 rw[Ò (by simp[igt]; omega),if_neg c4]
 refine eG (E5 b.2.1 (oE b.2.1) some (some (match (yo b (Ů b)).find? (fun e=>e != 0) with
  |some e=>e
  |none=>if 59<(Í b).length then 2 else if 300<2*b.2.1.length+2*((Í b).length-b.2.1.length:Int)+2*b.2.2.2.2.1.length then 2 else 0)) (fun i g hi hg kn=>?_) (fun hz kn=>?_)) ?_
 ·try dsimp only
  unfold oW;rw[Ó hi,É hg,anz,À];unfold oE
  cases qp g with
  |false=>rfl
  |true =>
   rw[Ò (by rfl)];rcases fA i with h0|h0
   ·subst h0
    have:igt ((0:Nat):Int) 0=false:=by simp[igt]
    rw[Ò this,Ì hi (by omega)];simp[Fl]
   ·obtain⟨q,hq⟩:=FB hi h0
    have h1:igt (i:Int) 0=true:=by simp[igt]; omega
    rw[Ô h1,É hg,Tp h0 (by omega),IJ h0 hq];simp only[Fl,h0,decide_true,Bool.true_and,hq,Option.any_some];unfold ile
    cases h2:decide (g.1≤q.1) with
    |true=>simp
    |false=>rw[å,Ì hi (by omega)]; simp
 ·try dsimp only
  unfold oW;rw[Ü];dsimp only
  have hg0:ju b=0:=by
   unfold ju;rw[iN.2 fun j a ha=>by rw[Nat.zero_add]; exact hz j a ha];rfl
  obtain⟨hg,hi⟩:=(wP b).1 hg0;have eu:b.2.2.1.map (abh b)=b.2.2.1.map fun u=>abi (Ů b) u.1 u.2:=List.map_congr_left fun u _=>ahj hi u;have el:b.2.2.2.1.mapIdx (VN b)=b.2.2.2.1.mapIdx fun i l=>IE b (Ů b) i l:=List.mapIdx_eq_mapIdx_iff.2 fun i hl=>alP hi i _;have ec:b.2.2.2.2.1.mapIdx (ky b)=b.2.2.2.2.1.mapIdx fun i c=>lX b (Ů b) i c:=List.mapIdx_eq_mapIdx_iff.2 fun i hc=>Xv hi i _;have ek:b.2.2.2.2.2.map (abh b)=b.2.2.2.2.2.map fun u=>abi (Ů b) u.1 u.2:=List.map_congr_left fun u _=>ahj hi u;unfold yo;rw[←eu,←el,←ec,←ek,aax,aax,aax,apP hs,À]
  cases hue:(b.2.2.1.map (abh b)).find? (fun e=>e != 0) with
  |some e =>
   have he:e≠0:=by have:=f8 hue; simpa using this
   simp only[fu];rw[Ò (by simpa[ieq] using he),Ô (by simpa[ine] using he)]
  |none =>
   simp only[Option.getD_none];rw[Ô (by rfl),anx hs,À]
   cases hle:(b.2.2.2.1.mapIdx (VN b)).find? (fun e=>e != 0) with
   |some e =>
    have he:e≠0:=by have:=f8 hle; simpa using this
    simp only[fu];rw[Ô (by simpa[ine] using he)]
   |none =>
    simp only[Option.getD_none];rw[Ò (by rfl)];refine Eq.trans (aqt hs hfilm (by omega) (by omega) (by omega) (by omega) (by omega) hg hi (ami hue) (ajI hle)) ?_;unfold aqu
    cases(b.2.2.2.2.1.mapIdx (ky b)).find? (fun e=>e != 0)<;>rfl
 ·unfold ju
  cases hf:Ĩ (oE b.2.1) 0 b.2.1 with
  |none =>
   simp
   cases(yo b (Ů b)).find? (fun e=>e != 0)<;>rfl
  |some e =>
   have he:ju b=e:=by unfold ju; rw[hf]; rfl
   have hne:e≠0:=by
    intro h0;rw[h0] at he;obtain⟨h1,h2⟩:=(wP b).1 he
    have h3:∀j a,b.2.1[j]?=some a→oE b.2.1 j a=none:=by
     intro j a ha;have h4:=(aaW (fun g:é=>g.1) b.2.1).2 h2 j a ha;simp[oE,h1 a (cZ ha),h4]
    rw[iN.2 fun j a ha=>by rw[dl]; exact h3 j a ha] at hf;cases hf
   simp[hne]
def XJ {b:Þ} (h:Č b):mP b=some (((Í b).length:Int)+1,Û b):=by
 have hN:=h.nodes;unfold mP Ek;rw[Jz h.pre,À,á,Õ (by omega) (by omega),anC h,À]
section
variable {ρ:Type}
abbrev apW:Type:=Þ×Sys×List (List Int)×Int
def ah7 (e:Int):apW:=(i6,(0,[]),[],e)
def tabR (B:Þ):List (List Int):=B7 ((Í B).length+1) (Ow B)
def aeZ (b:Þ) (ns:List (Int×Int)):apW :=
 if (ċ b ns).2≠0 then ah7 (ċ b ns).2 else((ċ b ns).1,TY (ċ b ns).1,tabR (ċ b ns).1,0)
def anG {b:Þ} (h:Č b) (n:Int×Int):uY b n=some (if ê (jr b n)≠0 then(i6,ê (jr b n)) else(jr b n,0)):=by
 have h5:=h.nK;unfold uY QG;rw[Ø (by omega),Am.iff_true,List.nil_append,Ø (by simp only[List.length_singleton]; omega),Am.iff_true];rw[show kW (b.1,b.2.1,b.2.2.1,b.2.2.2.1,b.2.2.2.2.1,b.2.2.2.2.2++[n])=kW (jr b n) from rfl,TS (ad1 h n),À]
 by_cases hc2:ê (jr b n)=0
 ·rw[Ò (by simp[ine,hc2]),if_neg (show ¬(ê (jr b n)≠0) from fun h=>h hc2)];rfl
 ·rw[Ô (by simp[ine,hc2]),if_pos hc2];rfl
abbrev aks:Type:=Int×Int×List é×List (Int×Int)×List JA×List Cmp×List (Int×Int)×Int×Int×Int×Int
def bkK (s:aks):Þ:=((s.1,s.2.1),s.2.2.1,s.2.2.2.1,s.2.2.2.2.1,s.2.2.2.2.2.1,s.2.2.2.2.2.2.1)
def alY {ns:List (Int×Int)} (hl:ns.length≤1000) (X:Þ→Option apW) {E1 K1:aks→Option apW} (hK:∀s:aks,K1 s=X (bkK s))
 (hE:∀s:aks,s.2.2.2.2.2.2.2.1=0→s.2.2.2.2.2.2.2.2.1=0→s.2.2.2.2.2.2.2.2.2.1=0→E1 s=some (ah7 s.2.2.2.2.2.2.2.2.2.2)) {b:Þ} (hg:Č b) :
 Ñ (fun(v12:Int×aks) kk25=>nv ns v12.1 v12.2.1 v12.2.2.1 v12.2.2.2.1 v12.2.2.2.2.1 v12.2.2.2.2.2.1 v12.2.2.2.2.2.2.1 v12.2.2.2.2.2.2.2.1 v12.2.2.2.2.2.2.2.2.1 v12.2.2.2.2.2.2.2.2.2.1 v12.2.2.2.2.2.2.2.2.2.2.1 v12.2.2.2.2.2.2.2.2.2.2.2 (fun u13 u14 u15 u16 u17 u18 u19 u20 u21 u22 u23 u24=>kk25 (u13,u14,u15,u16,u17,u18,u19,u20,u21,u22,u23,u24)) E1 K1) ((0:Int),b.1.1,b.1.2,b.2.1,b.2.2.1,b.2.2.2.1,b.2.2.2.2.1,b.2.2.2.2.2,(0:Int),(0:Int),(0:Int),(0:Int)) =
  if (ŋ b ns).2≠0 then some (ah7 (ŋ b ns).2) else X (ŋ b ns).1:=by
 refine IC ns (fun(i:Nat) (s:aks) (t:List (Int×Int))=>if (ŋ (bkK s) t).2≠0 then some (ah7 (ŋ (bkK s) t).2) else X (ŋ (bkK s) t).1)
  (fun i s=>Č (bkK s)∧s.2.2.2.2.2.2.2.1=0∧s.2.2.2.2.2.2.2.2.1=0∧s.2.2.2.2.2.2.2.2.2.1=0) (fun s hs kn=>?_) (fun i n t s hd hi ha hs kn hk=>?_) (s:=(b.1.1,b.1.2,b.2.1,b.2.2.1,b.2.2.2.1,b.2.2.2.2.1,b.2.2.2.2.2,(0:Int),(0:Int),(0:Int),(0:Int))) ⟨hg,rfl,rfl,rfl⟩
 ·dsimp only;unfold nv;rw[Ü];exact hK s
 ·dsimp only;unfold nv;obtain⟨hs1,z1,z2,z3⟩:=hs;rw[Ó hi,É ha];rw[show Ľ ((s.1,s.2.1),s.2.2.1,s.2.2.2.1,s.2.2.2.2.1,s.2.2.2.2.2.1,s.2.2.2.2.2.2.1) n=Ľ (bkK s) n from rfl,vr hs1.pre,À,É ha];rw[show uY ((s.1,s.2.1),s.2.2.1,s.2.2.2.1,s.2.2.2.2.1,s.2.2.2.2.2.1,s.2.2.2.2.2.2.1) n=uY (bkK s) n from rfl,anG hs1,À];have hr:=ŗ (bkK s) n
  have hu:ŋ (bkK s) (n::t)=if (jS (bkK s) n).2≠0 then(i6,(jS (bkK s) n).2) else ŋ (jS (bkK s) n).1 t:=rfl
  rw[hu]
  by_cases h0:mN (bkK s) n.1 n.2=0
  ·rw[Ò (decide_eq_false (by omega))]
   by_cases h2:ê (jr (bkK s) n)=0
   ·have e:jS (bkK s) n=(jr (bkK s) n,0):=by unfold jS; rw[if_neg (by simp[h0]),if_neg (by simp[h2])]
    rw[if_neg (show ¬ê (jr (bkK s) n)≠0 by simp[h2]),Ò (by rfl),Ì hi (by omega),e,if_neg (show ¬((0:Int)≠0) by simp)];exact hk (s.1,s.2.1,s.2.2.1,s.2.2.2.1,s.2.2.2.2.1,s.2.2.2.2.2.1,s.2.2.2.2.2.2.1++[n],s.2.2.2.2.2.2.2) ⟨(ì _).1 h2,z1,z2,z3⟩
   ·have e:jS (bkK s) n=(i6,ê (jr (bkK s) n)):=by unfold jS; rw[if_neg (by simp[h0]),if_pos h2]
    rw[if_pos h2,Ô (by simp[ine,h2]),e,if_pos h2,if_pos h2];exact hE _ rfl rfl rfl
  ·have e:jS (bkK s) n=(bkK s,0):=by unfold jS; rw[if_pos h0]
   rw[Ô (decide_eq_true (by omega)),Ì hi (by omega),e,if_neg (show ¬((0:Int)≠0) by simp)];exact hk s ⟨hs1,z1,z2,z3⟩
def arv {b:Þ} (hI:In b) {ns:List (Int×Int)} (hl:ns.length≤1000):IW b ns=some (aeZ b ns):=by
 unfold IW Qe;rw[TS hI.size,À]
 by_cases hc:ê b=0
 case neg =>
  have e:ċ b ns=(i6,ê b):=by unfold ċ; rw[if_pos hc]
  rw[Ô (bne_iff_ne.2 hc)];unfold aeZ;rw[e,if_pos hc];rfl
 have hg:=(ì b).1 hc
 have e:ċ b ns=if (ŋ b ns).2≠0 then(i6,(ŋ b ns).2) else if ħ (Û (ŋ b ns).1) ((Í (ŋ b ns).1).length+1) then((ŋ b ns).1,0) else(i6,9):=by
  unfold ċ; rw[if_neg (show ¬ê b≠0 by simp[hc])]
 rw[Ò (by rw[hc]; rfl)];refine(alY hl (fun B=>Ã (mP B) fun r10=>Ã (uZ r10) fun r11=>ifb (!r11.2) (some ((((0:Int),(0:Int)),[],[],[],[],[]),((0:Int),[]),[],(9:Int))) (some (B,r10,r11.1,(0:Int)))) (fun s=>rfl) (fun s h1 h2 h3=>?_) hg).trans ?_
 ·rw[h1,h2,h3];rfl
 by_cases hr:(ŋ b ns).2=0
 case neg =>
  rw[if_pos hr] at e;unfold aeZ;rw[if_pos hr,e,if_pos hr]
 have hg':=Fz hg hr;rw[if_neg (show ¬(ŋ b ns).2≠0 by simp[hr])] at e ⊢;generalize (ŋ b ns).1=B at hg' e;rw[XJ hg',À,show(((Í B).length:Int)+1,Û B)=((((Í B).length+1:Nat):Int),Û B) by push_cast; rfl,apM hg'.sys hg'.tied,À];unfold aeZ
 cases ho:ħ (Û B) ((Í B).length+1) with
 |true =>
  rw[if_pos ho] at e;rw[if_pos rfl,e,if_neg (by simp),Ò (by rfl),←JG];rfl
 |false =>
  rw[if_neg (by simp[ho])] at e;rw[if_neg (by simp),e,if_pos (by simp),Ô (by rfl)];rfl
def aoP (b:Þ) (ns:List (Int×Int)):(aeZ b ns).2.2.2=(ċ b ns).2:=by
 unfold aeZ
 by_cases h:(ċ b ns).2=0
 ·rw[if_neg (by simp[h]),h]
 ·rw[if_pos h]; rfl
def alX {b:Þ} {ns:List (Int×Int)} (h:(ċ b ns).2=0):aeZ b ns=((ċ b ns).1,TY (ċ b ns).1,tabR (ċ b ns).1,0):=by
 unfold aeZ; rw[if_neg (by simp[h])]
def kAt_ok {B:Þ} (h:Č B) (s:Sys) (t:List (List Int)) (e:Int) (n:Int×Int):o9 (B,s,t,e) n=some (mN B n.1 n.2):=by
 unfold o9 vL;rw[show Ľ (B,s,t,e).1 n=Ľ B n from rfl,vr h.pre,À]
def aia {B:Þ} {u:Int} (hu:0≤u∧u<((Í B).length+1:Nat)) (f:List Int→Option ρ):õ (tabR B) u f=f (TZ ((Í B).length+1) (Ow B u)) :=
 Μ hu.1 (ahr (Ow B) hu.1 hu.2) f
def aib {N:Nat} (g:Int→Int) {u:Int} (hu:0≤u∧u<N) (f:Int→Option ρ):õ (TZ N g) u f=f (g u) :=
 Μ hu.1 (ahA g hu.1 hu.2) f
def ad4 {B:Þ} (h:anw B) (s:Sys) (e:Int) {u:Int} (hu:0≤u∧u<((Í B).length+1:Nat)):iO (B,s,tabR B,e) u=some (-(Ow B u 0),Ow B 0 u):=by
 unfold iO kH;have hb:=Fe h hu (ń B);dsimp only;rw[aia hu,aib _ (ń B),Õ (by omega) (by omega),aia (ń B),aib _ hu,Int.zero_sub]
end
theorem ql (id f t:Int):∀l:List JA,Ą id f t l=Ą id f t (l.filter fun x=>x.1==id)
 |[]=>rfl
 |x::l=>by
  have ih:=ql id f t l
  by_cases h:x.1=id
  ·rw[List.filter_cons_of_pos (by simp[h])];simp only[Ą,ih]
  ·rw[List.filter_cons_of_neg (by simp[h]),←ih];simp only[Ą,h,false_and,if_false,gS]
theorem aad {id f t:Int} {x y:List JA} (h:x.Perm y):Ą id f t x=Ą id f t y:=by
 induction h with
 |nil=>rfl
 |cons a _ ih=>simp only[Ą,ih]
 |swap a b l=>simp only[Ą]; omega
 |trans _ _ h1 h2=>rw[h1,h2]
theorem SB {b:Þ} (h:Č b) (id:Int):(b.2.2.2.1.filter fun x=>x.1==id).Nodup:=by
 have hp:b.2.2.2.1.Pairwise fun x y=>x≠y:=by
  rw[List.pairwise_iff_getElem];intro i j hi hj hij e;have hl:=h.loans j _ (List.getElem?_eq_getElem hj);have hz:=(Bh h (List.getElem_mem hj)).1;unfold IE at hl
  split at hl
  ·omega
  split at hl
  ·omega
  split at hl
  ·rename_i h3;simp only[bne_iff_ne,ne_eq] at h3;exact h3 hl
  split at hl
  ·omega
  rename_i h4
  have:=ew.1 (eF.2 h4) b.2.2.2.1[i] (by
   rw[dj]
   exact⟨i,by rw[di]; omega,by rw[fh]⟩)
  rw[e] at this;simp at this;omega
 exact(hp.filter _)
section
variable {s b:Þ} (hs:Č s) (hb:Č b) (hp:xS s b=true)
include hs hb hp
theorem A2:(∀c∈s.2.2.2.2.1,c∈b.2.2.2.2.1)∧s.1=b.1∧(∀g∈s.2.1,g∈b.2.1)∧(∀u∈s.2.2.1,u.1∈oD s→u∈b.2.2.1)∧(∀u∈b.2.2.1,u.1∈oD s→u∈s.2.2.1)∧(∀u∈s.2.2.2.1,u.1∈oD s→u∈b.2.2.2.1)∧(∀u∈b.2.2.2.1,u.1∈oD s→u∈s.2.2.2.1):=by
 unfold xS ε at hp;simp only[Bool.and_eq_true,List.all_eq_true,Bool.or_eq_true,Bool.not_eq_true',decide_eq_true_eq,OX,Bool.not_true,Bool.false_eq_true,false_or] at hp;obtain⟨h1,h2,h3,h4,h5,h6,h7⟩:=hp
 have q:∀{x:Int},x∈oD s→¬(oD s).contains x=false:=fun hx e=>by simp[hx] at e
 exact⟨h1,h2,h3,fun u hu hm=>(h4 u hu).resolve_left (q hm),fun u hu hm=>(h5 u hu).resolve_left (q hm),fun u hu hm=>(h6 u hu).resolve_left (q hm),fun u hu hm=>(h7 u hu).resolve_left (q hm)⟩
theorem abV {g:é} (hg:g∈s.2.1) (f t:Int):ip s g f t=ip b g f t:=by
 obtain⟨_,_,h3,h4,h5,h6,h7⟩:=A2 hs hb hp;have hid:g.1∈oD s:=List.mem_map.2 ⟨g,hg,rfl⟩;unfold ip
 have e1:Ą g.1 f t s.2.2.2.1=Ą g.1 f t b.2.2.2.1:=by
  rw[ql,ql g.1 f t b.2.2.2.1];refine aad ((List.perm_ext_iff_of_nodup (SB hs g.1) (SB hb g.1)).2 fun l=>?_);simp only[dS,beq_iff_eq];exact⟨fun⟨a,e⟩=>⟨h6 l a (by rw[e]; exact hid),e⟩,fun⟨a,e⟩=>⟨h7 l a (by rw[e]; exact hid),e⟩⟩
 have e2:XS (θ s g.1 f t)=XS (θ b g.1 f t):=by
  refine aaX (vw _) (vw _) fun d=>?_;rw[mX,mX];unfold θ;simp only[List.mem_map,List.mem_filter,Bool.and_eq_true,beq_iff_eq];exact⟨fun⟨u,⟨a,e,q⟩,r⟩=>⟨u,⟨h4 u a (by rw[e]; exact hid),e,q⟩,r⟩,fun⟨u,⟨a,e,q⟩,r⟩=>⟨u,⟨h5 u a (by rw[e]; exact hid),e,q⟩,r⟩⟩
 rw[e1,e2]
theorem aje {g:é} (hg:g∈s.2.1):ŏ b g.1=ŏ s g.1:=by
 obtain⟨_,_,h3,_⟩:=A2 hs hb hp;rw[Ż hb.ids (h3 g hg),Ż hs.ids hg]
theorem abU {c:Cmp} (hc:c∈s.2.2.2.2.1) {p:List Int} (hpl:∀x∈p,x∈c.2.2.1++c.2.2.2.1):yk (Ů s) p=yk (Ů b) p:=by
 unfold yk
 cases p with
 |nil=>rfl
 |cons x t =>
  obtain⟨⟨g,hg,_⟩,_⟩:=hs.pile hc (hpl x (by simp));obtain⟨hm,e⟩:=Φ hg;dsimp only;rw[ig hs.ids,ig hb.ids,←e,aje hs hb hp hm]
theorem abT {c:Cmp} (hc:c∈s.2.2.2.2.1):Ŵ s c=Ŵ b c:=by
 obtain⟨_,hf,_⟩:=A2 hs hb hp
 have e1:Ķ s c=Ķ b c:=by
  unfold Ķ rateK;rw[abU hs hb hp hc (fun x hx=>List.mem_append.2 (.inl (iY.1 hx).1)),abU hs hb hp hc (fun x hx=>List.mem_append.2 (.inr (iY.1 hx).1))]
 have e2:iZ s c=iZ b c:=by
  unfold iZ;rw[hf]
 unfold Ŵ;rw[e1,e2]
theorem ak6 {f:Int→Int→Int} {z:Int} (hh:Pf b f z):Pf s f z:=by
 obtain⟨h1,hf,h3,_⟩:=A2 hs hb hp;refine⟨fun g hg=>?_,fun c hc=>?_⟩
 ·have:=hh.gauge g (h3 g hg);exact⟨this.hi,this.lo,this.down,fun d e q1 q2=>by rw[abV hs hb hp hg]; exact this.loss d e q1 q2⟩
 ·rw[abT hs hb hp hc];exact hh.cmp c (h1 c hc)
end
section
variable {b:Þ} {ids:List Int}
def Č.distinct (h:Č b):b.2.2.2.2.1.Pairwise fun a c=>a.1≠c.1:=by
 rw[List.pairwise_iff_getElem];intro i j hi hj hij he;have hz:=h.compares j _ (List.getElem?_eq_getElem hj);unfold lX at hz
 have hany:(b.2.2.2.2.1.take j).any (fun x=>x.1==b.2.2.2.2.1[j].1)=true:=by
  rw[dQ];exact⟨b.2.2.2.2.1[i],dj.2 ⟨i,by rw[di]; omega,by rw[fh]⟩,by simp[he]⟩
 rw[hany] at hz
 (repeat' split at hz)<;>first|omega|simp_all
def amh {α β:Type} (f g:α→List β):∀l:List α,(∀a∈l,(f a).length≤(g a).length)→(l.flatMap f).length≤(l.flatMap g).length
 |[],_=>cR _
 |a::l,h=>by
  rw[dK,dK,cX,cX];have:=h a (by simp);have:=amh f g l fun c hc=>h c (by simp[hc]);omega
def lt_len:∀{x y:List Int},x.Pairwise (·<·)→(∀a∈x,a∈y)→x.length≤y.length:=by
 intro x y hx h;exact(List.Nodup.length_le_of_subset (hx.imp fun h=>by omega) h)
end
structure SubB (s b:Þ):Prop where
 film:s.1=b.1
 gauges:s.2.1.Sublist b.2.1
 uses:s.2.2.1.Sublist b.2.2.1
 usesId:∀u∈s.2.2.1,u.1∈oD s
 usesAll:∀u∈b.2.2.1,u.1∈oD s→u∈s.2.2.1
 loans:s.2.2.2.1.Sublist b.2.2.2.1
 loansId:∀l∈s.2.2.2.1,l.1∈oD s
 loansAll:∀l∈b.2.2.2.1,l.1∈oD s→l∈s.2.2.2.1
 cmps:s.2.2.2.2.1.Sublist b.2.2.2.2.1
 cmpsId:∀c∈s.2.2.2.2.1,∀x∈c.2.2.1++c.2.2.2.1,x∈oD s
 looks:∀n∈s.2.2.2.2.2,ml b n∧n.1∈oD s
 nK:s.2.2.2.2.2.length≤10
theorem aoY {α β:Type} (f:α→List β) {l m:List α} (h:l.Sublist m):(l.flatMap f).length≤(m.flatMap f).length:=by
 induction h with
 |slnil=>exact cR _
 |cons a _ ih=>rw[dK,cX]; omega
 |cons_cons a _ ih=>rw[dK,dK,cX,cX]; omega
def MeetL (x l:JA):Prop:=x.1=l.1∧x.2.1.1≤l.2.1.2∧l.2.1.1≤x.2.1.2
theorem Č.apartL {b:Þ} (h:Č b):b.2.2.2.1.Pairwise fun x l=>¬MeetL x l:=by
 rw[dG];rintro i j hi hj hij ⟨e1,e2,e3⟩;have hz:=h.loans j _ (cQ hj)
 have hany:(b.2.2.2.1.take j).any (fun x=>x.1==b.2.2.2.1[j].1&&(decide (x.2.1.1≤b.2.2.2.1[j].2.1.2)&&decide (b.2.2.2.1[j].2.1.1≤x.2.1.2)))=true:=by
  rw[dQ];exact⟨b.2.2.2.1[i],dj.2 ⟨i,by rw[di]; omega,by rw[fh]⟩,by simp[e1,e2,e3]⟩
 unfold IE at hz;rw[hany] at hz
 (repeat' split at hz)<;>first|omega|simp_all
section
variable {s b:Þ} (h:SubB s b) (hb:Č b)
include h hb
theorem afe:s.2.1.Pairwise fun a b=>a.1<b.1:=hb.ids.sublist h.gauges
theorem akO {id:Int} (hid:id∈oD s):ŏ s id=ŏ b id:=by
 obtain⟨g,hg,rfl⟩:=dM.1 hid;rw[Ż (afe h hb) hg,Ż hb.ids (h.gauges.subset hg)]
theorem OM {id:Int} (hid:id∈oD s) (d:Int):jm (Ů s) id d=jm (Ů b) id d:=by
 unfold jm;rw[ig (afe h hb),ig hb.ids,akO h hb hid]
theorem akM {id d:Int} (hid:id∈oD s):abi (Ů s) id d=abi (Ů b) id d:=by
 unfold abi;rw[OM h hb hid]
theorem aof {g:é} (hg:g∈s.2.1):∀d∈à s g,d∈à b g:=by
 intro d hd;rcases Ω.1 hd with e|⟨c,hc,h1,h2⟩|⟨n,hn,e,e2⟩
 ·exact Ω.2 (.inl e)
 ·exact Ω.2 (.inr (.inl ⟨c,h.cmps.subset hc,h1,h2⟩))
 ·obtain⟨⟨g',hg',e',hd'⟩,_⟩:=h.looks n hn;rw[ajE hb (h.gauges.subset hg) hg' (by omega),←e2];exact hd'
theorem akN:(Í s).length≤(Í b).length:=by
 have h1:(Í s).length≤(s.2.1.flatMap fun g=>(à b g).map fun d=>((g.1,d):Int×Int)).length:=amh _ _ _ fun g hg=>by
  rw[dV,dV];exact lt_len (tq _ g) (aof h hb hg)
 exact dC h1 (aoY _ h.gauges)
theorem aog {id d:Int} (ha:jW b id d=none):jW s id d=none:=by
 unfold jW at ha ⊢;rw[List.find?_eq_none] at ha ⊢;exact fun l hl=>ha l (h.loans.subset hl)
theorem aoe:Č s:=by
 have n1:=h.gauges.length_le; have n2:=h.uses.length_le; have n3:=h.loans.length_le; have n4:=h.cmps.length_le;have m1:=hb.nG; have m2:=hb.nU; have m3:=hb.nL; have m4:=hb.nC;have hn:=akN h hb;have hN:=hb.nodes; have hL:=hb.links;refine⟨by rw[h.film]; exact hb.film,by omega,by omega,by omega,by omega,h.nK,fun g hg=>hb.gauge g (h.gauges.subset hg),afe h hb,fun u hu=>?_,fun i l hl=>?_,fun i c hc=>?_,fun n hn'=>?_,by omega,by omega⟩
 ·rw[akM h hb (h.usesId u hu)];exact hb.uses u (h.uses.subset hu)
 ·have hlm:=List.mem_of_getElem? hl;obtain⟨j,hj,hjl⟩:=List.mem_iff_getElem.1 (h.loans.subset hlm);have hz:=hb.loans j l (by rw[List.getElem?_eq_getElem hj,hjl]);unfold IE at hz ⊢;rw[OM h hb (h.loansId l hlm)]
  split at hz
  ·omega
  rename_i q1
  split at hz
  ·omega
  rename_i q2
  split at hz
  ·rename_i q3; simp only[bne_iff_ne,ne_eq] at q3; exact absurd hz q3
  rename_i q3
  split at hz
  ·omega
  split at hz
  ·omega
  rename_i q5;rw[if_neg q1,if_neg q2,if_neg q3,if_neg ?_,if_neg ?_]
  ·intro hany;obtain⟨u,hu,he⟩:=dQ.1 hany;exact q5 (dQ.2 ⟨u,h.uses.subset hu,he⟩)
  ·intro hany;obtain⟨x,hx,he⟩:=dQ.1 hany;obtain⟨k,hk,hkx⟩:=dj.1 hx;rw[di] at hk;rw[fh] at hkx;obtain⟨hi,hil⟩:=cY.1 hl;have hp:=dG.1 (hb.apartL.sublist h.loans) k i (by omega) hi (by omega);rw[hkx,hil] at hp;simp only[cW,beq_iff_eq,decide_eq_true_eq] at he;exact hp ⟨he.1,he.2.1,he.2.2⟩
 ·have hcm:=List.mem_of_getElem? hc;have hcb:=h.cmps.subset hcm;have hid:=h.cmpsId c hcm;obtain⟨j,hj,hjc⟩:=List.mem_iff_getElem.1 hcb;have hz:=hb.compares j c (by rw[List.getElem?_eq_getElem hj,hjc]);have hpz:=hb.pilesOf hcb;unfold lX at hz ⊢
  split at hz
  ·omega
  rename_i q1;rw[if_neg q1,if_neg ?_]
  ·unfold ym at hpz ⊢
   have r5:(c.2.2.1++c.2.2.2.1).any (fun id=>jm (Ů s) id c.2.1==5)=false:=by
    rw[List.any_eq_false];intro x hx;rw[OM h hb (hid x hx)];obtain⟨⟨g,hg,hd⟩,_⟩:=hb.pile hcb hx;unfold jm;rw[ig hb.ids,hg];dsimp only;rw[if_neg (by omega)];simp
   have r4:(c.2.2.1++c.2.2.2.1).any (fun id=>jm (Ů s) id c.2.1==4)=false:=by
    rw[List.any_eq_false];intro x hx;rw[OM h hb (hid x hx)];obtain⟨⟨g,hg,hd⟩,_⟩:=hb.pile hcb hx;unfold jm;rw[ig hb.ids,hg];dsimp only;rw[if_neg (by omega)];simp
   have r9:(c.2.2.1++c.2.2.2.1).any (fun id=>(jW s id c.2.1).isSome)=false:=by
    rw[ew];intro x hx;rw[aog h hb (hb.pile hcb hx).2];simp
   rw[r5,r4,r9];simp only[dm,if_false]
   (repeat' split at hpz)<;>first|omega|(rename_i w1 w2 w3; rw[if_neg w1,if_neg w2,if_neg w3])|skip
  ·intro hany;obtain⟨x,hx,he⟩:=dQ.1 hany;obtain⟨k,hk,hkx⟩:=dj.1 hx;rw[di] at hk;rw[fh] at hkx;obtain⟨hi,hic⟩:=cY.1 hc;have hp:=dG.1 (hb.distinct.sublist h.cmps) k i (by omega) hi (by omega);rw[hkx,hic] at hp;exact hp (eq_of_beq he)
 ·obtain⟨⟨g,hg,e,hd⟩,hid⟩:=h.looks n hn';rw[akM h hb hid];have hday:=hb.day hg hd;unfold abi jm;rw[ig hb.ids,←e,Ż hb.ids hg];dsimp only;rw[if_neg (by simp[Jk,inP]; omega),if_neg (by omega)]
theorem aod:xS s b=true:=by
 unfold xS ε;simp only[Bool.and_eq_true,List.all_eq_true,Bool.or_eq_true,Bool.not_eq_true',decide_eq_true_eq,OX,Bool.not_true,Bool.false_eq_true,false_or]
 have q:∀{x:Int},x∈oD s∨(oD s).contains x=false:=fun {x}=>by
  by_cases hx:x∈oD s
  ·exact .inl hx
  ·exact .inr (by simpa using hx)
 exact⟨fun c hc=>h.cmps.subset hc,h.film,fun g hg=>h.gauges.subset hg,fun u hu=>.inr (h.uses.subset hu),fun u hu=>(q (x:=u.1)).elim (fun hx=>.inr (h.usesAll u hu hx)) .inl,
  fun u hu=>.inr (h.loans.subset hu),fun u hu=>(q (x:=u.1)).elim (fun hx=>.inr (h.loansAll u hu hx)) .inl⟩
end
theorem wL (w:List Int):∀(l:List Cmp) (i:Nat),(tj w i l).Sublist l
 |[],_=>List.Sublist.slnil
 |c::t,i=>by
  unfold tj
  split
  ·exact(wL w t (i+1)).cons_cons c
  ·exact(wL w t (i+1)).cons c
theorem SH {w:List Int} {c:Cmp}:∀{l:List Cmp} {i:Nat},c∈tj w i l↔∃j:Nat,l[j]?=some c∧((i+j:Nat):Int)∈w
 |[],i=>by simp[tj]
 |a::t,i=>by
  unfold tj;have ih:=@SH w c t (i+1)
  have e:(∃j:Nat,(a::t)[j]?=some c∧((i+j:Nat):Int)∈w)↔(a=c∧((i:Nat):Int)∈w)∨∃j:Nat,t[j]?=some c∧((i+1+j:Nat):Int)∈w:=by
   constructor
   ·rintro⟨j,h1,h2⟩
    cases j with
    |zero=>exact .inl ⟨by simpa using h1,by simpa using h2⟩
    |succ j=>exact .inr ⟨j,by simpa using h1,by rw[show i+1+j=i+(j+1) by omega]; exact h2⟩
   ·rintro(⟨h1,h2⟩|⟨j,h1,h2⟩)
    ·exact⟨0,by simp[h1],by simpa using h2⟩
    ·exact⟨j+1,by simpa using h1,by rw[show i+(j+1)=i+1+j by omega]; exact h2⟩
  rw[e]
  split
  ·rename_i hc;rw[df,ih]
   have hc':((i:Nat):Int)∈w:=by simpa using hc
   constructor
   ·rintro(h1|h1)
    ·exact .inl ⟨h1.symm,hc'⟩
    ·exact .inr h1
   ·rintro(h1|h1)
    ·exact .inl h1.1.symm
    ·exact .inr h1
  ·rename_i hc;rw[ih]
   have hc':¬((i:Nat):Int)∈w:=by simpa using hc
   exact⟨.inr,fun h1=>h1.elim (fun h2=>absurd h2.2 hc') id⟩
section
variable {b:Þ} (hb:Č b) {ss looks:List (Int×Int)} (hss:∀s∈ss,apN b s) (hlk:∀n∈looks,ml b n) (hk:looks.length≤10)
include hb
theorem aiv {x:Int} (hx:x∈Jm b ss looks) (hg:∃g∈b.2.1,g.1=x):x∈oD (aix b ss looks):=by
 obtain⟨g,hg,rfl⟩:=hg;exact dM.2 ⟨g,dS.2 ⟨hg,by simpa using hx⟩,rfl⟩
theorem amC {x:Int} (hx:x∈oD (aix b ss looks)):x∈Jm b ss looks:=by
 obtain⟨g,hg,rfl⟩:=dM.1 hx;simpa using(dS.1 hg).2
include hlk hk
theorem agL:SubB (aix b ss looks) b:=by
 refine⟨rfl,fH,fH,fun u hu=>?_,fun u hu hid=>?_,fH,fun l hl=>?_,fun l hl hid=>?_,wL _ _ _,fun c hc x hx=>?_,fun n hn=>?_,hk⟩
 ·obtain⟨h1,h2⟩:=dS.1 hu;obtain⟨_,g,hg,_⟩:=Pk hb (hb.uses u h1);exact aiv hb (by simpa using h2) ⟨g,Φ hg⟩
 ·exact dS.2 ⟨hu,by simpa using amC hb hid⟩
 ·obtain⟨h1,h2⟩:=dS.1 hl;obtain⟨i,hi,e⟩:=dj.1 h1;have hz:=hb.loans i l (by rw[cQ hi,e])
  have hm:jm (Ů b) l.1 l.2.1.1=0:=by
   unfold IE at hz
   split at hz
   ·omega
   split at hz
   ·omega
   split at hz
   ·rename_i q; simp only[bne_iff_ne,ne_eq] at q; exact absurd hz q
   ·rename_i q; simpa using q
  obtain⟨g,hg,_⟩:=A7 hb hm;exact aiv hb (by simpa using h2) ⟨g,Φ hg⟩
 ·exact dS.2 ⟨hl,by simpa using amC hb hid⟩
 ·obtain⟨j,hj,hw⟩:=SH.1 (show c∈tj (BD ss) 0 b.2.2.2.2.1 from hc);rw[Nat.zero_add] at hw;obtain⟨q,hq,e⟩:=List.mem_map.1 hw;obtain⟨h1,h2⟩:=List.mem_filter.1 hq;obtain⟨⟨g,hg,_⟩,_⟩:=hb.pile (List.mem_of_getElem? hj) hx;refine aiv hb (List.mem_append.2 (.inl (List.mem_flatMap.2 ⟨q,h1,?_⟩))) ⟨g,Φ hg⟩;unfold yg;rw[if_pos (by simpa using h2),e,Int.toNat_natCast,hj];exact hx
 ·obtain⟨g,hg,e,hd⟩:=hlk n hn;exact⟨⟨g,hg,e,hd⟩,aiv hb (dc.2 (.inr (dM.2 ⟨n,hn,rfl⟩))) ⟨g,hg,e⟩⟩
theorem aiw:Č (aix b ss looks):=aoe (agL hb hlk hk) hb
theorem aiu:xS (aix b ss looks) b=true:=aod (agL hb hlk hk) hb
theorem ape:∀n∈looks,ml (aix b ss looks) n:=by
 intro n hn;obtain⟨g,hg,e,hd⟩:=hlk n hn;refine⟨g,dS.2 ⟨hg,?_⟩,e,Ω.2 (.inr (.inr ⟨n,hn,e.symm,rfl⟩))⟩;simp only[ej];exact dc.2 (.inr (dM.2 ⟨n,hn,e.symm⟩))
end
theorem aav {α β γ:Type} (F:α→List β) (G:Nat→α→List γ):∀(l:List α) (k:Nat),(∀i a,l[i]?=some a→(F a).length=(G (k+i) a).length) →
 ∀(n:Nat) (x:β) (y:γ),(l.flatMap F)[n]?=some x→((l.mapIdx fun i a=>G (k+i) a).flatten)[n]?=some y→∃i a,l[i]?=some a∧x∈F a∧y∈G (k+i) a
 |[],k,_,n,x,y,h,_=>by simp at h
 |a::t,k,hl,n,x,y,h1,h2=>by
  rw[dK] at h1;rw[List.mapIdx_cons,fV] at h2;have e0:=hl 0 a (by simp);rcases dz n (F a).length with hn|hn
  ·rw[eN hn] at h1;rw[eN (by rw[←e0]; exact hn)] at h2;exact⟨0,a,by simp,cZ h1,cZ h2⟩
  ·rw[eI hn] at h1;rw[eI (by rw[←e0]; exact hn),←e0] at h2
   have h2':((t.mapIdx fun i a=>G (k+1+i) a).flatten)[n-(F a).length]?=some y:=by
    have e:(fun(i:Nat) (a:α)=>G (k+1+i) a)=fun i a=>G (k+(i+1)) a:=by
     funext i a; rw[show k+1+i=k+(i+1) by omega]
    rw[e];exact h2
   obtain⟨i,c,q1,q2,q3⟩:=aav F G t (k+1) (fun i c hc=>by
    have:=hl (i+1) c (by simpa using hc);rw[show k+1+i=k+(i+1) by omega]
    exact this) _ x y h1 h2'
   exact⟨i+1,c,by simpa using q1,q2,by rw[show k+(i+1)=k+1+i by omega]; exact q3⟩
theorem aef (b:Þ) (i:Nat) (g:é):(ä b g).length=(â b i g).length:=by
 unfold â ä;rw[List.length_append,List.length_append,œ _ _ (fun _=>rfl),œ _ _ (fun _=>rfl)];rfl
theorem aoL {b:Þ} {n:Nat} {x:Lk} {y:Int×Int} (h1:(Û b)[n]?=some x) (h2:(ľ b)[n]?=some y) :
 ((y.1=1∨y.1=2)∧∃g,b.2.1[y.2.toNat]?=some g∧x∈ä b g)∨(y.1=3∧∃c,b.2.2.2.2.1[y.2.toNat]?=some c∧x∈û b c∧y.2=((y.2.toNat:Nat):Int)):=by
 have hlen:((b.2.1.mapIdx (â b)).flatten).length=(b.2.1.flatMap (ä b)).length:=by
  rw[List.length_flatten,List.length_flatMap];congr 1;refine gM (by simp) fun i q1 q2=>?_;simp only[List.getElem_map,List.getElem_mapIdx];exact(aef b i _).symm
 unfold Û at h1;unfold ľ at h2;rcases Nat.lt_or_ge n (b.2.1.flatMap (ä b)).length with hn|hn
 ·rw[eN hn] at h1;rw[eN (by rw[hlen]; exact hn)] at h2;have hm:=SP y (cZ h2)
  have h2':((b.2.1.mapIdx fun i a=>â b (0+i) a).flatten)[n]?=some y:=by
   have e:(fun(i:Nat) (a:é)=>â b (0+i) a)=â b:=by funext i a; rw[dl]
   rw[e]; exact h2
  obtain⟨i,g,q1,q2,q3⟩:=aav (ä b) (â b) b.2.1 0 (fun i g _=>aef b _ g) n x y h1 h2';rw[dl] at q3
  have hy:y.2=(i:Int):=by
   unfold â at q3;rcases List.mem_append.1 q3 with h|h
   ·simp at h; rw[h]
   ·obtain⟨_,_,h⟩:=dv.1 h;simp at h; rw[h]
  exact .inl ⟨hm.1,g,by rw[hy,dn]; exact q1,q2⟩
 ·rw[eI hn] at h1;rw[eI (by rw[hlen]; exact hn),hlen] at h2;have hm:=Tm y (cZ h2)
  have h2':((b.2.2.2.2.1.mapIdx fun i (a:Cmp)=>(fun(i:Nat) (_:Cmp)=>[((3:Int),(i:Int)),((3:Int),(i:Int))]) (0+i) a).flatten)[n-(b.2.1.flatMap (ä b)).length]?=some y:=by
   have e:(fun(i:Nat) (_:Cmp)=>[((3:Int),((0+i:Nat):Int)),((3:Int),((0+i:Nat):Int))])=fun(i:Nat) (_:Cmp)=>[((3:Int),(i:Int)),((3:Int),(i:Int))]:=by funext i _; rw[dl]
   exact(congrArg (fun f=>((b.2.2.2.2.1.mapIdx f).flatten)[n-(b.2.1.flatMap (ä b)).length]?) e).trans h2
  obtain⟨i,c,q1,q2,q3⟩:=aav (û b) (fun(i:Nat) (_:Cmp)=>[((3:Int),(i:Int)),((3:Int),(i:Int))]) b.2.2.2.2.1 0 (fun i c _=>rfl) _ x y h1 h2'
  have hy:y.2=(i:Int):=by simp at q3; rw[q3]
  exact .inr ⟨hm.1,c,by rw[hy,dn]; exact q1,q2,by rw[hy,dn]⟩
section
variable {b:Þ} (hb:Č b) {l:List Int} (hl:∀i∈l,0≤i∧i.toNat<(Û b).length) {looks:List (Int×Int)} (hlk:∀n∈looks,ml b n) (hk:looks.length≤10)
include hb hl hlk hk
theorem amA {f:Int→Int→Int} {z:Int} (hh:Pf (aix b (yf b l) looks) f z):∀i∈l,∀x,(Û b)[i.toNat]?=some x→Nr b f z x.2.1≤Nr b f z x.1+x.2.2:=by
 intro i hi x hx;have hs:=aiw hb hlk hk (ss:=yf b l);have hp:=aiu hb hlk hk (ss:=yf b l);have hr:=hl i hi;have hsx:(ľ b)[i.toNat]?=some ((ľ b)[i.toNat]'(by rw[JI hb]; exact hr.2)):=cQ _;generalize (ľ b)[i.toNat]'(by rw[JI hb]; exact hr.2)=y at hsx;have hys:y∈yf b l:=dM.2 ⟨i,hi,by rw[hsx]; rfl⟩;rcases aoL hx hsx with⟨hk1,g,hg,hm⟩|⟨hk1,c,hc,hm,e⟩
 ·have hgb:=cZ hg
  have hgs:g∈(aix b (yf b l) looks).2.1:=by
   refine List.mem_filter.2 ⟨hgb,?_⟩;simp only[List.contains_iff_mem];refine List.mem_append.2 (.inl (List.mem_flatMap.2 ⟨y,hys,?_⟩));unfold yg;rw[if_neg (by omega),hg];simp
  have hG:apY b f z g:=by
   have:=hh.gauge g hgs;exact⟨this.hi,this.lo,this.down,fun d e q1 q2=>by rw[←abV hs hb hp hgs]; exact this.loss d e q1 q2⟩
  exact(lR hb hg).2 (JN hb hgb hG) x hm
 ·have hcb:=cZ hc
  have hcs:c∈(aix b (yf b l) looks).2.2.2.2.1:=SH.2 ⟨y.2.toNat,hc,by
   rw[dl,←e]
   exact dM.2 ⟨y,dS.2 ⟨hys,by simp[hk1]⟩,rfl⟩⟩
  have h1:=hh.cmp c hcs;rw[abT hs hb hp hcs] at h1;have h2:=FA (f:=f) (z:=z) hb (c:=c) (fun x hx=>nf hb hcb hx);unfold û at hm;simp only[List.mem_cons,List.not_mem_nil,or_false] at hm;rcases hm with rfl|rfl
  ·dsimp only; omega
  ·dsimp only; omega
end
theorem abf {L:List Lk} {p:Int→Int}:∀(l:List Int) (u s:Int),(∀i∈l,i7 L i=false)→(∀i∈l,∀x,L[i.toNat]?=some x→p x.2.1≤p x.1+x.2.2)→(l7 L u s l).2.2=true→p (l7 L u s l).1-p u≤(l7 L u s l).2.1-s
 |[],u,s,_,_,_=>by unfold l7; dsimp only; omega
 |i::t,u,s,hi,hp,h=>by
  unfold l7 at h ⊢;have h0:=hi i (by simp);simp only[i7,Bool.or_eq_false_iff,decide_eq_false_iff_not] at h0;have hg:L[i.toNat]?=some L[i.toNat]:=List.getElem?_eq_getElem (by omega);have hx:=hp i (by simp) _ hg;rw[hg] at h ⊢;simp only[Option.getD_some] at h ⊢
  by_cases hu:L[i.toNat].1=u
  ·rw[if_pos hu] at h ⊢;have:=abf t _ _ (fun j hj=>hi j (by simp[hj])) (fun j hj=>hp j (by simp[hj])) h;rw[hu] at hx;omega
  ·rw[if_neg hu] at h;cases h
theorem Nk {L:List Lk} {i:Int}:i7 L i=false↔0≤i∧i.toNat<L.length:=by
 simp only[i7,gn,decide_eq_false_iff_not];omega
theorem Ts {L:List Lk} {u v n:Int} {l:List Int} (h:ù L u v l=(n,0)):(∀i∈l,i7 L i=false)∧l7 L u 0 l=(v,n,true):=by
 unfold ù at h
 by_cases h1:iL L l=0
 ·rw[if_neg (by simp[h1])] at h;have hi:=aap h1;refine⟨fun i hm=>Nk.2 (hi.2 i hm),?_⟩
  split at h
  ·rename_i h2;simp only[Prod.mk.injEq,and_true] at h;exact Prod.ext h2.2 (Prod.ext h h2.1)
  ·simp at h
 ·rw[if_pos h1] at h;simp only[Prod.mk.injEq] at h;exact absurd h.2 h1
section
variable {B:Þ} (hR:anw B) {n:Int×Int} (hn:ml B n) (upper:Bool)
include hR hn
theorem FY:(∀m∈[n],ml B m):=fun m hm=>by simp at hm; subst hm; exact hn
theorem We:Č (nj B n upper):=aiw hR.good (FY hR hn) (by simp)
theorem Wd:xS (nj B n upper) B=true:=aiu hR.good (FY hR hn) (by simp)
theorem JS:ml (nj B n upper) n:=ape hR.good (FY hR hn) (by simp) n (by simp)
theorem JT {f:Int→Int→Int} {z:Int} (hh:Pf B f z):Pf (nj B n upper) f z:=ak6 (We hR hn upper) hR.good (Wd hR hn upper) hh
theorem JR:anw (nj B n upper):=by
 have hg:=We hR hn upper;obtain⟨f,z,hf⟩:=(FW hR.good).1 hR.op;exact⟨hg,(FW hg).2 ⟨f,z,JT hR hn upper hf⟩,fun g hgm=>hR.num g ((agL hR.good (FY hR hn) (by simp)).gauges.subset hgm)⟩
theorem aeD (B':Þ) (hR':anw B') (hn':ml B' n):ù (Û B') (if upper then 0 else mN B' n.1 n.2) (if upper then mN B' n.1 n.2 else 0) (xQ B' n upper)=(Ow B' (if upper then 0 else mN B' n.1 n.2) (if upper then mN B' n.1 n.2 else 0),0):=by
 have hS:=hR'.good.sys;have hi:=ŗ B' n;have h0:=ń B';unfold xQ Ow
 cases upper with
 |true=>exact(Ng hS hR'.good.tied hR'.op h0 hi).2
 |false=>exact(Ng hS hR'.good.tied hR'.op hi h0).2
theorem abW:(if upper then(ivR (nj B n upper) n).2 else(ivR (nj B n upper) n).1)=(if upper then(ivR B n).2 else(ivR B n).1):=by
 have hR':=JR hR hn upper;have hn':=JS hR hn upper;have hidx:=(aao hR.good).2 hn;obtain⟨hb1,hw⟩:=Ts (aeD hR hn upper B hR hn);have hl:∀i∈xQ B n upper,0≤i∧i.toNat<(Û B).length:=fun i hi=>Nk.1 (hb1 i hi)
 have key:∀{f:Int→Int→Int} {z:Int},Pf (nj B n upper) f z→(upper=true→f n.1 n.2-z≤(ivR B n).2)∧(upper=false→(ivR B n).1≤f n.1 n.2-z):=by
  intro f z hh;have hlinks:=amA hR.good hl (FY hR hn) (by simp) hh;have hws:=abf (p:=Nr B f z) (xQ B n upper) (if upper then 0 else mN B n.1 n.2) 0 hb1 hlinks (by rw[hw]);rw[hw] at hws;dsimp only at hws;have hv:=ahD hR f z hn;have h0:Nr B f z 0=z:=lg f z;constructor
  ·rintro rfl;simp only[if_true] at hws;rw[hv,h0] at hws;unfold ivR;dsimp only;omega
  ·rintro rfl;simp only[Bool.false_eq_true,if_false] at hws;rw[hv,h0] at hws;unfold ivR;dsimp only;omega
 have ho:=ah8 hR n;have ho':=ah8 hR' n
 cases upper with
 |true =>
  simp only[if_true];obtain⟨f,z,hf,e⟩:=aoS hR' hn' ho' (dE _);have h1:=(key hf).1 rfl;obtain⟨f2,z2,hf2,e2⟩:=aoS hR hn ho (dE _);have h2:=iv_in hR' hn' (JT hR hn true hf2);omega
 |false =>
  simp only[dm,if_false];obtain⟨f,z,hf,e⟩:=aoS hR' hn' (dE _) ho';have h1:=(key hf).2 rfl;obtain⟨f2,z2,hf2,e2⟩:=aoS hR hn (dE _) ho;have h2:=iv_in hR' hn' (JT hR hn false hf2);omega
theorem Nh:ja (qL B n upper)=0:=by
 have hR':=JR hR hn upper;have hn':=JS hR hn upper;have hidx:=(aao hR'.good).2 hn';have hch:=aeD hR hn upper (nj B n upper) hR' hn';have hend:=abW hR hn upper;unfold ja qL;dsimp only;rw[if_neg (by simp[(ì _).2 hR'.good]),if_neg hidx]
 cases upper with
 |true =>
  simp only[if_true] at hch hend ⊢;rw[hch,←hend];unfold ivR;simp
 |false =>
  simp only[Bool.false_eq_true,if_false] at hch hend ⊢;rw[hch,←hend];unfold ivR;simp
end
section
variable {b:Þ} (hb:Č b) {q:List Int} (hq:∀i∈q,i7 (Û b) i=false) {u s:Int} (hw:l7 (Û b) u 0 q=(u,s,true)) (hs:s<0)
include hb hq hw hs
end
def aa2 {ρ α:Type} (l:List α) (p:α→Bool) (K:Bool→Option ρ) {f:Bool×Int→(Bool×Int→Option ρ)→Option ρ} (b0:Bool)
 (h:∀(i:Nat) (a:α) (v:Bool),i<l.length→l[i]?=some a→∀kn,f (v,i) kn=kn ((v||p a),(i:Int)+1)) (hn:∀v kn,f (v,l.length) kn=K v):Ñ f (b0,(0:Int))=K (b0||l.any p):=by
 refine ņ (fun v=>∃i:Nat,i≤l.length∧v=((b0||(l.take i).any p),(i:Int))) (fun v=>l.length-v.2.toNat) ?_ ⟨0,by omega,by simp⟩;rintro v ⟨i,hi,rfl⟩;rcases dz i l.length with h2|h2
 ·have hg:l[i]?=some l[i]:=List.getElem?_eq_getElem h2;refine .inr ⟨((b0||(l.take (i+1)).any p),((i+1:Nat):Int)),⟨i+1,h2,rfl⟩,by dsimp only; omega,fun kn=>?_⟩;rw[h i _ _ h2 hg,take_succ hg,List.any_append];simp[Bool.or_assoc]
 ·refine .inl fun kn=>?_
  obtain rfl:i=l.length:=by omega
  rw[hn,gL]
def TT {l m:List Int} (hn:l.length≤1000000):Χ l m=some (decide (l=m)):=by
 unfold Χ vT;rw[á,á]
 by_cases hl:l.length=m.length
 ·rw[Ò (by simp[ine,hl])];refine eG (iq l (fun i a=>if m[i]?=some a then none else some false) some (some true) (fun i a hi ha kn=>?_) (fun kn=>?_)) ?_
  ·try dsimp only
   unfold kp;have hm:m[i]?=some m[i]:=List.getElem?_eq_getElem (by omega);rw[Ó hi,É ha,É hm,Ì hi (by omega),hm,Ė]
   by_cases h:a=m[i]
   ·simp[ine,h]
   ·have h':¬m[i]=a:=fun e=>h e.symm;simp[ine,h,h']
  ·try dsimp only
   unfold kp;rw[Ü]
  ·cases h:Ĩ (fun i a=>if m[i]?=some a then none else some false) 0 l with
   |none=>simp[Fx hl h]
   |some b =>
    obtain⟨h1,h2⟩:=Fw h;rw[h1,decide_eq_false h2]
 ·rw[Ô (bne_iff_ne.2 (by omega)),decide_eq_false (fun e=>hl (by rw[e]))]
def anK {c d:Cmp} (hA:c.2.2.1.length≤1000) (hB:c.2.2.2.1.length≤1000):ks c d=some (decide (c=d)):=by
 unfold ks oh
 have hsplit:(c=d)↔(c.1=d.1∧c.2.1=d.2.1∧c.2.2.2.2.1=d.2.2.2.2.1∧c.2.2.2.2.2.1=d.2.2.2.2.2.1∧(c.2.2.2.2.2.2.1=d.2.2.2.2.2.2.1∧c.2.2.2.2.2.2.2=d.2.2.2.2.2.2.2)∧c.2.2.1=d.2.2.1∧c.2.2.2.1=d.2.2.2.1):=by
  simp only[fE];constructor
  ·rintro⟨a1,a2,a3,a4,a5,a6,a7,a8⟩; exact⟨a1,a2,a5,a6,⟨a7,a8⟩,a3,a4⟩
  ·rintro⟨a1,a2,a5,a6,⟨a7,a8⟩,a3,a4⟩; exact⟨a1,a2,a3,a4,a5,a6,a7,a8⟩
 rw[TT (by omega),À,TT (by omega),À]
 have hno:∀{P:Prop},¬P→(c=d→P)→some (decide (c=d))=some false:=fun h1 h2=>by rw[decide_eq_false fun h=>h1 (h2 h)]
 by_cases a1:c.1=d.1
 case neg=>rw[hno a1 (fun e=>(hsplit.1 e).1),Ò (beq_eq_false_iff_ne.2 a1)]
 rw[Ô (beq_iff_eq.2 a1)]
 by_cases a2:c.2.1=d.2.1
 case neg=>rw[hno a2 (fun e=>(hsplit.1 e).2.1),Ò (beq_eq_false_iff_ne.2 a2)]
 rw[Ô (beq_iff_eq.2 a2)]
 by_cases a3:c.2.2.2.2.1=d.2.2.2.2.1
 case neg=>rw[hno a3 (fun e=>(hsplit.1 e).2.2.1),Ò (beq_eq_false_iff_ne.2 a3)]
 rw[Ô (beq_iff_eq.2 a3)]
 by_cases a4:c.2.2.2.2.2.1=d.2.2.2.2.2.1
 case neg=>rw[hno a4 (fun e=>(hsplit.1 e).2.2.2.1),Ò (beq_eq_false_iff_ne.2 a4)]
 rw[Ô (beq_iff_eq.2 a4)]
 by_cases a5:c.2.2.2.2.2.2.1=d.2.2.2.2.2.2.1∧c.2.2.2.2.2.2.2=d.2.2.2.2.2.2.2
 case neg=>rw[hno a5 (fun e=>(hsplit.1 e).2.2.2.2.1),Ò (by simp only[ü,fq,gi,decide_eq_false_iff_not]; exact Decidable.not_and_iff_or_not.1 a5)]
 rw[Ô (by simp[ü,a5.1,a5.2])]
 by_cases a6:c.2.2.1=d.2.2.1
 case neg=>rw[hno a6 (fun e=>(hsplit.1 e).2.2.2.2.2.1),Ò (decide_eq_false a6)]
 rw[Ô (decide_eq_true a6)];congr 1;exact decide_eq_decide.2 ⟨fun h=>hsplit.2 ⟨a1,a2,a3,a4,a5,a6,h⟩,fun h=>(hsplit.1 h).2.2.2.2.2.2⟩
def ako {b:Þ} (hn:b.2.1.length≤1000) (g:é):pA b g=some (qW g b.2.1):=by
 unfold pA J4;refine(ī b.2.1 (fun a=>decide (g=a)) (fun _=>some true) (some true) (some false) (fun _=>rfl) (fun i a hi ha kn=>?_) (fun kn=>?_)).trans ?_
 ·try dsimp only
  unfold oN
  have e:((ü a.1 g.1)&&((ü a.2.1 g.2.1)&&((ü a.2.2.1 g.2.2.1)&&((ü a.2.2.2.1.1 g.2.2.2.1.1)&&((ü a.2.2.2.1.2 g.2.2.2.1.2)&&((ü a.2.2.2.2.1.1 g.2.2.2.2.1.1)&&((ü a.2.2.2.2.1.2 g.2.2.2.2.1.2)&&((ü a.2.2.2.2.2 g.2.2.2.2.2)&&true))))))))=decide (g=a):=by
   rw[dJ];simp only[ü,fq,cW,decide_eq_true_eq,fE];exact⟨fun⟨h1,h2,h3,h4,h5,h6,h7,h8⟩=>⟨h1.symm,h2.symm,h3.symm,⟨h4.symm,h5.symm⟩,⟨h6.symm,h7.symm⟩,h8.symm⟩,fun⟨h1,h2,h3,⟨h4,h5⟩,⟨h6,h7⟩,h8⟩=>⟨h1.symm,h2.symm,h3.symm,h4.symm,h5.symm,h6.symm,h7.symm,h8.symm⟩⟩
  rw[Ó hi,É ha,Ì hi (by omega),Ė,e]
 ·try dsimp only
  unfold oN;rw[Ü]
 ·unfold qW
  cases b.2.1.any fun a=>decide (g=a)<;>rfl
def XK {b:Þ} (hn:b.2.1.length≤1000) (id:Int):jK b id=some ((oD b).contains id):=by
 unfold jK J3;refine(ī b.2.1 (fun g=>g.1==id) (fun _=>some true) (some true) (some false) (fun _=>rfl) (fun i a hi ha kn=>?_) (fun kn=>?_)).trans ?_
 ·try dsimp only
  unfold oM;rw[Ó hi,É ha,Ì hi (by omega),Ė]
 ·try dsimp only
  unfold oM;rw[Ü]
 ·have:(oD b).contains id=b.2.1.any fun g=>g.1==id:=by
   unfold oD;rw[Bool.eq_iff_iff];simp only[List.contains_iff_mem,List.mem_map,List.any_eq_true,beq_iff_eq]
  rw[this]
  cases b.2.1.any fun g=>g.1==id<;>rfl
def T2 (a b s:Þ):Bool:=ε a.2.2.1 b.2.2.1 (fun u=>(oD s).contains u.1)&&ε a.2.2.2.1 b.2.2.2.1 (fun u=>(oD s).contains u.1)
def Pc {ρ α:Type} (l:List α) (p:α→Bool) (k0:Bool→Option ρ) (K:Option ρ) {f:Int→(Int→Option ρ)→Option ρ}
 (h:∀(i:Nat) (a:α),i<l.length→l[i]?=some a→∀kn,f i kn=if p a then kn ((i:Int)+1) else k0 false) (hn:∀kn,f l.length kn=K):Ñ f 0=if l.all p then K else k0 false:=by
 refine(ī l (fun a=>!p a) (fun _=>k0 false) (k0 false) K (fun _=>rfl) (fun i a hi ha kn=>?_) hn).trans ?_
 ·rw[h i a hi ha kn]
  cases p a<;>rfl
 ·rw[List.all_eq_not_any_not]
  cases l.any fun a=>!p a<;>rfl
def aeY {a b s:Þ} (ha:ō a) (hb:ō b) (hs:ō s):Au a b s=some (T2 a b s):=by
 have a1:=ha.uses; have a2:=ha.loans; have b1:=hb.uses; have b2:=hb.loans; have s1:=hs.gauges;unfold Au P6 T2 ε;refine(Pc a.2.2.1 (fun u=>!(oD s).contains u.1||qW u b.2.2.1) some (some (a.2.2.2.1.all fun u=>!(oD s).contains u.1||qW u b.2.2.2.1)) (fun i u hi hu kn=>?_) (fun kn=>?_)).trans ?_
 rotate_right
 ·cases a.2.2.1.all fun u=>!(oD s).contains u.1||qW u b.2.2.1<;>rfl
 ·try dsimp only
  unfold rc;rw[Ó hi,É hu,show jK ((s.1.1,s.1.2),s.2.1,s.2.2.1,s.2.2.2.1,s.2.2.2.2.1,s.2.2.2.2.2) u.1=jK s u.1 from rfl,XK s1,À];refine(aa2 b.2.2.1 (fun x=>decide (u=x)) (fun z7=>ifb (!z7) (some false) (ck ((i:Int)+(1:Int)) fun n8=>kn n8)) (!(oD s).contains u.1) (fun j x v hj hx kn'=>?_) (fun v kn'=>?_)).trans ?_
  ·try dsimp only
   unfold qZ;rw[Ó hj]
   cases v with
   |true=>rw[Ĝ,Ì hj (by omega)]; rfl
   |false =>
    have e:((ü x.1 u.1)&&((ü x.2 u.2)&&true))=decide (u=x):=by
     rw[dJ];simp only[ü,fq,cW,decide_eq_true_eq,fE];exact⟨fun⟨h1,h2⟩=>⟨h1.symm,h2.symm⟩,fun⟨h1,h2⟩=>⟨h1.symm,h2.symm⟩⟩
    rw[å,É hx,É hu,Ì hj (by omega),e]; rfl
  ·try dsimp only
   unfold qZ;rw[Ü]
  ·rw[Ì hi (by omega),show(b.2.2.1.any fun x=>decide (u=x))=qW u b.2.2.1 from rfl]
   cases(!(oD s).contains u.1||qW u b.2.2.1)<;>rfl
 ·try dsimp only
  unfold rc;rw[Ü];dsimp only;refine(Pc a.2.2.2.1 (fun u=>!(oD s).contains u.1||qW u b.2.2.2.1) some (some true) (fun i u hi hu kn=>?_) (fun kn=>?_)).trans ?_
  rotate_right
  ·cases a.2.2.2.1.all fun u=>!(oD s).contains u.1||qW u b.2.2.2.1<;>rfl
  ·try dsimp only
   unfold qY;rw[Ó hi,É hu,show jK ((s.1.1,s.1.2),s.2.1,s.2.2.1,s.2.2.2.1,s.2.2.2.2.1,s.2.2.2.2.2) u.1=jK s u.1 from rfl,XK s1,À];refine(aa2 b.2.2.2.1 (fun x=>decide (u=x)) (fun z7=>ifb (!z7) (some false) (ck ((i:Int)+(1:Int)) fun n8=>kn n8)) (!(oD s).contains u.1) (fun j x v hj hx kn'=>?_) (fun v kn'=>?_)).trans ?_
   ·try dsimp only
    unfold qX;rw[Ó hj]
    cases v with
    |true=>rw[Ĝ,Ì hj (by omega)]; rfl
    |false =>
     have e:((ü x.1 u.1)&&((ü x.2.1.1 u.2.1.1)&&((ü x.2.1.2 u.2.1.2)&&((ü x.2.2 u.2.2)&&true))))=decide (u=x):=by
      rw[dJ];simp only[ü,fq,cW,decide_eq_true_eq,fE];exact⟨fun⟨h1,h2,h3,h4⟩=>⟨h1.symm,⟨h2.symm,h3.symm⟩,h4.symm⟩,fun⟨h1,⟨h2,h3⟩,h4⟩=>⟨h1.symm,h2.symm,h3.symm,h4.symm⟩⟩
     rw[å,É hx,É hu,Ì hj (by omega),e]; rfl
   ·try dsimp only
    unfold qX;rw[Ü]
   ·rw[Ì hi (by omega),show(b.2.2.2.1.any fun x=>decide (u=x))=qW u b.2.2.2.1 from rfl]
    cases(!(oD s).contains u.1||qW u b.2.2.2.1)<;>rfl
  ·try dsimp only
   unfold qY;rw[Ü]
def anL {s b:Þ} (hs:ō s) (hb:ō b):nR s b=some (xS s b):=by
 have s1:=hs.gauges; have s4:=hs.compares; have b1:=hb.gauges; have b4:=hb.compares
 have e0:xS s b=(decide (s.1=b.1)&&((s.2.1.all fun g=>qW g b.2.1)&&((s.2.2.2.2.1.all fun c=>qW c b.2.2.2.2.1)&&(T2 s b s&&T2 b s s)))):=by
  have q1:(ε s.2.1 b.2.1 fun _=>true)=s.2.1.all fun g=>qW g b.2.1:=rfl;have q2:(ε s.2.2.2.2.1 b.2.2.2.2.1 fun _=>true)=s.2.2.2.2.1.all fun c=>qW c b.2.2.2.2.1:=rfl;unfold xS T2;rw[q1,q2];generalize (s.2.1.all fun g=>qW g b.2.1)=x1;generalize (s.2.2.2.2.1.all fun c=>qW c b.2.2.2.2.1)=x2;generalize decide (s.1=b.1)=x3;generalize (ε s.2.2.1 b.2.2.1 fun u=>(oD s).contains u.1)=x4;generalize (ε b.2.2.1 s.2.2.1 fun u=>(oD s).contains u.1)=x5;generalize (ε s.2.2.2.1 b.2.2.2.1 fun u=>(oD s).contains u.1)=x6;generalize (ε b.2.2.2.1 s.2.2.2.1 fun u=>(oD s).contains u.1)=x7
  cases x1<;>cases x2<;>cases x3<;>cases x4<;>cases x5<;>cases x6<;>cases x7<;>rfl
 rw[e0];unfold nR Qc
 by_cases hf:s.1=b.1
 case neg =>
  have ef:(!((ü s.1.1 b.1.1)&&((ü s.1.2 b.1.2)&&true)))=true:=by
   rw[fE] at hf;simp[ü];omega
  rw[ef,Ĝ,decide_eq_false hf];rfl
 have ef:(!((ü s.1.1 b.1.1)&&((ü s.1.2 b.1.2)&&true)))=false:=by simp[ü,hf]
 rw[ef,å,decide_eq_true hf,dX];refine(Pc s.2.1 (fun g=>qW g b.2.1) some (some ((s.2.2.2.2.1.all fun c=>qW c b.2.2.2.2.1)&&(T2 s b s&&T2 b s s))) (fun i g hi hg kn=>?_) (fun kn=>?_)).trans ?_
 rotate_right
 ·cases s.2.1.all fun g=>qW g b.2.1<;>rfl
 ·try dsimp only
  unfold rh;rw[Ó hi,É hg,show pA ((b.1.1,b.1.2),b.2.1,b.2.2.1,b.2.2.2.1,b.2.2.2.2.1,b.2.2.2.2.2) g=pA b g from rfl,ako b1,À,Ì hi (by omega)]
  cases qW g b.2.1<;>rfl
 ·try dsimp only
  unfold rh;rw[Ü];dsimp only;refine(Pc s.2.2.2.2.1 (fun c=>qW c b.2.2.2.2.1) some (some (T2 s b s&&T2 b s s)) (fun i c hi hc kn=>?_) (fun kn=>?_)).trans ?_
  rotate_right
  ·cases s.2.2.2.2.1.all fun c=>qW c b.2.2.2.2.1<;>rfl
  ·try dsimp only
   unfold rg;have hp:=hs.piles c (List.mem_of_getElem? hc);rw[Ó hi];refine(aa2 b.2.2.2.2.1 (fun x=>decide (c=x)) (fun z7=>ifb (!z7) (some false) (ck ((i:Int)+(1:Int)) fun n8=>kn n8)) false (fun j x v hj hx kn'=>?_) (fun v kn'=>?_)).trans ?_
   ·try dsimp only
    unfold rf;rw[Ó hj]
    cases v with
    |true=>rw[Ĝ,Ì hj (by omega)]; rfl
    |false=>rw[å,É hc,É hx,anK hp.1 hp.2,À,Ì hj (by omega)]; rfl
   ·try dsimp only
    unfold rf;rw[Ü]
   ·rw[Ì hi (by omega),Bool.false_or,show(b.2.2.2.2.1.any fun x=>decide (c=x))=qW c b.2.2.2.2.1 from rfl]
    cases qW c b.2.2.2.2.1<;>rfl
  ·try dsimp only
   unfold rg;rw[Ü];dsimp only;rw[aeY hs hb hs,À,aeY hb hs hs,À]
   cases T2 s b s<;>rfl
def V2 (L:List Lk):Int→Int→List Int→Int×Int×Bool
 |u,s,[]=>(s,u,true)
 |u,s,i::t=>if i7 L i=true∨(L[i.toNat]?.getD (0,0,0)).1≠u then(0,0,false) else V2 L (L[i.toNat]?.getD (0,0,0)).2.1 (s+(L[i.toNat]?.getD (0,0,0)).2.2) t
def Pm {L:List Lk}:∀(l:List Int) (u s:Int),(∀i∈l,i7 L i=false)→V2 L u s l=((l7 L u s l).2.1,(l7 L u s l).1,(l7 L u s l).2.2)
 |[],u,s,_=>rfl
 |i::t,u,s,h=>by
  unfold V2 l7;have h1:=h i (by simp)
  by_cases hc:(L[i.toNat]?.getD (0,0,0)).1=u
  ·rw[if_neg (by simp[h1,hc]),if_pos hc];exact Pm t _ _ fun j hj=>h j (by simp[hj])
  ·rw[if_pos (.inr hc),if_neg hc]
def aht {L:List Lk}:∀(l:List Int) (u s:Int),(∃i∈l,i7 L i=true)→(V2 L u s l).2.2=false
 |[],u,s,⟨i,h,_⟩=>by simp at h
 |i::t,u,s,⟨j,hj,hb⟩=>by
  unfold V2
  split
  ·rfl
  ·rename_i h1;rcases df.1 hj with rfl|hj
   ·exact absurd (.inl hb) h1
   ·exact aht t _ _ ⟨j,hj,hb⟩
section
variable {L:List Lk} {N:Nat}
def anD (hS:Ħ L N) (u:Int) {l:List Int} (hl:l.length≤90):I0 ((N:Int),L) u l=some (V2 L u 0 l):=by
 have hl3:=hS.len;unfold I0 Y1;dsimp only
 have:=qk (f:=fun(v7:Int×Int×Int) kk11=>vS l L v7.1 v7.2.1 v7.2.2 (fun u8 u9 u10=>kk11 (u8,u9,u10)) (fun z5=>some (z5.1,z5.2.1,z5.2.2)) (fun z6=>some (z6.2,z6.1,true)))
  (F:=fun v=>some (V2 L v.1 v.2.1 (l.drop v.2.2.toNat))) (fun v=>∃i:Nat,v.2.2=i∧i≤l.length∧(-(i*4503599627370496)≤v.2.1∧v.2.1≤i*4503599627370496)) (fun v=>l.length-v.2.2.toNat) (fun v hv kn hk=>?_) (x:=(u,(0:Int),(0:Int))) ⟨0,rfl,by omega,by simp⟩
 ·exact this
 ·obtain⟨w,s,n⟩:=v;obtain⟨i,e,h1,h2⟩:=hv;dsimp only at e h2 hk ⊢;subst e;rw[Int.toNat_natCast] at hk ⊢;unfold vS;rcases Nat.lt_or_ge i l.length with h3|h3
  ·have ha:l[i]?=some l[i]:=List.getElem?_eq_getElem h3;have hd:l.drop i=l[i]::l.drop (i+1):=List.drop_eq_getElem_cons h3;rw[hd];generalize l[i]=a at ha;rw[Ó h3];simp only[É ha];unfold V2
   by_cases c1:a<0
   ·rw[Ô (decide_eq_true c1),if_pos (.inl (by simp[i7,c1]))]
   rw[Ò (decide_eq_false c1),á]
   by_cases c2:(L.length:Int)≤a
   ·rw[Ô (decide_eq_true c2),if_pos (.inl (by simp[i7,c2]))]
   rw[Ò (decide_eq_false (by omega))];have hg:L[a.toNat]?=some L[a.toNat]:=cQ (by omega);have hm:=hS.most _ (cZ hg);generalize L[a.toNat]=x at hg hm;simp only[Μ (show 0≤a by omega) hg];rw[hg];simp only[fu]
   have hb:i7 L a=false:=by simp[i7]; omega
   by_cases hc:x.1=w
   ·rw[Ò (by rw[hc]; exact bne_self_eq_false' _),if_neg (by simp[hb,hc]),Õ (by omega) (by omega),Ì h3 (by omega),hk _ ⟨i+1,by push_cast; rfl,h3,by dsimp only; push_cast; omega⟩ (by simp; omega)];simp
   ·rw[Ô (bne_iff_ne.2 hc),if_pos (.inr hc)]
  ·obtain rfl:i=l.length:=by omega
   rw[Ü,gP];rfl
def aeB (u v n:Int) (l:List Int):ù L u v l=(n,0)↔l.length≤80∧(V2 L u 0 l).2.2=true∧(V2 L u 0 l).2.1=v∧(V2 L u 0 l).1=n:=by
 unfold ù iL
 by_cases h:80<l.length
 ·rw[if_pos h,if_pos (by omega)];simp only[Prod.mk.injEq];constructor
  ·rintro⟨_,h2⟩; omega
  ·rintro⟨h2,_⟩; omega
 ·rw[if_neg h]
  cases ha:l.any (i7 L) with
  |true =>
   obtain⟨i,hi,hb⟩:=dQ.1 ha;have:=aht l u 0 ⟨i,hi,hb⟩;rw[this];simp
  |false =>
   have hall:∀i∈l,i7 L i=false:=fun i hi=>Bool.eq_false_iff.2 (List.any_eq_false.1 ha i hi);rw[Pm l u 0 hall];dsimp only;simp only[Bool.false_eq_true,if_false,ne_eq,not_true_eq_false];constructor
   ·intro h2
    split at h2
    ·rename_i h3;simp only[Prod.mk.injEq,and_true] at h2;exact⟨by omega,h3.1,h3.2,h2⟩
    ·simp at h2
   ·rintro⟨_,h3,h4,h5⟩;rw[if_pos ⟨h3,h4⟩,h5]
end
def aqp {L:List Lk} {N:Nat} (hS:Ħ L N) (u:Int) {l:List Int} (hl:l.length≤90) : -1000000000000000000≤(V2 L u 0 l).1∧(V2 L u 0 l).1≤1000000000000000000:=by
 cases ha:l.any (i7 L) with
 |true =>
  have:∀(l:List Int) (u s:Int),(∃i∈l,i7 L i=true)→(V2 L u s l).1=0:=by
   intro l
   induction l with
   |nil=>rintro u s ⟨i,h,_⟩; simp at h
   |cons i t ih =>
    rintro u s ⟨j,hj,hb⟩;unfold V2
    split
    ·rfl
    ·rename_i h1;rcases df.1 hj with rfl|hj
     ·exact absurd (.inl hb) h1
     ·exact ih _ _ ⟨j,hj,hb⟩
  obtain⟨i,hi,hb⟩:=dQ.1 ha;rw[this l u 0 ⟨i,hi,hb⟩];omega
 |false =>
  rw[Pm l u 0 fun i hi=>Bool.eq_false_iff.2 (List.any_eq_false.1 ha i hi)];have:=afa hS l u 0 0 (by simp);dsimp only;omega
def tB {c:akt} (hs:ō c.1) (hl:c.2.2.2.2.length≤90):č c=some (ja c):=by
 unfold č sO ja;rw[TS hs,À]
 by_cases hc:ê c.1=0
 case neg=>rw[Ô (bne_iff_ne.2 hc),if_pos hc]
 have hg:=(ì c.1).1 hc;have hS:=hg.sys;rw[Ò (by rw[hc]; rfl),if_neg (by simp[hc]),vr hg.pre,À]
 by_cases h0:mN c.1 c.2.1.1 c.2.1.2=0
 ·rw[Ô (beq_iff_eq.2 h0),if_pos h0]
 rw[Ò (beq_eq_false_iff_ne.2 h0),if_neg h0]
 have hbound:Bo c=some (if c.2.2.1 then decide (ù (Û c.1) 0 (mN c.1 c.2.1.1 c.2.1.2) c.2.2.2.2=(c.2.2.2.1,0)) else decide (ù (Û c.1) (mN c.1 c.2.1.1 c.2.1.2) 0 c.2.2.2.2=(-c.2.2.2.1,0))):=by
  unfold Bo J8;rw[XJ hg,À,vr hg.pre,À,á,show(((Í c.1).length:Int)+1,Û c.1)=((((Í c.1).length+1:Nat):Int),Û c.1) by push_cast; rfl]
  have key:∀(u v n:Int),(ifb (ile (c.2.2.2.2.length:Int) (80:Int)) (ifb (V2 (Û c.1) u 0 c.2.2.2.2).2.2 (ifb (ieq (V2 (Û c.1) u 0 c.2.2.2.2).2.1 v) (some (ieq (V2 (Û c.1) u 0 c.2.2.2.2).1 n)) (some false)) (some false)) (some false))=some (decide (ù (Û c.1) u v c.2.2.2.2=(n,0))):=by
   intro u v n;have hiff:=aeB (L:=Û c.1) u v n c.2.2.2.2
   by_cases h1:c.2.2.2.2.length≤80
   ·rw[Ô (decide_eq_true (by omega))]
    cases h2:(V2 (Û c.1) u 0 c.2.2.2.2).2.2 with
    |false=>rw[å,decide_eq_false fun h=>by have:=(hiff.1 h).2.1; rw[h2] at this; cases this]
    |true =>
     rw[Ĝ]
     by_cases h3:(V2 (Û c.1) u 0 c.2.2.2.2).2.1=v
     ·rw[Ô (beq_iff_eq.2 h3)];congr 1;rw[dJ];simp only[ieq,beq_iff_eq,decide_eq_true_eq];exact⟨fun h=>hiff.2 ⟨h1,h2,h3,h⟩,fun h=>(hiff.1 h).2.2.2⟩
     ·rw[Ò (beq_eq_false_iff_ne.2 h3),decide_eq_false fun h=>h3 (hiff.1 h).2.2.1]
   ·rw[Ò (decide_eq_false (by omega)),decide_eq_false fun h=>h1 (hiff.1 h).1]
  cases hu:c.2.2.1 with
  |true =>
   rw[d9,å,anD hS 0 hl,À,if_pos rfl];exact key _ _ _
  |false =>
   rw[gh,Ĝ,if_neg (by simp)];have hb:=aqp hS (mN c.1 c.2.1.1 c.2.1.2) hl
   have hout:(c.2.2.2.1 < -1152921504606846976∨1152921504606846976<c.2.2.2.1)→decide (ù (Û c.1) (mN c.1 c.2.1.1 c.2.1.2) 0 c.2.2.2.2=(-c.2.2.2.1,0))=false:=fun ho=>decide_eq_false fun h=>by
    have:=((aeB (L:=Û c.1) (mN c.1 c.2.1.1 c.2.1.2) 0 (-c.2.2.2.1) c.2.2.2.2).1 h).2.2.2;omega
   by_cases h1:c.2.2.2.1 < -1152921504606846976
   ·rw[Ô (decide_eq_true h1),hout (.inl h1)]
   rw[Ò (decide_eq_false h1)]
   by_cases h2:1152921504606846976<c.2.2.2.1
   ·rw[Ô (decide_eq_true h2),hout (.inr h2)]
   rw[Ò (decide_eq_false (by omega)),Õ (by omega) (by omega),anD hS _ hl,À,Int.zero_sub];exact key _ _ _
 rw[hbound,À]
 cases hu:c.2.2.1 with
 |true =>
  rw[if_pos rfl,if_pos rfl]
  by_cases h:ù (Û c.1) 0 (mN c.1 c.2.1.1 c.2.1.2) c.2.2.2.2=(c.2.2.2.1,0)
  ·rw[decide_eq_true h,if_pos h]; rfl
  ·rw[decide_eq_false h,if_neg h]; rfl
 |false =>
  rw[if_neg (by simp),if_neg (by simp)]
  by_cases h:ù (Û c.1) (mN c.1 c.2.1.1 c.2.1.2) 0 c.2.2.2.2=(-c.2.2.2.1,0)
  ·rw[decide_eq_true h,if_pos h]; rfl
  ·rw[decide_eq_false h,if_neg h]; rfl
def ag6 {l m:List Int} (hn:l.length≤1000000):jN l m=some (decide (l=m)):=by
 unfold jN vQ;rw[á,á]
 by_cases hl:l.length=m.length
 ·rw[Ò (by simp[ine,hl])];refine eG (iq l (fun i a=>if m[i]?=some a then none else some false) some (some true) (fun i a hi ha kn=>?_) (fun kn=>?_)) ?_
  ·try dsimp only
   unfold km;have hm:m[i]?=some m[i]:=List.getElem?_eq_getElem (by omega);rw[Ó hi,É ha,É hm,Ì hi (by omega),hm,Ė]
   by_cases h:a=m[i]
   ·simp[ine,h]
   ·have h':¬m[i]=a:=fun e=>h e.symm;simp[ine,h,h']
  ·try dsimp only
   unfold km;rw[Ü]
  ·cases h:Ĩ (fun i a=>if m[i]?=some a then none else some false) 0 l with
   |none=>simp[Fx hl h]
   |some b =>
    obtain⟨h1,h2⟩:=Fw h;simp[h1,h2]
 ·rw[Ô (by simp[ine]; omega)];have:l≠m:=fun e=>hl (by rw[e]);simp[this]
def IB {ρ α:Type} (l:List α) (K:Option ρ) {f:Int→(Int→Option ρ)→Option ρ} (h:∀(i:Nat) (a:α),i<l.length→l[i]?=some a→∀kn,f i kn=kn ((i:Int)+1)) (hn:∀kn,f l.length kn=K):Ñ f 0=K:=by
 refine eG (Υ l (fun _=>false) (fun _=>K) K (fun i a hi ha kn=>by rw[h i a hi ha kn]; rfl) hn) ?_;rw[dT.2 (by simp)]
def VX {l:List (Int×Int)} (hn:l.length≤1000000):j9 l l=some true:=by rw[aeV hn]; simp
def Jw {l:List Int} (hn:l.length≤1000000):jN l l=some true:=by rw[ag6 hn]; simp
def OE {c:Cmp} (hA:c.2.2.1.length≤1000) (hB:c.2.2.2.1.length≤1000):ku c c=some true:=by
 unfold ku oj;rw[Jw (by omega),À,Jw (by omega),À];simp[ieq,ü]
def ant {b:Þ} (hs:ō b):qu b b=some true:=by
 have h1:=hs.gauges; have h2:=hs.uses; have h3:=hs.loans; have h4:=hs.compares; have h5:=hs.looks;unfold qu Qx;rw[Ò (by simp[ü]),Ò (show ine (Ú b.2.1) (Ú b.2.1)=false by simp[ine]),Ò (show ine (Ú b.2.2.1) (Ú b.2.2.1)=false by simp[ine]),Ò (show ine (Ú b.2.2.2.1) (Ú b.2.2.2.1)=false by simp[ine]),Ò (show ine (Ú b.2.2.2.2.1) (Ú b.2.2.2.2.1)=false by simp[ine])];refine IB b.2.1 _ (fun i a hi ha kn=>?_) (fun kn=>?_)
 ·try dsimp only
  unfold rA;rw[Ó hi,É ha,É ha,Ì hi (by omega)];simp[ü]
 ·try dsimp only
  unfold rA;rw[Ü];dsimp only;refine IB b.2.2.1 _ (fun i a hi ha kn=>?_) (fun kn=>?_)
  ·try dsimp only
   unfold rz;rw[Ó hi,É ha,É ha,Ì hi (by omega)];simp[ü]
  ·try dsimp only
   unfold rz;rw[Ü];dsimp only;refine IB b.2.2.2.1 _ (fun i a hi ha kn=>?_) (fun kn=>?_)
   ·try dsimp only
    unfold ru;rw[Ó hi,É ha,É ha,Ì hi (by omega)];simp[ü]
   ·try dsimp only
    unfold ru;rw[Ü];dsimp only;refine IB b.2.2.2.2.1 _ (fun i a hi ha kn=>?_) (fun kn=>?_)
    ·try dsimp only
     unfold rt;have hp:=hs.piles a (List.mem_of_getElem? ha);rw[Ó hi,É ha,É ha,OE hp.1 hp.2,À,Ì hi (by omega)];rfl
    ·try dsimp only
     unfold rt;rw[Ü];dsimp only;rw[VX (by omega),À]
def Same0:qu i6 i6=some true:=ant ⟨by simp[i6],by simp[i6],by simp[i6],by simp[i6],by simp[i6],by simp[i6]⟩
def abE:∀{ns:List (Int×Int)} {b:Þ},(ŋ b ns).2=0→∀s:Þ,xS s (ŋ b ns).1=xS s b
 |[],b,_,s=>rfl
 |n::t,b,e,s=>by
  unfold ŋ at e ⊢
  split
  ·rename_i h1; rw[if_pos h1] at e; exact absurd e h1
  ·rename_i h1;rw[if_neg h1] at e;rw[abE e s];unfold jS at h1 ⊢
   split
   ·rfl
   ·split
    ·rename_i h2 h3; rw[if_neg h2,if_pos h3] at h1; exact absurd h3 (by simpa using h1)
    ·rfl
def anu:jL Fg Fg=some true:=by
 unfold jL vJ;rw[show qu Fg.1 Fg.1=qu i6 i6 from rfl,Same0,À,Ĝ,Ô (by rfl),Ô (by rfl),Ô (by rfl)];rw[show Χ Fg.2.2.2.2 Fg.2.2.2.2=Χ [] [] from rfl,TT (by simp),À];rfl
def arj {c:akt} (hv : -4503599627370496≤c.2.2.2.1∧c.2.2.2.1≤4503599627370496) (hd:0≤c.2.1.2∧c.2.1.2≤20000) (hl:c.2.2.2.2.length≤90) (hi:∀i∈c.2.2.2.2,0≤i∧i≤1000) (w y:Int) :
 ∃x:akt,nQ c w y=some x∧x.1=c.1∧I64 x.2.2.2.1∧x.2.2.2.2.length≤90:=by
 have h64:I64 c.2.2.2.1:=⟨by omega,by omega⟩;have t50:=Int.lt_tmod_of_pos y (show(0:Int)<50 by decide);have t50':=Int.tmod_lt_of_pos y (show(0:Int)<50 by decide);have t3:=Int.lt_tmod_of_pos y (show(0:Int)<3 by decide);have t3':=Int.tmod_lt_of_pos y (show(0:Int)<3 by decide);unfold nQ P1
 by_cases c0:Int.tmod w 5=0
 ·rw[Ô (beq_iff_eq.2 c0),Õ (by omega) (by omega)];exact⟨_,rfl,rfl,⟨by dsimp only; omega,by dsimp only; omega⟩,hl⟩
 rw[Ò (beq_eq_false_iff_ne.2 c0)]
 by_cases c1:Int.tmod w 5=1
 ·rw[Ô (beq_iff_eq.2 c1)];exact⟨_,rfl,rfl,h64,hl⟩
 rw[Ò (beq_eq_false_iff_ne.2 c1)]
 by_cases c2:Int.tmod w 5=2
 ·rw[Ô (beq_iff_eq.2 c2),Õ (by omega) (by omega)];exact⟨_,rfl,rfl,h64,hl⟩
 rw[Ò (beq_eq_false_iff_ne.2 c2)]
 by_cases c3:Int.tmod w 5=3
 ·rw[Ô (beq_iff_eq.2 c3)]
  by_cases h0:c.2.2.2.2.length=0
  ·rw[Ò (by rw[á,h0]; rfl)];exact⟨_,rfl,rfl,h64,hl⟩
  rw[Ô (by rw[á]; exact decide_eq_true (by omega)),Ø (by omega),Am.iff_true,fN]
  have q0:0≤IntKind.wrap .i64 (IntKind.wrap .u8 (Int.tdiv w 5)):=by
   simp[IntKind.wrap,IntKind.bits,IntKind.signed]
   split<;>omega
  generalize IntKind.wrap .i64 (IntKind.wrap .u8 (Int.tdiv w 5))=q at q0;have k0:=Int.tmod_nonneg (c.2.2.2.2.length:Int) q0;have k1:=Int.tmod_lt_of_pos q (show(0:Int)<c.2.2.2.2.length by omega);rw[á];generalize hk:Int.tmod q (c.2.2.2.2.length:Int)=k at k0 k1;have hg:c.2.2.2.2[k.toNat]?=some (c.2.2.2.2[k.toNat]'(by omega)):=List.getElem?_eq_getElem (by omega);have he:=hi _ (List.mem_of_getElem? hg);generalize c.2.2.2.2[k.toNat]'(by omega)=e at hg he;rw[Ò (show ü (c.2.2.2.2.length:Int) 0=false from decide_eq_false (by omega)),aan,Μ k0 hg,Õ (by omega) (by omega),aan,Μ k0 hg];exact⟨_,rfl,rfl,h64,by dsimp only; rw[List.length_set]; exact hl⟩
 rw[Ò (beq_eq_false_iff_ne.2 c3)]
 by_cases h0:c.2.2.2.2.length=0
 ·rw[Ò (by rw[á,h0]; rfl)];exact⟨_,rfl,rfl,h64,hl⟩
 rw[Ô (by rw[á]; exact decide_eq_true (by omega)),Ĭ (by simp only[ile,Ĕ]; exact decide_eq_true (by omega))];exact⟨_,rfl,rfl,h64,by dsimp only; rw[List.length_drop]; omega⟩
def amI {b:Þ} (hn:∀g∈b.2.1,I64 g.2.2.2.2.1.1) (n:Int×Int) (upper:Bool) {c:akt} (hcn:∀g∈c.1.2.1,I64 g.2.2.2.2.1.1) (hv:I64 c.2.2.2.1) (w y:Int):qt b n upper c w y=some true:=by
 unfold qt pM;rw[aqa,À,aqa,À,ai7]
 by_cases hf:fewP b=true
 case neg=>rw[eF.2 hf]; rfl
 have hI:In b:=⟨ail hf,hn⟩;rw[hf,Ò (by rfl)]
 by_cases hf2:fewP c.1=true
 case neg=>rw[eF.2 hf2]; rfl
 have hIc:In c.1:=⟨ail hf2,hcn⟩;rw[hf2,Ò (by rfl),á]
 by_cases l1:90<c.2.2.2.2.length
 ·rw[Ô (decide_eq_true (by omega)),À]
 rw[Ò (decide_eq_false (by omega)),XL hI,À,arv hI (by simp),À,oa hIc hv,À,tB hIc.size (by omega),À,aoP]
 by_cases ho:(ċ b [n]).2=0
 case neg =>
  have e:jQ b n upper=(Fg,(ċ b [n]).2):=by unfold jQ; rw[if_pos ho]
  rw[e,Ò (by simp[ine]),Ò (by simp[ine]),Ô (bne_iff_ne.2 ho),À,Ĝ];rw[show jL (Fg,(ċ b [n]).2).1 ((((0:Int),(0:Int)),[],[],[],[],[]),((0:Int),(0:Int)),false,(0:Int),[])=jL Fg Fg from rfl,anu,À]
 have hA:=ajh hI ho;have hr:=hA.room;have hnode:=hA.nodes n (by simp);have hroom:=j4 hI ho
 have hpart:∀s,xS s (ċ b [n]).1=xS s b:=fun s=>by rw[hroom.2.1]; exact abE hroom.2.2.1 s
 have hR':=JR hr hnode upper;have hn':=JS hr hnode upper
 have e:jQ b n upper=(qL (ċ b [n]).1 n upper,0):=by
  unfold jQ;rw[if_neg (by simp[ho]),if_neg (by simp[(ì _).2 hR'.good]),if_pos hR'.op]
 rw[e,alX ho,Ò (by simp[ine,ho]),Ò (by simp[ine]),Ò (by rfl)];have hpp:=Wd hr hnode upper;rw[hpart] at hpp;generalize (ċ b [n]).1=B at hr hnode hR' hn' hpp;have hx:=ŗ B n;have hd0:=ao7 hr hx;dsimp only;rw[kAt_ok hr.good,À,ad4 hr _ _ hx,À];have hcx:=Xx hR'.good n upper;have hlen:=hR'.good.sys.len;have hIx:In (qL B n upper).1:=amB (hr.good.inn hr.num) _ (by simp)
 have hval : -4503599627370496≤(qL B n upper).2.2.2.1∧(qL B n upper).2.2.2.1≤4503599627370496:=by
  unfold qL;dsimp only
  cases upper with
  |true=>rw[if_pos rfl]; simp only[ivR]; omega
  |false=>rw[if_neg (by simp)]; simp only[ivR]; omega
 have hday:0≤(qL B n upper).2.1.2∧(qL B n upper).2.1.2≤20000:=by
  obtain⟨g,hg,_,hgd⟩:=hnode;exact(hr.good.day hg hgd).2
 obtain⟨x,x1,x2,x3,x4⟩:=arj hval hday (show(qL B n upper).2.2.2.2.length≤90 by have:=hcx.2; unfold qL; dsimp only; omega) (fun i hi=>by have:=hcx.1 i hi; omega) w y
 have fin:(Ã (č (qL B n upper)) fun r14=>ifb (ine r14 (0:Int)) (some false) (Ã (nR (qL B n upper).1 b) fun r15=>ifb (!r15) (some false) (Ã (Ĉ (qL B n upper)) fun r16=>ifb (ine r16 (0:Int)) (some false) (Ã (nQ (qL B n upper) w y) fun r17=>Ã (some true) fun r18=>ifb r18 (Ã (Ĉ r17) fun r19=>Ã (č r17) fun r20=>some (ieq r19 r20)) (some false)))))=some true:=by
  rw[tB hIx.size (by have:=hcx.2; unfold qL; dsimp only; omega),À,Nh hr hnode upper,Ò (by rfl),anL hIx.size hI.size,À];rw[show xS (qL B n upper).1 b=true from hpp,Ò (by rfl),oa hIx ⟨by omega,by omega⟩,À,Nh hr hnode upper,Ò (by rfl),x1,À,À,Ĝ]
  have hIx2:In x.1:=by rw[x2]; exact hIx
  rw[oa hIx2 x3,À,tB hIx2.size x4,À];simp[ieq]
 have hend:=abW hr hnode upper;rw[Ò (by simp[ü,qL]),Ò (by simp[qL])]
 cases upper with
 |true =>
  rw[Ĝ,Ò (by simp[ine,qL,ivR]),d9,å];exact fin
 |false =>
  rw[å,gh,Ĝ,Ò (by simp[ine,qL,ivR])];exact fin
end Go.Proofs.ZzM
end
