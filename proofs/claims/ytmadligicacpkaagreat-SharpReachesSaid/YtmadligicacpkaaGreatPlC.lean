/- lemmas -/
import Derived.Test.YtmadligicacpkaaGreatPlA
import Derived.Test.YtmadligicacpkaaGreatPlB
set_option linter.all false
set_option linter.unusedSectionVars false
set_option linter.unusedVariables false
set_option linter.unusedSimpArgs false
noncomputable section
namespace Go.Proofs.ZzM
open Go Go.Am
def Hm {b:Ü} (h:Pre b) (n:Int×Int):ō b n=some (pI b n.1 n.2):=by
 have hl:=HI h.size;unfold ō HW;rw[Hl h,À];refine Eq.trans (gI (Ê b) (fun m=>decide (n.1=m.1)&&decide (n.2=m.2)) (fun z=>some (z+1)) (some 0) (fun i a hi ha kn=>?_) (fun kn=>?_)) ?_
 ·try dsimp only
  unfold nV;rw[Ó hi,Ë ha,Î hi (by omega),Î hi (by omega),Ğ,Bool.and_true]
  have e:(ł a.1 n.1&&ł a.2 n.2)=(decide (n.1=a.1)&&decide (n.2=a.2)):=by
   rw[dH];simp only[ł,cI,decide_eq_true_eq];exact and_congr eq_comm eq_comm
  rw[e]
 ·try dsimp only
  unfold nV;rw[à]
 ·unfold pI gV
  cases List.findIdx? (fun m=>decide (n.1=m.1)&&decide (n.2=m.2)) (Ê b)<;>rfl
def aiB {b:Ü} (h:Pre b) (p q:List Int) (d:Int):pI b (K7 p q) d=atP (Ê b) (å p q) d:=by
 unfold pI atP K7
 cases hl:å p q with
 |nil =>
  simp only[List.head?_nil,gx]
  have:gV (Ê b) 0 d=none:=by
   unfold gV;rw[List.findIdx?_eq_none_iff];intro n hn;obtain⟨g,hg,hn⟩:=List.mem_flatMap.1 hn;obtain⟨e,_,rfl⟩:=List.mem_map.1 hn;have:=((s7 g).1 (h.gauge g hg)).2.2.2.1
   have:¬((0:Int)=g.1):=by omega
   simp[this]
  rw[this]
 |cons x t=>rfl
section
variable {b:Ü}
def akR {k:Nat} (hk:k<(Ê b).length):∃(i:Nat) (g:é) (j:Nat) (d:Int),b.2.1[i]?=some g∧(Þ b g)[j]?=some d∧k=off b i+j∧(Ê b)[k]?=some (g.1,d):=by
 obtain⟨i,g,j,h1,h2,h3⟩:=aeC (b:=b) b.2.1.length (cH _) k (by rw[ahS]; exact hk);have hd:(Þ b g)[j]?=some (Þ b g)[j]:=cG h2;exact⟨i,g,j,_,h1,hd,h3,by rw[h3]; exact Ml h1 hd⟩
def afJ (h:đ b) {i j:Nat} {g g':é} (hi:b.2.1[i]?=some g) (hj:b.2.1[j]?=some g') (he:g.1=g'.1):i=j∧g=g':=by
 obtain⟨h1,rfl⟩:=cM.1 hi;obtain⟨h2,rfl⟩:=cM.1 hj;have hp:=dC.1 h.ids;rcases Nat.lt_trichotomy i j with hlt|rfl|hlt
 ·have:=hp i j h1 h2 hlt; omega
 ·exact⟨rfl,rfl⟩
 ·have:=hp j i h2 h1 hlt; omega
def pn (b:Ü) (i:Nat) (g:é) (k:Nat):List Lk :=
 if k≤off b i then[] else[(0,(off b i:Int)+1,g.2.2.1+g.2.2.2.1.2),((off b i:Int)+1,0,-(g.2.2.1+g.2.2.2.1.1))] ++
  (List.range (min (k-off b i-1) ((Þ b g).length-1))).flatMap fun(k:Nat)=>[((off b i:Int)+1+k,(off b i:Int)+1+k+1,0),((off b i:Int)+1+k+1,(off b i:Int)+1+k,iw b g ((Þ b g)[k]?.getD 0) ((Þ b g)[k+1]?.getD 0))]
def hZ (b:Ü) (i:Nat) (g:é) (k:Nat):List (Int×Int) :=
 if k≤off b i then[] else[(1,(i:Int)),(1,(i:Int))]++(List.range (min (k-off b i-1) ((Þ b g).length-1))).flatMap fun _=>[(2,(i:Int)),(2,(i:Int))]
def agf (h:đ b) {i:Nat} {g:é} (hg:b.2.1[i]?=some g):pn b i g (Ê b).length=ô b g∧hZ b i g (Ê b).length=ò b i g:=by
 have ho:=ahR h hg;have hp:=fR (jI (b:=b) g)
 have e:min ((Ê b).length-off b i-1) ((Þ b g).length-1)=(Þ b g).length-1:=by omega
 unfold pn hZ ô ò;rw[if_neg (by omega),if_neg (by omega),e,afl h hg];exact⟨rfl,rfl⟩
def aaS {i:Nat} {g:é} {k:Nat} (hk:k<off b i∨off b i+(Þ b g).length≤k) (hp:0<(Þ b g).length):pn b i g (k+1)=pn b i g k∧hZ b i g (k+1)=hZ b i g k:=by
 unfold pn hZ;rcases hk with hk|hk
 ·rw[if_pos (by omega),if_pos (by omega),if_pos (by omega),if_pos (by omega)];exact⟨rfl,rfl⟩
 ·have e:min (k+1-off b i-1) ((Þ b g).length-1)=min (k-off b i-1) ((Þ b g).length-1):=by omega
  rw[if_neg (by omega),if_neg (by omega),if_neg (by omega),if_neg (by omega),e];exact⟨rfl,rfl⟩
def aaT {i:Nat} {g:é}:pn b i g (off b i+1)=pn b i g (off b i)++[(0,(off b i:Int)+1,g.2.2.1+g.2.2.2.1.2),((off b i:Int)+1,0,-(g.2.2.1+g.2.2.2.1.1))]∧hZ b i g (off b i+1)=hZ b i g (off b i)++[(1,(i:Int)),(1,(i:Int))]:=by
 unfold pn hZ;rw[if_neg (by omega),if_pos (Nat.le_refl _),if_neg (by omega),if_pos (Nat.le_refl _),show off b i+1-off b i-1=0 by omega,Nat.zero_min];exact⟨by simp,by simp⟩
def adh {i:Nat} {g:é} {j:Nat} (hj:j+1<(Þ b g).length):pn b i g (off b i+(j+1)+1)=pn b i g (off b i+(j+1))++[((off b i:Int)+1+j,(off b i:Int)+1+j+1,0),((off b i:Int)+1+j+1,(off b i:Int)+1+j,iw b g ((Þ b g)[j]?.getD 0) ((Þ b g)[j+1]?.getD 0))] ∧
 hZ b i g (off b i+(j+1)+1)=hZ b i g (off b i+(j+1))++[(2,(i:Int)),(2,(i:Int))]:=by
 unfold pn hZ;rw[if_neg (by omega),if_neg (by omega),if_neg (by omega),if_neg (by omega),show min (off b i+(j+1)+1-off b i-1) ((Þ b g).length-1)=j+1 by omega,show min (off b i+(j+1)-off b i-1) ((Þ b g).length-1)=j by omega,rO,rO];exact⟨by simp,by simp⟩
def age (i:Nat) (g:é) (k:Nat) (hd:(Þ b g).length≤59):(pn b i g k).length≤120∧(hZ b i g k).length≤120:=by
 unfold pn hZ;constructor
 ·split
  ·simp
  ·rw[cJ,Ů _ _ (fun _=>rfl)];simp only[cW,dj]; omega
 ·split
  ·simp
  ·rw[cJ,Ů _ _ (fun _=>rfl)];simp only[cW,dj]; omega
set_option maxHeartbeats 1000000 in
def ahi (h:đ b) {i:Nat} {g:é} (hg:b.2.1[i]?=some g) {L:List Lk} {S:List (Int×Int)} (hL:L.length≤100000) (hS:S.length≤100000) (K:List Lk×List (Int×Int)→Option (List Lk×List (Int×Int))) :
 Ñ (fun(v21:Int×List Lk×List (Int×Int)) kk25=>oR (Ê b) (i:Int) b.1.1 b.1.2 b.2.1 b.2.2.1 b.2.2.2.1 b.2.2.2.2.1 b.2.2.2.2.2 g.1 g.2.1 g.2.2.1 g.2.2.2.1.1 g.2.2.2.1.2 v21.1 v21.2.1 v21.2.2 (fun u22 u23 u24=>kk25 (u22,u23,u24)) K) ((0:Int),L,S)=K (L++ô b g,S++ò b i g):=by
 have hN:=h.nodes;have hgm:=cO hg;have hdl:=G3 h hgm;have hp:=fR (jI (b:=b) g);have hr:=h.gaugeR hgm;have r1:=hr.2.2.2.2.2.1;have r2:=hr.2.2.2.2.2.2.1;obtain⟨tl,htl⟩:=Qp h hgm;refine ð (Ê b) (fun k=>(L++pn b i g k,S++hZ b i g k)) _ (by simp[pn,hZ]) (fun k n hk hn kn=>?_) (fun kn=>?_)
 ·try dsimp only
  unfold oR;have gl:=age (b:=b) i g k hdl;rw[Ó hk,Ë hn];obtain⟨i',g',j,d,h1,h2,h3,h4⟩:=akR hk
  have hnd:n=(g'.1,d):=by rw[hn] at h4; exact Option.some.inj h4
  by_cases hsame:n.1=g.1
  ·obtain⟨hi',hgg⟩:=afJ h h1 hg (by rw[hnd] at hsame; exact hsame);subst hgg;have hin:i'=i:=hi';rw[hin] at h3 h1;rw[Ò (by simp[ine,hsame]),Ë hn]
   have hdn:n.2=d:=by rw[hnd]
   rw[hdn]
   cases j with
   |zero =>
    have hdd:d=g'.2.1:=by rw[htl] at h2; simpa using h2.symm
    have hk0:k=off b i:=by omega
    rw[Ö (by simp[ieq,hdd])];obtain⟨e1,e2⟩:=aaT (b:=b) (i:=i) (g:=g');rw[←hk0] at e1 e2;rw[Î hk (by omega),Õ (by omega) (by omega),Î hk (by omega),Õ (by omega) (by omega),Õ (by omega) (by omega),Ô (by simp only[cJ,cW,dj]; omega),Am.iff_true,Ô (by simp only[cJ,cW,dj]; omega),Am.iff_true,Î hk (by omega),e1,e2]
    have e3:0-g'.2.2.1-g'.2.2.2.1.1 = -(g'.2.2.1+g'.2.2.2.1.1):=by omega
    rw[e3];simp only[dh]
   |succ j =>
    have hjl:=(cM.1 h2).1
    have hdd:d≠g'.2.1:=by
     have hp1:=vA b g';rw[htl] at h2 hp1;rw[List.getElem?_cons_succ] at h2;have:=(dA.1 hp1).1 d (cO h2);omega
    rw[Ò (by simpa[ieq] using hdd)]
    have hprev:(Þ b g')[j]?=some ((Þ b g')[j]?.getD 0):=by rw[cG (by omega)]; rfl
    have hd':d=(Þ b g')[j+1]?.getD 0:=by rw[h2]; rfl
    have hpn:=Ml h1 hprev;have d1:=h.day hgm (cO hprev);have d2:=h.day hgm (cO h2);have hk0:k=off b i+(j+1):=h3;obtain⟨e1,e2⟩:=adh (b:=b) (i:=i) (g:=g') hjl;rw[←hk0] at e1 e2
    have hkm:((k:Int)-1)=((off b i+j:Nat):Int):=by omega
    have lb:=jU h hgm (t:=d) d1.2.1;rw[Qt (by omega) (by omega),hkm,Ë hpn,Ë hn,hdn]
    try dsimp only
    rw[show ta ((b.1.1,b.1.2),b.2.1,b.2.2.1,b.2.2.2.1,b.2.2.2.2.1,b.2.2.2.2.2) g'.1 ((Þ b g')[j]?.getD 0) d=ta b g'.1 ((Þ b g')[j]?.getD 0) d from rfl,al9 h (vd h.ids hgm) ⟨by omega,by omega⟩ (by omega),À,Î hk (by omega),Î hk (by omega),Ô (by simp only[cJ,cW,dj]; omega),Am.iff_true,Ô (by simp only[cJ,cW,dj]; omega),Am.iff_true,Î hk (by omega),e1,e2,←hd']
    have e3:(off b i:Int)+1+(j:Int)=(k:Int):=by omega
    rw[e3];simp only[dh]
  ·rw[Ö (by simp[ine,hsame]),Î hk (by omega)]
   have hout:k<off b i∨off b i+(Þ b g).length≤k:=by
    rcases dv k (off b i) with hlt|hge
    ·exact .inl hlt
    ·rcases dv k (off b i+(Þ b g).length) with hlt2|hge2
     ·have:=Ml hg (k:=k-off b i) (cG (by omega));rw[show off b i+(k-off b i)=k by omega,hn] at this;exact absurd (by rw[Option.some.inj this]) hsame
     ·exact .inr hge2
   obtain⟨e1,e2⟩:=aaS hout hp;rw[e1,e2]
 ·try dsimp only
  unfold oR;rw[à];obtain⟨e1,e2⟩:=agf h hg;rw[e1,e2]
end
def aa1 {α β:Type} {e:Nat→α→Option β}:∀{l:List α} {k i:Nat} {a:α} {b:β},(∀j c,j<i→l[j]?=some c→e (k+j) c=none)→l[i]?=some a→e (k+i) a=some b→Ī e k l=some b
 |[],_,_,_,_,_,ha,_=>by simp at ha
 |c::t,k,0,a,b,_,ha,hb=>by
  simp only[List.getElem?_cons_zero,Option.some.injEq] at ha;subst ha;unfold Ī;rw[Nat.add_zero] at hb;rw[hb]
 |c::t,k,i+1,a,b,h,ha,hb=>by
  unfold Ī;have h0:=h 0 c (by omega) rfl;rw[Nat.add_zero] at h0;rw[h0];refine aa1 (i:=i) (fun j d hj hd=>?_) (by simpa using ha) (by rw[←hb]; congr 1; omega);have:=h (j+1) d (by omega) (by simpa using hd);rw[←this];congr 1;omega
def Dg {ρ α β:Type} (l:List α) (e:Nat→α→Option β) (k0:β→Option ρ) (k1:Option ρ) {f:Int→(Int→Option ρ)→Option ρ}
 (h:∀(i:Nat) (a:α),i<l.length→l[i]?=some a→∀kn,f i kn=match e i a with|some b=>k0 b|none=>kn ((i:Int)+1))
 (hn:(∀j a,l[j]?=some a→e j a=none)→∀kn,f l.length kn=k1):Ñ f 0=match Ī e 0 l with|some b=>k0 b|none=>k1:=by
 refine Ņ (fun x:Int=>∃i:Nat,i≤l.length∧x=i∧∀j a,j<i→l[j]?=some a→e j a=none) (fun x=>l.length-x.toNat) ?_ ⟨0,by omega,rfl,fun j a hj=>by omega⟩;rintro x ⟨i,hi,rfl,hp⟩;rcases dv i l.length with hlt|hge
 ·have ha:l[i]?=some l[i]:=cG hlt
  cases hc:e i l[i] with
  |some b =>
   refine .inl fun kn=>?_;rw[h i _ hlt ha,hc,aa1 (k:=0) (b:=b) (fun j c hj hc=>by rw[df]; exact hp j c hj hc) ha (by rw[df]; exact hc)]
  |none =>
   refine .inr ⟨((i+1:Nat):Int),⟨i+1,hlt,rfl,fun j a hj hja=>?_⟩,by simp only[di]; omega,fun kn=>?_⟩
   ·rcases dv j i with h1|h1
    ·exact hp j a h1 hja
    ·have:j=i:=by omega
     subst this;rw[ha] at hja;rw[←Option.some.inj hja]; exact hc
   ·rw[h i _ hlt ha,hc];simp
 ·have:i=l.length:=by omega
  subst this;refine .inl fun kn=>?_;have hall:∀j a,l[j]?=some a→e j a=none:=fun j a hja=>hp j a (cM.1 hja).1 hja;rw[hn hall kn,ic.2 fun j a hja=>by rw[df]; exact hall j a hja]
def aa7 {e:Int}:aeZ e=none↔e=0:=by
 unfold aeZ
 split<;>simp_all
section
variable {b:Ü}
def Uj (h:đ b):∀i,((b.2.1.take i).flatMap (ô b)).length≤1440∧(((b.2.1.take i).mapIdx (ò b)).flatten).length≤1440:=by
 have hG:=h.nG
 have gl:∀g∈b.2.1,(ô b g).length≤120∧∀i,(ò b i g).length≤120:=by
  intro g hg;have:=G3 h hg;constructor
  ·unfold ô;rw[List.length_append,Ů _ _ (fun _=>rfl)];simp only[List.length_cons,List.length_nil]; omega
  ·intro i;unfold ò;rw[List.length_append,Ů _ _ (fun _=>rfl)];simp only[List.length_cons,List.length_nil]; omega
 have key:∀i,i≤b.2.1.length→((b.2.1.take i).flatMap (ô b)).length≤i*120∧(((b.2.1.take i).mapIdx (ò b)).flatten).length≤i*120:=by
  intro i
  induction i with
  |zero=>intro _; simp
  |succ i ih =>
   intro hi;have ih:=ih (by omega);have hg:b.2.1[i]?=some b.2.1[i]:=cG hi;have h2:=gl _ (cO hg);have h3:=h2.2 i;rw[gY _ hg,take_succ hg,eG,fo,cJ,cJ];simp only[dN,gy,dF,fT,f0];omega
 intro i;rcases dv b.2.1.length i with h1|h1
 ·rw[dP (by omega)];have:=key b.2.1.length (cH _);rw[List.take_length] at this;omega
 ·have:=key i h1;omega
set_option maxHeartbeats 1000000 in
def ajX (h:đ b):vl b=some (ß b,Ť b):=by
 have hC:=h.nC;have hG:=h.nG;unfold vl VA;rw[Hl h.pre,À];refine ð b.2.1 (fun i=>((b.2.1.take i).flatMap (ô b),((b.2.1.take i).mapIdx (ò b)).flatten)) _ rfl (fun i g hi hg kn=>?_) (fun kn=>?_)
 ·try dsimp only
  unfold tX;have hls:=Uj h i;rw[Ó hi,Ë hg];refine Eq.trans (ahi h hg (by omega) (by omega) _) ?_;rw[Î hi (by omega),gY _ hg,take_succ hg,List.flatMap_append,List.flatten_append];simp only[List.flatMap_cons,List.flatMap_nil,List.append_nil,List.flatten_cons,List.flatten_nil]
 ·try dsimp only
  unfold tX;rw[à,List.take_length];dsimp only;have hls:=Uj h b.2.1.length;rw[List.take_length] at hls;refine ð b.2.2.2.2.1 (fun i=>(b.2.1.flatMap (ô b)++(b.2.2.2.2.1.take i).flatMap (Ā b),(b.2.1.mapIdx (ò b)).flatten++((b.2.2.2.2.1.take i).mapIdx fun i _=>[((3:Int),(i:Int)),((3:Int),(i:Int))]).flatten)) _ (by simp) (fun i c hi hc kn=>?_) (fun kn=>?_)
  ·try dsimp only
   unfold tW;have hcm:=List.mem_of_getElem? hc;have hn:=(Κ c).1 (h.nums hcm);have ha:=Ĭ hn.2.2.2.2.2.1;have hb:=Ĭ hn.2.2.2.2.2.2;have hcl:=UA (b:=b) i (by omega);have sb:=Cd h hcm;rw[Ó hi,Ë hc,Jw (by omega) (by omega),À];rw[show ō ((b.1.1,b.1.2),b.2.1,b.2.2.1,b.2.2.2.1,b.2.2.2.2.1,b.2.2.2.2.2) (K7 c.2.2.1 c.2.2.2.1,c.2.1)=ō b (K7 c.2.2.1 c.2.2.2.1,c.2.1) from rfl,Hm h.pre,À,Jw (by omega) (by omega),À];rw[show ō ((b.1.1,b.1.2),b.2.1,b.2.2.1,b.2.2.2.1,b.2.2.2.2.1,b.2.2.2.2.2) (K7 c.2.2.2.1 c.2.2.1,c.2.1)=ō b (K7 c.2.2.2.1 c.2.2.1,c.2.1) from rfl,Hm h.pre,À];rw[show s9 ((b.1.1,b.1.2),b.2.1,b.2.2.1,b.2.2.2.1,b.2.2.2.2.1,b.2.2.2.2.2) c=s9 b c from rfl,al8 h.size h.film (h.cmpIn hcm),À];rw[Õ (by omega) (by omega),Ô (by simp only[List.length_append,List.length_cons,List.length_nil]; omega),Am.iff_true,Ô (by simp only[List.length_append,List.length_cons,List.length_nil]; omega),Am.iff_true,Î hi (by omega)];rw[gY _ hc,take_succ hc,List.flatMap_append,List.flatten_append,aiB h.pre,aiB h.pre];simp only[List.flatMap_cons,List.flatMap_nil,List.append_nil,List.flatten_cons,List.flatten_nil,List.append_assoc];rw[Int.zero_sub];rfl
  ·try dsimp only
   unfold tW;rw[à,List.take_length];rfl
def jJ (b:Ü) (i:Nat) (c:Cmp):Int:=if !K8 c then 1 else if (b.2.2.2.2.1.take i).any (fun x=>x.1==c.1) then 6 else AE b c
def Uu (hi:b.2.1.Pairwise fun a b=>a.1<b.1) (i:Nat) (c:Cmp):jJ b i c=oi b (gU b) i c:=by
 unfold jJ oi;rw[akK hi]
def amH (b:Ü):Int:=match (b.2.2.2.2.1.mapIdx (jJ b)).find? (fun e=>e != 0) with
 |some e=>e
 |none=>match (b.2.2.2.2.2.map (X5 b)).find? (fun e=>e != 0) with
  |some e=>e
  |none=>if 59<(Ê b).length then 2 else if 300<2*b.2.1.length+2*((Ê b).length-b.2.1.length:Int)+2*b.2.2.2.2.1.length then 2 else 0
def aiP {α:Type} {l:List α} {E:α→Int} (h:(l.map E).find? (fun e=>e != 0)=none):∀a∈l,E a=0:=by
 intro a ha;have:=ee.1 h (E a) (dQ.2 ⟨a,ha,rfl⟩);simpa using this
def agi {α:Type} {l:List α} {E:Nat→α→Int} (h:(l.mapIdx E).find? (fun e=>e != 0)=none):∀i a,l[i]?=some a→E i a=0:=by
 intro i a ha;obtain⟨hi,rfl⟩:=cM.1 ha;have:=ee.1 h (E i l[i]) (gC.2 ⟨i,hi,rfl⟩);simpa using this
def Xy {i:Nat} {c:Cmp} (h:jJ b i c=0):K8 c=true∧(å c.2.2.1 c.2.2.2.1).length≤1∧(å c.2.2.2.1 c.2.2.1).length≤1:=by
 unfold jJ at h
 split at h
 ·omega
 rename_i h1
 split at h
 ·omega
 unfold AE at h
 (repeat' split at h)<;>first|omega|exact⟨by simpa using h1,by omega,by omega⟩
set_option maxHeartbeats 4000000 in
def amG (hs:ŷ b) (hfilm:0≤b.1.1∧b.1.1≤b.1.2∧b.1.2≤1000000) (nG:b.2.1.length≤12) (nU:b.2.2.1.length≤40) (nL:b.2.2.2.1.length≤12) (nC:b.2.2.2.2.1.length≤40) (nK:b.2.2.2.2.2.length≤10)
 (hg:∀g∈b.2.1,pm g=true) (hi:b.2.1.Pairwise fun a b=>a.1<b.1) (hu:∀u∈b.2.2.1,X5 b u=0) (hl:∀i l,b.2.2.2.1[i]?=some l→SP b i l=0) :
 Ñ (fun(v41:Int) kk43=>i8 b.1.1 b.1.2 b.2.1 b.2.2.1 b.2.2.2.1 b.2.2.2.2.1 b.2.2.2.2.2 v41 (fun u42=>kk43 u42) (fun z26=>some z26) (fun _=>Ñ (fun(v38:Int) kk40=>i7 b.1.1 b.1.2 b.2.1 b.2.2.1 b.2.2.2.1 b.2.2.2.2.1 b.2.2.2.2.2 v38 (fun u39=>kk40 u39) (fun z34=>some z34) (fun _=>Ã (jh b) fun r36=>ifb (igt (Ý r36) (59:Int)) (some (2:Int)) (Ã (vl b) fun r37=>ifb (igt (Ý r37.1) (300:Int)) (some (2:Int)) (some (0:Int))))) (0:Int))) (0:Int)=some (amH b):=by
 unfold amH
 refine eI (Dg b.2.2.2.2.1 (fun i c=>aeZ (jJ b i c)) some (some (match (b.2.2.2.2.2.map (X5 b)).find? (fun e=>e != 0) with
  |some e=>e
  |none=>if 59<(Ê b).length then 2 else if 300<2*b.2.1.length+2*((Ê b).length-b.2.1.length:Int)+2*b.2.2.2.2.1.length then 2 else 0)) (fun i c hci hc kn=>?_) (fun hcz kn=>?_)) ?_
 ·try dsimp only
  unfold i8;have hp:=hs.piles c (List.mem_of_getElem? hc);rw[Ó hci,Ë hc,ajS (by omega) (by omega),À];unfold jJ aeZ
  cases K8 c with
  |false=>rfl
  |true =>
   rw[Ò (by rfl)]
   have hl9:(b.2.2.2.2.1.take i).length=i:=by rw[cY]; omega
   refine eI (į (b.2.2.2.2.1.take i) (fun x=>x.1==c.1) (fun _=>some 6) (some 6) (if AE b c=0 then kn ((i:Int)+1) else some (AE b c)) (fun _=>rfl) (fun j a hj ha kn'=>?_) (fun kn'=>?_)) ?_
   ·try dsimp only
    unfold nW;rw[hl9] at hj
    have ha':b.2.2.2.2.1[j]?=some a:=by rwa [List.getElem?_take_of_lt hj] at ha
    rw[Ö (show ilt (j:Int) (i:Int)=true by simp[ilt]; omega),Ë ha',Ë hc,Î hj (by omega),Ğ]
   ·try dsimp only
    unfold nW;rw[hl9,Ò (show ilt (i:Int) (i:Int)=false by simp[ilt])];dsimp only;rw[Ë hc,show jg ((b.1.1,b.1.2),b.2.1,b.2.2.1,b.2.2.2.1,b.2.2.2.2.1,b.2.2.2.2.2) c=jg b c from rfl,abB hs hp.1 hp.2,À,Î hci (by omega)]
    by_cases hz:AE b c=0
    ·rw[Ò (by simp[ine,hz]),if_pos hz]
    ·rw[Ö (by simp[ine,hz]),if_neg hz]
   ·cases hany:(b.2.2.2.2.1.take i).any (fun x=>x.1==c.1) with
    |true=>simp
    |false =>
     by_cases hz:AE b c=0
     ·simp[hz]
     ·simp[hz]
 ·try dsimp only
  unfold i8;rw[à];dsimp only;have hcz':∀i c,b.2.2.2.2.1[i]?=some c→jJ b i c=0:=fun i c hc=>aa7.1 (hcz i c hc);refine Eq.trans (Dg b.2.2.2.2.2 (fun _ u=>aeZ (X5 b u)) some (some (if 59<(Ê b).length then 2 else if 300<2*b.2.1.length+2*((Ê b).length-b.2.1.length:Int)+2*b.2.2.2.2.1.length then 2 else 0)) (fun i a hia ha kn'=>?_) (fun hlz kn'=>?_)) ?_
  ·try dsimp only
   unfold i7;rw[Ó hia,Ë ha,XW,À];unfold X5 aeZ
   cases Hr a.2 with
   |false=>rfl
   |true =>
    rw[Ò (by rfl),Ë ha,Ë ha,Hk (b:=((b.1.1,b.1.2),b.2.1,b.2.2.1,b.2.2.2.1,b.2.2.2.2.1,b.2.2.2.2.2)) (by simp only; omega),À,Î hia (by omega)];have e:η ((b.1.1,b.1.2),b.2.1,b.2.2.1,b.2.2.2.1,b.2.2.2.2.1,b.2.2.2.2.2) a.1 a.2=η b a.1 a.2:=rfl;rw[e]
    by_cases hz:η b a.1 a.2=0
    ·rw[Ò (by simp[ine,hz])]; simp[hz]
    ·rw[Ö (by simp[ine,hz])]; simp[hz]
  ·try dsimp only
   unfold i7;rw[à];dsimp only
   have hlz':∀u∈b.2.2.2.2.2,X5 b u=0:=fun u hum=>by
    obtain⟨j,hj,rfl⟩:=cZ.1 hum;exact aa7.1 (hlz j _ (cG hj))
   have pre:Pre b:=⟨hs,hg,fun c hc=>by
    obtain⟨j,hj,rfl⟩:=cZ.1 hc;have q:=Xy (hcz' j _ (cG hj))
    exact⟨Y8 q.1,q.2⟩,fun n hn=>by
    have:=hlz' n hn;unfold X5 at this
    split at this
    ·omega
    ·rename_i hd; simpa using hd⟩
   rw[Hl pre,À,æ]
   by_cases h59:59<(Ê b).length
   ·rw[Ö (by simp[igt]; omega),if_pos h59]
   ·rw[Ò (by simp[igt]; omega),if_neg h59];have good:đ b:=⟨hfilm,nG,nU,nL,nC,nK,hg,hi,fun u hum=>by rw[←ad3 hi]; exact hu u hum,fun i l hil=>by rw[←ail hi]; exact hl i l hil,fun i c hic=>by rw[←Uu hi]; exact hcz' i c hic,fun u hum=>by rw[←ad3 hi]; exact hlz' u hum,by omega,by omega⟩;have hll:=Gs good;rw[ajX good,À,æ];dsimp only;rw[hll,Ò (by simp[igt]; omega),if_neg (by omega)]
  ·rw[Qa]
   cases(b.2.2.2.2.2.map (X5 b)).find? (fun e=>e != 0)<;>rfl
 ·rw[P9 (jJ b)]
  cases(b.2.2.2.2.1.mapIdx (jJ b)).find? (fun e=>e != 0)<;>rfl
end
def Xq {l m:List Int}:(l++m).find? (fun e=>e != 0)=match l.find? (fun e=>e != 0) with|some e=>some e|none=>m.find? (fun e=>e != 0):=by
 rw[List.find?_append]
 cases l.find? (fun e=>e != 0)<;>rfl
set_option maxHeartbeats 4000000 in
def abD {b:Ü} (hs:ŷ b):lZ b=some (ä b):=by
 unfold lZ HZ ä;rw[vG,À]
 cases hsp:jp b.1 0 1000000 with
 |false=>rfl
 |true =>
 have hfilm:0≤b.1.1∧b.1.1≤b.1.2∧b.1.2≤1000000:=by
  simp only[jp,cI,decide_eq_true_eq] at hsp;exact hsp
 rw[Ò (show(!true)=false from rfl),if_neg (by simp)];rw[æ b.2.1,æ b.2.2.1,æ b.2.2.2.1,æ b.2.2.2.2.1,æ b.2.2.2.2.2]
 by_cases c0:12<b.2.1.length
 ·rw[Ö (by simp[igt]; omega),if_pos c0]
 rw[Ò (by simp[igt]; omega),if_neg c0]
 by_cases c1:40<b.2.2.1.length
 ·rw[Ö (by simp[igt]; omega),if_pos c1]
 rw[Ò (by simp[igt]; omega),if_neg c1]
 by_cases c2:12<b.2.2.2.1.length
 ·rw[Ö (by simp[igt]; omega),if_pos c2]
 rw[Ò (by simp[igt]; omega),if_neg c2]
 by_cases c3:40<b.2.2.2.2.1.length
 ·rw[Ö (by simp[igt]; omega),if_pos c3]
 rw[Ò (by simp[igt]; omega),if_neg c3]
 by_cases c4:10<b.2.2.2.2.2.length
 ·rw[Ö (by simp[igt]; omega),if_pos c4]
 rw[Ò (by simp[igt]; omega),if_neg c4]
 refine eI (Dg b.2.1 (nB b.2.1) some (some (match (wN b (gU b)).find? (fun e=>e != 0) with
  |some e=>e
  |none=>if 59<(Ê b).length then 2 else if 300<2*b.2.1.length+2*((Ê b).length-b.2.1.length:Int)+2*b.2.2.2.2.1.length then 2 else 0)) (fun i g hi hg kn=>?_) (fun hz kn=>?_)) ?_
 ·try dsimp only
  unfold nX;rw[Ó hi,Ë hg,ajU,À];unfold nB
  cases pm g with
  |false=>rfl
  |true =>
   rw[Ò (by rfl)];rcases fh i with h0|h0
   ·subst h0
    have:igt ((0:Nat):Int) 0=false:=by simp[igt]
    rw[Ò this,Î hi (by omega)];simp[Ds]
   ·obtain⟨q,hq⟩:=DH hi h0
    have h1:igt (i:Int) 0=true:=by simp[igt]; omega
    rw[Ö h1,Ë hg,Qt h0 (by omega),Gx h0 hq];simp only[Ds,h0,decide_true,Bool.true_and,hq,Option.any_some];unfold ile
    cases h2:decide (g.1≤q.1) with
    |true=>simp
    |false=>rw[î,Î hi (by omega)]; simp
 ·try dsimp only
  unfold nX;rw[à];dsimp only
  have hg0:iT b=0:=by
   unfold iT;rw[ic.2 fun j a ha=>by rw[Nat.zero_add]; exact hz j a ha];rfl
  obtain⟨hg,hi⟩:=(vc b).1 hg0;have eu:b.2.2.1.map (X5 b)=b.2.2.1.map fun u=>afB (gU b) u.1 u.2:=List.map_congr_left fun u _=>ad3 hi u;have el:b.2.2.2.1.mapIdx (SP b)=b.2.2.2.1.mapIdx fun i l=>SQ b (gU b) i l:=List.mapIdx_eq_mapIdx_iff.2 fun i hl=>ail hi i _;have ec:b.2.2.2.2.1.mapIdx (jJ b)=b.2.2.2.2.1.mapIdx fun i c=>oi b (gU b) i c:=List.mapIdx_eq_mapIdx_iff.2 fun i hc=>Uu hi i _;have ek:b.2.2.2.2.2.map (X5 b)=b.2.2.2.2.2.map fun u=>afB (gU b) u.1 u.2:=List.map_congr_left fun u _=>ad3 hi u;unfold wN;rw[←eu,←el,←ec,←ek,Xq,Xq,Xq,al2 hs,À]
  cases hue:(b.2.2.1.map (X5 b)).find? (fun e=>e != 0) with
  |some e =>
   have he:e≠0:=by have:=fO hue; simpa using this
   simp only[fe];rw[Ò (by simpa[ieq] using he),Ö (by simpa[ine] using he)]
  |none =>
   simp only[gx];rw[Ö (by rfl),ajT hs,À]
   cases hle:(b.2.2.2.1.mapIdx (SP b)).find? (fun e=>e != 0) with
   |some e =>
    have he:e≠0:=by have:=fO hle; simpa using this
    simp only[fe];rw[Ö (by simpa[ine] using he)]
   |none =>
    simp only[Option.getD_none];rw[Ò (by rfl)];refine Eq.trans (amG hs hfilm (by omega) (by omega) (by omega) (by omega) (by omega) hg hi (aiP hue) (agi hle)) ?_;unfold amH
    cases(b.2.2.2.2.1.mapIdx (jJ b)).find? (fun e=>e != 0)<;>rfl
 ·unfold iT
  cases hf:Ī (nB b.2.1) 0 b.2.1 with
  |none =>
   simp
   cases(wN b (gU b)).find? (fun e=>e != 0)<;>rfl
  |some e =>
   have he:iT b=e:=by unfold iT; rw[hf]; rfl
   have hne:e≠0:=by
    intro h0;rw[h0] at he;obtain⟨h1,h2⟩:=(vc b).1 he
    have h3:∀j a,b.2.1[j]?=some a→nB b.2.1 j a=none:=by
     intro j a ha;have h4:=(XM (fun g:é=>g.1) b.2.1).2 h2 j a ha;simp[nB,h1 a (cO ha),h4]
    rw[ic.2 fun j a ha=>by rw[df]; exact h3 j a ha] at hf;cases hf
   simp[hne]
def agV {b:Ü} (h:đ b):pp b=some (((Ê b).length:Int)+1,ß b):=by
 have hN:=h.nodes;unfold pp Cz;rw[Hl h.pre,À,æ,Õ (by omega) (by omega),ajX h,À]
section
variable {ρ:Type}
abbrev ama:Type:=Ü×Sys×List (List Int)×Int
def aeO (e:Int):ama:=(ln,(0,[]),[],e)
def tabR (B:Ü):List (List Int):=AA ((Ê B).length+1) (Aw B)
def abE (b:Ü) (ns:List (Int×Int)):ama :=
 if (ā b ns).2≠0 then aeO (ā b ns).2 else((ā b ns).1,JC (ā b ns).1,tabR (ā b ns).1,0)
def aj0 {b:Ü} (h:đ b) (n:Int×Int):tc b n=some (if ä (iR b n)≠0 then(ln,ä (iR b n)) else(iR b n,0)):=by
 have h5:=h.nK;unfold tc N1;rw[Ô (by omega),Am.iff_true,List.nil_append,Ô (by simp only[List.length_singleton]; omega),Am.iff_true];rw[show lZ (b.1,b.2.1,b.2.2.1,b.2.2.2.1,b.2.2.2.2.1,b.2.2.2.2.2++[n])=lZ (iR b n) from rfl,abD (aaD h n),À]
 by_cases hc2:ä (iR b n)=0
 ·rw[Ò (by simp[ine,hc2]),if_neg (show ¬(ä (iR b n)≠0) from fun h=>h hc2)];rfl
 ·rw[Ö (by simp[ine,hc2]),if_pos hc2];rfl
abbrev ag1:Type:=Int×Int×List é×List (Int×Int)×List KV×List Cmp×List (Int×Int)×Int×Int×Int×Int
def bkK (s:ag1):Ü:=((s.1,s.2.1),s.2.2.1,s.2.2.2.1,s.2.2.2.2.1,s.2.2.2.2.2.1,s.2.2.2.2.2.2.1)
def aiv {ns:List (Int×Int)} (hl:ns.length≤1000) (X:Ü→Option ama) {E1 K1:ag1→Option ama} (hK:∀s:ag1,K1 s=X (bkK s))
 (hE:∀s:ag1,s.2.2.2.2.2.2.2.1=0→s.2.2.2.2.2.2.2.2.1=0→s.2.2.2.2.2.2.2.2.2.1=0→E1 s=some (aeO s.2.2.2.2.2.2.2.2.2.2)) {b:Ü} (hg:đ b) :
 Ñ (fun(v12:Int×ag1) kk25=>mF ns v12.1 v12.2.1 v12.2.2.1 v12.2.2.2.1 v12.2.2.2.2.1 v12.2.2.2.2.2.1 v12.2.2.2.2.2.2.1 v12.2.2.2.2.2.2.2.1 v12.2.2.2.2.2.2.2.2.1 v12.2.2.2.2.2.2.2.2.2.1 v12.2.2.2.2.2.2.2.2.2.2.1 v12.2.2.2.2.2.2.2.2.2.2.2 (fun u13 u14 u15 u16 u17 u18 u19 u20 u21 u22 u23 u24=>kk25 (u13,u14,u15,u16,u17,u18,u19,u20,u21,u22,u23,u24)) E1 K1) ((0:Int),b.1.1,b.1.2,b.2.1,b.2.2.1,b.2.2.2.1,b.2.2.2.2.1,b.2.2.2.2.2,(0:Int),(0:Int),(0:Int),(0:Int)) =
  if (ň b ns).2≠0 then some (aeO (ň b ns).2) else X (ň b ns).1:=by
 refine Gr ns (fun(i:Nat) (s:ag1) (t:List (Int×Int))=>if (ň (bkK s) t).2≠0 then some (aeO (ň (bkK s) t).2) else X (ň (bkK s) t).1)
  (fun i s=>đ (bkK s)∧s.2.2.2.2.2.2.2.1=0∧s.2.2.2.2.2.2.2.2.1=0∧s.2.2.2.2.2.2.2.2.2.1=0) (fun s hs kn=>?_) (fun i n t s hd hi ha hs kn hk=>?_) (s:=(b.1.1,b.1.2,b.2.1,b.2.2.1,b.2.2.2.1,b.2.2.2.2.1,b.2.2.2.2.2,(0:Int),(0:Int),(0:Int),(0:Int))) ⟨hg,rfl,rfl,rfl⟩
 ·dsimp only;unfold mF;rw[à];exact hK s
 ·dsimp only;unfold mF;obtain⟨hs1,z1,z2,z3⟩:=hs;rw[Ó hi,Ë ha];rw[show ō ((s.1,s.2.1),s.2.2.1,s.2.2.2.1,s.2.2.2.2.1,s.2.2.2.2.2.1,s.2.2.2.2.2.2.1) n=ō (bkK s) n from rfl,Hm hs1.pre,À,Ë ha];rw[show tc ((s.1,s.2.1),s.2.2.1,s.2.2.2.1,s.2.2.2.2.1,s.2.2.2.2.2.1,s.2.2.2.2.2.2.1) n=tc (bkK s) n from rfl,aj0 hs1,À];have hr:=Ŗ (bkK s) n
  have hu:ň (bkK s) (n::t)=if (jo (bkK s) n).2≠0 then(ln,(jo (bkK s) n).2) else ň (jo (bkK s) n).1 t:=rfl
  rw[hu]
  by_cases h0:pI (bkK s) n.1 n.2=0
  ·rw[Ò (decide_eq_false (by omega))]
   by_cases h2:ä (iR (bkK s) n)=0
   ·have e:jo (bkK s) n=(iR (bkK s) n,0):=by unfold jo; rw[if_neg (by simp[h0]),if_neg (by simp[h2])]
    rw[if_neg (show ¬ä (iR (bkK s) n)≠0 by simp[h2]),Ò (by rfl),Î hi (by omega),e,if_neg (show ¬((0:Int)≠0) by simp)];exact hk (s.1,s.2.1,s.2.2.1,s.2.2.2.1,s.2.2.2.2.1,s.2.2.2.2.2.1,s.2.2.2.2.2.2.1++[n],s.2.2.2.2.2.2.2) ⟨(ê _).1 h2,z1,z2,z3⟩
   ·have e:jo (bkK s) n=(ln,ä (iR (bkK s) n)):=by unfold jo; rw[if_neg (by simp[h0]),if_pos h2]
    rw[if_pos h2,Ö (by simp[ine,h2]),e,if_pos h2,if_pos h2];exact hE _ rfl rfl rfl
  ·have e:jo (bkK s) n=(bkK s,0):=by unfold jo; rw[if_pos h0]
   rw[Ö (decide_eq_true (by omega)),Î hi (by omega),e,if_neg (show ¬((0:Int)≠0) by simp)];exact hk s ⟨hs1,z1,z2,z3⟩
def anM {b:Ü} (hI:In b) {ns:List (Int×Int)} (hl:ns.length≤1000):GG b ns=some (abE b ns):=by
 unfold GG ND;rw[abD hI.size,À]
 by_cases hc:ä b=0
 case neg =>
  have e:ā b ns=(ln,ä b):=by unfold ā; rw[if_pos hc]
  rw[Ö (bne_iff_ne.2 hc)];unfold abE;rw[e,if_pos hc];rfl
 have hg:=(ê b).1 hc
 have e:ā b ns=if (ň b ns).2≠0 then(ln,(ň b ns).2) else if ġ (ß (ň b ns).1) ((Ê (ň b ns).1).length+1) then((ň b ns).1,0) else(ln,9):=by
  unfold ā; rw[if_neg (show ¬ä b≠0 by simp[hc])]
 rw[Ò (by rw[hc]; rfl)];refine(aiv hl (fun B=>Ã (pp B) fun r10=>Ã (td r10) fun r11=>ifb (!r11.2) (some ((((0:Int),(0:Int)),[],[],[],[],[]),((0:Int),[]),[],(9:Int))) (some (B,r10,r11.1,(0:Int)))) (fun s=>rfl) (fun s h1 h2 h3=>?_) hg).trans ?_
 ·rw[h1,h2,h3];rfl
 by_cases hr:(ň b ns).2=0
 case neg =>
  rw[if_pos hr] at e;unfold abE;rw[if_pos hr,e,if_pos hr]
 have hg':=DE hg hr;rw[if_neg (show ¬(ň b ns).2≠0 by simp[hr])] at e ⊢;generalize (ň b ns).1=B at hg' e;rw[agV hg',À,show(((Ê B).length:Int)+1,ß B)=((((Ê B).length+1:Nat):Int),ß B) by push_cast; rfl,al0 hg'.sys hg'.tied,À];unfold abE
 cases ho:ġ (ß B) ((Ê B).length+1) with
 |true =>
  rw[if_pos ho] at e;rw[if_pos rfl,e,if_neg (by simp),Ò (by rfl),←wI];rfl
 |false =>
  rw[if_neg (by simp[ho])] at e;rw[if_neg (by simp),e,if_pos (by simp),Ö (by rfl)];rfl
def ak4 (b:Ü) (ns:List (Int×Int)):(abE b ns).2.2.2=(ā b ns).2:=by
 unfold abE
 by_cases h:(ā b ns).2=0
 ·rw[if_neg (by simp[h]),h]
 ·rw[if_pos h]; rfl
def aiu {b:Ü} {ns:List (Int×Int)} (h:(ā b ns).2=0):abE b ns=((ā b ns).1,JC (ā b ns).1,tabR (ā b ns).1,0):=by
 unfold abE; rw[if_neg (by simp[h])]
def kAt_ok {B:Ü} (h:đ B) (s:Sys) (t:List (List Int)) (e:Int) (n:Int×Int):kP (B,s,t,e) n=some (pI B n.1 n.2):=by
 unfold kP tT;rw[show ō (B,s,t,e).1 n=ō B n from rfl,Hm h.pre,À]
def aeQ {B:Ü} {u:Int} (hu:0≤u∧u<((Ê B).length+1:Nat)) (f:List Int→Option ρ):ü (tabR B) u f=f (QX ((Ê B).length+1) (Aw B u)) :=
 jc hu.1 (aeb (Aw B) hu.1 hu.2) f
def aeR {N:Nat} (g:Int→Int) {u:Int} (hu:0≤u∧u<N) (f:Int→Option ρ):ü (QX N g) u f=f (g u) :=
 jc hu.1 (aek g hu.1 hu.2) f
def aaG {B:Ü} (h:al3 B) (s:Sys) (e:Int) {u:Int} (hu:0≤u∧u<((Ê B).length+1:Nat)):ig (B,s,tabR B,e) u=some (-(Aw B u 0),Aw B 0 u):=by
 unfold ig jP;have hb:=Dn h hu (Ŏ B);dsimp only;rw[aeQ hu,aeR _ (Ŏ B),Õ (by omega) (by omega),aeQ (Ŏ B),aeR _ hu,Int.zero_sub]
def abC {L:List Lk} {N:Nat} (hS:ĩ L N) {x:List Int} (hl:x.length=N) (h0:gv x 0=0) (hp:Pot L (gv x)) (hb:∀v,-4503599627370496≤gv x v∧gv x v≤4503599627370496):vp ((N:Int),L) x=some true:=by
 unfold vp CG;have h1:=hS.n1;have hlen:=hS.len;rw[æ,hl,Ò (show ine ((N:Nat):Int) (N:Int)=false by simp[ine]),nt (Int.le_refl _) (by omega),h0,Ò (by rfl)];refine(į L (fun _=>false) (fun _=>some false) (some false) (some true) (fun _=>rfl) (fun i l hi ha kn=>?_) (fun kn=>?_)).trans (if_neg (by simp))
 ·try dsimp only
  unfold mg;have hm:=List.mem_of_getElem? ha;have hr:=hS.inr l hm;have hq:=hp l.1 l.2.1 l.2.2 hm;have hmm:=hS.most l hm;have b1:=hb l.1;have b2:=hb l.2.1;rw[Ó hi,Ë ha,nt (by omega) (by omega),nt (by omega) (by omega),Õ (by omega) (by omega),Ò (decide_eq_false (by omega)),Î hi (by omega)];rfl
 ·try dsimp only
  unfold mg;rw[à]
def ak6 {B:Ü} (h:al3 B) (t:List (List Int)) (e:Int) {x:List Int} (hx:akb B x=(true,0)):kO (B,JC B,t,e) x=some true:=by
 unfold kO oQ;obtain⟨hg,hl,hf⟩:=abG.1 hx;have hl1:=(yH.1 hl).1;have hn:=hg.sys.n60;rw[Ô (by simp only[List.length_singleton]; omega),Am.iff_true];dsimp only;rw[wI,show([(0:Int)]++x)=0::x from rfl,abC hg.sys (by simp; omega) rfl (aa0.1 hf) (gv_bd (by omega) (fun a ha=>?_)),À];rcases List.mem_cons.1 ha with rfl|ha
 ·omega
 ·exact(yH.1 hl).2 a ha
end
def ale {x:List Int} {k:Int} (h1:1≤k):gv (0::x) k=gv x (k-1):=by
 rw[am8 _ _ (by omega),if_neg (by omega)]
def alc {ρ:Type} {x:List Int} {k:Int} (h1:1≤k) (h2:k≤x.length) (f:Int→Option ρ):ü x (k-1) f=f (gv (0::x) k):=by
 rw[nt (by omega) (by omega),ale h1]
def aca {b:Ü} (hn:∀g∈b.2.1,I64 g.2.2.2.2.1.1) (n:Int×Int) (upper:Bool):lX b n upper=some true:=by
 unfold lX lH;rw[few_ok,À,afI]
 by_cases hf:fewP b=true
 case neg=>rw[eE.2 hf]; rfl
 have hI:In b:=⟨alm hf,hn⟩;rw[hf,Ò (by rfl),ag0 hI,À,anM hI (by simp),À,ak4]
 by_cases ho:(ā b [n]).2=0
 case neg =>
  have e:Ag b n upper=([],(ā b [n]).2):=by unfold Ag; rw[if_pos ho]
  rw[e,Ò (by simp[ine]),Ö (bne_iff_ne.2 ho),À,ĺ,æ];rfl
 have e:Ag b n upper=(uZ (ā b [n]).1 n upper,0):=by unfold Ag; rw[if_neg (by simp[ho])]
 have hA:=TA hI ho;have hr:=hA.room;have hnode:=hA.nodes n (by simp);rw[e,aiu ho,Ò (by simp[ine,ho]),Ò (by rfl)];generalize (ā b [n]).1=B at hr hnode;obtain⟨h1,h2,h3⟩:=aaP hr hnode upper;have hx:=Ŗ B n;have hne:=(Mx hr.good).2 hnode;have h60:=hr.good.sys.n60;dsimp only;rw[show(JC B).1=((Ê B).length:Int)+1 from rfl,Õ (by omega) (by omega),æ,h3,Ò (by simp[ine]),ak6 hr _ _ h1,À,Ò (by rfl),kAt_ok hr.good,À,aaG hr _ _ hx,À,À,Õ (by omega) (by omega),alc (by omega) (by omega),h2,À,ĺ]
 cases upper with
 |true=>rw[ĺ,if_pos rfl,Ö (by simp[ieq,ivR])]
 |false=>rw[î,if_neg (by simp),gq,ĺ]; simp[ieq,ivR]
end Go.Proofs.ZzM
end
