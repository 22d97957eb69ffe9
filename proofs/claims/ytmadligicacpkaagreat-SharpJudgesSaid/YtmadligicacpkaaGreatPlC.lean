/- lemmas -/
import Derived.Test.YtmadligicacpkaaGreatPlB
import Derived.Test.YtmadligicacpkaaGreatPlA
set_option linter.all false
set_option linter.unusedSectionVars false
set_option linter.unusedVariables false
set_option linter.unusedSimpArgs false
noncomputable section
namespace Go.Proofs.ZzM
open Go Go.Am
def abB {α β:Type} {e:Nat→α→Option β}:∀{l:List α} {k i:Nat} {a:α} {b:β},(∀j c,j<i→l[j]?=some c→e (k+j) c=none)→l[i]?=some a→e (k+i) a=some b→Ĵ e k l=some b
 |[],_,_,_,_,_,ha,_=>by simp at ha
 |c::t,k,0,a,b,_,ha,hb=>by
  simp only[List.getElem?_cons_zero,Option.some.injEq] at ha;subst ha;unfold Ĵ;rw[Nat.add_zero] at hb;rw[hb]
 |c::t,k,i+1,a,b,h,ha,hb=>by
  unfold Ĵ;have h0:=h 0 c (by omega) rfl;rw[Nat.add_zero] at h0;rw[h0];refine abB (i:=i) (fun j d hj hd=>?_) (by simpa using ha) (by rw[←hb]; congr 1; omega);have:=h (j+1) d (by omega) (by simpa using hd);rw[←this];congr 1;omega
def DD {ρ α β:Type} (l:List α) (e:Nat→α→Option β) (k0:β→Option ρ) (k1:Option ρ) {f:Int→(Int→Option ρ)→Option ρ}
 (h:∀(i:Nat) (a:α),i<l.length→l[i]?=some a→∀kn,f i kn=match e i a with|some b=>k0 b|none=>kn ((i:Int)+1))
 (hn:(∀j a,l[j]?=some a→e j a=none)→∀kn,f l.length kn=k1):Ò f 0=match Ĵ e 0 l with|some b=>k0 b|none=>k1:=by
 refine ń (fun x:Int=>∃i:Nat,i≤l.length∧x=i∧∀j a,j<i→l[j]?=some a→e j a=none) (fun x=>l.length-x.toNat) ?_ ⟨0,by omega,rfl,fun j a hj=>by omega⟩;rintro x ⟨i,hi,rfl,hp⟩;rcases dv i l.length with hlt|hge
 ·have ha:l[i]?=some l[i]:=cI hlt
  cases hc:e i l[i] with
  |some b =>
   refine .inl fun kn=>?_;rw[h i _ hlt ha,hc,abB (k:=0) (b:=b) (fun j c hj hc=>by rw[dj]; exact hp j c hj hc) ha (by rw[dj]; exact hc)]
  |none =>
   refine .inr ⟨((i+1:Nat):Int),⟨i+1,hlt,rfl,fun j a hj hja=>?_⟩,by simp only[dl]; omega,fun kn=>?_⟩
   ·rcases dv j i with h1|h1
    ·exact hp j a h1 hja
    ·have:j=i:=by omega
     subst this;rw[ha] at hja;rw[←Option.some.inj hja]; exact hc
   ·rw[h i _ hlt ha,hc];simp
 ·have:i=l.length:=by omega
  subst this;refine .inl fun kn=>?_;have hall:∀j a,l[j]?=some a→e j a=none:=fun j a hja=>hp j a (cO.1 hja).1 hja;rw[hn hall kn,iG.2 fun j a hja=>by rw[dj]; exact hall j a hja]
def abH {e:Int}:afC e=none↔e=0:=by
 unfold afC
 split<;>simp_all
section
variable {b:Þ}
def UT (h:ē b):∀i,((b.2.1.take i).flatMap (ô b)).length≤1440∧(((b.2.1.take i).mapIdx (ò b)).flatten).length≤1440:=by
 have hG:=h.nG
 have gl:∀g∈b.2.1,(ô b g).length≤120∧∀i,(ò b i g).length≤120:=by
  intro g hg;have:=Ht h hg;constructor
  ·unfold ô;rw[List.length_append,ŷ _ _ (fun _=>rfl)];simp only[List.length_cons,List.length_nil]; omega
  ·intro i;unfold ò;rw[List.length_append,ŷ _ _ (fun _=>rfl)];simp only[List.length_cons,List.length_nil]; omega
 have key:∀i,i≤b.2.1.length→((b.2.1.take i).flatMap (ô b)).length≤i*120∧(((b.2.1.take i).mapIdx (ò b)).flatten).length≤i*120:=by
  intro i
  induction i with
  |zero=>intro _; simp
  |succ i ih =>
   intro hi;have ih:=ih (by omega);have hg:b.2.1[i]?=some b.2.1[i]:=cI hi;have h2:=gl _ (cR hg);have h3:=h2.2 i;rw[iA _ hg,take_succ hg,eJ,ft,cN,cN];simp only[dP,gH,dH,fY,gd];omega
 intro i;rcases dv b.2.1.length i with h1|h1
 ·rw[dS (by omega)];have:=key b.2.1.length (cJ _);rw[List.take_length] at this;omega
 ·have:=key i h1;omega
set_option maxHeartbeats 1000000 in
def akB (h:ē b):vF b=some (Ý b,Ŭ b):=by
 have hC:=h.nC;have hG:=h.nG;unfold vF Wf;rw[HH h.pre,À];refine ð b.2.1 (fun i=>((b.2.1.take i).flatMap (ô b),((b.2.1.take i).mapIdx (ò b)).flatten)) _ rfl (fun i g hi hg kn=>?_) (fun kn=>?_)
 ·try dsimp only
  unfold uA;have hls:=UT h i;rw[Ô hi,Ë hg];refine Eq.trans (ah0 h hg (by omega) (by omega) _) ?_;rw[Î hi (by omega),iA _ hg,take_succ hg,List.flatMap_append,List.flatten_append];simp only[List.flatMap_cons,List.flatMap_nil,List.append_nil,List.flatten_cons,List.flatten_nil]
 ·try dsimp only
  unfold uA;rw[à,List.take_length];dsimp only;have hls:=UT h b.2.1.length;rw[List.take_length] at hls;refine ð b.2.2.2.2.1 (fun i=>(b.2.1.flatMap (ô b)++(b.2.2.2.2.1.take i).flatMap (Ą b),(b.2.1.mapIdx (ò b)).flatten++((b.2.2.2.2.1.take i).mapIdx fun i _=>[((3:Int),(i:Int)),((3:Int),(i:Int))]).flatten)) _ (by simp) (fun i c hi hc kn=>?_) (fun kn=>?_)
  ·try dsimp only
   unfold uz;have hcm:=List.mem_of_getElem? hc;have hn:=(Χ c).1 (h.nums hcm);have ha:=ķ hn.2.2.2.2.2.1;have hb:=ķ hn.2.2.2.2.2.2;have hcl:=Vc (b:=b) i (by omega);have sb:=Cw h hcm;rw[Ô hi,Ë hc,J0 (by omega) (by omega),À];rw[show œ ((b.1.1,b.1.2),b.2.1,b.2.2.1,b.2.2.2.1,b.2.2.2.2.1,b.2.2.2.2.2) (LF c.2.2.1 c.2.2.2.1,c.2.1)=œ b (LF c.2.2.1 c.2.2.2.1,c.2.1) from rfl,HI h.pre,À,J0 (by omega) (by omega),À];rw[show œ ((b.1.1,b.1.2),b.2.1,b.2.2.1,b.2.2.2.1,b.2.2.2.2.1,b.2.2.2.2.2) (LF c.2.2.2.1 c.2.2.1,c.2.1)=œ b (LF c.2.2.2.1 c.2.2.1,c.2.1) from rfl,HI h.pre,À];rw[show tF ((b.1.1,b.1.2),b.2.1,b.2.2.1,b.2.2.2.1,b.2.2.2.2.1,b.2.2.2.2.2) c=tF b c from rfl,amM h.size h.film (h.cmpIn hcm),À];rw[Õ (by omega) (by omega),Ö (by simp only[List.length_append,List.length_cons,List.length_nil]; omega),Am.iff_true,Ö (by simp only[List.length_append,List.length_cons,List.length_nil]; omega),Am.iff_true,Î hi (by omega)];rw[iA _ hc,take_succ hc,List.flatMap_append,List.flatten_append,ajj h.pre,ajj h.pre];simp only[List.flatMap_cons,List.flatMap_nil,List.append_nil,List.flatten_cons,List.flatten_nil,List.append_assoc];rw[Int.zero_sub];rfl
  ·try dsimp only
   unfold uz;rw[à,List.take_length];rfl
def j8 (b:Þ) (i:Nat) (c:Cmp):Int:=if !LG c then 1 else if (b.2.2.2.2.1.take i).any (fun x=>x.1==c.1) then 6 else AZ b c
def U5 (hi:b.2.1.Pairwise fun a b=>a.1<b.1) (i:Nat) (c:Cmp):j8 b i c=oD b (iw b) i c:=by
 unfold j8 oD;rw[alq hi]
def anl (b:Þ):Int:=match (b.2.2.2.2.1.mapIdx (j8 b)).find? (fun e=>e != 0) with
 |some e=>e
 |none=>match (b.2.2.2.2.2.map (YL b)).find? (fun e=>e != 0) with
  |some e=>e
  |none=>if 59<(Ê b).length then 2 else if 300<2*b.2.1.length+2*((Ê b).length-b.2.1.length:Int)+2*b.2.2.2.2.1.length then 2 else 0
def ajx {α:Type} {l:List α} {E:α→Int} (h:(l.map E).find? (fun e=>e != 0)=none):∀a∈l,E a=0:=by
 intro a ha;have:=eh.1 h (E a) (dT.2 ⟨a,ha,rfl⟩);simpa using this
def agX {α:Type} {l:List α} {E:Nat→α→Int} (h:(l.mapIdx E).find? (fun e=>e != 0)=none):∀i a,l[i]?=some a→E i a=0:=by
 intro i a ha;obtain⟨hi,rfl⟩:=cO.1 ha;have:=eh.1 h (E i l[i]) (gK.2 ⟨i,hi,rfl⟩);simpa using this
def Yd {i:Nat} {c:Cmp} (h:j8 b i c=0):LG c=true∧(è c.2.2.1 c.2.2.2.1).length≤1∧(è c.2.2.2.1 c.2.2.1).length≤1:=by
 unfold j8 at h
 split at h
 ·omega
 rename_i h1
 split at h
 ·omega
 unfold AZ at h
 (repeat' split at h)<;>first|omega|exact⟨by simpa using h1,by omega,by omega⟩
set_option maxHeartbeats 4000000 in
def ank (hs:Γ b) (hfilm:0≤b.1.1∧b.1.1≤b.1.2∧b.1.2≤1000000) (nG:b.2.1.length≤12) (nU:b.2.2.1.length≤40) (nL:b.2.2.2.1.length≤12) (nC:b.2.2.2.2.1.length≤40) (nK:b.2.2.2.2.2.length≤10)
 (hg:∀g∈b.2.1,pF g=true) (hi:b.2.1.Pairwise fun a b=>a.1<b.1) (hu:∀u∈b.2.2.1,YL b u=0) (hl:∀i l,b.2.2.2.1[i]?=some l→Tx b i l=0) :
 Ò (fun(v41:Int) kk43=>jq b.1.1 b.1.2 b.2.1 b.2.2.1 b.2.2.2.1 b.2.2.2.2.1 b.2.2.2.2.2 v41 (fun u42=>kk43 u42) (fun z26=>some z26) (fun _=>Ò (fun(v38:Int) kk40=>jp b.1.1 b.1.2 b.2.1 b.2.2.1 b.2.2.2.1 b.2.2.2.2.1 b.2.2.2.2.2 v38 (fun u39=>kk40 u39) (fun z34=>some z34) (fun _=>Ã (jA b) fun r36=>ifb (igt (Ú r36) (59:Int)) (some (2:Int)) (Ã (vF b) fun r37=>ifb (igt (Ú r37.1) (300:Int)) (some (2:Int)) (some (0:Int))))) (0:Int))) (0:Int)=some (anl b):=by
 unfold anl
 refine eM (DD b.2.2.2.2.1 (fun i c=>afC (j8 b i c)) some (some (match (b.2.2.2.2.2.map (YL b)).find? (fun e=>e != 0) with
  |some e=>e
  |none=>if 59<(Ê b).length then 2 else if 300<2*b.2.1.length+2*((Ê b).length-b.2.1.length:Int)+2*b.2.2.2.2.1.length then 2 else 0)) (fun i c hci hc kn=>?_) (fun hcz kn=>?_)) ?_
 ·try dsimp only
  unfold jq;have hp:=hs.piles c (List.mem_of_getElem? hc);rw[Ô hci,Ë hc,akw (by omega) (by omega),À];unfold j8 afC
  cases LG c with
  |false=>rfl
  |true =>
   rw[Ð (by rfl)]
   have hl9:(b.2.2.2.2.1.take i).length=i:=by rw[cZ]; omega
   refine eM (Ļ (b.2.2.2.2.1.take i) (fun x=>x.1==c.1) (fun _=>some 6) (some 6) (if AZ b c=0 then kn ((i:Int)+1) else some (AZ b c)) (fun _=>rfl) (fun j a hj ha kn'=>?_) (fun kn'=>?_)) ?_
   ·try dsimp only
    unfold om;rw[hl9] at hj
    have ha':b.2.2.2.2.1[j]?=some a:=by rwa [List.getElem?_take_of_lt hj] at ha
    rw[Ó (show ilt (j:Int) (i:Int)=true by simp[ilt]; omega),Ë ha',Ë hc,Î hj (by omega),Ĥ]
   ·try dsimp only
    unfold om;rw[hl9,Ð (show ilt (i:Int) (i:Int)=false by simp[ilt])];dsimp only;rw[Ë hc,show jz ((b.1.1,b.1.2),b.2.1,b.2.2.1,b.2.2.2.1,b.2.2.2.2.1,b.2.2.2.2.2) c=jz b c from rfl,ace hs hp.1 hp.2,À,Î hci (by omega)]
    by_cases hz:AZ b c=0
    ·rw[Ð (by simp[ine,hz]),if_pos hz]
    ·rw[Ó (by simp[ine,hz]),if_neg hz]
   ·cases hany:(b.2.2.2.2.1.take i).any (fun x=>x.1==c.1) with
    |true=>simp
    |false =>
     by_cases hz:AZ b c=0
     ·simp[hz]
     ·simp[hz]
 ·try dsimp only
  unfold jq;rw[à];dsimp only;have hcz':∀i c,b.2.2.2.2.1[i]?=some c→j8 b i c=0:=fun i c hc=>abH.1 (hcz i c hc);refine Eq.trans (DD b.2.2.2.2.2 (fun _ u=>afC (YL b u)) some (some (if 59<(Ê b).length then 2 else if 300<2*b.2.1.length+2*((Ê b).length-b.2.1.length:Int)+2*b.2.2.2.2.1.length then 2 else 0)) (fun i a hia ha kn'=>?_) (fun hlz kn'=>?_)) ?_
  ·try dsimp only
   unfold jp;rw[Ô hia,Ë ha,YC,À];unfold YL afC
   cases HO a.2 with
   |false=>rfl
   |true =>
    rw[Ð (by rfl),Ë ha,Ë ha,HG (b:=((b.1.1,b.1.2),b.2.1,b.2.2.1,b.2.2.2.1,b.2.2.2.2.1,b.2.2.2.2.2)) (by simp only; omega),À,Î hia (by omega)];have e:ψ ((b.1.1,b.1.2),b.2.1,b.2.2.1,b.2.2.2.1,b.2.2.2.2.1,b.2.2.2.2.2) a.1 a.2=ψ b a.1 a.2:=rfl;rw[e]
    by_cases hz:ψ b a.1 a.2=0
    ·rw[Ð (by simp[ine,hz])]; simp[hz]
    ·rw[Ó (by simp[ine,hz])]; simp[hz]
  ·try dsimp only
   unfold jp;rw[à];dsimp only
   have hlz':∀u∈b.2.2.2.2.2,YL b u=0:=fun u hum=>by
    obtain⟨j,hj,rfl⟩:=df.1 hum;exact abH.1 (hlz j _ (cI hj))
   have pre:Pre b:=⟨hs,hg,fun c hc=>by
    obtain⟨j,hj,rfl⟩:=df.1 hc;have q:=Yd (hcz' j _ (cI hj))
    exact⟨ZJ q.1,q.2⟩,fun n hn=>by
    have:=hlz' n hn;unfold YL at this
    split at this
    ·omega
    ·rename_i hd; simpa using hd⟩
   rw[HH pre,À,á]
   by_cases h59:59<(Ê b).length
   ·rw[Ó (by simp[igt]; omega),if_pos h59]
   ·rw[Ð (by simp[igt]; omega),if_neg h59];have good:ē b:=⟨hfilm,nG,nU,nL,nC,nK,hg,hi,fun u hum=>by rw[←aeG hi]; exact hu u hum,fun i l hil=>by rw[←ai3 hi]; exact hl i l hil,fun i c hic=>by rw[←U5 hi]; exact hcz' i c hic,fun u hum=>by rw[←aeG hi]; exact hlz' u hum,by omega,by omega⟩;have hll:=GU good;rw[akB good,À,á];dsimp only;rw[hll,Ð (by simp[igt]; omega),if_neg (by omega)]
  ·rw[QJ]
   cases(b.2.2.2.2.2.map (YL b)).find? (fun e=>e != 0)<;>rfl
 ·rw[QI (j8 b)]
  cases(b.2.2.2.2.1.mapIdx (j8 b)).find? (fun e=>e != 0)<;>rfl
end
def X3 {l m:List Int}:(l++m).find? (fun e=>e != 0)=match l.find? (fun e=>e != 0) with|some e=>some e|none=>m.find? (fun e=>e != 0):=by
 rw[List.find?_append]
 cases l.find? (fun e=>e != 0)<;>rfl
set_option maxHeartbeats 4000000 in
def acg {b:Þ} (hs:Γ b):mr b=some (ç b):=by
 unfold mr Iw ç;rw[wa,À]
 cases hsp:jK b.1 0 1000000 with
 |false=>rfl
 |true =>
 have hfilm:0≤b.1.1∧b.1.1≤b.1.2∧b.1.2≤1000000:=by
  simp only[jK,cM,decide_eq_true_eq] at hsp;exact hsp
 rw[Ð (show(!true)=false from rfl),if_neg (by simp)];rw[á b.2.1,á b.2.2.1,á b.2.2.2.1,á b.2.2.2.2.1,á b.2.2.2.2.2]
 by_cases c0:12<b.2.1.length
 ·rw[Ó (by simp[igt]; omega),if_pos c0]
 rw[Ð (by simp[igt]; omega),if_neg c0]
 by_cases c1:40<b.2.2.1.length
 ·rw[Ó (by simp[igt]; omega),if_pos c1]
 rw[Ð (by simp[igt]; omega),if_neg c1]
 by_cases c2:12<b.2.2.2.1.length
 ·rw[Ó (by simp[igt]; omega),if_pos c2]
 rw[Ð (by simp[igt]; omega),if_neg c2]
 by_cases c3:40<b.2.2.2.2.1.length
 ·rw[Ó (by simp[igt]; omega),if_pos c3]
 rw[Ð (by simp[igt]; omega),if_neg c3]
 by_cases c4:10<b.2.2.2.2.2.length
 ·rw[Ó (by simp[igt]; omega),if_pos c4]
 rw[Ð (by simp[igt]; omega),if_neg c4]
 refine eM (DD b.2.1 (nW b.2.1) some (some (match (xe b (iw b)).find? (fun e=>e != 0) with
  |some e=>e
  |none=>if 59<(Ê b).length then 2 else if 300<2*b.2.1.length+2*((Ê b).length-b.2.1.length:Int)+2*b.2.2.2.2.1.length then 2 else 0)) (fun i g hi hg kn=>?_) (fun hz kn=>?_)) ?_
 ·try dsimp only
  unfold oo;rw[Ô hi,Ë hg,aky,À];unfold nW
  cases pF g with
  |false=>rfl
  |true =>
   rw[Ð (by rfl)];rcases fi i with h0|h0
   ·subst h0
    have:igt ((0:Nat):Int) 0=false:=by simp[igt]
    rw[Ð this,Î hi (by omega)];simp[DN]
   ·obtain⟨q,hq⟩:=D6 hi h0
    have h1:igt (i:Int) 0=true:=by simp[igt]; omega
    rw[Ó h1,Ë hg,Q1 h0 (by omega),GZ h0 hq];simp only[DN,h0,decide_true,Bool.true_and,hq,Option.any_some];unfold ile
    cases h2:decide (g.1≤q.1) with
    |true=>simp
    |false=>rw[é,Î hi (by omega)]; simp
 ·try dsimp only
  unfold oo;rw[à];dsimp only
  have hg0:ji b=0:=by
   unfold ji;rw[iG.2 fun j a ha=>by rw[Nat.zero_add]; exact hz j a ha];rfl
  obtain⟨hg,hi⟩:=(vy b).1 hg0;have eu:b.2.2.1.map (YL b)=b.2.2.1.map fun u=>agf (iw b) u.1 u.2:=List.map_congr_left fun u _=>aeG hi u;have el:b.2.2.2.1.mapIdx (Tx b)=b.2.2.2.1.mapIdx fun i l=>Tz b (iw b) i l:=List.mapIdx_eq_mapIdx_iff.2 fun i hl=>ai3 hi i _;have ec:b.2.2.2.2.1.mapIdx (j8 b)=b.2.2.2.2.1.mapIdx fun i c=>oD b (iw b) i c:=List.mapIdx_eq_mapIdx_iff.2 fun i hc=>U5 hi i _;have ek:b.2.2.2.2.2.map (YL b)=b.2.2.2.2.2.map fun u=>agf (iw b) u.1 u.2:=List.map_congr_left fun u _=>aeG hi u;unfold xe;rw[←eu,←el,←ec,←ek,X3,X3,X3,amH hs,À]
  cases hue:(b.2.2.1.map (YL b)).find? (fun e=>e != 0) with
  |some e =>
   have he:e≠0:=by have:=fS hue; simpa using this
   simp only[fh];rw[Ð (by simpa[ieq] using he),Ó (by simpa[ine] using he)]
  |none =>
   simp only[gG];rw[Ó (by rfl),akx hs,À]
   cases hle:(b.2.2.2.1.mapIdx (Tx b)).find? (fun e=>e != 0) with
   |some e =>
    have he:e≠0:=by have:=fS hle; simpa using this
    simp only[fh];rw[Ó (by simpa[ine] using he)]
   |none =>
    simp only[Option.getD_none];rw[Ð (by rfl)];refine Eq.trans (ank hs hfilm (by omega) (by omega) (by omega) (by omega) (by omega) hg hi (ajx hue) (agX hle)) ?_;unfold anl
    cases(b.2.2.2.2.1.mapIdx (j8 b)).find? (fun e=>e != 0)<;>rfl
 ·unfold ji
  cases hf:Ĵ (nW b.2.1) 0 b.2.1 with
  |none =>
   simp
   cases(xe b (iw b)).find? (fun e=>e != 0)<;>rfl
  |some e =>
   have he:ji b=e:=by unfold ji; rw[hf]; rfl
   have hne:e≠0:=by
    intro h0;rw[h0] at he;obtain⟨h1,h2⟩:=(vy b).1 he
    have h3:∀j a,b.2.1[j]?=some a→nW b.2.1 j a=none:=by
     intro j a ha;have h4:=(Ys (fun g:ê=>g.1) b.2.1).2 h2 j a ha;simp[nW,h1 a (cR ha),h4]
    rw[iG.2 fun j a ha=>by rw[dj]; exact h3 j a ha] at hf;cases hf
   simp[hne]
def ahA {b:Þ} (h:ē b):pI b=some (((Ê b).length:Int)+1,Ý b):=by
 have hN:=h.nodes;unfold pI CW;rw[HH h.pre,À,á,Õ (by omega) (by omega),akB h,À]
section
variable {ρ:Type}
abbrev amO:Type:=Þ×Sys×List (List Int)×Int
def afq (e:Int):amO:=(lS,(0,[]),[],e)
def tabR (B:Þ):List (List Int):=AU ((Ê B).length+1) (DT B)
def ach (b:Þ) (ns:List (Int×Int)):amO :=
 if (ý b ns).2≠0 then afq (ý b ns).2 else((ý b ns).1,DR (ý b ns).1,tabR (ý b ns).1,0)
def akE {b:Þ} (h:ē b) (n:Int×Int):tJ b n=some (if ç (jg b n)≠0 then(lS,ç (jg b n)) else(jg b n,0)):=by
 have h5:=h.nK;unfold tJ OG;rw[Ö (by omega),Am.iff_true,List.nil_append,Ö (by simp only[List.length_singleton]; omega),Am.iff_true];rw[show mr (b.1,b.2.1,b.2.2.1,b.2.2.2.1,b.2.2.2.2.1,b.2.2.2.2.2++[n])=mr (jg b n) from rfl,acg (abd h n),À]
 by_cases hc2:ç (jg b n)=0
 ·rw[Ð (by simp[ine,hc2]),if_neg (show ¬(ç (jg b n)≠0) from fun h=>h hc2)];rfl
 ·rw[Ó (by simp[ine,hc2]),if_pos hc2];rfl
abbrev ahG:Type:=Int×Int×List ê×List (Int×Int)×List Lv×List Cmp×List (Int×Int)×Int×Int×Int×Int
def bkK (s:ahG):Þ:=((s.1,s.2.1),s.2.2.1,s.2.2.2.1,s.2.2.2.2.1,s.2.2.2.2.2.1,s.2.2.2.2.2.2.1)
def ajd {ns:List (Int×Int)} (hl:ns.length≤1000) (X:Þ→Option amO) {E1 K1:ahG→Option amO} (hK:∀s:ahG,K1 s=X (bkK s))
 (hE:∀s:ahG,s.2.2.2.2.2.2.2.1=0→s.2.2.2.2.2.2.2.2.1=0→s.2.2.2.2.2.2.2.2.2.1=0→E1 s=some (afq s.2.2.2.2.2.2.2.2.2.2)) {b:Þ} (hg:ē b) :
 Ò (fun(v12:Int×ahG) kk25=>mV ns v12.1 v12.2.1 v12.2.2.1 v12.2.2.2.1 v12.2.2.2.2.1 v12.2.2.2.2.2.1 v12.2.2.2.2.2.2.1 v12.2.2.2.2.2.2.2.1 v12.2.2.2.2.2.2.2.2.1 v12.2.2.2.2.2.2.2.2.2.1 v12.2.2.2.2.2.2.2.2.2.2.1 v12.2.2.2.2.2.2.2.2.2.2.2 (fun u13 u14 u15 u16 u17 u18 u19 u20 u21 u22 u23 u24=>kk25 (u13,u14,u15,u16,u17,u18,u19,u20,u21,u22,u23,u24)) E1 K1) ((0:Int),b.1.1,b.1.2,b.2.1,b.2.2.1,b.2.2.2.1,b.2.2.2.2.1,b.2.2.2.2.2,(0:Int),(0:Int),(0:Int),(0:Int)) =
  if (ŏ b ns).2≠0 then some (afq (ŏ b ns).2) else X (ŏ b ns).1:=by
 refine GS ns (fun(i:Nat) (s:ahG) (t:List (Int×Int))=>if (ŏ (bkK s) t).2≠0 then some (afq (ŏ (bkK s) t).2) else X (ŏ (bkK s) t).1)
  (fun i s=>ē (bkK s)∧s.2.2.2.2.2.2.2.1=0∧s.2.2.2.2.2.2.2.2.1=0∧s.2.2.2.2.2.2.2.2.2.1=0) (fun s hs kn=>?_) (fun i n t s hd hi ha hs kn hk=>?_) (s:=(b.1.1,b.1.2,b.2.1,b.2.2.1,b.2.2.2.1,b.2.2.2.2.1,b.2.2.2.2.2,(0:Int),(0:Int),(0:Int),(0:Int))) ⟨hg,rfl,rfl,rfl⟩
 ·dsimp only;unfold mV;rw[à];exact hK s
 ·dsimp only;unfold mV;obtain⟨hs1,z1,z2,z3⟩:=hs;rw[Ô hi,Ë ha];rw[show œ ((s.1,s.2.1),s.2.2.1,s.2.2.2.1,s.2.2.2.2.1,s.2.2.2.2.2.1,s.2.2.2.2.2.2.1) n=œ (bkK s) n from rfl,HI hs1.pre,À,Ë ha];rw[show tJ ((s.1,s.2.1),s.2.2.1,s.2.2.2.1,s.2.2.2.2.1,s.2.2.2.2.2.1,s.2.2.2.2.2.2.1) n=tJ (bkK s) n from rfl,akE hs1,À];have hr:=ŝ (bkK s) n
  have hu:ŏ (bkK s) (n::t)=if (jJ (bkK s) n).2≠0 then(lS,(jJ (bkK s) n).2) else ŏ (jJ (bkK s) n).1 t:=rfl
  rw[hu]
  by_cases h0:jH (bkK s) n.1 n.2=0
  ·rw[Ð (decide_eq_false (by omega))]
   by_cases h2:ç (jg (bkK s) n)=0
   ·have e:jJ (bkK s) n=(jg (bkK s) n,0):=by unfold jJ; rw[if_neg (by simp[h0]),if_neg (by simp[h2])]
    rw[if_neg (show ¬ç (jg (bkK s) n)≠0 by simp[h2]),Ð (by rfl),Î hi (by omega),e,if_neg (show ¬((0:Int)≠0) by simp)];exact hk (s.1,s.2.1,s.2.2.1,s.2.2.2.1,s.2.2.2.2.1,s.2.2.2.2.2.1,s.2.2.2.2.2.2.1++[n],s.2.2.2.2.2.2.2) ⟨(ë _).1 h2,z1,z2,z3⟩
   ·have e:jJ (bkK s) n=(lS,ç (jg (bkK s) n)):=by unfold jJ; rw[if_neg (by simp[h0]),if_pos h2]
    rw[if_pos h2,Ó (by simp[ine,h2]),e,if_pos h2,if_pos h2];exact hE _ rfl rfl rfl
  ·have e:jJ (bkK s) n=(bkK s,0):=by unfold jJ; rw[if_pos h0]
   rw[Ó (decide_eq_true (by omega)),Î hi (by omega),e,if_neg (show ¬((0:Int)≠0) by simp)];exact hk s ⟨hs1,z1,z2,z3⟩
def aor {b:Þ} (hI:In b) {ns:List (Int×Int)} (hl:ns.length≤1000):G7 b ns=some (ach b ns):=by
 unfold G7 Od;rw[acg hI.size,À]
 by_cases hc:ç b=0
 case neg =>
  have e:ý b ns=(lS,ç b):=by unfold ý; rw[if_pos hc]
  rw[Ó (bne_iff_ne.2 hc)];unfold ach;rw[e,if_pos hc];rfl
 have hg:=(ë b).1 hc
 have e:ý b ns=if (ŏ b ns).2≠0 then(lS,(ŏ b ns).2) else if ģ (Ý (ŏ b ns).1) ((Ê (ŏ b ns).1).length+1) then((ŏ b ns).1,0) else(lS,9):=by
  unfold ý; rw[if_neg (show ¬ç b≠0 by simp[hc])]
 rw[Ð (by rw[hc]; rfl)];refine(ajd hl (fun B=>Ã (pI B) fun r10=>Ã (tK r10) fun r11=>ifb (!r11.2) (some ((((0:Int),(0:Int)),[],[],[],[],[]),((0:Int),[]),[],(9:Int))) (some (B,r10,r11.1,(0:Int)))) (fun s=>rfl) (fun s h1 h2 h3=>?_) hg).trans ?_
 ·rw[h1,h2,h3];rfl
 by_cases hr:(ŏ b ns).2=0
 case neg =>
  rw[if_pos hr] at e;unfold ach;rw[if_pos hr,e,if_pos hr]
 have hg':=D3 hg hr;rw[if_neg (show ¬(ŏ b ns).2≠0 by simp[hr])] at e ⊢;generalize (ŏ b ns).1=B at hg' e;rw[ahA hg',À,show(((Ê B).length:Int)+1,Ý B)=((((Ê B).length+1:Nat):Int),Ý B) by push_cast; rfl,amF hg'.sys hg'.tied,À];unfold ach
 cases ho:ģ (Ý B) ((Ê B).length+1) with
 |true =>
  rw[if_pos ho] at e;rw[if_pos rfl,e,if_neg (by simp),Ð (by rfl),←Cp];rfl
 |false =>
  rw[if_neg (by simp[ho])] at e;rw[if_neg (by simp),e,if_pos (by simp),Ó (by rfl)];rfl
def alK (b:Þ) (ns:List (Int×Int)):(ach b ns).2.2.2=(ý b ns).2:=by
 unfold ach
 by_cases h:(ý b ns).2=0
 ·rw[if_neg (by simp[h]),h]
 ·rw[if_pos h]; rfl
def ajc {b:Þ} {ns:List (Int×Int)} (h:(ý b ns).2=0):ach b ns=((ý b ns).1,DR (ý b ns).1,tabR (ý b ns).1,0):=by
 unfold ach; rw[if_neg (by simp[h])]
def kAt_ok {B:Þ} (h:ē B) (s:Sys) (t:List (List Int)) (e:Int) (n:Int×Int):Ħ (B,s,t,e) n=some (jH B n.1 n.2):=by
 unfold Ħ ur;rw[show œ (B,s,t,e).1 n=œ B n from rfl,HI h.pre,À]
def aft {B:Þ} {u:Int} (hu:0≤u∧u<((Ê B).length+1:Nat)) (f:List Int→Option ρ):ü (tabR B) u f=f (Rx ((Ê B).length+1) (DT B u)) :=
 jv hu.1 (aeO (DT B) hu.1 hu.2) f
def afu {N:Nat} (g:Int→Int) {u:Int} (hu:0≤u∧u<N) (f:Int→Option ρ):ü (Rx N g) u f=f (g u) :=
 jv hu.1 (aeW g hu.1 hu.2) f
def abg {B:Þ} (h:ahO B) (s:Sys) (e:Int) {u:Int} (hu:0≤u∧u<((Ê B).length+1:Nat)):ž (B,s,tabR B,e) u=some (-(DT B u 0),DT B 0 u):=by
 unfold ž kg;have hb:=vR h hu (Ĩ B);dsimp only;rw[aft hu,afu _ (Ĩ B),Õ (by omega) (by omega),aft (Ĩ B),afu _ hu,Int.zero_sub]
def acf {L:List Lk} {N:Nat} (hS:į L N) {x:List Int} (hl:x.length=N) (h0:gv x 0=0) (hp:Pot L (gv x)) (hb:∀v,-4503599627370496≤gv x v∧gv x v≤4503599627370496):vI ((N:Int),L) x=some true:=by
 unfold vI C3;have h1:=hS.n1;have hlen:=hS.len;rw[á,hl,Ð (show ine ((N:Nat):Int) (N:Int)=false by simp[ine]),nN (Int.le_refl _) (by omega),h0,Ð (by rfl)];refine(Ļ L (fun _=>false) (fun _=>some false) (some false) (some true) (fun _=>rfl) (fun i l hi ha kn=>?_) (fun kn=>?_)).trans (if_neg (by simp))
 ·try dsimp only
  unfold mF;have hm:=List.mem_of_getElem? ha;have hr:=hS.inr l hm;have hq:=hp l.1 l.2.1 l.2.2 hm;have hmm:=hS.most l hm;have b1:=hb l.1;have b2:=hb l.2.1;rw[Ô hi,Ë ha,nN (by omega) (by omega),nN (by omega) (by omega),Õ (by omega) (by omega),Ð (decide_eq_false (by omega)),Î hi (by omega)];rfl
 ·try dsimp only
  unfold mF;rw[à]
def alM {B:Þ} (h:ahO B) (t:List (List Int)) (e:Int) {x:List Int} (hx:ahH B x=(true,0)):Đ (B,DR B,t,e) x=some true:=by
 unfold Đ ph;obtain⟨hg,hl,hf⟩:=acj.1 hx;have hl1:=(yZ.1 hl).1;have hn:=hg.sys.n60;rw[Ö (by simp only[List.length_singleton]; omega),Am.iff_true];dsimp only;rw[Cp,show([(0:Int)]++x)=0::x from rfl,acf hg.sys (by simp; omega) rfl (abA.1 hf) (gv_bd (by omega) (fun a ha=>?_)),À];rcases List.mem_cons.1 ha with rfl|ha
 ·omega
 ·exact(yZ.1 hl).2 a ha
end
def alU {x:List Int} {k:Int} (h1:1≤k):gv (0::x) k=gv x (k-1):=by
 rw[anN _ _ (by omega),if_neg (by omega)]
def alS {ρ:Type} {x:List Int} {k:Int} (h1:1≤k) (h2:k≤x.length) (f:Int→Option ρ):ü x (k-1) f=f (gv (0::x) k):=by
 rw[nN (by omega) (by omega),alU h1]
def iv (k:Int) (l:Lk):Bool:=(l.1==0&&l.2.1==k)||(l.1==k&&l.2.1==0)
theorem agl {ρ:Type} {L:List Lk} (hl:L.length≤1000) (k:Int) {i0:Nat} (hi0:i0<L.length) (h0:∀j l,j<i0→L[j]?=some l→iv k l=false) (h1:∀l,L[i0]?=some l→iv k l=true) (K:Int×List Lk→Option ρ) {r:Option ρ}
 (hK:∀W:List Lk,W.length=L.length→W.take (L.filter fun l=>!iv k l).length=L.filter (fun l=>!iv k l)→K (((L.filter fun l=>!iv k l).length:Int),W)=r) :
 Ò (fun(v25:Int×Int×List Lk) kk29=>Ū k v25.1 v25.2.1 v25.2.2 (fun u26 u27 u28=>kk29 (u26,u27,u28)) K) ((i0:Int),(i0:Int)+1,L)=r:=by
 have hstart:(L.take (i0+1)).filter (fun l=>!iv k l)=L.take i0:=by
  have hg:L[i0]?=some L[i0]:=cI hi0;rw[take_succ hg,fj]
  have e1:(L.take i0).filter (fun l=>!iv k l)=L.take i0:=by
   refine gp.2 fun l hm=>?_;obtain⟨j,hj,rfl⟩:=df.1 hm;rw[cZ] at hj;rw[gE,h0 j _ (by omega) (cI (by omega))];rfl
  rw[e1];simp[h1 _ hg]
 refine ń (fun v=>∃(j:Nat) (W:List Lk),i0<j∧j≤L.length∧W.length=L.length∧((L.take j).filter fun l=>!iv k l).length<j∧W.take ((L.take j).filter fun l=>!iv k l).length=(L.take j).filter (fun l=>!iv k l)∧(∀t,j≤t→W[t]?=L[t]?)∧v=((((L.take j).filter fun l=>!iv k l).length:Int),(j:Int),W)) (fun v=>L.length-v.2.1.toNat) ?_ ?_
 ·rintro v ⟨j,W,hij,hj,hWl,hlt,hW,hsame,rfl⟩;rcases dv j L.length with h2|h2
  ·have hg:L[j]?=some L[j]:=cI h2;have hWg:=hsame j (cJ _);rw[hg] at hWg;generalize L[j]=l at hg hWg;have hts:=take_succ hg;generalize hfl:((L.take j).filter fun l=>!iv k l).length=c at hlt hW ⊢
   have hwc:c≤W.length:=by omega
   by_cases hp:iv k l=true
   ·have hf:(L.take (j+1)).filter (fun l=>!iv k l)=(L.take j).filter (fun l=>!iv k l):=by rw[hts,fj]; simp[hp]
    refine .inr ⟨(c,((j+1:Nat):Int),W),⟨j+1,W,by omega,h2,hWl,by rw[hf,hfl]; omega,by rw[hf,hfl]; exact hW,fun t ht=>hsame t (by omega),by rw[hf,hfl]⟩,by dsimp only; omega,fun kn=>?_⟩;dsimp only;unfold Ū;rw[á,hWl,Ó (decide_eq_true (by omega)),show þ W=(L.length:Int) by unfold þ; rw[hWl],Ě (by omega) (by omega),Int.toNat_natCast,jo hWg]
    have e1:((j:Int)+1)=((j+1:Nat):Int):=by push_cast; rfl
    unfold iv at hp;simp only[Bool.or_eq_true,Bool.and_eq_true,beq_iff_eq] at hp
    by_cases a1:l.1=0
    ·rw[Ó (beq_iff_eq.2 a1)]
     by_cases a2:l.2.1=k
     ·rw[Ó (beq_iff_eq.2 a2),Õ (by omega) (by omega),e1]
     ·obtain⟨a3,a4⟩:l.1=k∧l.2.1=0:=by rcases hp with h|h; exact absurd h.2 a2; exact h
      rw[Ð (beq_eq_false_iff_ne.2 a2),Ó (beq_iff_eq.2 a3),Ð (by simp[ieq,a4]),Õ (by omega) (by omega),e1]
    ·obtain⟨a3,a4⟩:l.1=k∧l.2.1=0:=by rcases hp with h|h; exact absurd h.1 a1; exact h
     rw[Ð (beq_eq_false_iff_ne.2 a1),Ó (beq_iff_eq.2 a3),Ð (by simp[ieq,a4]),Õ (by omega) (by omega),e1]
   ·have hp':iv k l=false:=er.2 hp
    have hf:(L.take (j+1)).filter (fun l=>!iv k l)=(L.take j).filter (fun l=>!iv k l)++[l]:=by rw[hts,fj]; simp[hp']
    have hfl':((L.take (j+1)).filter fun l=>!iv k l).length=c+1:=by rw[hf,cN,hfl]; rfl
    refine .inr ⟨(((c+1:Nat):Int),((j+1:Nat):Int),W.set c l),⟨j+1,W.set c l,by omega,h2,by rw[eO]; exact hWl,by rw[hfl']; omega,by
     rw[hfl',hf,←hW,List.take_set,take_succ (l:=W) (i:=c) (a:=W[c]) (cI (by omega)),gI _ _ (by rw[cZ]; omega),cZ,gq hwc,gJ]
     rfl,fun t ht=>by rw[List.getElem?_set_ne (by omega)]; exact hsame t (by omega),by rw[hfl']⟩,by dsimp only; omega,fun kn=>?_⟩
    dsimp only;unfold Ū;have hWc:W[c]?=some W[c]:=List.getElem?_eq_getElem (by omega)
    have e0:((c:Int)+1)=((c+1:Nat):Int):=by push_cast; rfl
    have e1:((j:Int)+1)=((j+1:Nat):Int):=by push_cast; rfl
    have st:(ã ((ile (0:Int) (c:Int))&&(ilt (c:Int) (þ W))) (ĺ W (Int.toNat (c:Int)) fun _=>ck ((c:Int)+(1:Int)) fun n11=>ck ((j:Int)+(1:Int)) fun n12=>kn (n11,n12,(List.set W (Int.toNat (c:Int)) l))))=kn (((c+1:Nat):Int),((j+1:Nat):Int),W.set c l):=by
     rw[show þ W=(L.length:Int) by unfold þ; rw[hWl],Ě (by omega) (by omega),Int.toNat_natCast,jo hWc,Õ (by omega) (by omega),Õ (by omega) (by omega),e0,e1]
    rw[á,hWl,Ó (decide_eq_true (by omega)),show ã ((ile (0:Int) (j:Int))&&(ilt (j:Int) (þ W)))=ã ((ile (0:Int) (j:Int))&&(ilt (j:Int) (L.length:Int))) by unfold þ; rw[hWl],Ě (by omega) (by omega),Int.toNat_natCast,jo hWg];unfold iv at hp';dsimp only at st ⊢
    by_cases a1:l.1=0
    ·by_cases a2:l.2.1=k
     ·simp[a1,a2] at hp'
     ·rw[Ó (beq_iff_eq.2 a1),Ð (beq_eq_false_iff_ne.2 a2)]
      by_cases a3:l.1=k
      ·have a4:¬l.2.1=0:=fun e=>by rw[a3,e] at hp'; simp at hp'
       rw[Ó (beq_iff_eq.2 a3),Ó (by simp[ieq,a4])];exact st
      ·rw[Ð (beq_eq_false_iff_ne.2 a3)];exact st
    ·rw[Ð (beq_eq_false_iff_ne.2 a1)]
     by_cases a3:l.1=k
     ·have a4:¬l.2.1=0:=fun e=>by rw[a3,e] at hp'; simp at hp'
      rw[Ó (beq_iff_eq.2 a3),Ó (by simp[ieq,a4])];exact st
     ·rw[Ð (beq_eq_false_iff_ne.2 a3)];exact st
  ·refine .inl fun kn=>?_
   obtain rfl:j=L.length:=by omega
   dsimp only;unfold Ū;rw[á,hWl,Ð (decide_eq_false (by omega))];rw[List.take_length] at hW ⊢;exact hK W hWl hW
 ·exact⟨i0+1,L,by omega,hi0,rfl,by rw[hstart,cZ]; omega,by rw[hstart,cZ,gq (by omega)],fun t _=>rfl,by rw[hstart,cZ,gq (by omega)]; push_cast; rfl⟩
theorem ak2 {L:List Lk} (hl:L.length≤1000) (N k:Int):ů (N,L) k=some (L.filter fun l=>!iv k l):=by
 unfold ů uE;dsimp only;rw[ĝ (Ö (by omega))]
 let K0:Int→Option (List Lk):=fun z6=>ifb (ieq z6 (-1:Int)) (some L) (ck (z6+(1:Int)) fun n7=>Ò (fun(v25:(Val (.pair tI Ì))) kk29=>Ū k v25.1 v25.2.1 v25.2.2 (fun u26 u27 u28=>kk29 (u26,u27,u28)) (fun z24=>ã ((ile (0:Int) z24.1)&&(ile z24.1 (þ z24.2))) (ã ((ile (0:Int) z24.1)&&(ile z24.1 (þ (List.take (Int.toNat z24.1) z24.2++List.replicate (List.length z24.2-(Int.toNat z24.1)) ((0:Int),(0:Int),(0:Int))++List.drop ((Int.toNat z24.1)+(List.length z24.2-(Int.toNat z24.1))) z24.2)))) (some (List.take (Int.toNat z24.1) (List.drop 0 (List.take (Int.toNat z24.1) z24.2++List.replicate (List.length z24.2-(Int.toNat z24.1)) ((0:Int),(0:Int),(0:Int))++List.drop ((Int.toNat z24.1)+(List.length z24.2-(Int.toNat z24.1))) z24.2))))))) (z6,n7,L))
 refine(δ L (iv k) K0 (some L) (fun i l hi hg kn=>?_) (fun kn=>?_)).trans ?_
 ·try dsimp only
  unfold j5;rw[á,Ó (decide_eq_true (by omega)),show ã ((ile (0:Int) (i:Int))&&(ilt (i:Int) (þ L)))=ã ((ile (0:Int) (i:Int))&&(ilt (i:Int) (L.length:Int))) from rfl,Ě (by omega) (by omega),Int.toNat_natCast,jo hg]
  by_cases a1:l.1=0
  ·rw[Ó (beq_iff_eq.2 a1)]
   by_cases a2:l.2.1=k
   ·rw[Ó (beq_iff_eq.2 a2),if_pos (by simp[iv,a1,a2])]
   ·rw[Ð (beq_eq_false_iff_ne.2 a2)]
    by_cases a3:l.1=k
    ·rw[Ó (beq_iff_eq.2 a3)]
     by_cases a4:l.2.1=0
     ·rw[Ó (beq_iff_eq.2 a4),if_pos (by simp[iv,a3,a4])]
     ·rw[Ð (beq_eq_false_iff_ne.2 a4),Î hi (by omega),if_neg (by simp[iv,a2,a4])]
    ·rw[Ð (beq_eq_false_iff_ne.2 a3),Î hi (by omega),if_neg (by simp[iv,a2,a3])]
  ·rw[Ð (beq_eq_false_iff_ne.2 a1)]
   by_cases a3:l.1=k
   ·rw[Ó (beq_iff_eq.2 a3)]
    by_cases a4:l.2.1=0
    ·rw[Ó (beq_iff_eq.2 a4),if_pos (by simp[iv,a3,a4])]
    ·rw[Ð (beq_eq_false_iff_ne.2 a4),Î hi (by omega),if_neg (by simp[iv,a1,a4])]
   ·rw[Ð (beq_eq_false_iff_ne.2 a3),Î hi (by omega),if_neg (by simp[iv,a1,a3])]
 ·try dsimp only
  unfold j5;rw[á,Ð (decide_eq_false (by omega))]
 ·cases hf:L.findIdx? (iv k) with
  |none =>
   have:=List.findIdx?_eq_none_iff.1 hf;dsimp only;rw[List.filter_eq_self.2 fun l hm=>by rw[this l hm]; rfl]
  |some i =>
   obtain⟨h1,h2,h3⟩:=List.findIdx?_eq_some_iff_getElem.1 hf;dsimp only;show K0 (i:Int)=_;simp only[K0];rw[Ð (beq_eq_false_iff_ne.2 (by omega)),Õ (by omega) (by omega)];refine agl hl k h1 (fun j l hj hg=>?_) (fun l hg=>?_) _ (fun W hWl hW=>?_)
   ·have hj':j<L.length:=by omega
    rw[cI hj'] at hg;cases hg;simpa using h3 j hj
   ·rw[cI h1] at hg;cases hg;exact h2
   ·have hfl:=List.length_filter_le (fun l=>!iv k l) L;generalize (L.filter fun l=>!iv k l).length=c at hW hfl ⊢;dsimp only;rw[Int.toNat_natCast]
    have e1:((ile (0:Int) (c:Int))&&(ile (c:Int) (þ W)))=true:=by
     have:(c:Int)≤(W.length:Int):=by omega
     simp[ile,þ,this]
    have hlen:(List.take c W++List.replicate (List.length W-c) ((0:Int),(0:Int),(0:Int))++List.drop (c+(List.length W-c)) W).length=W.length:=by
     simp; omega
    have e2:((ile (0:Int) (c:Int))&&(ile (c:Int) (þ (List.take c W++List.replicate (List.length W-c) ((0:Int),(0:Int),(0:Int))++List.drop (c+(List.length W-c)) W))))=true:=by
     have:(c:Int)≤(W.length:Int):=by omega
     unfold þ;rw[hlen];simp[ile,this]
    rw[ĝ e1,ĝ e2,List.drop_zero,di,fX (by rw[cZ]; omega),List.take_take,Nat.min_self,hW]
theorem Wl.tighter {L L':List Lk} {S:Int→Prop} (h:∀u v m,(u,v,m)∈L→∃m',m'≤m∧(u,v,m')∈L') {vs:List Int} {v d:Int} (w:Wl L S vs v d):∃d',d'≤d∧Wl L' S vs v d':=by
 induction w with
 |nil hs=>exact⟨0,dF _,.nil hs⟩
 | @step vs u v m d hw hl ih =>
  obtain⟨d',h1,h2⟩:=ih;obtain⟨m',h3,h4⟩:=h u v m hl;exact⟨d'+m',by omega,.step h2 h4⟩
section
variable {B:Þ} (h:ahO B)
include h
def UX (B:Þ) (k t:Int):List Lk:=[(0,k,t),(k,0,-t)]++(Ý B).filter fun l=>!iv k l
theorem anU {k t:Int} (hk:0≤k∧k<((Ê B).length+1:Nat)) (h1 : -(DT B k 0)≤t) (h2:t≤DT B 0 k):∀u v m,(u,v,m)∈Ý B→∃m',m'≤m∧(u,v,m')∈UX B k t:=by
 intro u v m hl
 cases ht:iv k (u,v,m) with
 |false=>exact⟨m,dF _,cQ.2 (.inr (eA.2 ⟨hl,by rw[ht]; rfl⟩))⟩
 |true =>
  unfold iv at ht;simp only[Bool.or_eq_true,Bool.and_eq_true,beq_iff_eq] at ht;rcases ht with⟨rfl,rfl⟩|⟨rfl,rfl⟩
  ·have:=X7 h.good.sys h.good.tied h.op (Ĩ B) 0 v m hl;have e:dst (Ý B) ((Ê B).length+1) 0 0=0:=Ni h.good.sys h.op (Ĩ B);exact⟨t,by unfold DT at h2; omega,List.mem_append.2 (.inl (by simp))⟩
  ·have:=X7 h.good.sys h.good.tied h.op hk u 0 m hl;have e:dst (Ý B) ((Ê B).length+1) u u=0:=Ni h.good.sys h.op hk;exact⟨-t,by unfold DT at h1; omega,List.mem_append.2 (.inl (by simp))⟩
theorem anT {k t:Int} (hk:0≤k∧k<((Ê B).length+1:Nat)) (hk0:k≠0) (hb : -4503599627370496≤t∧t≤4503599627370496):į (UX B k t) ((Ê B).length+1):=by
 have hs:=h.good.sys;have hl:=GU h.good;have hn:=h.good.nodes;have hc:=h.good.nC;have hf:=dA (fun l=>!iv k l) (Ý B)
 have q:∀l∈UX B k t,l∈Ý B∨l=(0,k,t)∨l=(k,0,-t):=by
  intro l hl;rcases cQ.1 hl with h|h
  ·simp at h; exact .inr h
  ·exact .inl (eA.1 h).1
 refine⟨hs.n1,hs.n60,by unfold UX; rw[List.length_append]; simp only[List.length_cons,List.length_nil]; omega,fun l hl=>?_,fun l hl=>?_,fun l hl=>?_⟩
 ·rcases q l hl with h|rfl|rfl
  ·exact hs.inr l h
  ·exact⟨Ĩ B,hk⟩
  ·exact⟨hk,Ĩ B⟩
 ·rcases q l hl with h|rfl|rfl
  ·exact hs.noloop l h
  ·exact fun e=>hk0 e.symm
  ·exact hk0
 ·rcases q l hl with h|rfl|rfl
  ·exact hs.most l h
  ·exact hb
  ·dsimp only; omega
theorem aeB {n:Int×Int} (hn:HK B n) {t:Int} (h1:(ivR B n).1≤t) (h2:t≤(ivR B n).2) :
 ų (((((Ê B).length+1:Nat):Int)),UX B (jH B n.1 n.2) t)=some (ŕ (UX B (jH B n.1 n.2) t) ((Ê B).length+1) 0,0)∧ahH B ((ŕ (UX B (jH B n.1 n.2) t) ((Ê B).length+1) 0).drop 1)=(true,0) ∧
 gv (0::(ŕ (UX B (jH B n.1 n.2) t) ((Ê B).length+1) 0).drop 1) (jH B n.1 n.2)=t∧((ŕ (UX B (jH B n.1 n.2) t) ((Ê B).length+1) 0).drop 1).length=(Ê B).length:=by
 have hk:=ŝ B n;have hk0:=(XW h.good).2 hn;have hz:=al5 h hk;unfold ivR at h1 h2;dsimp only at h1 h2;generalize jH B n.1 n.2=k at hk hk0 hz h1 h2 ⊢;have hs:=anT h (t:=t) hk hk0 (by omega);have hsub:=anU h hk h1 h2;have hN:=hs.n60
 have ht:vZ (UX B k t) ((Ê B).length+1):=⟨fun v h0 h1=>by
  obtain⟨vs,d,hw,hd⟩:=h.good.tied.to v h0 h1;obtain⟨d',q1,q2⟩:=hw.tighter hsub
  exact⟨vs,d',q2,by omega⟩,fun v h0 h1=>by
  obtain⟨vs,d,hw,hd⟩:=h.good.tied.from' v h0 h1;obtain⟨d',q1,q2⟩:=hw.tighter hsub
  exact⟨vs,d',q2,by omega⟩⟩
 have ho:ģ (UX B k t) ((Ê B).length+1)=true:=by
  obtain⟨p,hp,e⟩:=ajF h.good.sys h.good.tied h.op hk (Ĩ B) (t:=t) h1 h2;refine(Ĭ hs.links (by omega)).2 ⟨p,fun a b m hl=>?_⟩;rcases cQ.1 hl with h1|h1
  ·simp only[cW,fA,or_false,Prod.mk.injEq] at h1
   rcases h1 with⟨rfl,rfl,rfl⟩|⟨rfl,rfl,rfl⟩<;>omega
  ·exact hp a b m (eA.1 h1).1
 have hp:=ael hs ht ho;have hz0:=Rk hs ho (v:=0) (by omega) (by omega)
 have hpl:Pot (Ý B) (gv (ŕ (UX B k t) ((Ê B).length+1) 0)):=fun a b m hl=>by
  obtain⟨m',q1,q2⟩:=hsub a b m hl;have:=hp a b m' q2;omega
 have hl:=pV (L:=UX B k t) (N:=(Ê B).length+1) 0;have a1:=hp 0 k t (cQ.2 (.inl (by simp)));have a2:=hp k 0 (-t) (cQ.2 (.inl (by simp)))
 have key:0::(ŕ (UX B k t) ((Ê B).length+1) 0).drop 1=ŕ (UX B k t) ((Ê B).length+1) 0:=by
  generalize ŕ (UX B k t) ((Ê B).length+1) 0=y at hl hz0
  cases y with
  |nil=>simp at hl
  |cons a t =>
   have:a=0:=hz0;rw[this]; rfl
 refine⟨by rw[aet hs ht,if_pos ho],ajG h.good hl hz0 hpl,?_,by rw[gc,hl]; omega⟩;rw[key];omega
end
theorem age {ρ:Type}:@rG ρ=@ą ρ:=rfl
theorem akX {B:Þ} (h:ahO B) {n:Int×Int} (hn:HK B n) {t:Int} (h1:(ivR B n).1≤t) (h2:t≤(ivR B n).2) :
 (ck (0-t) fun n13=>Ã (ů (DR B) (jH B n.1 n.2)) fun r14=>ã (å ((List.length ([((0:Int),jH B n.1 n.2,t),(jH B n.1 n.2,(0:Int),n13)]))+(List.length r14))) (Ã (ų ((((Ê B).length:Int)+1),(([((0:Int),jH B n.1 n.2,t),(jH B n.1 n.2,(0:Int),n13)])++r14))) fun r15=>ifb (ine r15.2 (0:Int)) (some (([]:List Int),r15.2)) (ã (ile (1:Int) (þ r15.1)) (some ((List.drop 1 r15.1),(0:Int)))))) =
  some ((ŕ (UX B (jH B n.1 n.2) t) ((Ê B).length+1) 0).drop 1,0):=by
 have hb:=iv_bd h n;have hl:=h.good.sys.len;have hf:=dA (fun l=>!iv (jH B n.1 n.2) l) (Ý B);obtain⟨w1,_,_,w4⟩:=aeB h hn h1 h2
 rw[Õ (by omega) (by omega),Int.zero_sub,show DR B=(((Ê B).length:Int)+1,Ý B) from rfl,ak2 (by omega),À,ĝ (Ö (by simp only[cX,dk]; omega)),show(((Ê B).length:Int)+1)=(((Ê B).length+1:Nat):Int) by push_cast; rfl,
  show[((0:Int),jH B n.1 n.2,t),(jH B n.1 n.2,0,-t)]++(Ý B).filter (fun l=>!iv (jH B n.1 n.2) l)=UX B (jH B n.1 n.2) t from rfl,w1,À]
 dsimp only;rw[Ð (by rfl),ĝ (decide_eq_true (by show(1:Int)≤((ŕ (UX B (jH B n.1 n.2) t) ((Ê B).length+1) 0).length:Int); rw[pV]; omega))]
def witT (s l:Int×Int) (inn:Bool):Option Int :=
 if inn then(if max s.1 l.1≤min s.2 l.2 then some (max s.1 l.1) else none) else if s.1<l.1∨l.2<s.1 then some s.1 else if l.2<s.2 then some s.2 else none
def aeC (B:Þ) (n l:Int×Int) (inn:Bool):List Int×Int:=match witT (ivR B n) l inn with|some t=>((ŕ (UX B (jH B n.1 n.2) t) ((Ê B).length+1) 0).drop 1,0)|none=>([],5)
theorem ahT {s l:Int×Int} (hs:s.1≤s.2) (hl:¬l.2<l.1) (inn:Bool):(witT s l inn=none∧Ĺ s l=(if inn then 2 else 1))∨∃t,witT s l inn=some t∧s.1≤t∧t≤s.2∧Ĺ s l≠(if inn then 2 else 1)∧((l.1≤t∧t≤l.2)↔inn=true):=by
 unfold witT Ĺ
 cases inn with
 |true =>
  rw[if_pos rfl,if_pos rfl]
  by_cases h:max s.1 l.1≤min s.2 l.2
  ·rw[if_pos h];refine .inr ⟨_,rfl,by omega,by omega,?_,?_⟩
   ·split
    ·omega
    ·rw[if_neg (by omega)]; omega
   ·exact⟨fun _=>rfl,fun _=>⟨by omega,by omega⟩⟩
  ·rw[if_neg h];refine .inl ⟨rfl,?_⟩;rw[if_neg (by omega),if_pos (by omega)]
 |false =>
  simp only[dg,if_false]
  by_cases h:s.1<l.1∨l.2<s.1
  ·rw[if_pos h];refine .inr ⟨_,rfl,by omega,by omega,?_,?_⟩
   ·rw[if_neg (by omega)]; split<;>omega
   ·exact⟨fun h'=>by omega,fun h'=>h'.elim⟩
  ·rw[if_neg h]
   by_cases h2:l.2<s.2
   ·rw[if_pos h2];refine .inr ⟨_,rfl,by omega,by omega,?_,?_⟩
    ·rw[if_neg (by omega)]; split<;>omega
    ·exact⟨fun h'=>by omega,fun h'=>h'.elim⟩
   ·rw[if_neg h2];refine .inl ⟨rfl,?_⟩;rw[if_pos (by omega)]
def ahw {b:Þ} (hI:In b) (n l:Int×Int) (inn:Bool):vK b n l inn=some (if (ý b [n]).2≠0 then([],(ý b [n]).2) else if l.2<l.1 then([],1) else aeC (ý b [n]).1 n l inn):=by
 unfold vK Dh;rw[age]
 have hopen:=fun K=>qj (ρ:=List Int×Int) hI (ns:=[n]) (by simp) (E0:=fun r1=>ifb (ine r1 (0:Int)) (some ([],r1)) (ã (igt l.1 l.2) (some ([],(1:Int))))) (E1:=fun z7=>ifb (ine z7.1 (0:Int)) (some ([],z7.1)) (ã (igt l.1 l.2) (some ([],(1:Int))))) (E2:=fun z8 r9=>ifb (ine r9.2.2 (0:Int)) (some ([],r9.2.2)) (ã (igt l.1 l.2) (some ([],(1:Int))))) (E3:=fun _ _ _=>some ([],(9:Int))) (K:=K)
  (fun e=>some ([],e)) (fun e he=>by rw[Ó (by simp[ine,he])]) (fun z he=>by rw[Ó (by simp[ine,he])]) (fun _ _ _=>rfl)
 by_cases ho:(ý b [n]).2=0
 case neg =>
  rw[if_pos ho]; exact(hopen _).trans (by rw[if_pos ho])
 have hA:=T9 hI ho;rw[if_neg (show ¬(ý b [n]).2≠0 by simp[ho])];have hr:=hA.room;have hn:=hA.nodes n (by simp)
 by_cases hl:l.2<l.1
 ·rw[if_pos hl];refine(hopen _).trans ?_;rw[if_neg (by simp[ho])];dsimp only;rw[Ó (decide_eq_true hl)]
 generalize hB:(ý b [n]).1=B at hr hn hA;rw[if_neg hl];refine(hopen _).trans ?_
 ·rw[if_neg (by simp[ho])];dsimp only;have ea:=Lu hr.good hr.num (DR B) n;rw[hB,Ð (decide_eq_false (by omega)),vC,show((((Ê B).length:Int)+1,Ý B):Sys)=DR B from rfl,ow hr,À,ea];simp only[À];have ho1:=afr hr n;unfold aeC witT;generalize hs:ivR B n=s at ho1;have wt:∀t:Int,s.1≤t→t≤s.2→_:=fun t h1 h2=>akX hr hn (t:=t) (by rw[hs]; exact h1) (by rw[hs]; exact h2)
  cases inn with
  |true =>
   simp only[dR,é,XV,vx,if_true]
   by_cases h:max s.1 l.1≤min s.2 l.2
   ·rw[Ð (by simp only[ile,decide_eq_true h]; rfl),if_pos h];exact wt _ (by omega) (by omega)
   ·rw[Ó (by simp only[ile,decide_eq_false h]; rfl),if_neg h]
  |false =>
   simp only[fL,ğ,dg,if_false]
   by_cases h1:s.1<l.1
   ·rw[Ó (decide_eq_true h1),if_pos (.inl h1)];exact wt _ (by omega) (by omega)
   ·rw[Ð (decide_eq_false h1)]
    by_cases h2:l.2<s.1
    ·rw[Ð (by simp only[igt,decide_eq_true (show s.1>l.2 from h2)]; rfl),if_pos (.inr h2)];rw[Ð (by simp only[igt,decide_eq_true (show s.1>l.2 from h2)]; rfl)];exact wt _ (by omega) (by omega)
    ·rw[Ó (by simp only[igt,decide_eq_false (show ¬s.1>l.2 from h2)]; rfl),if_neg (by omega)]
     by_cases h3:l.2<s.2
     ·rw[Ó (decide_eq_true h3),if_pos h3];exact wt _ (by omega) (by omega)
     ·rw[Ð (decide_eq_false h3),if_neg h3,Ó (by simp only[igt,decide_eq_false (show ¬s.1>l.2 from h2)]; rfl)]
def YJ {B:Þ} (hr:ahO B) {n l:Int×Int} (hn:HK B n) (hl:¬l.2<l.1) (inn:Bool) :
 (Ĺ (ivR B n) l=(if inn then 2 else 1)∧aeC B n l inn=([],5))∨(Ĺ (ivR B n) l≠(if inn then 2 else 1)∧(aeC B n l inn).2=0∧ahH B (aeC B n l inn).1=(true,0)∧((l.1≤gv (0::(aeC B n l inn).1) (jH B n.1 n.2)∧gv (0::(aeC B n l inn).1) (jH B n.1 n.2)≤l.2)↔inn=true)∧(aeC B n l inn).1.length=(Ê B).length):=by
 unfold aeC;rcases ahT (afr hr n) hl inn with⟨h1,h2⟩|⟨t,h1,h2,h3,h4,h5⟩
 ·rw[h1]; exact .inl ⟨h2,rfl⟩
 ·rw[h1];obtain⟨_,w2,w3,w4⟩:=aeB hr hn h2 h3;refine .inr ⟨h4,rfl,w2,?_,w4⟩;dsimp only;rw[w3];exact h5
def ahC (s l:Int×Int):tD s l=some (Ĺ s l):=by
 unfold tD Ii Ĺ
 by_cases h1:l.1≤s.1
 ·rw[Ó (decide_eq_true h1)]
  by_cases h2:s.2≤l.2
  ·rw[Ó (decide_eq_true h2),if_pos ⟨h1,h2⟩]
  ·rw[Ð (decide_eq_false h2),if_neg (fun h=>h2 h.2)]
   by_cases h3:s.2<l.1
   ·rw[Ó (decide_eq_true h3),if_pos (.inl h3)]
   ·rw[Ð (decide_eq_false h3)]
    by_cases h4:l.2<s.1
    ·rw[Ó (decide_eq_true h4),if_pos (.inr h4)]
    ·rw[Ð (decide_eq_false h4),if_neg (by omega)]
 ·rw[Ð (decide_eq_false h1),if_neg (fun h=>h1 h.1)]
  by_cases h3:s.2<l.1
  ·rw[Ó (decide_eq_true h3),if_pos (.inl h3)]
  ·rw[Ð (decide_eq_false h3)]
   by_cases h4:l.2<s.1
   ·rw[Ó (decide_eq_true h4),if_pos (.inr h4)]
   ·rw[Ð (decide_eq_false h4),if_neg (by omega)]
def agR {b:Þ} (hn:∀g∈b.2.1,I64 g.2.2.2.2.1.1) (n l:Int×Int) (inn:Bool):nO b n l inn=some true:=by
 unfold nO nB;rw[few_ok,À,ago]
 by_cases hf:fewP b=true
 case neg=>rw[er.2 hf]; rfl
 have hI:In b:=⟨al1 hf,hn⟩;rw[hf,Ð (by rfl),af7 hI,À,ahw hI,À,aor hI (by simp),À];rw[alK]
 have n0:Ú ([]:List Int)=0:=by rw[á]; rfl
 by_cases ho:(ý b [n]).2=0
 case neg =>
  have e:HJ b n l=(0,(ý b [n]).2):=by unfold HJ; rw[if_pos ho]
  rw[e,if_pos ho];rw[Ð (show ieq (ý b [n]).2 0=false from beq_eq_false_iff_ne.2 ho),Ð (by simp[ine]),Ó (show ine (ý b [n]).2 0=true from bne_iff_ne.2 ho),À,ğ,Ó (by simp[ieq]),Ó (by rfl),n0];rfl
 rw[if_neg (show ¬(ý b [n]).2≠0 by simp[ho]),Ó (show ieq (ý b [n]).2 0=true from beq_iff_eq.2 ho)]
 by_cases hl:l.2<l.1
 ·have e:HJ b n l=(0,1):=by unfold HJ; rw[if_neg (by simp[ho]),if_pos hl]
  rw[e,if_pos hl,Ó (decide_eq_true hl),Ð (by rfl),À,ğ,Ó (by rfl),Ó (by rfl),n0];rfl
 have e:HJ b n l=(Ĺ (ivR (ý b [n]).1 n) l,0):=by unfold HJ; rw[if_neg (by simp[ho]),if_neg hl]
 have hA:=T9 hI ho;have hr:=hA.room;have hnode:=hA.nodes n (by simp);rw[e,if_neg hl,Ð (show igt l.1 l.2=false from decide_eq_false (by omega)),ajc ho,Ð (by simp[ine,ho]),Ð (show ine (ý b [n]).2 0=false by simp[ine,ho])];generalize (ý b [n]).1=B at hr hnode;have hx:=ŝ B n;have hne:=(XW hr.good).2 hnode;have h60:=hr.good.sys.n60;dsimp only;rw[kAt_ok hr.good,À,abg hr _ _ hx,À,ahC,À,Ð (show ine (Ĺ (ivR B n) l) (Ĺ (-DT B (jH B n.1 n.2) 0,DT B 0 (jH B n.1 n.2)) l)=false by simp[ine,ivR])]
 have fin:Ĺ (ivR B n) l≠(if inn then 2 else 1)→(ifb (ine (aeC B n l inn).2 (0:Int)) (some false) (ck ((DR B).1-(1:Int)) fun n13=>ifb (ine (Ú (aeC B n l inn).1) n13) (some false) (Ã (Đ (B,DR B,tabR B,0) (aeC B n l inn).1) fun r14=>ifb (!r14) (some false) (Ã (some (jH B n.1 n.2)) fun r15=>ck (r15-(1:Int)) fun n16=>ü (aeC B n l inn).1 n16 fun e17=>Ã (some true) fun r18=>ifb r18 (ifb (ige e17 l.1) (some (inn==(ile e17 l.2))) (some (inn==false))) (some false)))))=some true:=by
  intro hv;rcases YJ hr hnode hl inn with⟨h1,_⟩|⟨_,h2,h3,h4,h5⟩
  ·exact absurd h1 hv
  rw[h2,Ð (by rfl),show(DR B).1=((Ê B).length:Int)+1 from rfl,Õ (by omega) (by omega),á,h5,Ð (by simp[ine]),alM hr _ _ h3,À,Ð (by rfl),À,Õ (by omega) (by omega),alS (by omega) (by omega),À,ğ];generalize gv (0::(aeC B n l inn).1) (jH B n.1 n.2)=x at h4
  by_cases c1:l.1≤x
  ·rw[Ó (decide_eq_true c1)]
   by_cases c2:x≤l.2
   ·rw[show ile x l.2=true from decide_eq_true c2,h4.1 ⟨c1,c2⟩]; rfl
   ·rw[show ile x l.2=false from decide_eq_false c2]
    cases inn with
    |true=>exact absurd (h4.2 rfl).2 c2
    |false=>rfl
  ·rw[Ð (decide_eq_false c1)]
   cases inn with
   |true=>exact absurd (h4.2 rfl).1 c1
   |false=>rfl
 rw[show Ĺ (-DT B (jH B n.1 n.2) 0,DT B 0 (jH B n.1 n.2)) l=Ĺ (ivR B n) l from rfl]
 by_cases hv:Ĺ (ivR B n) l=(if inn then 2 else 1)
 ·rcases YJ hr hnode hl inn with⟨_,h2⟩|⟨h1,_⟩
  ·rw[hv,h2]
   cases inn with
   |true=>rw[ğ,Ó (by rfl),À,ğ,Ó (by rfl),n0]; rfl
   |false=>rw[é,fL,ğ,Ó (by rfl),À,ğ,Ó (by rfl),n0]; rfl
  ·exact absurd hv h1
 ·have hfin:=fin hv
  cases inn with
  |true =>
   have hv2:ieq (Ĺ (ivR B n) l) 2=false:=beq_eq_false_iff_ne.2 hv;rw[ğ,Ð hv2,dR,é];exact hfin
  |false =>
   have hv2:ieq (Ĺ (ivR B n) l) 1=false:=beq_eq_false_iff_ne.2 hv;rw[é,fL,ğ,Ð hv2];exact hfin
end Go.Proofs.ZzM
end
