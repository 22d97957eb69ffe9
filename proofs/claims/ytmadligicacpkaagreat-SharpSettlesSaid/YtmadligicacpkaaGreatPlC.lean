/- lemmas -/
import Derived.Test.YtmadligicacpkaaGreatPlB
import Derived.Test.YtmadligicacpkaaGreatPlA
import Derived.Test.YtmadligicacpkaaGreatMdTA
set_option linter.all false
set_option linter.unusedSectionVars false
set_option linter.unusedVariables false
set_option linter.unusedSimpArgs false
noncomputable section
namespace Go.Proofs.ZzM
open Go Go.Am
def ab7 {α β:Type} {e:Nat→α→Option β}:∀{l:List α} {k i:Nat} {a:α} {b:β},(∀j c,j<i→l[j]?=some c→e (k+j) c=none)→l[i]?=some a→e (k+i) a=some b→ķ e k l=some b
 |[],_,_,_,_,_,ha,_=>by simp at ha
 |c::t,k,0,a,b,_,ha,hb=>by
  simp only[List.getElem?_cons_zero,Option.some.injEq] at ha;subst ha;unfold ķ;rw[Nat.add_zero] at hb;rw[hb]
 |c::t,k,i+1,a,b,h,ha,hb=>by
  unfold ķ;have h0:=h 0 c (by omega) rfl;rw[Nat.add_zero] at h0;rw[h0];refine ab7 (i:=i) (fun j d hj hd=>?_) (by simpa using ha) (by rw[←hb]; congr 1; omega);have:=h (j+1) d (by omega) (by simpa using hd);rw[←this];congr 1;omega
def DW {ρ α β:Type} (l:List α) (e:Nat→α→Option β) (k0:β→Option ρ) (k1:Option ρ) {f:Int→(Int→Option ρ)→Option ρ}
 (h:∀(i:Nat) (a:α),i<l.length→l[i]?=some a→∀kn,f i kn=match e i a with|some b=>k0 b|none=>kn ((i:Int)+1))
 (hn:(∀j a,l[j]?=some a→e j a=none)→∀kn,f l.length kn=k1):Ñ f 0=match ķ e 0 l with|some b=>k0 b|none=>k1:=by
 refine ī (fun x:Int=>∃i:Nat,i≤l.length∧x=i∧∀j a,j<i→l[j]?=some a→e j a=none) (fun x=>l.length-x.toNat) ?_ ⟨0,by omega,rfl,fun j a hj=>by omega⟩;rintro x ⟨i,hi,rfl,hp⟩;rcases du i l.length with hlt|hge
 ·have ha:l[i]?=some l[i]:=cN hlt
  cases hc:e i l[i] with
  |some b =>
   refine .inl fun kn=>?_;rw[h i _ hlt ha,hc,ab7 (k:=0) (b:=b) (fun j c hj hc=>by rw[dt]; exact hp j c hj hc) ha (by rw[dt]; exact hc)]
  |none =>
   refine .inr ⟨((i+1:Nat):Int),⟨i+1,hlt,rfl,fun j a hj hja=>?_⟩,by simp only[di]; omega,fun kn=>?_⟩
   ·rcases du j i with h1|h1
    ·exact hp j a h1 hja
    ·have:j=i:=by omega
     subst this;rw[ha] at hja;rw[←Option.some.inj hja]; exact hc
   ·rw[h i _ hlt ha,hc];simp
 ·have:i=l.length:=by omega
  subst this;refine .inl fun kn=>?_;have hall:∀j a,l[j]?=some a→e j a=none:=fun j a hja=>hp j a (cX.1 hja).1 hja;rw[hn hall kn,iJ.2 fun j a hja=>by rw[dt]; exact hall j a hja]
def ace {e:Int}:af1 e=none↔e=0:=by
 unfold af1
 split<;>simp_all
section
variable {b:ß}
def As (h:Ď b):∀i,((b.2.1.take i).flatMap (ë b)).length≤1440∧(((b.2.1.take i).mapIdx (í b)).flatten).length≤1440:=by
 have hG:=h.nG
 have gl:∀g∈b.2.1,(ë b g).length≤120∧∀i,(í b i g).length≤120:=by
  intro g hg;have:=HL h hg;constructor
  ·unfold ë;rw[List.length_append,Š _ _ (fun _=>rfl)];simp only[List.length_cons,List.length_nil]; omega
  ·intro i;unfold í;rw[List.length_append,Š _ _ (fun _=>rfl)];simp only[List.length_cons,List.length_nil]; omega
 have key:∀i,i≤b.2.1.length→((b.2.1.take i).flatMap (ë b)).length≤i*120∧(((b.2.1.take i).mapIdx (í b)).flatten).length≤i*120:=by
  intro i
  induction i with
  |zero=>intro _; simp
  |succ i ih =>
   intro hi;have ih:=ih (by omega);have hg:b.2.1[i]?=some b.2.1[i]:=cN hi;have h2:=gl _ (cY hg);have h3:=h2.2 i;rw[ζ _ hg,take_succ hg,eS,fg,cR,cR];simp only[dL,gL,dI,fI,fY];omega
 intro i;rcases du b.2.1.length i with h1|h1
 ·rw[dV (by omega)];have:=key b.2.1.length (cO _);rw[List.take_length] at this;omega
 ·have:=key i h1;omega
set_option maxHeartbeats 1000000 in
def akS (h:Ď b):oU b=some (á b,Ŭ b):=by
 have hC:=h.nC;have hG:=h.nG;unfold oU Nl;rw[uJ h.pre,À];refine ñ b.2.1 (fun i=>((b.2.1.take i).flatMap (ë b),((b.2.1.take i).mapIdx (í b)).flatten)) _ rfl (fun i g hi hg kn=>?_) (fun kn=>?_)
 ·try dsimp only
  unfold mr;have hls:=As h i;rw[Ô hi,Ë hg];refine Eq.trans (Zj h hg (by omega) (by omega) _) ?_;rw[Î hi (by omega),ζ _ hg,take_succ hg,List.flatMap_append,List.flatten_append];simp only[List.flatMap_cons,List.flatMap_nil,List.append_nil,List.flatten_cons,List.flatten_nil]
 ·try dsimp only
  unfold mr;rw[à,List.take_length];dsimp only;have hls:=As h b.2.1.length;rw[List.take_length] at hls;refine ñ b.2.2.2.2.1 (fun i=>(b.2.1.flatMap (ë b)++(b.2.2.2.2.1.take i).flatMap (ï b),(b.2.1.mapIdx (í b)).flatten++((b.2.2.2.2.1.take i).mapIdx fun i _=>[((3:Int),(i:Int)),((3:Int),(i:Int))]).flatten)) _ (by simp) (fun i c hi hc kn=>?_) (fun kn=>?_)
  ·try dsimp only
   unfold mq;have hcm:=List.mem_of_getElem? hc;have hn:=(Ũ c).1 (h.nums hcm);have ha:=ė hn.2.2.2.2.2.1;have hb:=ė hn.2.2.2.2.2.2;have hcl:=Vy (b:=b) i (by omega);have sb:=pE h hcm;rw[Ô hi,Ë hc,sP (by omega) (by omega),À];rw[show ĥ ((b.1.1,b.1.2),b.2.1,b.2.2.1,b.2.2.2.1,b.2.2.2.2.1,b.2.2.2.2.2) (EG c.2.2.1 c.2.2.2.1,c.2.1)=ĥ b (EG c.2.2.1 c.2.2.2.1,c.2.1) from rfl,nY h.pre,À,sP (by omega) (by omega),À];rw[show ĥ ((b.1.1,b.1.2),b.2.1,b.2.2.1,b.2.2.2.1,b.2.2.2.2.1,b.2.2.2.2.2) (EG c.2.2.2.1 c.2.2.1,c.2.1)=ĥ b (EG c.2.2.2.1 c.2.2.1,c.2.1) from rfl,nY h.pre,À];rw[show jn ((b.1.1,b.1.2),b.2.1,b.2.2.1,b.2.2.2.1,b.2.2.2.2.1,b.2.2.2.2.2) c=jn b c from rfl,agv h.size h.film (h.cmpIn hcm),À];rw[Ó (by omega) (by omega),Ö (by simp only[List.length_append,List.length_cons,List.length_nil]; omega),Am.iff_true,Ö (by simp only[List.length_append,List.length_cons,List.length_nil]; omega),Am.iff_true,Î hi (by omega)];rw[ζ _ hc,take_succ hc,List.flatMap_append,List.flatten_append,JR h.pre,JR h.pre];simp only[List.flatMap_cons,List.flatMap_nil,List.append_nil,List.flatten_cons,List.flatten_nil,List.append_assoc];rw[Int.zero_sub];rfl
  ·try dsimp only
   unfold mq;rw[à,List.take_length];rfl
def kd (b:ß) (i:Nat) (c:Cmp):Int:=if !L1 c then 1 else if (b.2.2.2.2.1.take i).any (fun x=>x.1==c.1) then 6 else Bk b c
def Vp (hi:b.2.1.Pairwise fun a b=>a.1<b.1) (i:Nat) (c:Cmp):kd b i c=oY b (iA b) i c:=by
 unfold kd oY;rw[alK hi]
def anD (b:ß):Int:=match (b.2.2.2.2.1.mapIdx (kd b)).find? (fun e=>e != 0) with
 |some e=>e
 |none=>match (b.2.2.2.2.2.map (Za b)).find? (fun e=>e != 0) with
  |some e=>e
  |none=>if 59<(Ì b).length then 2 else if 300<2*b.2.1.length+2*((Ì b).length-b.2.1.length:Int)+2*b.2.2.2.2.1.length then 2 else 0
def ajO {α:Type} {l:List α} {E:α→Int} (h:(l.map E).find? (fun e=>e != 0)=none):∀a∈l,E a=0:=by
 intro a ha;have:=ez.1 h (E a) (dR.2 ⟨a,ha,rfl⟩);simpa using this
def ahn {α:Type} {l:List α} {E:Nat→α→Int} (h:(l.mapIdx E).find? (fun e=>e != 0)=none):∀i a,l[i]?=some a→E i a=0:=by
 intro i a ha;obtain⟨hi,rfl⟩:=cX.1 ha;have:=ez.1 h (E i l[i]) (gQ.2 ⟨i,hi,rfl⟩);simpa using this
def YF {i:Nat} {c:Cmp} (h:kd b i c=0):L1 c=true∧(å c.2.2.1 c.2.2.2.1).length≤1∧(å c.2.2.2.1 c.2.2.1).length≤1:=by
 unfold kd at h
 split at h
 ·omega
 rename_i h1
 split at h
 ·omega
 unfold Bk at h
 (repeat' split at h)<;>first|omega|exact⟨by simpa using h1,by omega,by omega⟩
set_option maxHeartbeats 4000000 in
def anC (hs:Ŵ b) (hfilm:0≤b.1.1∧b.1.1≤b.1.2∧b.1.2≤1000000) (nG:b.2.1.length≤12) (nU:b.2.2.1.length≤40) (nL:b.2.2.2.1.length≤12) (nC:b.2.2.2.2.1.length≤40) (nK:b.2.2.2.2.2.length≤10)
 (hg:∀g∈b.2.1,qg g=true) (hi:b.2.1.Pairwise fun a b=>a.1<b.1) (hu:∀u∈b.2.2.1,Za b u=0) (hl:∀i l,b.2.2.2.1[i]?=some l→TX b i l=0) :
 Ñ (fun(v41:Int) kk43=>jw b.1.1 b.1.2 b.2.1 b.2.2.1 b.2.2.2.1 b.2.2.2.2.1 b.2.2.2.2.2 v41 (fun u42=>kk43 u42) (fun z26=>some z26) (fun _=>Ñ (fun(v38:Int) kk40=>jv b.1.1 b.1.2 b.2.1 b.2.2.1 b.2.2.2.1 b.2.2.2.2.1 b.2.2.2.2.2 v38 (fun u39=>kk40 u39) (fun z34=>some z34) (fun _=>Ä (jD b) fun r36=>ifb (igt (Þ r36) (59:Int)) (some (2:Int)) (Ä (oU b) fun r37=>ifb (igt (Þ r37.1) (300:Int)) (some (2:Int)) (some (0:Int))))) (0:Int))) (0:Int)=some (anD b):=by
 unfold anD
 refine eR (DW b.2.2.2.2.1 (fun i c=>af1 (kd b i c)) some (some (match (b.2.2.2.2.2.map (Za b)).find? (fun e=>e != 0) with
  |some e=>e
  |none=>if 59<(Ì b).length then 2 else if 300<2*b.2.1.length+2*((Ì b).length-b.2.1.length:Int)+2*b.2.2.2.2.1.length then 2 else 0)) (fun i c hci hc kn=>?_) (fun hcz kn=>?_)) ?_
 ·try dsimp only
  unfold jw;have hp:=hs.piles c (List.mem_of_getElem? hc);rw[Ô hci,Ë hc,akO (by omega) (by omega),À];unfold kd af1
  cases L1 c with
  |false=>rfl
  |true =>
   rw[Ò (by rfl)]
   have hl9:(b.2.2.2.2.1.take i).length=i:=by rw[dh]; omega
   refine eR (ń (b.2.2.2.2.1.take i) (fun x=>x.1==c.1) (fun _=>some 6) (some 6) (if Bk b c=0 then kn ((i:Int)+1) else some (Bk b c)) (fun _=>rfl) (fun j a hj ha kn'=>?_) (fun kn'=>?_)) ?_
   ·try dsimp only
    unfold oM;rw[hl9] at hj
    have ha':b.2.2.2.2.1[j]?=some a:=by rwa [List.getElem?_take_of_lt hj] at ha
    rw[Õ (show ilt (j:Int) (i:Int)=true by simp[ilt]; omega),Ë ha',Ë hc,Î hj (by omega),Ĕ]
   ·try dsimp only
    unfold oM;rw[hl9,Ò (show ilt (i:Int) (i:Int)=false by simp[ilt])];dsimp only;rw[Ë hc,show jC ((b.1.1,b.1.2),b.2.1,b.2.2.1,b.2.2.2.1,b.2.2.2.2.1,b.2.2.2.2.2) c=jC b c from rfl,acM hs hp.1 hp.2,À,Î hci (by omega)]
    by_cases hz:Bk b c=0
    ·rw[Ò (by simp[ine,hz]),if_pos hz]
    ·rw[Õ (by simp[ine,hz]),if_neg hz]
   ·cases hany:(b.2.2.2.2.1.take i).any (fun x=>x.1==c.1) with
    |true=>simp
    |false =>
     by_cases hz:Bk b c=0
     ·simp[hz]
     ·simp[hz]
 ·try dsimp only
  unfold jw;rw[à];dsimp only;have hcz':∀i c,b.2.2.2.2.1[i]?=some c→kd b i c=0:=fun i c hc=>ace.1 (hcz i c hc);refine Eq.trans (DW b.2.2.2.2.2 (fun _ u=>af1 (Za b u)) some (some (if 59<(Ì b).length then 2 else if 300<2*b.2.1.length+2*((Ì b).length-b.2.1.length:Int)+2*b.2.2.2.2.1.length then 2 else 0)) (fun i a hia ha kn'=>?_) (fun hlz kn'=>?_)) ?_
  ·try dsimp only
   unfold jv;rw[Ô hia,Ë ha,Y2,À];unfold Za af1
   cases H8 a.2 with
   |false=>rfl
   |true =>
    rw[Ò (by rfl),Ë ha,Ë ha,H4 (b:=((b.1.1,b.1.2),b.2.1,b.2.2.1,b.2.2.2.1,b.2.2.2.2.1,b.2.2.2.2.2)) (by simp only; omega),À,Î hia (by omega)];have e:ψ ((b.1.1,b.1.2),b.2.1,b.2.2.1,b.2.2.2.1,b.2.2.2.2.1,b.2.2.2.2.2) a.1 a.2=ψ b a.1 a.2:=rfl;rw[e]
    by_cases hz:ψ b a.1 a.2=0
    ·rw[Ò (by simp[ine,hz])]; simp[hz]
    ·rw[Õ (by simp[ine,hz])]; simp[hz]
  ·try dsimp only
   unfold jv;rw[à];dsimp only
   have hlz':∀u∈b.2.2.2.2.2,Za b u=0:=fun u hum=>by
    obtain⟨j,hj,rfl⟩:=dj.1 hum;exact ace.1 (hlz j _ (cN hj))
   have pre:Pre b:=⟨hs,hg,fun c hc=>by
    obtain⟨j,hj,rfl⟩:=dj.1 hc;have q:=YF (hcz' j _ (cN hj))
    exact⟨aad q.1,q.2⟩,fun n hn=>by
    have:=hlz' n hn;unfold Za at this
    split at this
    ·omega
    ·rename_i hd; simpa using hd⟩
   rw[uJ pre,À,é]
   by_cases h59:59<(Ì b).length
   ·rw[Õ (by simp[igt]; omega),if_pos h59]
   ·rw[Ò (by simp[igt]; omega),if_neg h59];have good:Ď b:=⟨hfilm,nG,nU,nL,nC,nK,hg,hi,fun u hum=>by rw[←ae8 hi]; exact hu u hum,fun i l hil=>by rw[←ajl hi]; exact hl i l hil,fun i c hic=>by rw[←Vp hi]; exact hcz' i c hic,fun u hum=>by rw[←ae8 hi]; exact hlz' u hum,by omega,by omega⟩;have hll:=QL good;rw[akS good,À,é];dsimp only;rw[hll,Ò (by simp[igt]; omega),if_neg (by omega)]
  ·rw[Q2]
   cases(b.2.2.2.2.2.map (Za b)).find? (fun e=>e != 0)<;>rfl
 ·rw[Q1 (kd b)]
  cases(b.2.2.2.2.1.mapIdx (kd b)).find? (fun e=>e != 0)<;>rfl
end
def Yw {l m:List Int}:(l++m).find? (fun e=>e != 0)=match l.find? (fun e=>e != 0) with|some e=>some e|none=>m.find? (fun e=>e != 0):=by
 rw[List.find?_append]
 cases l.find? (fun e=>e != 0)<;>rfl
set_option maxHeartbeats 4000000 in
def RQ {b:ß} (hs:Ŵ b):iX b=some (ä b):=by
 unfold iX IR ä;rw[wy,À]
 cases hsp:jL b.1 0 1000000 with
 |false=>rfl
 |true =>
 have hfilm:0≤b.1.1∧b.1.1≤b.1.2∧b.1.2≤1000000:=by
  simp only[jL,cQ,decide_eq_true_eq] at hsp;exact hsp
 rw[Ò (show(!true)=false from rfl),if_neg (by simp)];rw[é b.2.1,é b.2.2.1,é b.2.2.2.1,é b.2.2.2.2.1,é b.2.2.2.2.2]
 by_cases c0:12<b.2.1.length
 ·rw[Õ (by simp[igt]; omega),if_pos c0]
 rw[Ò (by simp[igt]; omega),if_neg c0]
 by_cases c1:40<b.2.2.1.length
 ·rw[Õ (by simp[igt]; omega),if_pos c1]
 rw[Ò (by simp[igt]; omega),if_neg c1]
 by_cases c2:12<b.2.2.2.1.length
 ·rw[Õ (by simp[igt]; omega),if_pos c2]
 rw[Ò (by simp[igt]; omega),if_neg c2]
 by_cases c3:40<b.2.2.2.2.1.length
 ·rw[Õ (by simp[igt]; omega),if_pos c3]
 rw[Ò (by simp[igt]; omega),if_neg c3]
 by_cases c4:10<b.2.2.2.2.2.length
 ·rw[Õ (by simp[igt]; omega),if_pos c4]
 rw[Ò (by simp[igt]; omega),if_neg c4]
 refine eR (DW b.2.1 (ox b.2.1) some (some (match (xA b (iA b)).find? (fun e=>e != 0) with
  |some e=>e
  |none=>if 59<(Ì b).length then 2 else if 300<2*b.2.1.length+2*((Ì b).length-b.2.1.length:Int)+2*b.2.2.2.2.1.length then 2 else 0)) (fun i g hi hg kn=>?_) (fun hz kn=>?_)) ?_
 ·try dsimp only
  unfold oN;rw[Ô hi,Ë hg,akQ,À];unfold ox
  cases qg g with
  |false=>rfl
  |true =>
   rw[Ò (by rfl)];rcases ft i with h0|h0
   ·subst h0
    have:igt ((0:Nat):Int) 0=false:=by simp[igt]
    rw[Ò this,Î hi (by omega)];simp[D6]
   ·obtain⟨q,hq⟩:=Em hi h0
    have h1:igt (i:Int) 0=true:=by simp[igt]; omega
    rw[Õ h1,Ë hg,Rl h0 (by omega),Hk h0 hq];simp only[D6,h0,decide_true,Bool.true_and,hq,Option.any_some];unfold ile
    cases h2:decide (g.1≤q.1) with
    |true=>simp
    |false=>rw[ô,Î hi (by omega)]; simp
 ·try dsimp only
  unfold oN;rw[à];dsimp only
  have hg0:jl b=0:=by
   unfold jl;rw[iJ.2 fun j a ha=>by rw[Nat.zero_add]; exact hz j a ha];rfl
  obtain⟨hg,hi⟩:=(vY b).1 hg0;have eu:b.2.2.1.map (Za b)=b.2.2.1.map fun u=>agE (iA b) u.1 u.2:=List.map_congr_left fun u _=>ae8 hi u;have el:b.2.2.2.1.mapIdx (TX b)=b.2.2.2.1.mapIdx fun i l=>TY b (iA b) i l:=List.mapIdx_eq_mapIdx_iff.2 fun i hl=>ajl hi i _;have ec:b.2.2.2.2.1.mapIdx (kd b)=b.2.2.2.2.1.mapIdx fun i c=>oY b (iA b) i c:=List.mapIdx_eq_mapIdx_iff.2 fun i hc=>Vp hi i _;have ek:b.2.2.2.2.2.map (Za b)=b.2.2.2.2.2.map fun u=>agE (iA b) u.1 u.2:=List.map_congr_left fun u _=>ae8 hi u;unfold xA;rw[←eu,←el,←ec,←ek,Yw,Yw,Yw,amX hs,À]
  cases hue:(b.2.2.1.map (Za b)).find? (fun e=>e != 0) with
  |some e =>
   have he:e≠0:=by have:=f9 hue; simpa using this
   simp only[fK];rw[Ò (by simpa[ieq] using he),Õ (by simpa[ine] using he)]
  |none =>
   simp only[Option.getD_none];rw[Õ (by rfl),akP hs,À]
   cases hle:(b.2.2.2.1.mapIdx (TX b)).find? (fun e=>e != 0) with
   |some e =>
    have he:e≠0:=by have:=f9 hle; simpa using this
    simp only[fK];rw[Õ (by simpa[ine] using he)]
   |none =>
    simp only[Option.getD_none];rw[Ò (by rfl)];refine Eq.trans (anC hs hfilm (by omega) (by omega) (by omega) (by omega) (by omega) hg hi (ajO hue) (ahn hle)) ?_;unfold anD
    cases(b.2.2.2.2.1.mapIdx (kd b)).find? (fun e=>e != 0)<;>rfl
 ·unfold jl
  cases hf:ķ (ox b.2.1) 0 b.2.1 with
  |none =>
   simp
   cases(xA b (iA b)).find? (fun e=>e != 0)<;>rfl
  |some e =>
   have he:jl b=e:=by unfold jl; rw[hf]; rfl
   have hne:e≠0:=by
    intro h0;rw[h0] at he;obtain⟨h1,h2⟩:=(vY b).1 he
    have h3:∀j a,b.2.1[j]?=some a→ox b.2.1 j a=none:=by
     intro j a ha;have h4:=(YR (fun g:î=>g.1) b.2.1).2 h2 j a ha;simp[ox,h1 a (cY ha),h4]
    rw[iJ.2 fun j a ha=>by rw[dt]; exact h3 j a ha] at hf;cases hf
   simp[hne]
def akU {b:ß} (hs:Ŵ b) (hf:0≤b.1.1∧b.1.1≤b.1.2∧b.1.2≤1000000) {c:Cmp} (h:ah0 b c) {d:Int} (hd : -2305843009213693952≤d∧d≤2305843009213693952):kH b c d=some (d+TW b c,d+sI b c):=by
 have hn:=(Ũ c).1 h.ok.nums;have ha:=ė hn.2.2.2.2.2.1;have hb:=ė hn.2.2.2.2.2.2;obtain⟨q1,q2,b1,b2,b3⟩:=nc hf h.ok;have c1:=uF q1;have c2:=qj q2;have fb:=ql (b:=b) (c:=c) (by omega) (by omega) (by omega) (by omega) (by omega) (by omega);unfold kH IK TW sI;rw[Ki hs h,À,RP (by omega) (by omega) (by omega) (by omega) (by omega) (by omega),À,Y0 q1.rat,RO q2.rat];simp only[À];rw[Ó (by omega) (by omega),Ó (by omega) (by omega),Ó (by omega) (by omega),Ó (by omega) (by omega),Ó (by omega) (by omega),Ó (by omega) (by omega)]
 have e1:d+(ik b c).1+D3 (Ĝ b c).1-c.2.2.2.2.2.1=d+(D3 (Ĝ b c).1+(ik b c).1-c.2.2.2.2.2.1):=by omega
 have e2:d+(ik b c).2+(Ĝ b c).2.1 / (Ĝ b c).2.2+c.2.2.2.2.2.1=d+((Ĝ b c).2.1 / (Ĝ b c).2.2+(ik b c).2+c.2.2.2.2.2.1):=by omega
 rw[e1,e2]
section
variable {L:List Lk} {N:Nat}
def pJ:∀(A B:List Lk),kw (A++B)=kw A+kw B
 |[],B=>by simp[kw,A2]
 |l::A,B=>by
  have:=pJ A B;simp only[kw,A2,if_true,eM] at this ⊢;omega
def aiY (k:Nat) (L:List Lk):kw L≤kw (L.take k):=by
 have h:=pJ (L.take k) (L.drop k);rw[List.take_append_drop] at h;have:=mh (fun _=>true) (L.drop k);unfold kw at *;omega
def Oe (L:List Lk):kw L≤0:=mh _ _
def Uk (L:List Lk) (l:Lk) (x:List Int):Ĭ (L++[l]) x=Ŧ (Ĭ L x) l:=by
 unfold Ĭ;rw[List.foldl_append];rfl
def V1:∀{L:List Lk},InR L N→∀{x:List Int} {B:Int},x.length=N→B≤0→(∀v:Int,0≤v→v<N→B≤gv x v)→∀v:Int,0≤v→v<N→B+kw L≤gv (Ĭ L x) v
 |[],_,x,B,_,_,hB,v,h0,h1=>by have:=hB v h0 h1; simp[kw,A2,Ĭ]; omega
 |l::t,hL,x,B,hx,hB0,hB,v,h0,h1=>by
  have hl:=hL l (by simp)
  have key:∀v:Int,0≤v→v<N→B+min l.2.2 0≤gv (Ŧ x l) v:=by
   intro v h0 h1;have h2:=hB v h0 h1;have h3:=hB l.1 hl.1.1 hl.1.2;unfold Ŧ
   split
   ·rw[t8 hl.2.1 h0 (by omega)]
    split<;>omega
   ·omega
  have:=V1 (L:=t) (fun m hm=>hL m (by simp[hm])) (x:=Ŧ x l) (B:=B+min l.2.2 0) (by rw[kS]; exact hx) (by omega) key v h0 h1;show B+kw (l::t)≤gv (Ĭ t (Ŧ x l)) v
  have e:kw (l::t)=min l.2.2 0+kw t:=by simp[kw,A2]
  rw[e];omega
def afp {x0 x:List Int} {l:Lk} (hl:(0≤l.1∧l.1<N)∧(0≤l.2.1∧l.2.1<N)) (hx:x.length=N) (hle:∀v:Int,0≤v→gv x v≤gv x0 v) (hlt:gv x l.1+l.2.2<gv x l.2.1):x.set l.2.1.toNat (gv x l.1+l.2.2)≠x0:=by
 intro e;have h1:=hle l.2.1 hl.2.1
 have h2:gv (x.set l.2.1.toNat (gv x l.1+l.2.2)) l.2.1=gv x l.1+l.2.2:=by rw[t8 hl.2.1 hl.2.1 (by omega),if_pos rfl]
 rw[e] at h2;omega
def CF {ρ:Type} {x:List Int} {v:Int} (h0:0≤v) (h1:v<x.length) (f:Int→Option ρ):ì ((ile (0:Int) v)&&(ilt v (ą x))) (Ķ x (Int.toNat v) f)=f (gv x v):=by
 rw[show ą x=((x.length:Nat):Int) from rfl,Ĩ h0 h1,jH (by omega)]
set_option maxHeartbeats 1000000 in
def aiJ (hL:InR L N) (hM:∀l∈L,-4503599627370496≤l.2.2∧l.2.2≤4503599627370496) (hlen:L.length≤1000000) {x0:List Int} (hx:x0.length=N) (h0:∀v:Int,0≤v→v<N→gv x0 v≤0) {B:Int} (hB:B≤0) (hlow:∀v:Int,0≤v→v<N→B≤gv x0 v) (hb : -9000000000000000000≤B+kw L) (K:Bool×List Int→Option Bool) :
 Ñ (fun(v12:Bool×Int×List Int) kk16=>nu L v12.1 v12.2.1 v12.2.2 (fun u13 u14 u15=>kk16 (u13,u14,u15)) K) (false,(0:Int),x0)=K (decide (Ĭ L x0≠x0),Ĭ L x0):=by
 refine ī (fun s:Bool×Int×List Int=>∃k:Nat,k≤L.length∧s=(decide (Ĭ (L.take k) x0≠x0),(k:Int),Ĭ (L.take k) x0)) (fun s=>L.length-s.2.1.toNat) ?_ ⟨0,by omega,by simp[Ĭ]⟩;rintro s ⟨k,hk,rfl⟩;rcases du k L.length with hlt|hge
 ·have ha:L[k]?=some L[k]:=cN hlt;have hl:=hL _ (cY ha);have hm:=hM _ (cY ha);have hLt:InR (L.take k) N:=fun l hl=>hL l (fE hl)
  have hlx:(Ĭ (L.take k) x0).length=N:=by rw[nf,hx]
  have hle:=qJ hLt hx;have hnt:=aiY k L;have hlo:=V1 hLt hx hB hlow L[k].1 hl.1.1 hl.1.2;have hup:=hle L[k].1 hl.1.1;have hup0:=h0 L[k].1 hl.1.1 hl.1.2;have hnp:=Oe L;refine .inr ⟨(decide (Ĭ (L.take (k+1)) x0≠x0),((k+1:Nat):Int),Ĭ (L.take (k+1)) x0),⟨k+1,hlt,rfl⟩,by simp only[di]; omega,fun kn=>?_⟩
  try dsimp only
  unfold nu;rw[Ô hlt,Ë ha,CF hl.1.1 (by omega),Ó (by omega) (by omega),CF hl.2.1 (by omega),Ĕ,take_succ ha,Uk]
  by_cases hc:gv (Ĭ (L.take k) x0) L[k].1+L[k].2.2<gv (Ĭ (L.take k) x0) L[k].2.1
  ·have hr:Ŧ (Ĭ (L.take k) x0) L[k]=(Ĭ (L.take k) x0).set L[k].2.1.toNat (gv (Ĭ (L.take k) x0) L[k].1+L[k].2.2):=by
    unfold Ŧ;rw[if_pos ⟨by unfold ĭ; omega,hc⟩]
   rw[if_pos (by simpa[ilt] using hc),CF hl.1.1 (by omega),Ó (by omega) (by omega),CF hl.2.1 (by omega),Î hlt (by omega),hr];have:decide ((Ĭ (L.take k) x0).set L[k].2.1.toNat (gv (Ĭ (L.take k) x0) L[k].1+L[k].2.2)≠x0)=true:=decide_eq_true (afp hl hlx hle hc);rw[this];rfl
  ·have hr:Ŧ (Ĭ (L.take k) x0) L[k]=Ĭ (L.take k) x0:=by
    unfold Ŧ;rw[if_neg (fun h=>hc h.2)]
   rw[if_neg (by simpa[ilt] using hc),Î hlt (by omega),hr];rfl
 ·have:k=L.length:=by omega
  subst this;refine .inl fun kn=>?_
  try dsimp only
  unfold nu;rw[à,List.take_length]
def ZI {x:List Int} {n:Nat} (h:Ĭ L (Ā L n x)=Ā L n x):∀m,n≤m→Ā L m x=Ā L n x:=by
 intro m hm
 induction m with
 |zero =>
  have:n=0:=by omega
  subst this; rfl
 |succ m ih =>
  rcases du m n with h1|h1
  ·have:n=m+1:=by omega
   subst this; rfl
  ·rw[ł,ih h1,h]
def NU:List.replicate N (0:Int)=Ł (xr N) N:=by
 refine Vb (by simp[æ]) fun v h0 h1=>?_
 have hv:v<N:=by simpa using h1
 rw[ū _ h0 hv,if_pos (by simp[xr,h0,hv])];unfold gv;rw[List.getElem?_replicate]
 split<;>rfl
set_option maxHeartbeats 1000000 in
def am2 (h:ĺ L N) (hneg : -140000000000000000≤kw L):Hv ((N:Int),L)=some (ě L N):=by
 have h2:=h.n60;have h3:=h.n1;have h4:=h.len;have hnp:=Oe L;unfold Hv OW;dsimp only;rw[vW (by omega),Int.toNat_natCast,NU]
 have bd:∀n:Nat,(∀v:Int,0≤v→v<N→gv (Ā L n (Ł (xr N) N)) v≤0)∧(∀v:Int,0≤v→v<N→(n:Int)*kw L≤gv (Ā L n (Ł (xr N) N)) v):=by
  intro n
  induction n with
  |zero =>
   constructor
   ·intro v h0 h1;show gv (Ł (xr N) N) v≤0;rw[ū _ h0 h1,if_pos (by simp[xr,h0,h1])]; omega
   ·intro v h0 h1;show _≤gv (Ł (xr N) N) v;rw[ū _ h0 h1,if_pos (by simp[xr,h0,h1])]; simp
  |succ n ih =>
   have hl:(Ā L n (Ł (xr N) N)).length=N:=by rw[ù,æ]
   rw[ł];constructor
   ·intro v h0 h1;have:=qJ h.inr hl v h0;have:=ih.1 v h0 h1;omega
   ·intro v h0 h1;have:=V1 h.inr hl (B:=(n:Int)*kw L) (by have:=fA (show(0:Int)≤n by omega) (show 0≤-kw L by omega); rw[Int.mul_neg] at this; omega) ih.2 v h0 h1;rw[fJ,fN,fW];exact this
 refine ī (fun s:Bool×Int×List Int=>∃n:Nat,n≤N+1∧s.2.1=(n:Int)∧s.2.2=Ā L n (Ł (xr N) N)∧s.1=(if n=0 then true else decide (Ā L n (Ł (xr N) N)≠Ā L (n-1) (Ł (xr N) N)))) (fun s=>N+1-s.2.1.toNat) ?_ ⟨0,by omega,rfl,rfl,rfl⟩;rintro⟨ag,i,x⟩ ⟨n,hn,e1,e2,e3⟩;dsimp only at e1 e2 e3 ⊢;subst e1 e2 e3
 have hl:(Ā L n (Ł (xr N) N)).length=N:=by rw[ù,æ]
 by_cases hnN:n≤N
 ·by_cases hag:(if n=0 then true else decide (Ā L n (Ł (xr N) N)≠Ā L (n-1) (Ł (xr N) N)))=true
  ·refine .inr ⟨(decide (Ĭ L (Ā L n (Ł (xr N) N))≠Ā L n (Ł (xr N) N)),((n+1:Nat):Int),Ĭ L (Ā L n (Ł (xr N) N))),⟨n+1,by omega,rfl,(ł L n _).symm,?_⟩,by simp only[di]; omega,fun kn=>?_⟩
   ·rw[if_neg (by omega),f7,ł]
   ·unfold nv;rw[hag,Õ (by simp[ile]; omega),Ľ]
    have hB : -9000000000000000000≤(n:Int)*kw L+kw L:=by
     have h5:(n:Int)*(-kw L)≤60*140000000000000000:=eY (by omega) (by omega) (by omega) (by omega);rw[Int.mul_neg] at h5;omega
    have hB0:(n:Int)*kw L≤0:=by
     have:=fA (show(0:Int)≤n by omega) (show 0≤-kw L by omega);rw[Int.mul_neg] at this;omega
    refine Eq.trans (aiJ h.inr h.most (by omega) hl (bd n).1 hB0 (bd n).2 hB _) ?_;dsimp only;rw[Ó (by omega) (by omega)];rfl
  ·refine .inl fun kn=>?_;have hagf:=Bool.eq_false_iff.2 hag;unfold nv;rw[hagf,Õ (by simp[ile]; omega),ô]
   have hn0:n≠0:=by intro e; rw[e] at hagf; simp at hagf
   rw[if_neg hn0] at hagf
   have heq:Ā L n (Ł (xr N) N)=Ā L (n-1) (Ł (xr N) N):=by simpa using hagf
   have hfix:Ĭ L (Ā L (n-1) (Ł (xr N) N))=Ā L (n-1) (Ł (xr N) N):=by
    rw[←ł,Nat.sub_add_cancel (by omega)];exact heq
   have hall:=ZI hfix N (by omega)
   have:ě L N=true:=by
    unfold ě Ħ;rw[hall];exact decide_eq_true hfix
   rw[this];rfl
 ·refine .inl fun kn=>?_
  have:n=N+1:=by omega
  subst this;unfold nv;rw[Ò (by simp[ile]; omega),if_neg (by omega),Nat.add_sub_cancel,ł];unfold ě Ħ
  by_cases hd:Ĭ L (Ā L N (Ł (xr N) N))=Ā L N (Ł (xr N) N)
  ·simp[hd]
  ·simp[hd]
end
section
variable {L:List Lk} {N:Nat}
def alT (h:ĺ L N) : -1400000000000000000≤kw L:=by
 have h1:=Og (L:=L) (fun l hl=>(h.links.most l hl).1) h.links.m0;have h2:=h.len;omega
set_option maxHeartbeats 1000000 in
def aeQ (h:ĺ L N) {p:Int→Int} (hp:Pot L p) {S:Int→Prop} {x0:List Int} (hx:x0.length=N) (h0:∀v:Int,0≤v→v<N→gv x0 v≤ĭ) (hat:Att L S N x0) (K:Bool×List Int→Option (List Int)) :
 Ñ (fun(v18:Bool×Int×List Int) kk22=>jS L v18.1 v18.2.1 v18.2.2 (fun u19 u20 u21=>kk22 (u19,u20,u21)) K) (false,(0:Int),x0)=K (decide (Ĭ L x0≠x0),Ĭ L x0):=by
 have hlen:=h.len;have hneg:=alT h;refine ī (fun s:Bool×Int×List Int=>∃k:Nat,k≤L.length∧s=(decide (Ĭ (L.take k) x0≠x0),(k:Int),Ĭ (L.take k) x0)) (fun s=>L.length-s.2.1.toNat) ?_ ⟨0,by omega,by simp[Ĭ]⟩;rintro s ⟨k,hk,rfl⟩;rcases du k L.length with hlt|hge
 ·have ha:L[k]?=some L[k]:=cN hlt;have hl:=h.inr _ (cY ha);have hm:=h.most _ (cY ha);have hLt:InR (L.take k) N:=fun l hl=>h.inr l (fE hl)
  have hlx:(Ĭ (L.take k) x0).length=N:=by rw[nf,hx]
  have hle:=qJ hLt hx;have hatk:Att L S N (Ĭ (L.take k) x0):=NY hLt (fun l hl=>fE hl) hx hat;refine .inr ⟨(decide (Ĭ (L.take (k+1)) x0≠x0),((k+1:Nat):Int),Ĭ (L.take (k+1)) x0),⟨k+1,hlt,rfl⟩,by simp only[di]; omega,fun kn=>?_⟩
  try dsimp only
  unfold jS;rw[Ô hlt,Ë ha,CF hl.1.1 (by omega),Ĕ,take_succ ha,Uk]
  by_cases hf:gv (Ĭ (L.take k) x0) L[k].1<ĭ
  ·obtain⟨vs,hw⟩:=hatk L[k].1 hl.1.1 hl.1.2 hf;have hlo:=hw.low' hp;have hup:gv (Ĭ (L.take k) x0) L[k].1<1152921504606846976:=hf;rw[if_pos (by simpa[ilt] using hf),CF hl.1.1 (by omega),Ó (by omega) (by omega),CF hl.2.1 (by omega),Ĕ]
   by_cases hc:gv (Ĭ (L.take k) x0) L[k].1+L[k].2.2<gv (Ĭ (L.take k) x0) L[k].2.1
   ·have hr:Ŧ (Ĭ (L.take k) x0) L[k]=(Ĭ (L.take k) x0).set L[k].2.1.toNat (gv (Ĭ (L.take k) x0) L[k].1+L[k].2.2):=by
     unfold Ŧ;rw[if_pos ⟨hf,hc⟩]
    rw[if_pos (by simpa[ilt] using hc),CF hl.1.1 (by omega),Ó (by omega) (by omega),CF hl.2.1 (by omega),Î hlt (by omega),hr];have:decide ((Ĭ (L.take k) x0).set L[k].2.1.toNat (gv (Ĭ (L.take k) x0) L[k].1+L[k].2.2)≠x0)=true:=decide_eq_true (afp hl hlx hle hc);rw[this];rfl
   ·have hr:Ŧ (Ĭ (L.take k) x0) L[k]=Ĭ (L.take k) x0:=by
     unfold Ŧ;rw[if_neg (fun h=>hc h.2)]
    rw[if_neg (by simpa[ilt] using hc),Î hlt (by omega),hr];rfl
  ·have hr:Ŧ (Ĭ (L.take k) x0) L[k]=Ĭ (L.take k) x0:=by
    unfold Ŧ;rw[if_neg (fun h=>hf h.1)]
   rw[if_neg (by simpa[ilt] using hf),Î hlt (by omega),hr];rfl
 ·have:k=L.length:=by omega
  subst this;refine .inl fun kn=>?_
  try dsimp only
  unfold jS;rw[à,List.take_length]
def aii {S:Int→Bool}:Att L (fun v=>S v=true) N (Ł S N):=by
 intro v h0 h1 hf;rw[ū _ h0 h1] at hf ⊢
 split at hf
 ·rename_i hs;rw[if_pos hs];exact⟨[],.nil hs⟩
 ·exact absurd hf (by omega)
set_option maxHeartbeats 1000000 in
def VH (h:ĺ L N) (ho:ě L N=true) {s:Int} (hs:0≤s∧s<N):qn ((N:Int),L) s=some (jJ L N s):=by
 have h2:=h.n60;have h3:=h.n1;have hlen:=h.len;obtain⟨p,hp⟩:=(Ŏ h.links (by omega)).1 ho;unfold qn Dp;dsimp only;rw[vW (by omega),Int.toNat_natCast];refine ñ (List.replicate N (0:Int)) (fun i=>List.replicate i ĭ++List.replicate (N-i) 0) _ (by simp) (fun i a hi ha kn=>?_) (fun kn=>?_)
 ·dsimp only;unfold mV
  have hiN:i<N:=by simpa using hi
  have hl:i<(List.replicate i ĭ++List.replicate (N-i) (0:Int)).length:=by simp; omega
  rw[Õ (show ilt (i:Int) (N:Int)=true by simp[ilt]; omega),ι hl,Ĥ (cN hl),Î hiN (by omega),di];congr 2;rw[gM _ _ (by simp)]
  have:N-i=(N-(i+1))+1:=by omega
  rw[this,fu,gB,gu,List.set_cons_zero,List.replicate_succ'];simp
 ·try dsimp only
  unfold mV
  have e0:List.replicate (List.replicate N (0:Int)).length ĭ++List.replicate (N-(List.replicate N (0:Int)).length) 0=List.replicate N ĭ:=by simp
  rw[Ò (show ilt ((List.replicate N (0:Int)).length:Int) (N:Int)=false by simp[ilt]),e0];dsimp only;rw[CF hs.1 (by simpa using hs.2),Zn hs]
  have bd:∀n:Nat,(∀v:Int,0≤v→v<N→gv (Ā L n (Ł (A1 s) N)) v≤ĭ)∧Att L (fun v=>A1 s v=true) N (Ā L n (Ł (A1 s) N)):=by
   intro n;constructor
   ·intro v h0 h1;have h4:=xz h.inr n (æ (A1 s) N) v h0
    have h5:gv (Ł (A1 s) N) v≤ĭ:=by rw[ū _ h0 h1]; unfold ĭ; split<;>omega
    omega
   ·exact Ik h.inr n (æ _ _) aii
  have fixN:Ĭ L (Ā L N (Ł (A1 s) N))=Ā L N (Ł (A1 s) N):=by
   rw[←ł];have hd:=fun n hn=>CX (S:=A1 s) hp h.inr (fun v hv=>by simp[A1] at hv; subst hv; exact hs) (fun l hl=>(h.links.most l hl).2) h.links.m0 (aiW h.links (by omega)) n hn;refine Vb (by rw[ù,ù]) fun v h0 h1=>?_;rw[ù,æ] at h1;exact(hd (N+1) (by omega)).uniq (hd N (by omega)) h0 h1
  refine ī (fun st:Bool×Int×List Int=>∃n:Nat,n≤N+1∧st.2.1=(n:Int)∧st.2.2=Ā L n (Ł (A1 s) N)∧st.1=(if n=0 then true else decide (Ā L n (Ł (A1 s) N)≠Ā L (n-1) (Ł (A1 s) N)))) (fun st=>N+1-st.2.1.toNat) ?_ ⟨0,by omega,rfl,rfl,rfl⟩;rintro⟨ag,i,x⟩ ⟨n,hn,e1,e2,e3⟩;dsimp only at e1 e2 e3 ⊢;subst e1 e2 e3
  have hl:(Ā L n (Ł (A1 s) N)).length=N:=by rw[ù,æ]
  by_cases hnN:n≤N
  ·by_cases hag:(if n=0 then true else decide (Ā L n (Ł (A1 s) N)≠Ā L (n-1) (Ł (A1 s) N)))=true
   ·refine .inr ⟨(decide (Ĭ L (Ā L n (Ł (A1 s) N))≠Ā L n (Ł (A1 s) N)),((n+1:Nat):Int),Ĭ L (Ā L n (Ł (A1 s) N))),⟨n+1,by omega,rfl,(ł L n _).symm,?_⟩,by simp only[di]; omega,fun kn=>?_⟩
    ·rw[if_neg (by omega),f7,ł]
    ·unfold jT;rw[hag,Õ (by simp[ile]; omega),Ľ];refine Eq.trans (aeQ h hp hl (bd n).1 (bd n).2 _) ?_;dsimp only;rw[Ó (by omega) (by omega)];rfl
   ·refine .inl fun kn=>?_;have hagf:=Bool.eq_false_iff.2 hag;unfold jT;rw[hagf,Õ (by simp[ile]; omega),ô]
    have hn0:n≠0:=by intro e; rw[e] at hagf; simp at hagf
    rw[if_neg hn0] at hagf
    have heq:Ā L n (Ł (A1 s) N)=Ā L (n-1) (Ł (A1 s) N):=by simpa using hagf
    have hfix:Ĭ L (Ā L (n-1) (Ł (A1 s) N))=Ā L (n-1) (Ł (A1 s) N):=by
     rw[←ł,Nat.sub_add_cancel (by omega)];exact heq
    have hall:=ZI hfix N (by omega);unfold jJ;rw[hall,heq]
  ·refine .inl fun kn=>?_
   have:n=N+1:=by omega
   subst this;unfold jT;rw[Ò (by simp[ile]; omega),ł,fixN];rfl
end
def Oh {α:Type} (F:α→List Lk) (B:Int):∀l:List α,(∀a∈l,-B≤kw (F a))→-(l.length*B)≤kw (l.flatMap F)
 |[],_=>by simp[kw,A2]
 |a::l,h=>by
  rw[dL,pJ];have h1:=h a (by simp);have h2:=Oh F B l fun c hc=>h c (by simp[hc]);rw[dc,fJ,fN,fW];omega
def aiX {L:List Lk} (h:∀l∈L,0≤l.2.2):kw L=0:=by
 induction L with
 |nil=>rfl
 |cons l t ih =>
  have h1:=h l (by simp);have h2:=ih fun m hm=>h m (by simp[hm])
  have e:kw (l::t)=min l.2.2 0+kw t:=by simp[kw,A2]
  rw[e,h2];omega
def Ď.neg {b:ß} (h:Ď b) : -140000000000000000≤kw (á b):=by
 have hG:=h.nG;have hC:=h.nC
 have g1:∀g∈b.2.1,-1130000000000000≤kw (ë b g):=by
  intro g hg;have hr:=h.gaugeR hg;have r1:=hr.2.2.2.2.2.1;have r2:=hr.2.2.2.2.2.2.1;unfold ë
  rw[pJ,aiX (L:=(List.range ((Û b g).length-1)).flatMap _) (fun l hl=>by
   obtain⟨k,hk,hl⟩:=dv.1 hl;have hk':=gF.1 hk;simp only[cZ,fL,or_false] at hl;rcases hl with rfl|rfl
   ·exact dJ _
   ·have hd:(Û b g)[k]?=some ((Û b g)[k]?.getD 0):=by rw[cN (by omega)]; rfl
    exact(ji h hg (h.day hg (cY hd)).2.1).1)]
  simp only[kw,A2,if_true];omega
 have g2:∀c∈b.2.2.2.2.1,-2260000000000000≤kw (ï b c):=by
  intro c hc;have sb:=pE h hc;unfold ï;simp only[kw,A2,if_true];omega
 have s1:=Oh (ë b) 1130000000000000 b.2.1 g1;have s2:=Oh (ï b) 2260000000000000 b.2.2.2.2.1 g2;unfold á;rw[pJ];omega
def Kh {b:ß} (h:Ď b):ο b=some (((Ì b).length:Int)+1,á b):=by
 have hN:=h.nodes;unfold ο uZ;rw[uJ h.pre,À,é,Ó (by omega) (by omega),akS h,À]
section
variable {ρ:Type}
abbrev am5:Type:=ß×Sys×List (List Int)×Int
def afS (e:Int):am5:=(kQ,(0,[]),[],e)
def tabR (B:ß):List (List Int):=AZ ((Ì B).length+1) (ald B)
def acO (b:ß) (ns:List (Int×Int)):am5 :=
 if (Ą b ns).2≠0 then afS (Ą b ns).2 else((Ą b ns).1,RW (Ą b ns).1,tabR (Ą b ns).1,0)
def akY {b:ß} (h:Ď b) (n:Int×Int):uq b n=some (if ä (jj b n)≠0 then(kQ,ä (jj b n)) else(jj b n,0)):=by
 have h5:=h.nK;unfold uq O3;rw[Ö (by omega),Am.iff_true,List.nil_append,Ö (by simp only[List.length_singleton]; omega),Am.iff_true];rw[show iX (b.1,b.2.1,b.2.2.1,b.2.2.2.1,b.2.2.2.2.1,b.2.2.2.2.2++[n])=iX (jj b n) from rfl,RQ (abM h n),À]
 by_cases hc2:ä (jj b n)=0
 ·rw[Ò (by simp[ine,hc2]),if_neg (show ¬(ä (jj b n)≠0) from fun h=>h hc2)];rfl
 ·rw[Õ (by simp[ine,hc2]),if_pos hc2];rfl
abbrev ahZ:Type:=Int×Int×List î×List (Int×Int)×List Kj×List Cmp×List (Int×Int)×Int×Int×Int×Int
def bkK (s:ahZ):ß:=((s.1,s.2.1),s.2.2.1,s.2.2.2.1,s.2.2.2.2.1,s.2.2.2.2.2.1,s.2.2.2.2.2.2.1)
def ajv {ns:List (Int×Int)} (hl:ns.length≤1000) (X:ß→Option am5) {E1 K1:ahZ→Option am5} (hK:∀s:ahZ,K1 s=X (bkK s))
 (hE:∀s:ahZ,s.2.2.2.2.2.2.2.1=0→s.2.2.2.2.2.2.2.2.1=0→s.2.2.2.2.2.2.2.2.2.1=0→E1 s=some (afS s.2.2.2.2.2.2.2.2.2.2)) {b:ß} (hg:Ď b) :
 Ñ (fun(v12:Int×ahZ) kk25=>nq ns v12.1 v12.2.1 v12.2.2.1 v12.2.2.2.1 v12.2.2.2.2.1 v12.2.2.2.2.2.1 v12.2.2.2.2.2.2.1 v12.2.2.2.2.2.2.2.1 v12.2.2.2.2.2.2.2.2.1 v12.2.2.2.2.2.2.2.2.2.1 v12.2.2.2.2.2.2.2.2.2.2.1 v12.2.2.2.2.2.2.2.2.2.2.2 (fun u13 u14 u15 u16 u17 u18 u19 u20 u21 u22 u23 u24=>kk25 (u13,u14,u15,u16,u17,u18,u19,u20,u21,u22,u23,u24)) E1 K1) ((0:Int),b.1.1,b.1.2,b.2.1,b.2.2.1,b.2.2.2.1,b.2.2.2.2.1,b.2.2.2.2.2,(0:Int),(0:Int),(0:Int),(0:Int)) =
  if (Ő b ns).2≠0 then some (afS (Ő b ns).2) else X (Ő b ns).1:=by
 refine Hb ns (fun(i:Nat) (s:ahZ) (t:List (Int×Int))=>if (Ő (bkK s) t).2≠0 then some (afS (Ő (bkK s) t).2) else X (Ő (bkK s) t).1)
  (fun i s=>Ď (bkK s)∧s.2.2.2.2.2.2.2.1=0∧s.2.2.2.2.2.2.2.2.1=0∧s.2.2.2.2.2.2.2.2.2.1=0) (fun s hs kn=>?_) (fun i n t s hd hi ha hs kn hk=>?_) (s:=(b.1.1,b.1.2,b.2.1,b.2.2.1,b.2.2.2.1,b.2.2.2.2.1,b.2.2.2.2.2,(0:Int),(0:Int),(0:Int),(0:Int))) ⟨hg,rfl,rfl,rfl⟩
 ·dsimp only;unfold nq;rw[à];exact hK s
 ·dsimp only;unfold nq;obtain⟨hs1,z1,z2,z3⟩:=hs;rw[Ô hi,Ë ha];rw[show ĥ ((s.1,s.2.1),s.2.2.1,s.2.2.2.1,s.2.2.2.2.1,s.2.2.2.2.2.1,s.2.2.2.2.2.2.1) n=ĥ (bkK s) n from rfl,nY hs1.pre,À,Ë ha];rw[show uq ((s.1,s.2.1),s.2.2.1,s.2.2.2.1,s.2.2.2.2.1,s.2.2.2.2.2.1,s.2.2.2.2.2.2.1) n=uq (bkK s) n from rfl,akY hs1,À];have hr:=Κ (bkK s) n
  have hu:Ő (bkK s) (n::t)=if (jK (bkK s) n).2≠0 then(kQ,(jK (bkK s) n).2) else Ő (jK (bkK s) n).1 t:=rfl
  rw[hu]
  by_cases h0:vX (bkK s) n.1 n.2=0
  ·rw[Ò (decide_eq_false (by omega))]
   by_cases h2:ä (jj (bkK s) n)=0
   ·have e:jK (bkK s) n=(jj (bkK s) n,0):=by unfold jK; rw[if_neg (by simp[h0]),if_neg (by simp[h2])]
    rw[if_neg (show ¬ä (jj (bkK s) n)≠0 by simp[h2]),Ò (by rfl),Î hi (by omega),e,if_neg (show ¬((0:Int)≠0) by simp)];exact hk (s.1,s.2.1,s.2.2.1,s.2.2.2.1,s.2.2.2.2.1,s.2.2.2.2.2.1,s.2.2.2.2.2.2.1++[n],s.2.2.2.2.2.2.2) ⟨(ð _).1 h2,z1,z2,z3⟩
   ·have e:jK (bkK s) n=(kQ,ä (jj (bkK s) n)):=by unfold jK; rw[if_neg (by simp[h0]),if_pos h2]
    rw[if_pos h2,Õ (by simp[ine,h2]),e,if_pos h2,if_pos h2];exact hE _ rfl rfl rfl
  ·have e:jK (bkK s) n=(bkK s,0):=by unfold jK; rw[if_pos h0]
   rw[Õ (decide_eq_true (by omega)),Î hi (by omega),e,if_neg (show ¬((0:Int)≠0) by simp)];exact hk s ⟨hs1,z1,z2,z3⟩
def aoF {b:ß} (hI:In b) {ns:List (Int×Int)} (hl:ns.length≤1000):Hr b ns=some (acO b ns):=by
 unfold Hr Ow;rw[RQ hI.size,À]
 by_cases hc:ä b=0
 case neg =>
  have e:Ą b ns=(kQ,ä b):=by unfold Ą; rw[if_pos hc]
  rw[Õ (bne_iff_ne.2 hc)];unfold acO;rw[e,if_pos hc];rfl
 have hg:=(ð b).1 hc
 have e:Ą b ns=if (Ő b ns).2≠0 then(kQ,(Ő b ns).2) else if ě (á (Ő b ns).1) ((Ì (Ő b ns).1).length+1) then((Ő b ns).1,0) else(kQ,9):=by
  unfold Ą; rw[if_neg (show ¬ä b≠0 by simp[hc])]
 rw[Ò (by rw[hc]; rfl)];refine(ajv hl (fun B=>Ä (ο B) fun r10=>Ä (pr r10) fun r11=>ifb (!r11.2) (some ((((0:Int),(0:Int)),[],[],[],[],[]),((0:Int),[]),[],(9:Int))) (some (B,r10,r11.1,(0:Int)))) (fun s=>rfl) (fun s h1 h2 h3=>?_) hg).trans ?_
 ·rw[h1,h2,h3];rfl
 by_cases hr:(Ő b ns).2=0
 case neg =>
  rw[if_pos hr] at e;unfold acO;rw[if_pos hr,e,if_pos hr]
 have hg':=Ej hg hr;rw[if_neg (show ¬(Ő b ns).2≠0 by simp[hr])] at e ⊢;generalize (Ő b ns).1=B at hg' e;rw[Kh hg',À,show(((Ì B).length:Int)+1,á B)=((((Ì B).length+1:Nat):Int),á B) by push_cast; rfl,agu hg'.sys hg'.tied,À];unfold acO
 cases ho:ě (á B) ((Ì B).length+1) with
 |true =>
  rw[if_pos ho] at e;rw[if_pos rfl,e,if_neg (by simp),Ò (by rfl),←Ib];rfl
 |false =>
  rw[if_neg (by simp[ho])] at e;rw[if_neg (by simp),e,if_pos (by simp),Õ (by rfl)];rfl
def al3 (b:ß) (ns:List (Int×Int)):(acO b ns).2.2.2=(Ą b ns).2:=by
 unfold acO
 by_cases h:(Ą b ns).2=0
 ·rw[if_neg (by simp[h]),h]
 ·rw[if_pos h]; rfl
def aju {b:ß} {ns:List (Int×Int)} (h:(Ą b ns).2=0):acO b ns=((Ą b ns).1,RW (Ą b ns).1,tabR (Ą b ns).1,0):=by
 unfold acO; rw[if_neg (by simp[h])]
def Nr {N:Nat} (g:Int→Int) {u:Int} (hu:0≤u∧u<N) (f:Int→Option ρ):ü (RX N g) u f=f (g u) :=
 ii hu.1 (afn g hu.1 hu.2) f
end
def ck_wr {ρ:Type} (n:Int) (f:Int→Option ρ):ck n f=f (ae3 n):=rfl
def tie_cs {ρ:Type} (c0:List (Int×Int)) (c1 c2 c3:Int) (c4:List î) (c5:List (Int×Int)) (c6:List Kj) (cs cs':List Cmp) (c8:List (Int×Int)):@kj ρ c0 c1 c2 c3 c4 c5 c6 cs c8=@kj ρ c0 c1 c2 c3 c4 c5 c6 cs' c8:=rfl
section
variable {b:ß} {c:Cmp}
def ai3 (g:î):Û (Ø b c) g=Û (Ø b (Â c)) g:=by
 refine YS (qx _ _) (qx _ _) fun y=>?_;rw[iV,iV];refine or_congr Iff.rfl (or_congr ?_ Iff.rfl);constructor
 ·rintro⟨q,hq,h1,h2⟩;rcases cW.1 (show q∈b.2.2.2.2.1++[c] from hq) with hq|hq
  ·exact⟨q,cW.2 (.inl hq),h1,h2⟩
  ·rw[df] at hq;subst hq;exact⟨Â q,j5,h1,h2⟩
 ·rintro⟨q,hq,h1,h2⟩;rcases cW.1 (show q∈b.2.2.2.2.1++[Â c] from hq) with hq|hq
  ·exact⟨q,cW.2 (.inl hq),h1,h2⟩
  ·rw[df] at hq;subst hq;exact⟨c,j5,h1,h2⟩
def Ad:Ì (Ø b c)=Ì (Ø b (Â c)):=agZ rfl fun g _=>ai3 g
def Aa (h':Ď (Ø b (Â c))):Pre (Ø b c):=by
 have hs:=h'.size;have hp:=h'.pre;refine⟨⟨hs.gauges,hs.uses,hs.loans,?_,hs.looks,fun d hd=>?_⟩,h'.gauge,fun d hd=>?_,hp.look⟩
 ·have:=hs.compares;simp only[Ø,cR,dz] at this ⊢;exact this
 ·rcases cW.1 (show d∈b.2.2.2.2.1++[c] from hd) with hd|hd
  ·exact hs.piles d (cW.2 (.inl hd))
  ·rw[df] at hd;subst hd;exact hs.piles (Â d) j5
 ·rcases cW.1 (show d∈b.2.2.2.2.1++[c] from hd) with hd|hd
  ·exact hp.cmp d (cW.2 (.inl hd))
  ·rw[df] at hd;subst hd;exact hp.cmp (Â d) j5
def akW (h':Ď (Ø b (Â c))):∃s,jn (Ø b c) c=some s:=by
 have h0:ah0 (Ø b (Â c)) (Â c):=h'.cmpIn j5;have hn:=(Ũ _).1 h0.ok.nums;have ha:c.2.2.1.length≤6:=ė hn.2.2.2.2.2.1;have hb:c.2.2.2.1.length≤6:=ė hn.2.2.2.2.2.2;have hf:0≤b.1.1∧b.1.1≤b.1.2∧b.1.2≤1000000:=h'.film;obtain⟨q1,q2,_⟩:=nc (b:=Ø b (Â c)) hf h0.ok
 have eg:mJ (Ø b c) c=some (Ĝ (Ø b (Â c)) (Â c)):=by
  rw[←Ki h'.size h0];rfl
 have ef:pq (Ø b c) c=some (ik (Ø b c) c):=RP (by omega) (by omega) hf.1 (by show b.1.1≤_; omega) (by show 0≤b.1.2; omega) hf.2.2;unfold jn Fe;rw[eg,À,ef,À,RO q2.rat,Y0 q1.rat];simp only[À];unfold ck;exact⟨_,rfl⟩
set_option maxHeartbeats 2000000 in
def akT (h':Ď (Ø b (Â c))):∃u v S,oU (Ø b c)=some (â (Ø b (Â c))++[u,v],S):=by
 have hC:=h'.nC;have hG:b.2.1.length≤12:=h'.nG;have hp:=Aa h';obtain⟨s,hs⟩:=akW h'
 have hlen:(Ø b c).2.2.2.2.1.length=b.2.2.2.2.1.length+1:=by simp[Ø]
 have hlen0:(Ø b (Â c)).2.2.2.2.1.length=b.2.2.2.2.1.length+1:=by simp[Ø]
 let LL:List (List Lk):=b.2.2.2.2.1.map (ï (Ø b (Â c)))++[[(cy (Ø b (Â c)) (Â c),cx (Ø b (Â c)) (Â c),s.2),(cx (Ø b (Â c)) (Â c),cy (Ø b (Â c)) (Â c),ae3 (0-s.1))]]
 have hLL:LL.length=b.2.2.2.2.1.length+1:=by simp[LL]
 have hL2:∀l∈LL,l.length=2:=by
  intro l hl;rcases cW.1 hl with hl|hl
  ·obtain⟨d,_,rfl⟩:=dR.1 hl;rfl
  ·rw[df] at hl;subst hl; rfl
 have hfl:∀i,(LL.take i).flatten.length≤2*i:=by
  intro i
  have:∀l:List (List Lk),(∀x∈l,x.length=2)→l.flatten.length=2*l.length:=by
   intro l
   induction l with
   |nil=>intro _; rfl
   |cons x t ih =>
    intro hx;rw[fI,cR,hx x (by simp),ih fun y hy=>hx y (by simp[hy]),dc];omega
  rw[this _ fun x hx=>hL2 x (fE hx),dh];omega
 refine⟨(cy (Ø b (Â c)) (Â c),cx (Ø b (Â c)) (Â c),s.2),(cx (Ø b (Â c)) (Â c),cy (Ø b (Â c)) (Â c),ae3 (0-s.1)),(b.2.1.mapIdx (í (Ø b (Â c)))).flatten++(List.range (b.2.2.2.2.1.length+1)).flatMap fun(k:Nat)=>[((3:Int),(k:Int)),((3:Int),(k:Int))],?_⟩;unfold oU Nl;rw[uJ hp,À,Ad];refine ñ b.2.1 (fun i=>((b.2.1.take i).flatMap (ë (Ø b (Â c))),((b.2.1.take i).mapIdx (í (Ø b (Â c)))).flatten)) _ rfl (fun i g hi hg kn=>?_) (fun kn=>?_)
 ·try dsimp only
  unfold mr;have hls:=As h' i;have hls1:((b.2.1.take i).flatMap (ë (Ø b (Â c)))).length≤1440∧(((b.2.1.take i).mapIdx (í (Ø b (Â c)))).flatten).length≤1440:=hls;rw[show(Ø b c).2.1=b.2.1 from rfl,Ô hi,Ë hg,tie_cs _ _ _ _ _ _ _ (Ø b c).2.2.2.2.1 (Ø b (Â c)).2.2.2.2.1];refine Eq.trans (Zj h' hg (by omega) (by omega) _) ?_;rw[Î hi (by omega),ζ _ hg,take_succ hg,List.flatMap_append,List.flatten_append];simp only[List.flatMap_cons,List.flatMap_nil,List.append_nil,List.flatten_cons,List.flatten_nil]
 ·try dsimp only
  unfold mr;rw[show(Ø b c).2.1=b.2.1 from rfl,à,List.take_length];dsimp only;have hls:=As h' b.2.1.length;rw[show(Ø b (Â c)).2.1=b.2.1 from rfl,List.take_length] at hls;refine ñ (Ø b c).2.2.2.2.1 (fun i=>(b.2.1.flatMap (ë (Ø b (Â c)))++(LL.take i).flatten,(b.2.1.mapIdx (í (Ø b (Â c)))).flatten++(List.range i).flatMap fun(k:Nat)=>[((3:Int),(k:Int)),((3:Int),(k:Int))])) _ (by simp) (fun i d hi hd kn=>?_) (fun kn=>?_)
  ·try dsimp only
   unfold mq;have hcl:=hfl i;have hrl:=Š (fun(k:Nat)=>[((3:Int),(k:Int)),((3:Int),(k:Int))]) i (fun _=>rfl)
   have hil:i<LL.length:=by omega
   have hLi:LL[i]?=some LL[i]:=cN hil;have hdm:=cY hd;have hpl:=hp.size.piles d hdm
   -- what the comparison says
   have says:∃t,jn (Ø b c) d=some t∧[(atP (Ì (Ø b (Â c))) (å d.2.2.2.1 d.2.2.1) d.2.1,atP (Ì (Ø b (Â c))) (å d.2.2.1 d.2.2.2.1) d.2.1,t.2),(atP (Ì (Ø b (Â c))) (å d.2.2.1 d.2.2.2.1) d.2.1,atP (Ì (Ø b (Â c))) (å d.2.2.2.1 d.2.2.1) d.2.1,ae3 (0-t.1))]=LL[i]:=by
    rcases du i b.2.2.2.2.1.length with hlt|hge
    ·have hd':b.2.2.2.2.1[i]?=some d:=by
      have:(b.2.2.2.2.1++[c])[i]?=some d:=hd
      rwa [fB hlt] at this
     have hdm0:d∈(Ø b (Â c)).2.2.2.2.1:=cW.2 (.inl (cY hd'));have sb:=pE h' hdm0;refine⟨Ŗ (Ø b (Â c)) d,?_,?_⟩
     ·rw[←agv h'.size h'.film (h'.cmpIn hdm0)];rfl
     ·have e:ae3 (0-(Ŗ (Ø b (Â c)) d).1) = -(Ŗ (Ø b (Â c)) d).1:=by
       have:=Ó (ρ:=Int) (n:=0-(Ŗ (Ø b (Â c)) d).1) (by omega) (by omega) some;unfold ck at this;have:=Option.some.inj this;omega
      have e2:LL[i]=ï (Ø b (Â c)) d:=by
       have:LL[i]?=some (ï (Ø b (Â c)) d):=by
        rw[fB (by simpa using hlt),fH,hd'];rfl
       rw[hLi] at this;exact Option.some.inj this
      rw[e,e2];rfl
    ·have hin:i=b.2.2.2.2.1.length:=by omega
     have hd':d=c:=by
      have:(b.2.2.2.2.1++[c])[i]?=some d:=hd;rw[hin,fo (cO _),gB] at this;exact(Option.some.inj this).symm
     subst hd';refine⟨s,hs,?_⟩
     have:LL[i]?=some [(cy (Ø b (Â d)) (Â d),cx (Ø b (Â d)) (Â d),s.2),(cx (Ø b (Â d)) (Â d),cy (Ø b (Â d)) (Â d),ae3 (0-s.1))]:=by
      rw[fo (by simp; omega),hin];simp
     rw[hLi] at this;rw[Option.some.inj this];rfl
   obtain⟨t,ht1,ht2⟩:=says;rw[Ô hi,Ë hd,sP (by omega) (by omega),À];rw[show ĥ (((Ø b c).1.1,(Ø b c).1.2),b.2.1,(Ø b c).2.2.1,(Ø b c).2.2.2.1,(Ø b c).2.2.2.2.1,(Ø b c).2.2.2.2.2) (EG d.2.2.1 d.2.2.2.1,d.2.1)=ĥ (Ø b c) (EG d.2.2.1 d.2.2.2.1,d.2.1) from rfl,nY hp,À,sP (by omega) (by omega),À];rw[show ĥ (((Ø b c).1.1,(Ø b c).1.2),b.2.1,(Ø b c).2.2.1,(Ø b c).2.2.2.1,(Ø b c).2.2.2.2.1,(Ø b c).2.2.2.2.2) (EG d.2.2.2.1 d.2.2.1,d.2.1)=ĥ (Ø b c) (EG d.2.2.2.1 d.2.2.1,d.2.1) from rfl,nY hp,À];rw[show jn (((Ø b c).1.1,(Ø b c).1.2),b.2.1,(Ø b c).2.2.1,(Ø b c).2.2.2.1,(Ø b c).2.2.2.2.1,(Ø b c).2.2.2.2.2) d=jn (Ø b c) d from rfl,ht1,À];rw[ck_wr,Ö (by simp only[cR,dc,dm]; omega),Am.iff_true,Ö (by simp only[cR,dc,dm]; omega),Am.iff_true,Î hi (by omega),take_succ hLi,fg,pl,JR hp,JR hp,Ad];simp only[fI,fY,dI,dk];rw[←ht2]
  ·try dsimp only
   unfold mq;rw[à,hlen,List.take_of_length_le (by omega)];show some _=some _;rw[Yp]
   have:LL.flatten=b.2.2.2.2.1.flatMap (ï (Ø b (Â c)))++[(cy (Ø b (Â c)) (Â c),cx (Ø b (Â c)) (Â c),s.2),(cx (Ø b (Â c)) (Â c),cy (Ø b (Â c)) (Â c),ae3 (0-s.1))]:=by
    simp[LL,List.flatMap]
   rw[this,←dk];rfl
def acN (h':Ď (Ø b (Â c))):∃u v,ο (Ø b c)=some (((Ì (Ø b (Â c))).length:Int)+1,â (Ø b (Â c))++[u,v]):=by
 have hN:=h'.nodes;obtain⟨u,v,S,hT⟩:=akT h';refine⟨u,v,?_⟩;unfold ο uZ;rw[uJ (Aa h'),À,Ad,é,Ó (by omega) (by omega),hT,À]
def ahy (h':Ď (Ø b (Â c))):ah0 b (Â c):=by
 have q:=h'.cmpIn (j5 (c:=Â c));exact⟨⟨q.ok.nums,q.ok.r1,q.ok.r2⟩,q.ids,q.pile⟩
def VG (h:Ď b) (h':Ď (Ø b (Â c))) {d:Int} (hd : -2305843009213693952≤d∧d≤2305843009213693952):kH b c d=some (d+TW b c,d+sI b c) :=
 (show kH b c d=kH b (Â c) d from rfl).trans (akU h.size h.film (ahy h') hd)
def aeV (h:Ď b) (h':Ď (Ø b (Â c))) (hA:c.2.2.1.length≤1000) (hB:c.2.2.2.1.length≤1000):kI b c=some (û b c):=by
 have h2:=(Ş h').n60;have hC:=h.nC;obtain⟨u,v,hS⟩:=acN h';rw[D8 h h'];unfold kI xU;rw[Kh h,À,show(((Ì b).length:Int)+1)=(((Ì b).length+1:Nat):Int) by push_cast; rfl,am2 h.sys h.neg,À]
 by_cases ho:ě (á b) ((Ì b).length+1)=true
 ·rw[ho,if_pos rfl]
  have ho':ě (â (Ø b (Â c))) ((Ì (Ø b (Â c))).length+1)=true:=by rw[lG h h']; exact ho
  have em:uh b c=some (Ø b c):=by
   unfold uh EV;rw[Ö (by omega),Am.iff_true,List.nil_append,Ö (by simp only[List.length_singleton]; omega),Am.iff_true];rfl
  rw[Ò (by rfl),em,À,hS,À];dsimp only;have hl:=(Ş h').len;rw[é,Ó (by simp only[List.length_append,List.length_cons,List.length_nil]; omega) (by simp only[List.length_append,List.length_cons,List.length_nil]; omega)]
  have e1:(((â (Ø b (Â c))++[u,v]).length:Int)-2)=((â (Ø b (Â c))).length:Int):=by
   simp only[cR,dc,dm]; omega
  rw[e1,ħ (by simp[ile,ą]; omega),Int.toNat_natCast,List.take_left,sP (by omega) (by omega),À,nY (Aa h'),À,sP (by omega) (by omega),À,nY (Aa h'),À];dsimp only;rw[JR (Aa h'),JR (Aa h'),Ad (b:=b) (c:=c)];rw[show atP (Ì (Ø b (Â c))) (å c.2.2.1 c.2.2.2.1) c.2.1=cx (Ø b (Â c)) (Â c) from rfl,show atP (Ì (Ø b (Â c))) (å c.2.2.2.1 c.2.2.1) c.2.1=cy (Ø b (Â c)) (Â c) from rfl];have hx:=xi h';have hy:=xh h';have bxy:=Vn (Ş h') (ij h') ho' hx hy;have byx:=Vn (Ş h') (ij h') ho' hy hx;rw[show(((Ì (Ø b (Â c))).length:Int)+1)=(((Ì (Ø b (Â c))).length+1:Nat):Int) by push_cast; rfl];rw[VH (Ş h') ho' hx,À,sH hy.1 (by rw[RE]; omega)];rw[show gv (jJ (â (Ø b (Â c))) ((Ì (Ø b (Â c))).length+1) (cx (Ø b (Â c)) (Â c))) (cy (Ø b (Â c)) (Â c))=dst (â (Ø b (Â c))) ((Ì (Ø b (Â c))).length+1) (cx (Ø b (Â c)) (Â c)) (cy (Ø b (Â c)) (Â c)) from rfl];rw[Ó (by omega) (by omega),VG h h' (by omega),À,VH (Ş h') ho' hy,À,sH hx.1 (by rw[RE]; omega)];rw[show gv (jJ (â (Ø b (Â c))) ((Ì (Ø b (Â c))).length+1) (cy (Ø b (Â c)) (Â c))) (cx (Ø b (Â c)) (Â c))=dHi b (Â c) from rfl];rw[show dst (â (Ø b (Â c))) ((Ì (Ø b (Â c))).length+1) (cy (Ø b (Â c)) (Â c)) (cx (Ø b (Â c)) (Â c))=dHi b (Â c) from rfl] at byx;rw[VG h h' (by omega),À]
  have e2:0-dst (â (Ø b (Â c))) ((Ì (Ø b (Â c))).length+1) (cx (Ø b (Â c)) (Â c)) (cy (Ø b (Â c)) (Â c))=dLo b (Â c):=by unfold dLo; omega
  rw[e2,Ĕ];unfold Kr;rw[show sI b (Â c)=sI b c from rfl,show TW b (Â c)=TW b c from rfl]
  by_cases hlt:sI b c<TW b c
  ·rw[if_pos (by simp[igt]; omega),if_pos hlt]
  ·rw[if_neg (by simp[igt]; omega),if_neg hlt]
 ·have:ě (á b) ((Ì b).length+1)=false:=by simpa using ho
  rw[this,Õ (by rfl),if_neg (by simp)]
end
def am0 {b:ß} (h:Ď b) {c:Cmp} (hA:c.2.2.1.length≤1000) (hB:c.2.2.2.1.length≤1000):uk b c=some (if ä (Ø b c)≠0 then(kQ,ä (Ø b c)) else(Ø b c,0)):=by
 have h5:=h.nC;unfold uk OK uh EV;rw[Ö (by omega),Am.iff_true,List.nil_append,Ö (by simp only[List.length_singleton]; omega),Am.iff_true,À];rw[show iX (b.1,b.2.1,b.2.2.1,b.2.2.2.1,b.2.2.2.2.1++[c],b.2.2.2.2.2)=iX (Ø b c) from rfl,RQ (aah h hA hB),À]
 by_cases hc2:ä (Ø b c)=0
 ·rw[Ò (by simp[ine,hc2]),if_neg (show ¬(ä (Ø b c)≠0) from fun h=>h hc2)];rfl
 ·rw[Õ (by simp[ine,hc2]),if_pos hc2];rfl
section
variable {ρ:Type}
abbrev ak1:Type:=Int×Int×Int×Int×Int×Int×Int×Int
def nar0:ak1:=(0,0,0,0,0,0,0,0)
def narW (w:uI):ak1:=(w.2.1.1,w.2.1.2.1,w.2.1.2.2,-w.2.2.1,-w.2.2.2.2,-w.2.2.2.1,w.1.1,w.1.2)
def ND (B:ß) (n:Int×Int) (c:Cmp):ak1×Int:=if (û B c).2≠0 then(nar0,(û B c).2) else(narW (pB B n c),0)
def Hj {N:Nat} (g:Int→Int→Int) {u:Int} (hu:0≤u∧u<N) (f:List Int→Option ρ):ü (AZ N g) u f=f (RX N (g u)):=ii hu.1 (afg g hu.1 hu.2) f
def ahY {B:ß} (hr:anw B) (s:Sys) (t:List (List Int)) (e:Int) (n:Int×Int) {c:Cmp} (hA:c.2.2.1.length≤1000) (hB:c.2.2.2.1.length≤1000):nP (B,s,t,e) n c=some (ND B n c):=by
 unfold nP xO;rw[show uk (B,s,t,e).1 (c.1,c.2.1,c.2.2.1,c.2.2.2.1,(0:Int),c.2.2.2.2.2)=uk B (Â c) from rfl,am0 hr.good (c:=Â c) hA hB,À];have hcB:=(ð B).2 hr.good
 by_cases hc:ä (Ø B (Â c))=0
 case neg =>
  have ew:wx B (Â c)=(kQ,ä (Ø B (Â c))):=by unfold wx; rw[if_neg (by simp[hcB]),if_pos hc]
  have ep:(û B c).2=ä (Ø B (Â c)):=by unfold û; rw[ew,if_pos hc]
  rw[if_pos hc,Õ (bne_iff_ne.2 hc)];unfold ND;rw[ep,if_pos hc];rfl
 have h':=(ð _).1 hc;rw[if_neg (by simp[hc]),Ò (by rfl)];rw[show kI (B,s,t,e).1 (c.1,c.2.1,c.2.2.1,c.2.2.2.1,(0:Int),c.2.2.2.2.2)=kI B (Â c) from rfl,aeV hr.good (c:=Â c) h' hA hB,À,show û B (Â c)=û B c from rfl];unfold ND
 by_cases hp:(û B c).2=0
 case neg=>rw[if_pos hp,Õ (bne_iff_ne.2 hp)]; rfl
 rw[if_neg (by simp[hp]),Ò (by rw[hp]; rfl)];have hs:=Ş h'
 have ho:ě (â (Ø B (Â c))) ((Ì (Ø B (Â c))).length+1)=true:=by rw[lG hr.good h']; exact hr.op
 have hx:=xi h';have hy:=xh h';have hz:=iz (Ø B (Â c));have hk:=Κ (Ø B (Â c)) n;have b6:=adf hr.good h' hr.op;have bd:=fun {s t:Int} (hs:0≤s∧s<((Ì (Ø B (Â c))).length+1:Nat)) (ht:0≤t∧t<((Ì (Ø B (Â c))).length+1:Nat))=>qf hr.good h' hr.op hs ht;have hlen:=hs.len;rw[Kh h',À,JL B (Â c) h'];dsimp only;rw[show Ŗ (Ø B (Â c)) (Â c)=Ŗ B (Â c) from rfl,nY h'.pre];have eH:endP B (Â c)=fun s t=>(aem B (Â c) s t,aem B (Â c) s (cy (Ø B (Â c)) (Â c))+(Ŗ B (Â c)).2+aem B (Â c) (cx (Ø B (Â c)) (Â c)) t,aem B (Â c) s (cx (Ø B (Â c)) (Â c))-(Ŗ B (Â c)).1+aem B (Â c) (cy (Ø B (Â c)) (Â c)) t):=rfl;unfold pB;rw[eH];have tt:=agu hs (ij h');rw[ho,if_pos rfl] at tt;have eD:dst (â (Ø B (Â c))) ((Ì (Ø B (Â c))).length+1)=aem B (Â c):=rfl;rw[eD] at tt;generalize â (Ø B (Â c))=H at hs hlen tt ⊢;generalize cx (Ø B (Â c)) (Â c)=x at hx ⊢;generalize cy (Ø B (Â c)) (Â c)=y at hy ⊢;generalize vX (Ø B (Â c)) n.1 n.2=k at hk ⊢;generalize (Ì (Ø B (Â c))).length=N at *;generalize aem B (Â c)=D at *;generalize Ŗ B (Â c)=S at *
 have el:Þ (H++[(y,x,S.2),(x,y,-S.1)])=(H.length:Int)+2:=by rw[é]; simp
 have g1:(H++[(y,x,S.2),(x,y,-S.1)])[((H.length:Int)).toNat]?=some (y,x,S.2):=by simp
 have g2:(H++[(y,x,S.2),(x,y,-S.1)])[((H.length:Int)+1).toNat]?=some (x,y,-S.1):=by
  rw[show((H.length:Int)+1).toNat=H.length+1 by omega]; simp
 rw[el,Ó (by omega) (by omega),show(H.length:Int)+2-2=(H.length:Int) by omega,ii (by omega) g1,Ó (by omega) (by omega),ii (by omega) g2,ħ (by simp[ile,ą]; omega),Int.toNat_natCast,List.take_left];rw[show((N:Int)+1,H)=(((N+1:Nat):Int),H) by push_cast; rfl,tt,À,À];dsimp only;have b1:=bd hz hk;have b2:=bd hk hz;have b3:=bd hz hy;have b4:=bd hx hk;have b5:=bd hz hx;have b7:=bd hy hk;have b8:=bd hk hy;have b9:=bd hx hz;have b10:=bd hk hx;have b11:=bd hy hz;simp only[Hj D hz,Hj D hk,Hj D hx,Hj D hy,Nr _ hz,Nr _ hk,Nr _ hx,Nr _ hy];rw[Ó (by omega) (by omega),Ó (by omega) (by omega),Ó (by omega) (by omega),Ó (by omega) (by omega),Ó (by omega) (by omega),Ó (by omega) (by omega),Ó (by omega) (by omega),Ó (by omega) (by omega),Ó (by omega) (by omega),Ó (by omega) (by omega),Ó (by omega) (by omega)];unfold narW;dsimp only;simp only[Option.some.injEq,Prod.mk.injEq,and_true,true_and];exact⟨by show @Eq Int _ _; omega,by show @Eq Int _ _; omega,by show @Eq Int _ _; omega,by show @Eq Int _ _; omega⟩
end
def aiL {H A B h a b lo hi l u:Int} (hlu:l≤u) :
 (∃d,lo≤d∧d≤hi∧l≤min H (min (A+d) (B-d))∧-(min h (min (a+d) (b-d)))≤u∧(-(min h (min (a+d) (b-d)))<l∨u<min H (min (A+d) (B-d)))) ↔
  (u<H∧-h≤u∧max (max lo (u+1-A)) (-a-u)≤min (min hi (B-u-1)) (u - -b))∨(-h<l∧l≤H∧max (max lo (-a-l+1)) (l-A)≤min (min hi (l-1 - -b)) (B-l)):=by
 constructor
 ·rintro⟨d,h1,h2,h3,h4,h5|h5⟩
  ·right; omega
  ·left; omega
 ·rintro(⟨h1,h2,h3⟩|⟨h1,h2,h3⟩)
  ·exact⟨max (max lo (u+1-A)) (-a-u),by omega,by omega,by omega,by omega,.inr (by omega)⟩
  ·exact⟨max (max lo (-a-l+1)) (l-A),by omega,by omega,by omega,by omega,.inl (by omega)⟩
def Y8 (s l:Int×Int):Ļ s l=3↔l.1≤s.2∧s.1≤l.2∧(s.1<l.1∨l.2<s.2):=by
 unfold Ļ
 by_cases h1:l.1≤s.1∧s.2≤l.2
 ·rw[if_pos h1]; omega
 ·rw[if_neg h1]
  by_cases h2:s.2<l.1∨l.2<s.1
  ·rw[if_pos h2]; omega
  ·rw[if_neg h2]; omega
def anF {w:uI} (h:Kf w) (l:Int×Int) (hl:l.1≤l.2):(∃d,w.1.1≤d∧d≤w.1.2∧Ļ (oB w d) l=3) ↔
 (∃d,w.1.1≤d∧d≤w.1.2∧min (max l.1 (-1152921504606846976)) 1152921504606846976≤min w.2.1.1 (min (w.2.1.2.1+d) (w.2.1.2.2-d))∧-(min w.2.2.1 (min (w.2.2.2.1+d) (w.2.2.2.2-d)))≤max (min l.2 1152921504606846976) (-1152921504606846976)∧(-(min w.2.2.1 (min (w.2.2.2.1+d) (w.2.2.2.2-d)))<min (max l.1 (-1152921504606846976)) 1152921504606846976∨max (min l.2 1152921504606846976) (-1152921504606846976)<min w.2.1.1 (min (w.2.1.2.1+d) (w.2.1.2.2-d)))):=by
 have h1:=h.lo;have h2:=h.hi
 have key:∀d,w.1.1≤d→d≤w.1.2→(Ļ (oB w d) l=3↔(min (max l.1 (-1152921504606846976)) 1152921504606846976≤atE w.2.1 d∧-(atE w.2.2 d)≤max (min l.2 1152921504606846976) (-1152921504606846976)∧(-(atE w.2.2 d)<min (max l.1 (-1152921504606846976)) 1152921504606846976∨max (min l.2 1152921504606846976) (-1152921504606846976)<atE w.2.1 d))):=fun d d1 d2=>by
  have hd:Sm d:=by unfold Sm at *; omega
  have b1:=RH h.high hd;have b2:=RH h.low hd;rw[Y8];unfold oB;dsimp only;omega
 constructor
 ·rintro⟨d,d1,d2,d3⟩;exact⟨d,d1,d2,(key d d1 d2).1 d3⟩
 ·rintro⟨d,d1,d2,d3⟩;exact⟨d,d1,d2,(key d d1 d2).2 d3⟩
def am4 {w:uI} (h:Kf w) (l:Int×Int) (hl:l.1≤l.2):∃r:Bool,ť (narW w) l=some r∧(r=true↔∃d,w.1.1≤d∧d≤w.1.2∧Ļ (oB w d) l=3):=by
 have h1:=h.lo;have h2:=h.hi;have h3:=h.high;have h4:=h.low
 have hlu:min (max l.1 (-1152921504606846976)) 1152921504606846976≤max (min l.2 1152921504606846976) (-1152921504606846976):=by omega
 rw[anF h l hl,aiL hlu];have e:=h3.s;have e1:=h3.u;have e2:=h3.d;have e3:=h4.s;have e4:=h4.u;have e5:=h4.d;unfold Sm at *;unfold ť oe narW;dsimp only;simp only[vV,Yo];generalize w.2.1.1=H at *;generalize w.2.1.2.1=A at *;generalize w.2.1.2.2=B at *;generalize w.2.2.1=hh at *;generalize w.2.2.2.1=a at *;generalize w.2.2.2.2=b at *;generalize w.1.1=lo at *;generalize w.1.2=hi at *
 have hl1 : -1152921504606846976≤min (max l.1 (-1152921504606846976)) 1152921504606846976∧min (max l.1 (-1152921504606846976)) 1152921504606846976≤1152921504606846976:=by omega
 have hu1 : -1152921504606846976≤max (min l.2 1152921504606846976) (-1152921504606846976)∧max (min l.2 1152921504606846976) (-1152921504606846976)≤1152921504606846976:=by omega
 generalize min (max l.1 (-1152921504606846976)) 1152921504606846976=x at *;generalize max (min l.2 1152921504606846976) (-1152921504606846976)=u at *
 by_cases c1:u<H
 ·rw[Õ (show igt H u=true from decide_eq_true c1)]
  by_cases c2 : -hh≤u
  ·rw[Õ (show ile (-hh) u=true from decide_eq_true c2)];rw[Ó (by omega) (by omega),Ó (by omega) (by omega),Ó (by omega) (by omega),Ó (by omega) (by omega),Ó (by omega) (by omega),Ó (by omega) (by omega)]
   by_cases c3 : -hh<x
   ·rw[Õ (show ilt (-hh) x=true from decide_eq_true c3),Õ (show ige H x=true from decide_eq_true (by omega))];rw[Ó (by omega) (by omega),Ó (by omega) (by omega),Ó (by omega) (by omega),Ó (by omega) (by omega),Ó (by omega) (by omega),Ó (by omega) (by omega)]
    by_cases c5:max (max lo (u+1-A)) (-a-u)≤min (min hi (B-u-1)) (u - -b)
    ·exact⟨true,Õ (decide_eq_true c5) _ _,⟨fun _=>.inl ⟨c1,c2,c5⟩,fun _=>rfl⟩⟩
    ·refine⟨_,Ò (decide_eq_false c5) _ _,?_⟩;rw[show ∀p q:Int,(ile p q=true)=(p≤q) from fun p q=>by simp[ile]];constructor
     ·exact fun h=>.inr ⟨c3,by omega,h⟩
     ·rintro(⟨_,_,h⟩|⟨_,_,h⟩)
      ·exact absurd h c5
      ·exact h
   ·rw[Ò (show ilt (-hh) x=false from decide_eq_false c3)]
    by_cases c5:max (max lo (u+1-A)) (-a-u)≤min (min hi (B-u-1)) (u - -b)
    ·exact⟨true,Õ (decide_eq_true c5) _ _,⟨fun _=>.inl ⟨c1,c2,c5⟩,fun _=>rfl⟩⟩
    ·refine⟨false,Ò (decide_eq_false c5) _ _,⟨fun h=>Bool.noConfusion h,?_⟩⟩;rintro(⟨_,_,h⟩|⟨h,_⟩)
     ·exact absurd h c5
     ·exact absurd h c3
  ·rw[Ò (show ile (-hh) u=false from decide_eq_false c2)];rw[Ò (show ilt (-hh) x=false from decide_eq_false (by omega))]
   exact⟨false,rfl,⟨fun h=>Bool.noConfusion h,by rintro(⟨_,h,_⟩|⟨h,_⟩)<;>omega⟩⟩
 ·rw[Ò (show igt H u=false from decide_eq_false c1)]
  by_cases c3 : -hh<x
  ·rw[Õ (show ilt (-hh) x=true from decide_eq_true c3)]
   by_cases c4:x≤H
   ·rw[Õ (show ige H x=true from decide_eq_true c4)];rw[Ó (by omega) (by omega),Ó (by omega) (by omega),Ó (by omega) (by omega),Ó (by omega) (by omega),Ó (by omega) (by omega),Ó (by omega) (by omega)];refine⟨_,rfl,?_⟩;rw[show ∀p q:Int,(ile p q=true)=(p≤q) from fun p q=>by simp[ile]];constructor
    ·exact fun h=>.inr ⟨c3,c4,h⟩
    ·rintro(⟨h,_⟩|⟨_,_,h⟩)
     ·exact absurd h c1
     ·exact h
   ·rw[Ò (show ige H x=false from decide_eq_false c4)]
    exact⟨false,rfl,⟨fun h=>Bool.noConfusion h,by rintro(⟨h,_⟩|⟨_,h,_⟩)<;>omega⟩⟩
  ·rw[Ò (show ilt (-hh) x=false from decide_eq_false c3)]
   exact⟨false,rfl,⟨fun h=>Bool.noConfusion h,by rintro(⟨h,_⟩|⟨h,_⟩)<;>omega⟩⟩
def VZ {b:ß} {c:Cmp} (hp:(û b c).2=0):(û b c).1.1≤(û b c).1.2:=by
 have h:=Ku hp;have:=h.order;have:=h.ends;omega
def ac8 {b:ß} (hn:∀g∈b.2.1,I64 g.2.2.2.2.1.1) (n l:Int×Int) (c:Cmp):mH b n l c=some true:=by
 unfold mH mi;rw[few_ok,À,agM]
 by_cases hf:fewP b=true
 case neg=>rw[eE.2 hf]; rfl
 have hI:In b:=⟨ami hf,hn⟩;rw[hf,Ò (by rfl),acD,À]
 by_cases hb:LQ c=true
 case neg=>rw[eE.2 hb]; rfl
 rw[hb,Ò (by rfl)];simp only[LQ,cQ,decide_eq_true_eq] at hb;rw[VE hI n l (by omega) (by omega),À,aoF hI (by simp),À,al3]
 by_cases ho:(Ą b [n]).2=0
 case neg =>
  have e:m9 b n l c=(false,(Ą b [n]).2):=by unfold m9; rw[if_pos ho]
  rw[e,Ò (show ieq (Ą b [n]).2 0=false from beq_eq_false_iff_ne.2 ho),Ò (show ieq (Ą b [n]).2 0=false from beq_eq_false_iff_ne.2 ho),Õ (show ine (Ą b [n]).2 0=true from bne_iff_ne.2 ho),À,Ľ,Õ (by simp[ieq])];rfl
 have t0:ieq (Ą b [n]).2 0=true:=beq_iff_eq.2 ho;rw[Õ t0]
 by_cases hl:l.2<l.1
 ·have e:m9 b n l c=(false,1):=by unfold m9; rw[if_neg (by simp[ho]),if_pos hl]
  rw[e,Õ (show igt l.1 l.2=true from decide_eq_true hl),À,Ľ,Õ (by rfl)];rfl
 rw[Ò (show igt l.1 l.2=false from decide_eq_false (by omega)),Õ t0];have hA:=agV hI ho;have hr:=hA.room;have hnode:=hA.nodes n (by simp);rw[aju ho,ahY hr _ _ _ n (by omega) (by omega),À]
 have e:m9 b n l c=if (û (Ą b [n]).1 c).2≠0 then(false,(û (Ą b [n]).1 c).2) else(qG (pB (Ą b [n]).1 n c) (T0 l.1,T0 l.2),0):=by
  unfold m9; rw[if_neg (by simp[ho]),if_neg hl]
 rw[e];generalize (Ą b [n]).1=B at hr hnode;unfold ND
 by_cases hp:(û B c).2=0
 case neg =>
  rw[if_pos hp,if_pos hp,Õ (show ine (û B c).2 0=true from bne_iff_ne.2 hp),À,Ľ,Õ (by simp[ieq])];rfl
 rw[if_neg (by simp[hp]),if_neg (by simp[hp]),Ò (by rfl),À,Ľ,Õ (by rfl)];have hw:=VJ (n:=n) hp;have hrange:(pB B n c).1.1≤(pB B n c).1.2:=VZ hp;obtain⟨r,hr1,hr2⟩:=am4 hw l (by omega);dsimp only;rw[hr1,À]
 have far:∀d,(pB B n c).1.1≤d→d≤(pB B n c).1.2→Ļ (oB (pB B n c) d) (T0 l.1,T0 l.2)=Ļ (oB (pB B n c) d) l:=fun d d1 d2=>by
  have w1:=hw.lo;have w2:=hw.hi
  have hd:Sm d:=by unfold Sm at *; omega
  have b1:=RH hw.high hd;have b2:=RH hw.low hd
  refine aeq ?_ ?_<;>· unfold oB; dsimp only; omega
 cases hs:qG (pB B n c) (T0 l.1,T0 l.2) with
 |true =>
  have hall:=agK _ _ hs
  cases r with
  |false=>rfl
  |true =>
   obtain⟨d,d1,d2,d3⟩:=hr2.1 rfl;exact absurd ((far d d1 d2).trans d3) (hall d d1 d2)
 |false =>
  obtain⟨d,d1,d2,d3⟩:=ac9 _ _ hrange hs;rw[hr2.2 ⟨d,d1,d2,by rw[←far d d1 d2]; exact d3⟩];rfl
end Go.Proofs.ZzM
end
