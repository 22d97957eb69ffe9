/- lemmas -/
import Derived.Test.YtmadligicacpkaaGreatPlB
import Derived.Test.YtmadligicacpkaaGreatPlA
import Derived.Test.YtmadligicacpkaaGreatMdTA
set_option linter.all false
set_option linter.unusedSectionVars false
set_option linter.unusedVariables false
set_option linter.unusedSimpArgs false
noncomputable section
namespace Go.Proofs.ZzM
open Go Go.Am
theorem aP7 {α β:Type} {e:Nat→α→Option β}:∀{l:List α} {k i:Nat} {a:α} {b:β},(∀j c,j<i→l[j]?=some c→e (k+j) c=none)→l[i]?=some a→e (k+i) a=some b→ĵ e k l=some b
 |[],_,_,_,_,_,ha,_=>by simp at ha
 |c::t,k,0,a,b,_,ha,hb=>by
  simp only[List.getElem?_cons_zero,Option.some.injEq] at ha;subst ha;unfold ĵ;rw[Nat.add_zero] at hb;rw[hb]
 |c::t,k,i+1,a,b,h,ha,hb=>by
  unfold ĵ;have h0:=h 0 c (by omega) rfl;rw[Nat.add_zero] at h0;rw[h0];refine aP7 (i:=i) (fun j d hj hd=>?_) (by simpa using ha) (by rw[←hb]; congr 1; omega);have:=h (j+1) d (by omega) (by simpa using hd);rw[←this];congr 1;omega
theorem atp {ρ α β:Type} (l:List α) (e:Nat→α→Option β) (k0:β→Option ρ) (k1:Option ρ) {f:Int→(Int→Option ρ)→Option ρ}
 (h:∀(i:Nat) (a:α),i<l.length→l[i]?=some a→∀kn,f i kn=match e i a with|some b=>k0 b|none=>kn ((i:Int)+1))
 (hn:(∀j a,l[j]?=some a→e j a=none)→∀kn,f l.length kn=k1):Ì f 0=match ĵ e 0 l with|some b=>k0 b|none=>k1:=by
 refine ł (fun x:Int=>∃i:Nat,i≤l.length∧x=i∧∀j a,j<i→l[j]?=some a→e j a=none) (fun x=>l.length-x.toNat) ?_ ⟨0,by omega,rfl,fun j a hj=>by omega⟩;rintro x ⟨i,hi,rfl,hp⟩;rcases Nat.lt_or_ge i l.length with hlt|hge
 ·have ha:l[i]?=some l[i]:=List.getElem?_eq_getElem hlt
  cases hc:e i l[i] with
  |some b =>
   refine .inl fun kn=>?_;rw[h i _ hlt ha,hc,aP7 (k:=0) (b:=b) (fun j c hj hc=>by rw[Nat.zero_add]; exact hp j c hj hc) ha (by rw[Nat.zero_add]; exact hc)]
  |none =>
   refine .inr ⟨((i+1:Nat):Int),⟨i+1,hlt,rfl,fun j a hj hja=>?_⟩,by simp only[Int.toNat_natCast]; omega,fun kn=>?_⟩
   ·rcases Nat.lt_or_ge j i with h1|h1
    ·exact hp j a h1 hja
    ·have:j=i:=by omega
     subst this;rw[ha] at hja;rw[←Option.some.inj hja]; exact hc
   ·rw[h i _ hlt ha,hc];simp
 ·have:i=l.length:=by omega
  subst this;refine .inl fun kn=>?_;have hall:∀j a,l[j]?=some a→e j a=none:=fun j a hja=>hp j a (List.getElem?_eq_some_iff.1 hja).1 hja;rw[hn hall kn,adJ.2 fun j a hja=>by rw[Nat.zero_add]; exact hall j a hja]
theorem aQd {e:Int}:aTZ e=none↔e=0:=by
 unfold aTZ
 split<;>simp_all
section
variable {b:â}
theorem aJd (h:ę b):∀i,((b.2.1.take i).flatMap (û b)).length≤1440∧(((b.2.1.take i).mapIdx (ø b)).flatten).length≤1440:=by
 have hG:=h.nG
 have gl:∀g∈b.2.1,(û b g).length≤120∧∀i,(ø b i g).length≤120:=by
  intro g hg;have:=awO h hg;constructor
  ·unfold û;rw[List.length_append,ų _ _ (fun _=>rfl)];simp only[List.length_cons,List.length_nil]; omega
  ·intro i;unfold ø;rw[List.length_append,ų _ _ (fun _=>rfl)];simp only[List.length_cons,List.length_nil]; omega
 have key:∀i,i≤b.2.1.length→((b.2.1.take i).flatMap (û b)).length≤i*120∧(((b.2.1.take i).mapIdx (ø b)).flatten).length≤i*120:=by
  intro i
  induction i with
  |zero=>intro _; simp
  |succ i ih =>
   intro hi;have ih:=ih (by omega);have hg:b.2.1[i]?=some b.2.1[i]:=List.getElem?_eq_getElem hi;have h2:=gl _ (List.mem_of_getElem? hg);have h3:=h2.2 i;rw[adD _ hg,take_succ hg,List.flatMap_append,List.flatten_append,List.length_append,List.length_append];simp only[List.flatMap_cons,List.flatMap_nil,List.append_nil,List.flatten_cons,List.flatten_nil];omega
 intro i;rcases Nat.lt_or_ge b.2.1.length i with h1|h1
 ·rw[List.take_of_length_le (by omega)];have:=key b.2.1.length (Nat.le_refl _);rw[List.take_length] at this;omega
 ·have:=key i h1;omega
set_option maxHeartbeats 1000000 in
theorem aYR (h:ę b):am0 b=some (ä b,ŝ b):=by
 have hC:=h.nC;have hG:=h.nG;unfold am0 aKx;rw[aw3 h.pre,À];refine ñ b.2.1 (fun i=>((b.2.1.take i).flatMap (û b),((b.2.1.take i).mapIdx (ø b)).flatten)) _ rfl (fun i g hi hg kn=>?_) (fun kn=>?_)
 ·try dsimp only
  unfold amb;have hls:=aJd h i;rw[Ö hi,Ë hg];refine Eq.trans (aWf h hg (by omega) (by omega) _) ?_;rw[Ñ hi (by omega),adD _ hg,take_succ hg,List.flatMap_append,List.flatten_append];simp only[List.flatMap_cons,List.flatMap_nil,List.append_nil,List.flatten_cons,List.flatten_nil]
 ·try dsimp only
  unfold amb;rw[ã,List.take_length];dsimp only;have hls:=aJd h b.2.1.length;rw[List.take_length] at hls;refine ñ b.2.2.2.2.1 (fun i=>(b.2.1.flatMap (û b)++(b.2.2.2.2.1.take i).flatMap (ć b),(b.2.1.mapIdx (ø b)).flatten++((b.2.2.2.2.1.take i).mapIdx fun i _=>[((3:Int),(i:Int)),((3:Int),(i:Int))]).flatten)) _ (by simp) (fun i c hi hc kn=>?_) (fun kn=>?_)
  ·try dsimp only
   unfold ama;have hcm:=List.mem_of_getElem? hc;have hn:=(Ο c).1 (h.nums hcm);have ha:=ķ hn.2.2.2.2.2.1;have hb:=ķ hn.2.2.2.2.2.2;have hcl:=aJv (b:=b) i (by omega);have sb:=asq h hcm;rw[Ö hi,Ë hc,ay4 (by omega) (by omega),À];rw[show Œ ((b.1.1,b.1.2),b.2.1,b.2.2.1,b.2.2.2.1,b.2.2.2.2.1,b.2.2.2.2.2) (aAz c.2.2.1 c.2.2.2.1,c.2.1)=Œ b (aAz c.2.2.1 c.2.2.2.1,c.2.1) from rfl,aw4 h.pre,À,ay4 (by omega) (by omega),À];rw[show Œ ((b.1.1,b.1.2),b.2.1,b.2.2.1,b.2.2.2.1,b.2.2.2.2.1,b.2.2.2.2.2) (aAz c.2.2.2.1 c.2.2.1,c.2.1)=Œ b (aAz c.2.2.2.1 c.2.2.1,c.2.1) from rfl,aw4 h.pre,À];rw[show alC ((b.1.1,b.1.2),b.2.1,b.2.2.1,b.2.2.2.1,b.2.2.2.2.1,b.2.2.2.2.2) c=alC b c from rfl,a0Y h.size h.film (h.cmpIn hcm),À];rw[Ø (by omega) (by omega),Ù (by simp only[List.length_append,List.length_cons,List.length_nil]; omega),Am.iff_true,Ù (by simp only[List.length_append,List.length_cons,List.length_nil]; omega),Am.iff_true,Ñ hi (by omega)];rw[adD _ hc,take_succ hc,List.flatMap_append,List.flatten_append,aXy h.pre,aXy h.pre];simp only[List.flatMap_cons,List.flatMap_nil,List.append_nil,List.flatten_cons,List.flatten_nil,List.append_assoc];rw[Int.zero_sub];rfl
  ·try dsimp only
   unfold ama;rw[ã,List.take_length];rfl
def ae0 (b:â) (i:Nat) (c:Cmp):Int:=if !aAA c then 1 else if (b.2.2.2.2.1.take i).any (fun x=>x.1==c.1) then 6 else aq2 b c
theorem aJo (hi:b.2.1.Pairwise fun a b=>a.1<b.1) (i:Nat) (c:Cmp):ae0 b i c=aic b (ady b) i c:=by
 unfold ae0 aic;rw[aZE hi]
def a1w (b:â):Int:=match (b.2.2.2.2.1.mapIdx (ae0 b)).find? (fun e=>e != 0) with
 |some e=>e
 |none=>match (b.2.2.2.2.2.map (aNf b)).find? (fun e=>e != 0) with
  |some e=>e
  |none=>if 59<(Î b).length then 2 else if 300<2*b.2.1.length+2*((Î b).length-b.2.1.length:Int)+2*b.2.2.2.2.1.length then 2 else 0
theorem aXM {α:Type} {l:List α} {E:α→Int} (h:(l.map E).find? (fun e=>e != 0)=none):∀a∈l,E a=0:=by
 intro a ha;have:=List.find?_eq_none.1 h (E a) (List.mem_map.2 ⟨a,ha,rfl⟩);simpa using this
theorem aVj {α:Type} {l:List α} {E:Nat→α→Int} (h:(l.mapIdx E).find? (fun e=>e != 0)=none):∀i a,l[i]?=some a→E i a=0:=by
 intro i a ha;obtain⟨hi,rfl⟩:=List.getElem?_eq_some_iff.1 ha;have:=List.find?_eq_none.1 h (E i l[i]) (List.mem_mapIdx.2 ⟨i,hi,rfl⟩);simpa using this
theorem aMJ {i:Nat} {c:Cmp} (h:ae0 b i c=0):aAA c=true∧(ë c.2.2.1 c.2.2.2.1).length≤1∧(ë c.2.2.2.1 c.2.2.1).length≤1:=by
 unfold ae0 at h
 split at h
 ·omega
 rename_i h1
 split at h
 ·omega
 unfold aq2 at h
 (repeat' split at h)<;>first|omega|exact⟨by simpa using h1,by omega,by omega⟩
set_option maxHeartbeats 4000000 in
theorem a1v (hs:Ż b) (hfilm:0≤b.1.1∧b.1.1≤b.1.2∧b.1.2≤1000000) (nG:b.2.1.length≤12) (nU:b.2.2.1.length≤40) (nL:b.2.2.2.1.length≤12) (nC:b.2.2.2.2.1.length≤40) (nK:b.2.2.2.2.2.length≤10)
 (hg:∀g∈b.2.1,aiV g=true) (hi:b.2.1.Pairwise fun a b=>a.1<b.1) (hu:∀u∈b.2.2.1,aNf b u=0) (hl:∀i l,b.2.2.2.1[i]?=some l→aHY b i l=0) :
 Ì (fun(v41:Int) kk43=>aeo b.1.1 b.1.2 b.2.1 b.2.2.1 b.2.2.2.1 b.2.2.2.2.1 b.2.2.2.2.2 v41 (fun u42=>kk43 u42) (fun z26=>some z26) (fun _=>Ì (fun(v38:Int) kk40=>aen b.1.1 b.1.2 b.2.1 b.2.2.1 b.2.2.2.1 b.2.2.2.2.1 b.2.2.2.2.2 v38 (fun u39=>kk40 u39) (fun z34=>some z34) (fun _=>Â (aex b) fun r36=>ifb (igt (Û r36) (59:Int)) (some (2:Int)) (Â (am0 b) fun r37=>ifb (igt (Û r37.1) (300:Int)) (some (2:Int)) (some (0:Int))))) (0:Int))) (0:Int)=some (a1w b):=by
 unfold a1w
 refine Eq.trans (atp b.2.2.2.2.1 (fun i c=>aTZ (ae0 b i c)) some (some (match (b.2.2.2.2.2.map (aNf b)).find? (fun e=>e != 0) with
  |some e=>e
  |none=>if 59<(Î b).length then 2 else if 300<2*b.2.1.length+2*((Î b).length-b.2.1.length:Int)+2*b.2.2.2.2.1.length then 2 else 0)) (fun i c hci hc kn=>?_) (fun hcz kn=>?_)) ?_
 ·try dsimp only
  unfold aeo;have hp:=hs.piles c (List.mem_of_getElem? hc);rw[Ö hci,Ë hc,aYM (by omega) (by omega),À];unfold ae0 aTZ
  cases aAA c with
  |false=>rfl
  |true =>
   rw[Õ (by rfl)]
   have hl9:(b.2.2.2.2.1.take i).length=i:=by rw[List.length_take]; omega
   refine Eq.trans (Ĺ (b.2.2.2.2.1.take i) (fun x=>x.1==c.1) (fun _=>some 6) (some 6) (if aq2 b c=0 then kn ((i:Int)+1) else some (aq2 b c)) (fun _=>rfl) (fun j a hj ha kn'=>?_) (fun kn'=>?_)) ?_
   ·try dsimp only
    unfold ahZ;rw[hl9] at hj
    have ha':b.2.2.2.2.1[j]?=some a:=by rwa [List.getElem?_take_of_lt hj] at ha
    rw[Ú (show ilt (j:Int) (i:Int)=true by simp[ilt]; omega),Ë ha',Ë hc,Ñ hj (by omega),Ĥ]
   ·try dsimp only
    unfold ahZ;rw[hl9,Õ (show ilt (i:Int) (i:Int)=false by simp[ilt])];dsimp only;rw[Ë hc,show aew ((b.1.1,b.1.2),b.2.1,b.2.2.1,b.2.2.2.1,b.2.2.2.2.1,b.2.2.2.2.2) c=aew b c from rfl,aQH hs hp.1 hp.2,À,Ñ hci (by omega)]
    by_cases hz:aq2 b c=0
    ·rw[Õ (by simp[ine,hz]),if_pos hz]
    ·rw[Ú (by simp[ine,hz]),if_neg hz]
   ·cases hany:(b.2.2.2.2.1.take i).any (fun x=>x.1==c.1) with
    |true=>simp
    |false =>
     by_cases hz:aq2 b c=0
     ·simp[hz]
     ·simp[hz]
 ·try dsimp only
  unfold aeo;rw[ã];dsimp only;have hcz':∀i c,b.2.2.2.2.1[i]?=some c→ae0 b i c=0:=fun i c hc=>aQd.1 (hcz i c hc);refine Eq.trans (atp b.2.2.2.2.2 (fun _ u=>aTZ (aNf b u)) some (some (if 59<(Î b).length then 2 else if 300<2*b.2.1.length+2*((Î b).length-b.2.1.length:Int)+2*b.2.2.2.2.1.length then 2 else 0)) (fun i a hia ha kn'=>?_) (fun hlz kn'=>?_)) ?_
  ·try dsimp only
   unfold aen;rw[Ö hia,Ë ha,aM8,À];unfold aNf aTZ
   cases aw6 a.2 with
   |false=>rfl
   |true =>
    rw[Õ (by rfl),Ë ha,Ë ha,aw2 (b:=((b.1.1,b.1.2),b.2.1,b.2.2.1,b.2.2.2.1,b.2.2.2.2.1,b.2.2.2.2.2)) (by simp only; omega),À,Ñ hia (by omega)];have e:ο ((b.1.1,b.1.2),b.2.1,b.2.2.1,b.2.2.2.1,b.2.2.2.2.1,b.2.2.2.2.2) a.1 a.2=ο b a.1 a.2:=rfl;rw[e]
    by_cases hz:ο b a.1 a.2=0
    ·rw[Õ (by simp[ine,hz])]; simp[hz]
    ·rw[Ú (by simp[ine,hz])]; simp[hz]
  ·try dsimp only
   unfold aen;rw[ã];dsimp only
   have hlz':∀u∈b.2.2.2.2.2,aNf b u=0:=fun u hum=>by
    obtain⟨j,hj,rfl⟩:=List.mem_iff_getElem.1 hum;exact aQd.1 (hlz j _ (List.getElem?_eq_getElem hj))
   have pre:Pre b:=⟨hs,hg,fun c hc=>by
    obtain⟨j,hj,rfl⟩:=List.mem_iff_getElem.1 hc;have q:=aMJ (hcz' j _ (List.getElem?_eq_getElem hj))
    exact⟨aOh q.1,q.2⟩,fun n hn=>by
    have:=hlz' n hn;unfold aNf at this
    split at this
    ·omega
    ·rename_i hd; simpa using hd⟩
   rw[aw3 pre,À,ç]
   by_cases h59:59<(Î b).length
   ·rw[Ú (by simp[igt]; omega),if_pos h59]
   ·rw[Õ (by simp[igt]; omega),if_neg h59];have good:ę b:=⟨hfilm,nG,nU,nL,nC,nK,hg,hi,fun u hum=>by rw[←aS4 hi]; exact hu u hum,fun i l hil=>by rw[←aXi hi]; exact hl i l hil,fun i c hic=>by rw[←aJo hi]; exact hcz' i c hic,fun u hum=>by rw[←aS4 hi]; exact hlz' u hum,by omega,by omega⟩;have hll:=aE6 good;rw[aYR good,À,ç];dsimp only;rw[hll,Õ (by simp[igt]; omega),if_neg (by omega)]
  ·rw[aFo]
   cases(b.2.2.2.2.2.map (aNf b)).find? (fun e=>e != 0)<;>rfl
 ·rw[aFn (ae0 b)]
  cases(b.2.2.2.2.1.mapIdx (ae0 b)).find? (fun e=>e != 0)<;>rfl
end
end Go.Proofs.ZzM
end
noncomputable section
namespace Go.Proofs.ZzM
open Go Go.Am
theorem aMA {l m:List Int}:(l++m).find? (fun e=>e != 0)=match l.find? (fun e=>e != 0) with|some e=>some e|none=>m.find? (fun e=>e != 0):=by
 rw[List.find?_append]
 cases l.find? (fun e=>e != 0)<;>rfl
set_option maxHeartbeats 4000000 in
theorem aQI {b:â} (hs:Ż b):agH b=some (é b):=by
 unfold agH axF é;rw[anh,À]
 cases hsp:aeE b.1 0 1000000 with
 |false=>rfl
 |true =>
 have hfilm:0≤b.1.1∧b.1.1≤b.1.2∧b.1.2≤1000000:=by
  simp only[aeE,Bool.and_eq_true,decide_eq_true_eq] at hsp;exact hsp
 rw[Õ (show(!true)=false from rfl),if_neg (by simp)];rw[ç b.2.1,ç b.2.2.1,ç b.2.2.2.1,ç b.2.2.2.2.1,ç b.2.2.2.2.2]
 by_cases c0:12<b.2.1.length
 ·rw[Ú (by simp[igt]; omega),if_pos c0]
 rw[Õ (by simp[igt]; omega),if_neg c0]
 by_cases c1:40<b.2.2.1.length
 ·rw[Ú (by simp[igt]; omega),if_pos c1]
 rw[Õ (by simp[igt]; omega),if_neg c1]
 by_cases c2:12<b.2.2.2.1.length
 ·rw[Ú (by simp[igt]; omega),if_pos c2]
 rw[Õ (by simp[igt]; omega),if_neg c2]
 by_cases c3:40<b.2.2.2.2.1.length
 ·rw[Ú (by simp[igt]; omega),if_pos c3]
 rw[Õ (by simp[igt]; omega),if_neg c3]
 by_cases c4:10<b.2.2.2.2.2.length
 ·rw[Ú (by simp[igt]; omega),if_pos c4]
 rw[Õ (by simp[igt]; omega),if_neg c4]
 refine Eq.trans (atp b.2.1 (ahL b.2.1) some (some (match (an5 b (ady b)).find? (fun e=>e != 0) with
  |some e=>e
  |none=>if 59<(Î b).length then 2 else if 300<2*b.2.1.length+2*((Î b).length-b.2.1.length:Int)+2*b.2.2.2.2.1.length then 2 else 0)) (fun i g hi hg kn=>?_) (fun hz kn=>?_)) ?_
 ·try dsimp only
  unfold ah0;rw[Ö hi,Ë hg,aYO,À];unfold ahL
  cases aiV g with
  |false=>rfl
  |true =>
   rw[Õ (by rfl)];rcases Nat.eq_zero_or_pos i with h0|h0
   ·subst h0
    have:igt ((0:Nat):Int) 0=false:=by simp[igt]
    rw[Õ this,Ñ hi (by omega)];simp[atA]
   ·obtain⟨q,hq⟩:=atU hi h0
    have h1:igt (i:Int) 0=true:=by simp[igt]; omega
    rw[Ú h1,Ë hg,aFG h0 (by omega),awn h0 hq];simp only[atA,h0,decide_true,Bool.true_and,hq,Option.any_some];unfold ile
    cases h2:decide (g.1≤q.1) with
    |true=>simp
    |false=>rw[è,Ñ hi (by omega)]; simp
 ·try dsimp only
  unfold ah0;rw[ã];dsimp only
  have hg0:aeh b=0:=by
   unfold aeh;rw[adJ.2 fun j a ha=>by rw[Nat.zero_add]; exact hz j a ha];rfl
  obtain⟨hg,hi⟩:=(amU b).1 hg0;have eu:b.2.2.1.map (aNf b)=b.2.2.1.map fun u=>aUA (ady b) u.1 u.2:=List.map_congr_left fun u _=>aS4 hi u;have el:b.2.2.2.1.mapIdx (aHY b)=b.2.2.2.1.mapIdx fun i l=>aHZ b (ady b) i l:=List.mapIdx_eq_mapIdx_iff.2 fun i hl=>aXi hi i _;have ec:b.2.2.2.2.1.mapIdx (ae0 b)=b.2.2.2.2.1.mapIdx fun i c=>aic b (ady b) i c:=List.mapIdx_eq_mapIdx_iff.2 fun i hc=>aJo hi i _;have ek:b.2.2.2.2.2.map (aNf b)=b.2.2.2.2.2.map fun u=>aUA (ady b) u.1 u.2:=List.map_congr_left fun u _=>aS4 hi u;unfold an5;rw[←eu,←el,←ec,←ek,aMA,aMA,aMA,a0S hs,À]
  cases hue:(b.2.2.1.map (aNf b)).find? (fun e=>e != 0) with
  |some e =>
   have he:e≠0:=by have:=List.find?_some hue; simpa using this
   simp only[Option.getD_some];rw[Õ (by simpa[ieq] using he),Ú (by simpa[ine] using he)]
  |none =>
   simp only[Option.getD_none];rw[Ú (by rfl),aYN hs,À]
   cases hle:(b.2.2.2.1.mapIdx (aHY b)).find? (fun e=>e != 0) with
   |some e =>
    have he:e≠0:=by have:=List.find?_some hle; simpa using this
    simp only[Option.getD_some];rw[Ú (by simpa[ine] using he)]
   |none =>
    simp only[Option.getD_none];rw[Õ (by rfl)];refine Eq.trans (a1v hs hfilm (by omega) (by omega) (by omega) (by omega) (by omega) hg hi (aXM hue) (aVj hle)) ?_;unfold a1w
    cases(b.2.2.2.2.1.mapIdx (ae0 b)).find? (fun e=>e != 0)<;>rfl
 ·unfold aeh
  cases hf:ĵ (ahL b.2.1) 0 b.2.1 with
  |none =>
   simp
   cases(an5 b (ady b)).find? (fun e=>e != 0)<;>rfl
  |some e =>
   have he:aeh b=e:=by unfold aeh; rw[hf]; rfl
   have hne:e≠0:=by
    intro h0;rw[h0] at he;obtain⟨h1,h2⟩:=(amU b).1 he
    have h3:∀j a,b.2.1[j]?=some a→ahL b.2.1 j a=none:=by
     intro j a ha;have h4:=(aMY (fun g:î=>g.1) b.2.1).2 h2 j a ha;simp[ahL,h1 a (List.mem_of_getElem? ha),h4]
    rw[adJ.2 fun j a ha=>by rw[Nat.zero_add]; exact h3 j a ha] at hf;cases hf
   simp[hne]
end Go.Proofs.ZzM
end
noncomputable section
namespace Go.Proofs.ZzM
open Go Go.Am
theorem aVT {b:â} (h:ę b):aiY b=some (((Î b).length:Int)+1,ä b):=by
 have hN:=h.nodes;unfold aiY asM;rw[aw3 h.pre,À,ç,Ø (by omega) (by omega),aYR h,À]
end Go.Proofs.ZzM
end
noncomputable section
namespace Go.Proofs.ZzM
open Go Go.Am
section
variable {ρ:Type}
abbrev aY3:Type:=â×Sys×List (List Int)×Int
def aTO (e:Int):aY3:=(afw,(0,[]),[],e)
def tabR (B:â):List (List Int):=aqY ((Î B).length+1) (aQT B)
def ad1 (b:â) (ns:List (Int×Int)):aY3 :=
 if (ú b ns).2≠0 then aTO (ú b ns).2 else((ú b ns).1,aCa (ú b ns).1,tabR (ú b ns).1,0)
theorem aYU {b:â} (h:ę b) (n:Int×Int):alE b n=some (if é (aef b n)≠0 then(afw,é (aef b n)) else(aef b n,0)):=by
 have h5:=h.nK;unfold alE aDg;rw[Ù (by omega),Am.iff_true,List.nil_append,Ù (by simp only[List.length_singleton]; omega),Am.iff_true];rw[show agH (b.1,b.2.1,b.2.2.1,b.2.2.2.1,b.2.2.2.2.1,b.2.2.2.2.2++[n])=agH (aef b n) from rfl,aQI (aPM h n),À]
 by_cases hc2:é (aef b n)=0
 ·rw[Õ (by simp[ine,hc2]),if_neg (show ¬(é (aef b n)≠0) from fun h=>h hc2)];rfl
 ·rw[Ú (by simp[ine,hc2]),if_pos hc2];rfl
abbrev aVY:Type:=Int×Int×List î×List (Int×Int)×List aAq×List Cmp×List (Int×Int)×Int×Int×Int×Int
def bkK (s:aVY):â:=((s.1,s.2.1),s.2.2.1,s.2.2.2.1,s.2.2.2.2.1,s.2.2.2.2.2.1,s.2.2.2.2.2.2.1)
theorem aXr {ns:List (Int×Int)} (hl:ns.length≤1000) (X:â→Option aY3) {E1 K1:aVY→Option aY3} (hK:∀s:aVY,K1 s=X (bkK s))
 (hE:∀s:aVY,s.2.2.2.2.2.2.2.1=0→s.2.2.2.2.2.2.2.2.1=0→s.2.2.2.2.2.2.2.2.2.1=0→E1 s=some (aTO s.2.2.2.2.2.2.2.2.2.2)) {b:â} (hg:ę b) :
 Ì (fun(v12:Int×aVY) kk25=>ag8 ns v12.1 v12.2.1 v12.2.2.1 v12.2.2.2.1 v12.2.2.2.2.1 v12.2.2.2.2.2.1 v12.2.2.2.2.2.2.1 v12.2.2.2.2.2.2.2.1 v12.2.2.2.2.2.2.2.2.1 v12.2.2.2.2.2.2.2.2.2.1 v12.2.2.2.2.2.2.2.2.2.2.1 v12.2.2.2.2.2.2.2.2.2.2.2 (fun u13 u14 u15 u16 u17 u18 u19 u20 u21 u22 u23 u24=>kk25 (u13,u14,u15,u16,u17,u18,u19,u20,u21,u22,u23,u24)) E1 K1) ((0:Int),b.1.1,b.1.2,b.2.1,b.2.2.1,b.2.2.2.1,b.2.2.2.2.1,b.2.2.2.2.2,(0:Int),(0:Int),(0:Int),(0:Int)) =
  if (ō b ns).2≠0 then some (aTO (ō b ns).2) else X (ō b ns).1:=by
 refine awh ns (fun(i:Nat) (s:aVY) (t:List (Int×Int))=>if (ō (bkK s) t).2≠0 then some (aTO (ō (bkK s) t).2) else X (ō (bkK s) t).1)
  (fun i s=>ę (bkK s)∧s.2.2.2.2.2.2.2.1=0∧s.2.2.2.2.2.2.2.2.1=0∧s.2.2.2.2.2.2.2.2.2.1=0) (fun s hs kn=>?_) (fun i n t s hd hi ha hs kn hk=>?_) (s:=(b.1.1,b.1.2,b.2.1,b.2.2.1,b.2.2.2.1,b.2.2.2.2.1,b.2.2.2.2.2,(0:Int),(0:Int),(0:Int),(0:Int))) ⟨hg,rfl,rfl,rfl⟩
 ·dsimp only;unfold ag8;rw[ã];exact hK s
 ·dsimp only;unfold ag8;obtain⟨hs1,z1,z2,z3⟩:=hs;rw[Ö hi,Ë ha];rw[show Œ ((s.1,s.2.1),s.2.2.1,s.2.2.2.1,s.2.2.2.2.1,s.2.2.2.2.2.1,s.2.2.2.2.2.2.1) n=Œ (bkK s) n from rfl,aw4 hs1.pre,À,Ë ha];rw[show alE ((s.1,s.2.1),s.2.2.1,s.2.2.2.1,s.2.2.2.2.1,s.2.2.2.2.2.1,s.2.2.2.2.2.2.1) n=alE (bkK s) n from rfl,aYU hs1,À];have hr:=Ū (bkK s) n
  have hu:ō (bkK s) (n::t)=if (aeD (bkK s) n).2≠0 then(afw,(aeD (bkK s) n).2) else ō (aeD (bkK s) n).1 t:=rfl
  rw[hu]
  by_cases h0:amT (bkK s) n.1 n.2=0
  ·rw[Õ (decide_eq_false (by omega))]
   by_cases h2:é (aef (bkK s) n)=0
   ·have e:aeD (bkK s) n=(aef (bkK s) n,0):=by unfold aeD; rw[if_neg (by simp[h0]),if_neg (by simp[h2])]
    rw[if_neg (show ¬é (aef (bkK s) n)≠0 by simp[h2]),Õ (by rfl),Ñ hi (by omega),e,if_neg (show ¬((0:Int)≠0) by simp)];exact hk (s.1,s.2.1,s.2.2.1,s.2.2.2.1,s.2.2.2.2.1,s.2.2.2.2.2.1,s.2.2.2.2.2.2.1++[n],s.2.2.2.2.2.2.2) ⟨(ô _).1 h2,z1,z2,z3⟩
   ·have e:aeD (bkK s) n=(afw,é (aef (bkK s) n)):=by unfold aeD; rw[if_neg (by simp[h0]),if_pos h2]
    rw[if_pos h2,Ú (by simp[ine,h2]),e,if_pos h2,if_pos h2];exact hE _ rfl rfl rfl
  ·have e:aeD (bkK s) n=(bkK s,0):=by unfold aeD; rw[if_pos h0]
   rw[Ú (decide_eq_true (by omega)),Ñ hi (by omega),e,if_neg (show ¬((0:Int)≠0) by simp)];exact hk s ⟨hs1,z1,z2,z3⟩
theorem aST {b:â} (hI:In b) {ns:List (Int×Int)} (hl:ns.length≤1000):alA b ns=some (ad1 b ns):=by
 unfold alA aCQ;rw[aQI hI.size,À]
 by_cases hc:é b=0
 case neg =>
  have e:ú b ns=(afw,é b):=by unfold ú; rw[if_pos hc]
  rw[Ú (bne_iff_ne.2 hc)];unfold ad1;rw[e,if_pos hc];rfl
 have hg:=(ô b).1 hc
 have e:ú b ns=if (ō b ns).2≠0 then(afw,(ō b ns).2) else if Ĩ (ä (ō b ns).1) ((Î (ō b ns).1).length+1) then((ō b ns).1,0) else(afw,9):=by
  unfold ú; rw[if_neg (show ¬é b≠0 by simp[hc])]
 rw[Õ (by rw[hc]; rfl)];refine(aXr hl (fun B=>Â (aiY B) fun r10=>Â (alF r10) fun r11=>ifb (!r11.2) (some ((((0:Int),(0:Int)),[],[],[],[],[]),((0:Int),[]),[],(9:Int))) (some (B,r10,r11.1,(0:Int)))) (fun s=>rfl) (fun s h1 h2 h3=>?_) hg).trans ?_
 ·rw[h1,h2,h3];rfl
 by_cases hr:(ō b ns).2=0
 case neg =>
  rw[if_pos hr] at e;unfold ad1;rw[if_pos hr,e,if_pos hr]
 have hg':=atQ hg hr;rw[if_neg (show ¬(ō b ns).2≠0 by simp[hr])] at e ⊢;generalize (ō b ns).1=B at hg' e;rw[aVT hg',À,show(((Î B).length:Int)+1,ä B)=((((Î B).length+1:Nat):Int),ä B) by push_cast; rfl,a0P hg'.sys hg'.tied,À];unfold ad1
 cases ho:Ĩ (ä B) ((Î B).length+1) with
 |true =>
  rw[if_pos ho] at e;rw[if_pos rfl,e,if_neg (by simp),Õ (by rfl),←asi];rfl
 |false =>
  rw[if_neg (by simp[ho])] at e;rw[if_neg (by simp),e,if_pos (by simp),Ú (by rfl)];rfl
theorem awi (b:â) (ns:List (Int×Int)):(ad1 b ns).2.2.2=(ú b ns).2:=by
 unfold ad1
 by_cases h:(ú b ns).2=0
 ·rw[if_neg (by simp[h]),h]
 ·rw[if_pos h]; rfl
theorem aE8 {b:â} {ns:List (Int×Int)} (h:(ú b ns).2=0):ad1 b ns=((ú b ns).1,aCa (ú b ns).1,tabR (ú b ns).1,0):=by
 unfold ad1; rw[if_neg (by simp[h])]
theorem aXu {B:â} (h:ę B) (s:Sys) (t:List (List Int)) (e:Int) (n:Int×Int):Ô (B,s,t,e) n=some (amT B n.1 n.2):=by
 unfold Ô al7;rw[show Œ (B,s,t,e).1 n=Œ B n from rfl,aw4 h.pre,À]
theorem aBT {B:â} {u:Int} (hu:0≤u∧u<((Î B).length+1:Nat)) (f:List Int→Option ρ):ă (tabR B) u f=f (aGc ((Î B).length+1) (aQT B u)) :=
 aes hu.1 (aTc (aQT B) hu.1 hu.2) f
theorem aBU {N:Nat} (g:Int→Int) {u:Int} (hu:0≤u∧u<N) (f:Int→Option ρ):ă (aGc N g) u f=f (g u) :=
 aes hu.1 (aTk g hu.1 hu.2) f
theorem aAe {B:â} (h:a0T B) (s:Sys) (e:Int) {u:Int} (hu:0≤u∧u<((Î B).length+1:Nat)):å (B,s,tabR B,e) u=some (-(aQT B u 0),aQT B 0 u):=by
 unfold å ae8;have hb:=apM h hu (Μ B);dsimp only;rw[aBT hu,aBU _ (Μ B),Ø (by omega) (by omega),aBT (Μ B),aBU _ hu,Int.zero_sub]
theorem aSc {B:â} (h:a0T B) (s:Sys) (e:Int) {u v:Int} (hu:0≤u∧u<((Î B).length+1:Nat)) (hv:0≤v∧v<((Î B).length+1:Nat)):Þ (B,s,tabR B,e) u v=some (-(aQT B u v),aQT B v u):=by
 unfold Þ afK;have hb:=apM h hu hv;dsimp only;rw[aBT hu,aBU _ hv,Ø (by omega) (by omega),aBT hv,aBU _ hu,Int.zero_sub]
end
end Go.Proofs.ZzM
end
noncomputable section
namespace Go.Proofs.ZzM
open Go Go.Am
section
variable {L:List Lk} {N:Nat}
end
def ay9 (L:List Lk) (N:Nat):List (Int×Int):=(List.range N).map fun(n:Nat)=>(-(dst L N n 0),dst L N 0 n)
section
variable {L:List Lk} {N:Nat}
theorem aUE {n:Nat} (h:n<N):(ay9 L N)[n]?=some (-(dst L N n 0),dst L N 0 n):=by
 unfold ay9;rw[List.getElem?_map,List.getElem?_range h];rfl
theorem a0Q (hS:ņ L N) (ht:atC L N) (ho:Ĩ L N=true):awH ((N:Int),L)=some (ay9 L N,0):=by
 have hN:=hS.n60;have hN1:=hS.n1;unfold awH aEh;rw[aUl hS (fun n hn=>by simp at hn) (by simp),À,if_pos ho,Õ (by rfl),aFY hS.links hS.n1 (by omega) ho ⟨by omega,by omega⟩,À,okN (by omega),Int.toNat_natCast];have hlen0:(agN L N 0).length=N:=aFZ 0;refine ñ (List.replicate N ()) (fun i=>((List.range i).map fun(n:Nat)=>dst L N n 0)++List.replicate (N-i) (0:Int)) _ (by simp) (fun i a hi ha kn=>?_) (fun kn=>?_)
 ·try dsimp only
  unfold ajQ;rw[List.length_replicate] at hi;rw[ç,List.length_replicate,Ú (decide_eq_true (by omega)),aFY hS.links hS.n1 (by omega) ho ⟨by omega,by omega⟩,À,akC (by omega) (by rw[aFZ]; simp; omega)]
  have hlen:(((List.range i).map fun(n:Nat)=>dst L N n 0)++List.replicate (N-i) (0:Int)).length=N:=by simp; omega
  rw[show Đ (((List.range i).map fun(n:Nat)=>dst L N n 0)++List.replicate (N-i) (0:Int))=(N:Int) by unfold Đ; rw[hlen],Ħ (by omega) (by omega),Int.toNat_natCast]
  have hget:(((List.range i).map fun(n:Nat)=>dst L N n 0)++List.replicate (N-i) (0:Int))[i]?=some 0:=by
   rw[List.getElem?_append_right (by simp),List.getElem?_replicate,if_pos (by simp; omega)]
  rw[afA hget,Ø (by omega) (by omega)];congr 2;rw[List.set_append_right _ _ (by simp),List.range_succ,List.map_append]
  have e:N-i=(N-(i+1))+1:=by omega
  rw[e,List.replicate_succ];simp[dst]
 ·try dsimp only
  unfold ajQ;rw[ç,List.length_replicate,List.length_replicate,Õ (decide_eq_false (by omega))]
  have e0:((List.range N).map fun(n:Nat)=>dst L N n 0)++List.replicate (N-N) (0:Int)=(List.range N).map fun(n:Nat)=>dst L N n 0:=by simp
  rw[e0];refine ñ (List.replicate N ()) (fun i=>(List.range i).map fun(n:Nat)=>(-(dst L N n 0),dst L N 0 n)) _ (by simp) (fun i a hi ha kn=>?_) (fun kn=>?_)
  ·try dsimp only
   unfold ajP;rw[List.length_replicate] at hi
   have hget:((List.range N).map fun(n:Nat)=>dst L N n 0)[i]?=some (dst L N i 0):=by
    rw[List.getElem?_map,List.getElem?_range hi]; rfl
   have hb:=aQf hS ht ho (s:=(i:Int)) (t:=0) ⟨by omega,by omega⟩ ⟨by omega,by omega⟩;rw[ç,hlen0,Ú (decide_eq_true (by omega)),show Đ ((List.range N).map fun(n:Nat)=>dst L N n 0)=(N:Int) by simp[Đ],Ħ (by omega) (by omega),Int.toNat_natCast,afA hget,Ø (by omega) (by omega),akC (by omega) (by rw[hlen0]; simp; omega),ģ (Ù (by simp only[List.length_map,List.length_range,List.length_singleton]; omega)),Ø (by omega) (by omega),Int.zero_sub];congr 2;rw[List.range_succ,List.map_append];rfl
  ·try dsimp only
   unfold ajP;rw[ç,hlen0,List.length_replicate,Õ (decide_eq_false (by omega))];rfl
end
def ĭ (b:â):List (Int×Int)×Int:=if (ú b []).2≠0 then([],(ú b []).2) else((ay9 (ä b) ((Î b).length+1)).drop 1,0)
theorem aQJ {b:â} (hc:é b=0):ú b []=if Ĩ (ä b) ((Î b).length+1) then(b,0) else(afw,9):=by
 unfold ú ō;rw[if_neg (by simp[hc]),if_neg (by simp)]
theorem aQK {b:â} (hI:In b):ah8 b=some (ĭ b):=by
 unfold ah8 amo ĭ;rw[adO hI.size hI.num,À]
 by_cases hc:é b=0
 case neg =>
  have hO:ú b []=(afw,é b):=by unfold ú; rw[if_pos hc]
  rw[Ú (bne_iff_ne.2 hc),hO,if_pos hc,ģ (bne_iff_ne.2 hc)]
 have hg:=(ô b).1 hc;rw[Õ (by rw[hc]; rfl),aQJ hc];refine(ł (r:=?r) (fun v=>v=(0:Int)) (fun _=>0) ?_ rfl);rintro v rfl;refine .inl fun kn=>?_;unfold ahA;rw[Õ (by rfl),ahq hI,À,adx hg,Õ (by rfl),show((((Î b).length:Int)+1,ä b),ŝ b,(0:Int)).1=aCa b from rfl,asi,ani hg.sys,À];dsimp only
 cases ho:Ĩ (ä b) ((Î b).length+1) with
 |false=>rfl
 |true =>
  have:Đ (ay9 (ä b) ((Î b).length+1))=((Î b).length+1:Nat):=by simp[Đ,ay9]
  rw[Õ (by rfl),a0Q hg.sys hg.tied ho,À,this,ģ (decide_eq_true (by omega))];rfl
end Go.Proofs.ZzM
end
noncomputable section
namespace Go.Proofs.ZzM
open Go Go.Am
section
variable {ρ:Type}
theorem aTP {l:List (Int×Int)} (hl:l.length≤1000) (r:aY3) (h:∀(i:Nat) (a:Int×Int),l[i]?=some a→å r (((i+1:Nat):Int))=some a) (k0:Bool→Option ρ) (K:Option ρ) :
 Ì (fun(v22:Int) kk24=>Ä l r.1.1.1 r.1.1.2 r.1.2.1 r.1.2.2.1 r.1.2.2.2.1 r.1.2.2.2.2.1 r.1.2.2.2.2.2 r.2.1.1 r.2.1.2 r.2.2.1 r.2.2.2 v22 (fun u23=>kk24 u23) k0 (fun _=>K)) (0:Int)=K:=by
 refine(Ĺ l (fun _=>false) (fun _=>K) K K (fun _=>rfl) (fun i a hi ha kn=>?_) (fun kn=>?_)).trans (if_neg (by simp))
 ·try dsimp only
  unfold Ä;rw[Ö hi,Ë ha,show((i:Int)+1)=((i+1:Nat):Int) by push_cast; rfl,Ø (by omega) (by omega)];rw[show å (((r.1.1.1,r.1.1.2),r.1.2.1,r.1.2.2.1,r.1.2.2.2.1,r.1.2.2.2.2.1,r.1.2.2.2.2.2),(r.2.1.1,r.2.1.2),r.2.2.1,r.2.2.2) (((i+1:Nat):Int))=å r (((i+1:Nat):Int)) from rfl,h i a ha,À];rw[Õ (by simp[Ă]),Ø (by omega) (by omega)];rfl
 ·try dsimp only
  unfold Ä;rw[ã]
end
theorem aMr {b:â} (hn:∀g∈b.2.1,I64 g.2.2.2.2.1.1) (m n:Int×Int):aff b m n=some true:=by
 unfold aff ae4;rw[few_ok,À,aUI]
 by_cases hf:fewP b=true
 case neg=>rw[Bool.eq_false_iff.2 hf]; rfl
 have hI:In b:=⟨a0c hf,hn⟩;rw[hf,Õ (by rfl),atD hI,À,aQK hI,À,aJE hI,À,aST hI (by simp),À,aST hI (by simp),À,aST hI (by simp),À]
 have q1:(adW b m).2=(ú b [m]).2:=by unfold adW; split<;>simp_all
 have q2:(ĭ b).2=(ú b []).2:=by unfold ĭ; split<;>simp_all
 have q3:(af9 b m n).2=(ú b [m,n]).2:=by unfold af9; split<;>simp_all
 rw[awi,awi,awi,q1,q2,q3,Õ (by simp[ine]),Õ (by simp[ine]),Õ (by simp[ine])]
 -- the intervals of all nodes
 have hL1:(ú b []).2=0→∀(k0:Bool→Option Bool) (K:Option Bool),(ck ((ad1 b []).2.1.1-(1:Int)) fun n14=>ifb (ine (Û (ĭ b).1) n14) (some false) (Ì (fun(v22:Int) kk24=>Ä (ĭ b).1 (ad1 b []).1.1.1 (ad1 b []).1.1.2 (ad1 b []).1.2.1 (ad1 b []).1.2.2.1 (ad1 b []).1.2.2.2.1 (ad1 b []).1.2.2.2.2.1 (ad1 b []).1.2.2.2.2.2 (ad1 b []).2.1.1 (ad1 b []).2.1.2 (ad1 b []).2.2.1 (ú b []).2 v22 (fun u23=>kk24 u23) k0 (fun _=>K)) (0:Int)))=K:=by
  intro ho k0 K;rw[←awi];have hr:=(axo hI ho).room;have hk:=aE8 ho
  have e1:(ĭ b).1=(ay9 (ä b) ((Î b).length+1)).drop 1:=by unfold ĭ; rw[if_neg (by simp[ho])]
  have hB:(ú b []).1=b:=by
   have hc:é b=0:=by
    by_cases hc:é b=0
    ·exact hc
    ·unfold ú at ho; rw[if_pos hc] at ho; exact absurd ho hc
   have:=aQJ hc;rw[this] at ho ⊢
   split
   ·rfl
   ·rename_i h; rw[if_neg h] at ho; cases ho
  rw[hB] at hk hr
  have hlen:(ĭ b).1.length=(Î b).length:=by rw[e1]; simp[ay9]
  have h60:=hr.good.sys.n60
  have hN:(ad1 b []).2.1.1=((Î b).length:Int)+1:=by rw[hk]; rfl
  rw[Ø (by omega) (by omega),ç,hlen,Õ (by rw[hN]; simp[ine])];refine aTP (by omega) (ad1 b []) (fun i a ha=>?_) k0 K
  have hi:i<(Î b).length:=by rw[←hlen]; exact(List.getElem?_eq_some_iff.1 ha).1
  rw[e1,List.getElem?_drop,show 1+i=i+1 from Nat.add_comm 1 i,aUE (by omega)] at ha;rw[hk,aAe hr _ _ ⟨by omega,by omega⟩];exact ha
 have hL0:(ú b []).2≠0→∀(k0:Bool→Option Bool) (K:Option Bool),(Ì (fun(v22:Int) kk24=>Ä (ĭ b).1 (ad1 b []).1.1.1 (ad1 b []).1.1.2 (ad1 b []).1.2.1 (ad1 b []).1.2.2.1 (ad1 b []).1.2.2.2.1 (ad1 b []).1.2.2.2.2.1 (ad1 b []).1.2.2.2.2.2 (ad1 b []).2.1.1 (ad1 b []).2.1.2 (ad1 b []).2.2.1 (ú b []).2 v22 (fun u23=>kk24 u23) k0 (fun _=>K)) (0:Int))=K:=by
  intro ho k0 K;rw[←awi];refine aTP (by unfold ĭ; rw[if_pos ho]; simp) (ad1 b []) (fun i a ha=>?_) k0 K;unfold ĭ at ha;rw[if_pos ho] at ha;cases ha
 have hA:(ú b [m]).2=0→∀T:Option Bool,(Â (Ô (ad1 b [m]) m) fun r9=>Â (å (ad1 b [m]) r9) fun r10=>ifb (!((Ă (adW b m).1.1 r10.1)&&((Ă (adW b m).1.2 r10.2)&&true))) (some false) T)=T:=by
  intro ho T;have hr:=(axo hI ho).room;rw[aE8 ho,aXu hr.good,À,aAe hr _ _ (Ū _ m),À]
  have e:(adW b m).1=ivR (ú b [m]).1 m:=by unfold adW; rw[if_neg (by simp[ho])]
  rw[e];exact Õ (by simp[Ă,ivR]) _ _
 have hB:(ú b [m,n]).2=0→∀T:Option Bool,(Â (Ô (ad1 b [m,n]) m) fun r11=>Â (Ô (ad1 b [m,n]) n) fun r12=>Â (Þ (ad1 b [m,n]) r11 r12) fun r13=>ifb (!((Ă (af9 b m n).1.1 r13.1)&&((Ă (af9 b m n).1.2 r13.2)&&true))) (some false) T)=T:=by
  intro ho T;have hr:=(axo hI ho).room;rw[aE8 ho,aXu hr.good,À,aXu hr.good,À,aSc hr _ _ (Ū _ m) (Ū _ n),À]
  have e:(af9 b m n).1=btR (ú b [m,n]).1 m n:=by unfold af9; rw[if_neg (by simp[ho])]
  rw[e];exact Õ (by simp[Ă,btR]) _ _
 have zA:(ú b [m]).2≠0→(adW b m).1=(0,0):=fun ho=>by unfold adW; rw[if_pos ho]
 have zB:(ú b [m,n]).2≠0→(af9 b m n).1=(0,0):=fun ho=>by unfold af9; rw[if_pos ho]
 have zL:(ú b []).2≠0→(ĭ b).1=[]:=fun ho=>by unfold ĭ; rw[if_pos ho]
 have en:∀e:Int,e=0→ine e 0=false∧ieq e 0=true:=fun e h=>by subst h; exact⟨rfl,rfl⟩
 have en':∀e:Int,e≠0→ine e 0=true∧ieq e 0=false:=fun e h=>⟨bne_iff_ne.2 h,beq_eq_false_iff_ne.2 h⟩;have z0:(!((Ă (0:Int) (0:Int))&&((Ă (0:Int) (0:Int))&&true)))=false:=rfl
 have l0:igt (Û ([]:List (Int×Int))) 0=false:=by rw[ç]; rfl
 by_cases o1:(ú b [m]).2=0<;>by_cases o2:(ú b []).2=0<;>by_cases o3:(ú b [m,n]).2=0
 ·simp only[(en _ o1).1,(en _ o1).2,(en _ o2).1,(en _ o2).2,(en _ o3).1,(en _ o3).2,ī,è];exact(hA o1 _).trans ((hB o3 _).trans ((hL1 o2 _ _).trans rfl))
 ·simp only[(en _ o1).1,(en _ o1).2,(en _ o2).1,(en _ o2).2,(en' _ o3).1,(en' _ o3).2,zB o3,z0,ī,è];exact(hA o1 _).trans ((hL1 o2 _ _).trans rfl)
 ·simp only[(en _ o1).1,(en _ o1).2,(en' _ o2).1,(en' _ o2).2,(en _ o3).1,(en _ o3).2,show igt (Û (ĭ b).1) 0=false by rw[zL o2]; exact l0,ī,è];exact(hA o1 _).trans ((hB o3 _).trans ((hL0 o2 _ _).trans rfl))
 ·simp only[(en _ o1).1,(en _ o1).2,(en' _ o2).1,(en' _ o2).2,(en' _ o3).1,(en' _ o3).2,show igt (Û (ĭ b).1) 0=false by rw[zL o2]; exact l0,zB o3,z0,ī,è];exact(hA o1 _).trans ((hL0 o2 _ _).trans rfl)
 ·simp only[(en' _ o1).1,(en' _ o1).2,(en _ o2).1,(en _ o2).2,(en _ o3).1,(en _ o3).2,zA o1,z0,ī,è];exact(hB o3 _).trans ((hL1 o2 _ _).trans rfl)
 ·simp only[(en' _ o1).1,(en' _ o1).2,(en _ o2).1,(en _ o2).2,(en' _ o3).1,(en' _ o3).2,zA o1,zB o3,z0,ī,è];exact(hL1 o2 _ _).trans rfl
 ·simp only[(en' _ o1).1,(en' _ o1).2,(en' _ o2).1,(en' _ o2).2,(en _ o3).1,(en _ o3).2,show igt (Û (ĭ b).1) 0=false by rw[zL o2]; exact l0,zA o1,z0,ī,è];exact(hB o3 _).trans ((hL0 o2 _ _).trans rfl)
 ·simp only[(en' _ o1).1,(en' _ o1).2,(en' _ o2).1,(en' _ o2).2,(en' _ o3).1,(en' _ o3).2,show igt (Û (ĭ b).1) 0=false by rw[zL o2]; exact l0,zA o1,zB o3,z0,ī,è];exact(hL0 o2 _ _).trans rfl
end Go.Proofs.ZzM
end