/- lemmas -/
import Derived.Test.YtiochmbenflhhaaGreatPlB
import Derived.Test.YtiochmbenflhhaaGreatPlA
import Derived.Test.YtiochmbenflhhaaGreatMdTA
set_option linter.all false
set_option linter.unusedSectionVars false
set_option linter.unusedVariables false
set_option linter.unusedSimpArgs false
noncomputable section
namespace Go.Proofs.ZzM
open Go Go.Am
def agw {l:List Int}:∀(m:List Int) (j:Nat) (x:Bool),ģ (xL l) j m=some x→x=false:=by
 intro m
 induction m with
 |nil=>intro j x h; cases h
 |cons a m ih =>
  intro j x h;unfold ģ at h
  cases hp:xL l j a with
  |none=>rw[hp] at h; exact ih _ _ h
  |some y =>
   rw[hp] at h;cases h;unfold xL at hp
   split at hp
   ·cases hp; rfl
   ·split at hp
    ·cases hp; rfl
    ·cases hp
def ajV {l:List Int} (hn:l.length≤1000000):Ai l=some (mq l):=by
 unfold Ai PV;refine Eq.trans (ij l (xL l) some (some (decide (l.length≤6))) (fun i a hi ha kn=>?_) (fun kn=>?_)) ?_
 ·try dsimp only
  unfold rJ;rw[Ð hi,Ç ha,AG,À];unfold xL
  cases inP a 1 1099511627776 with
  |false=>rfl
  |true =>
   simp only[eJ,æ,dv,if_false];rcases fE i with h0|h0
   ·subst h0
    have:igt ((0:Nat):Int) 0=false:=by simp[igt]
    rw[Î this,Ë hi (by omega)];simp[EJ]
   ·obtain⟨q,hq⟩:=EY hi h0
    have h1:igt (i:Int) 0=true:=by simp[igt]; omega
    rw[Ñ h1,Ç ha,SV h0 (by omega),HF h0 hq];simp only[EJ,h0,decide_true,Bool.true_and,hq,Option.any_some];unfold ile
    cases h2:decide (a≤q) with
    |true=>rfl
    |false =>
     rw[æ,Ë hi (by omega)];rfl
 ·try dsimp only
  unfold rJ;rw[Ù,Ü];simp[ile];omega
 ·unfold mq
  cases h:ģ (xL l) 0 l with
  |none=>rfl
  |some x=>rw[agw _ _ _ h]
def aoH {c:Cmp} (hA:c.2.2.1.length≤1000000) (hB:c.2.2.2.1.length≤1000000):Ba c=some (Mp c):=by
 unfold Ba Jj Mp;rw[ajV hA,ajV hB,AG,abM,AG,AG,w7];simp only[À]
 cases mq c.2.2.1<;>cases mq c.2.2.2.1<;>cases inP c.1 1 1099511627776<;>cases Il c.2.1<;>cases inP c.2.2.2.2.1 (-1125899906842624) 1125899906842624<;>cases inP c.2.2.2.2.2.1 0 1073741824<;>cases j6 c.2.2.2.2.2.2 (-10000) 10000<;>rfl
def abW (b:Þ) (u:Int×Int):Int:=if !Il u.2 then 1 else ι b u.1 u.2
def aip {b:Þ} (hi:b.2.1.Pairwise fun a b=>a.1<b.1) (u:Int×Int):abW b u=af8 (Ť b) u.1 u.2:=by
 unfold abW af8;rw[Dm hi]
def ajo (e:Int):Option Int:=if e=0 then none else some e
def KT {α:Type} (E:Nat→α→Int):∀(k:Nat) (l:List α),ģ (fun i a=>ajo (E i a)) k l=(l.mapIdx fun i a=>E (i+k) a).find? (fun e=>e != 0)
 |_,[]=>rfl
 |k,a::t=>by
  unfold ģ;rw[KT E (k+1) t,List.mapIdx_cons,List.find?_cons];unfold ajo
  by_cases h:E k a=0
  ·simp only[h,if_true,du];have:((0:Int) != 0)=false:=rfl;rw[this]
   have e:(fun(i:Nat) (a:α)=>E (i+(k+1)) a)=fun i a=>E (i+1+k) a:=by
    funext i a;congr 1;omega
   rw[e]
  ·simp only[h,if_false,du]
   have:(E k a != 0)=true:=by simpa using h
   rw[this]
def Sx {α:Type} (E:Nat→α→Int) (l:List α):ģ (fun i a=>ajo (E i a)) 0 l=(l.mapIdx E).find? (fun e=>e != 0):=KT E 0 l
def Sy {α:Type} (E:α→Int) (l:List α):ģ (fun _ a=>ajo (E a)) 0 l=(l.map E).find? (fun e=>e != 0):=by
 rw[KT (fun _ a=>E a) 0 l];congr 1
 exact gU (by simp) fun i h1 h2=>by simp
def aq1 {b:Þ} (hs:ľ b):HU b=some (((b.2.2.1.map (abW b)).find? (fun e=>e != 0)).getD 0):=by
 have h1:=hs.gauges;have h2:=hs.uses;unfold HU PB;refine Eq.trans (ij b.2.2.1 (fun _ u=>ajo (abW b u)) some (some 0) (fun i a hi ha kn=>?_) (fun kn=>?_)) ?_
 ·try dsimp only
  unfold rr;rw[Ð hi,Ç ha,abM,À];unfold abW ajo
  cases Il a.2 with
  |false=>rfl
  |true =>
   rw[Î (by rfl),Ç ha,Ç ha,IC (b:=((b.1.1,b.1.2),b.2.1,b.2.2.1,b.2.2.2.1,b.2.2.2.2.1,b.2.2.2.2.2)) (by simp only; omega),À,Ë hi (by omega)];have e:ι ((b.1.1,b.1.2),b.2.1,b.2.2.1,b.2.2.2.1,b.2.2.2.2.1,b.2.2.2.2.2) a.1 a.2=ι b a.1 a.2:=rfl;rw[e]
   by_cases hz:ι b a.1 a.2=0
   ·rw[Î (by simp[ine,hz])]; simp[hz]
   ·rw[Ñ (by simp[ine,hz])]; simp[hz]
 ·try dsimp only
  unfold rr;rw[Ù]
 ·rw[Sy]
  cases List.find? (fun e=>e != 0) (b.2.2.1.map (abW b))<;>rfl
def VV (b:Þ) (i:Nat) (l:IG):Int :=
 if !j6 l.2.1 0 20000 then 1 else if !inP l.2.2 0 1048576 then 1 else if ι b l.1 l.2.1.1 != 0 then ι b l.1 l.2.1.1 else
 if (b.2.2.2.1.take i).any (fun x=>x.1==l.1&&(decide (x.2.1.1≤l.2.1.2)&&decide (l.2.1.1≤x.2.1.2))) then 9 else
 if b.2.2.1.any (fun u=>u.1==l.1&&inP u.2 l.2.1.1 l.2.1.2) then 9 else 0
def am1 {b:Þ} (hi:b.2.1.Pairwise fun a b=>a.1<b.1) (i:Nat) (l:IG):VV b i l=HA b (Ť b) i l:=by
 unfold VV HA;rw[Dm hi]
def aoI {b:Þ} (hs:ľ b):Bb b=some (((b.2.2.2.1.mapIdx (VV b)).find? (fun e=>e != 0)).getD 0):=by
 have h1:=hs.gauges;have h2:=hs.uses;have h3:=hs.loans;unfold Bb Jk;refine Eq.trans (ij b.2.2.2.1 (fun i l=>ajo (VV b i l)) some (some 0) (fun i l hi hl kn=>?_) (fun kn=>?_)) ?_
 ·try dsimp only
  unfold oT;rw[Ð hi,Ç hl,w7,À];unfold VV ajo
  cases j6 l.2.1 0 20000 with
  |false=>rfl
  |true =>
  rw[Î (by rfl),AG,À]
  cases inP l.2.2 0 1048576 with
  |false=>rfl
  |true =>
  rw[Î (by rfl),IC (b:=((b.1.1,b.1.2),b.2.1,b.2.2.1,b.2.2.2.1,b.2.2.2.2.1,b.2.2.2.2.2)) (by simp only; omega),À];have e:ι ((b.1.1,b.1.2),b.2.1,b.2.2.1,b.2.2.2.1,b.2.2.2.2.1,b.2.2.2.2.2) l.1 l.2.1.1=ι b l.1 l.2.1.1:=rfl;rw[e]
  by_cases hz:ι b l.1 l.2.1.1=0
  ·rw[Î (by simp[ine,hz])]
   have hl9:(b.2.2.2.1.take i).length=i:=by rw[dm]; omega
   have inner:Í (fun(v21:Int) kk23=>lQ b.2.2.1 l.1 l.2.1.1 l.2.1.2 v21 (fun u22=>kk23 u22) (fun z18=>(some z18:Option Int)) (fun _=>ck ((i:Int)+(1:Int)) fun n20=>kn n20)) (0:Int)=if b.2.2.1.any (fun u=>u.1==l.1&&inP u.2 l.2.1.1 l.2.1.2) then some 9 else kn ((i:Int)+1):=by
    refine Ģ b.2.2.1 _ (fun _=>some 9) (some 9) (kn ((i:Int)+1)) (fun _=>rfl) (fun j a hj ha kn'=>?_) (fun kn'=>?_)
    ·try dsimp only
     unfold lQ;rw[Ð hj,Ç ha,Ç ha,AG,À,Ë hj (by omega)]
     cases hq:(a.1==l.1) with
     |false=>have:ieq a.1 l.1=false:=hq; simp[this]
     |true =>
      have:ieq a.1 l.1=true:=hq;rw[this]
      cases inP a.2 l.2.1.1 l.2.1.2<;>simp
    ·try dsimp only
     unfold lQ;rw[Ù];dsimp only;rw[Ë hi (by omega)]
   try dsimp only
   rw[inner];refine eP (Ģ (b.2.2.2.1.take i) (fun x=>x.1==l.1&&(decide (x.2.1.1≤l.2.1.2)&&decide (l.2.1.1≤x.2.1.2))) (fun _=>some 9) (some 9) (if b.2.2.1.any (fun u=>u.1==l.1&&inP u.2 l.2.1.1 l.2.1.2) then some 9 else kn ((i:Int)+1)) (fun _=>rfl) (fun j a hj ha kn'=>?_) (fun kn'=>?_)) ?_
   ·try dsimp only
    unfold oS;rw[hl9] at hj
    have ha':b.2.2.2.1[j]?=some a:=by rwa [List.getElem?_take_of_lt hj] at ha
    rw[Ñ (show ilt (j:Int) (i:Int)=true by simp[ilt]; omega),Ç ha',Ç ha',Ç ha',Ë hj (by omega)]
    cases hq:(a.1==l.1) with
    |false=>have:ieq a.1 l.1=false:=hq; simp[this]
    |true =>
     have:ieq a.1 l.1=true:=hq;rw[this]
     cases h5:decide (a.2.1.1≤l.2.1.2)<;>cases h6:decide (l.2.1.1≤a.2.1.2)<;>simp[ile,h5,h6,Č]<;>simp_all
   ·try dsimp only
    unfold oS;rw[hl9,Î (show ilt (i:Int) (i:Int)=false by simp[ilt])]
   ·simp only[hz]
    cases List.any (b.2.2.2.1.take i) _<;>cases b.2.2.1.any _<;>rfl
  ·rw[Ñ (by simp[ine,hz])]; simp[hz]
 ·try dsimp only
  unfold oT;rw[Ù]
 ·rw[Sx (VV b)]
  cases(b.2.2.2.1.mapIdx (VV b)).find? (fun e=>e != 0)<;>rfl
def B6 (b:Þ) (c:Cmp):Int :=
 if (c.2.2.1++c.2.2.2.1).any (fun id=>ι b id c.2.1==5) then 5 else
 if (c.2.2.1++c.2.2.2.1).any (fun id=>ι b id c.2.1 != 0) then 4 else
 if (c.2.2.1++c.2.2.2.1).any (fun id=>(j5 b id c.2.1).isSome) then 9 else
 if 1<(ç c.2.2.1 c.2.2.2.1).length then 1 else if 1<(ç c.2.2.2.1 c.2.2.1).length then 1 else
 if (ç c.2.2.1 c.2.2.2.1).length+(ç c.2.2.2.1 c.2.2.1).length=0 then 1 else 0
def apM {b:Þ} (hi:b.2.1.Pairwise fun a b=>a.1<b.1) (c:Cmp):B6 b c=yf b (Ť b) c:=by
 unfold B6 yf;simp only[Dm hi]
 by_cases h5:(c.2.2.1++c.2.2.2.1).any (fun id=>jt (Ť b) id c.2.1==5)=true
 ·rw[if_pos h5,if_pos h5]
 ·rw[if_neg h5,if_neg h5]
  have e:(c.2.2.1++c.2.2.2.1).any (fun id=>jt (Ť b) id c.2.1 != 0)=(c.2.2.1++c.2.2.2.1).any (fun id=>jt (Ť b) id c.2.1==4):=by
   rw[dO,dZ,dZ];constructor
   ·rintro⟨x,hx,h⟩;refine⟨x,hx,?_⟩;rcases Pf (Ť b) x c.2.1 with h1|h1|h1
    ·rw[h1] at h; cases h
    ·rw[h1]; rfl
    ·exact absurd (dZ.2 ⟨x,hx,by rw[h1]; rfl⟩) h5
   ·rintro⟨x,hx,h⟩;refine⟨x,hx,?_⟩;rw[eq_of_beq h]; rfl
  rw[e]
def agk {b:Þ} {id d:Int}:(ι b id d==5)=(b.2.1.findIdx? (fun g=>g.1==id)).isNone:=by
 unfold ι;rcases A8 (b:=b) (id:=id) with⟨j,g,h1,h2,h3⟩|⟨h1,h2⟩
 ·rw[h1,h3]
  try dsimp only
  split<;>rfl
 ·rw[h1,h2]; rfl
set_option maxHeartbeats 1000000 in
def afY {b:Þ} (hs:ľ b) {c:Cmp} (hA:c.2.2.1.length≤1000) (hB:c.2.2.2.1.length≤1000):jU b c=some (B6 b c):=by
 have h1:=hs.gauges;have h3:=hs.loans;unfold jU vB B6;rw[Ó (by omega),Am.iff_true,List.nil_append,Ó (by omega),Am.iff_true]
 have hl:(c.2.2.1++c.2.2.2.1).length≤2000:=by rw[dc]; omega
 generalize hP:c.2.2.1++c.2.2.2.1=P at hl
 have hol:∀{i:Nat},i<P.length→((ile (0:Int) (i:Int))&&(ilt (i:Int) (ā P)))=true:=fun {i} hi=>by simp[ile,ilt,ā]; omega
 have third:Í (fun(v19:Int) kk21=>ž b.1.1 b.1.2 b.2.1 b.2.2.1 b.2.2.2.1 b.2.2.2.2.1 b.2.2.2.2.2 c.2.1 P v19 (fun u20=>kk21 u20) (fun z14=>some z14) (fun _=>Å (km c.2.2.1 c.2.2.2.1) fun r16=>Å (km c.2.2.2.1 c.2.2.1) fun r17=>ifb (igt (Ö r16) (1:Int)) (some (1:Int)) (ifb (igt (Ö r17) (1:Int)) (some (1:Int)) (ck ((Ö r16)+(Ö r17)) fun n18=>ifb (ieq n18 (0:Int)) (some (1:Int)) (some (0:Int)))))) (0:Int) =
  some (if P.any (fun id=>(j5 b id c.2.1).isSome) then 9 else if 1<(ç c.2.2.1 c.2.2.2.1).length then 1 else if 1<(ç c.2.2.2.1 c.2.2.1).length then 1 else if (ç c.2.2.1 c.2.2.2.1).length+(ç c.2.2.2.1 c.2.2.1).length=0 then 1 else 0):=by
  refine eP (Ģ P (fun id=>(j5 b id c.2.1).isSome) (fun _=>some 9) (some 9) (some (if 1<(ç c.2.2.1 c.2.2.2.1).length then 1 else if 1<(ç c.2.2.2.1 c.2.2.1).length then 1 else if (ç c.2.2.1 c.2.2.2.1).length+(ç c.2.2.2.1 c.2.2.1).length=0 then 1 else 0)) (fun _=>rfl) (fun i a hi ha kn=>?_) (fun kn=>?_)) ?_
  ·try dsimp only
   unfold ž;rw[Ð hi,ğ (hol hi),ħ ha,ajW (b:=((b.1.1,b.1.2),b.2.1,b.2.2.1,b.2.2.2.1,b.2.2.2.2.1,b.2.2.2.2.2)) (by simp only; omega),À,Ë hi (by omega)];have e:j5 ((b.1.1,b.1.2),b.2.1,b.2.2.1,b.2.2.2.1,b.2.2.2.2.1,b.2.2.2.2.2) a c.2.1=j5 b a c.2.1:=rfl;rw[e]
   cases j5 b a c.2.1<;>rfl
  ·try dsimp only
   unfold ž;rw[Ù];dsimp only;have l1:=Aa c.2.2.1 c.2.2.2.1;have l2:=Aa c.2.2.2.1 c.2.2.1;rw[abL (by omega) (by omega),À,abL (by omega) (by omega),À];simp only[Ü]
   by_cases q1:1<(ç c.2.2.1 c.2.2.2.1).length
   ·rw[Ñ (by simp[igt]; omega),if_pos q1]
   ·rw[Î (by simp[igt]; omega),if_neg q1]
    by_cases q2:1<(ç c.2.2.2.1 c.2.2.1).length
    ·rw[Ñ (by simp[igt]; omega),if_pos q2]
    ·rw[Î (by simp[igt]; omega),if_neg q2,Ò (by omega) (by omega)]
     by_cases q3:(ç c.2.2.1 c.2.2.2.1).length+(ç c.2.2.2.1 c.2.2.1).length=0
     ·rw[Ñ (by simp[ieq]; omega),if_pos q3]
     ·rw[Î (by simp[ieq]; omega),if_neg q3]
  ·cases P.any _<;>rfl
 have second:Í (fun(v22:Int) kk24=>iZ b.1.1 b.1.2 b.2.1 b.2.2.1 b.2.2.2.1 b.2.2.2.2.1 b.2.2.2.2.2 c.2.1 P v22 (fun u23=>kk24 u23) (fun z9=>some z9) (fun _=>Í (fun(v19:Int) kk21=>ž b.1.1 b.1.2 b.2.1 b.2.2.1 b.2.2.2.1 b.2.2.2.2.1 b.2.2.2.2.2 c.2.1 P v19 (fun u20=>kk21 u20) (fun z14=>some z14) (fun _=>Å (km c.2.2.1 c.2.2.2.1) fun r16=>Å (km c.2.2.2.1 c.2.2.1) fun r17=>ifb (igt (Ö r16) (1:Int)) (some (1:Int)) (ifb (igt (Ö r17) (1:Int)) (some (1:Int)) (ck ((Ö r16)+(Ö r17)) fun n18=>ifb (ieq n18 (0:Int)) (some (1:Int)) (some (0:Int)))))) (0:Int))) (0:Int) =
  some (if P.any (fun id=>ι b id c.2.1 != 0) then 4 else if P.any (fun id=>(j5 b id c.2.1).isSome) then 9 else if 1<(ç c.2.2.1 c.2.2.2.1).length then 1 else if 1<(ç c.2.2.2.1 c.2.2.1).length then 1 else if (ç c.2.2.1 c.2.2.2.1).length+(ç c.2.2.2.1 c.2.2.1).length=0 then 1 else 0):=by
  rw[third];refine eP (Ģ P (fun id=>ι b id c.2.1 != 0) (fun _=>some 4) (some 4) (some (if P.any (fun id=>(j5 b id c.2.1).isSome) then 9 else if 1<(ç c.2.2.1 c.2.2.2.1).length then 1 else if 1<(ç c.2.2.2.1 c.2.2.1).length then 1 else if (ç c.2.2.1 c.2.2.2.1).length+(ç c.2.2.2.1 c.2.2.1).length=0 then 1 else 0)) (fun _=>rfl) (fun i a hi ha kn=>?_) (fun kn=>?_)) ?_
  ·try dsimp only
   unfold iZ;rw[Ð hi,ğ (hol hi),ħ ha,IC (b:=((b.1.1,b.1.2),b.2.1,b.2.2.1,b.2.2.2.1,b.2.2.2.2.1,b.2.2.2.2.2)) (by simp only; omega),À,Ë hi (by omega)];have e:ι ((b.1.1,b.1.2),b.2.1,b.2.2.1,b.2.2.2.1,b.2.2.2.2.1,b.2.2.2.2.2) a c.2.1=ι b a c.2.1:=rfl;rw[e,Č]
  ·try dsimp only
   unfold iZ;rw[Ù]
  ·cases P.any (fun id=>ι b id c.2.1 != 0)<;>rfl
 rw[second];refine eP (Ģ P (fun id=>ι b id c.2.1==5) (fun _=>some 5) (some 5) (some (if P.any (fun id=>ι b id c.2.1 != 0) then 4 else if P.any (fun id=>(j5 b id c.2.1).isSome) then 9 else if 1<(ç c.2.2.1 c.2.2.2.1).length then 1 else if 1<(ç c.2.2.2.1 c.2.2.1).length then 1 else if (ç c.2.2.1 c.2.2.2.1).length+(ç c.2.2.2.1 c.2.2.1).length=0 then 1 else 0)) (fun _=>rfl) (fun i a hi ha kn=>?_) (fun kn=>?_)) ?_
 ·try dsimp only
  unfold kB;rw[Ð hi,ğ (hol hi),ħ ha,On (b:=((b.1.1,b.1.2),b.2.1,b.2.2.1,b.2.2.2.1,b.2.2.2.2.1,b.2.2.2.2.2)) (by simp only; omega),À,Ë hi (by omega),agk]
  try dsimp only
  cases List.findIdx? (fun g:é=>g.1==a) b.2.1 with
  |none=>rfl
  |some j =>
   have:ilt (j:Int) 0=false:=by simp[ilt]
   rw[Î this]; rfl
 ·try dsimp only
  unfold kB;rw[Ù]
 ·cases P.any (fun id=>ι b id c.2.1==5)<;>rfl
structure Pre (b:Þ):Prop where
 size:ľ b
 gauge:∀g∈b.2.1,qz g=true
 cmp:∀c∈b.2.2.2.2.1,Il c.2.1=true∧(ç c.2.2.1 c.2.2.2.1).length≤1∧(ç c.2.2.2.1 c.2.2.1).length≤1
 look:∀n∈b.2.2.2.2.2,Il n.2=true
def ac0 {c:Cmp} (h:Mp c=true):Il c.2.1=true:=by
 have:=((Η c).1 h).2.1;simp[Il,inP,this.1,this.2]
def Ċ.pre {b:Þ} (h:Ċ b):Pre b :=
 ⟨h.size,h.gauge,fun c hc=>⟨ac0 (h.nums hc),(h.lefts hc).1,(h.lefts hc).2.1⟩,fun n hn=>(by have:=(Ov h (h.looks n hn)).1; simp[Il,inP,this.1,this.2])⟩
def Yl {a b:List Int} (h:(ç a b).length≤1) {id:Int} (h0:id≠0):Mo a b=id↔id∈a∧id∉b:=by
 rw[←i5];unfold Mo
 cases hl:ç a b with
 |nil =>
  simp only[List.head?_nil,Option.getD_none,gc,iff_false];exact fun e=>h0 e.symm
 |cons x t =>
  have:t=[]:=by
   rw[hl] at h;simp only[dj] at h;exact dw.1 (by omega)
  subst this;simp only[List.head?_cons,fD,dk];exact eq_comm
def NJ (b:Þ) (g:é) (d:Int):Bool :=
 g.2.1==d||b.2.2.2.2.1.any (fun c=>c.2.1==d&&(Mo c.2.2.1 c.2.2.2.1==g.1||Mo c.2.2.2.1 c.2.2.1==g.1))||b.2.2.2.2.2.any (fun n=>n.1==g.1&&n.2==d)
def aq4 {b:Þ} (hs:ľ b) (g:é) (d:Int):HV b g d=some (NJ b g d):=by
 have h1:=hs.compares;have h2:=hs.looks;unfold HV PI NJ
 cases hm:(g.2.1==d) with
 |true =>
  have:ieq g.2.1 d=true:=hm;rw[Ñ this];simp
 |false =>
  have:ieq g.2.1 d=false:=hm;rw[Î this]
  have inner:Í (fun(v14:Int) kk16=>nM d b.2.2.2.2.2 g.1 v14 (fun u15=>kk16 u15) (fun z12=>some z12) (fun _=>some false)) (0:Int)=some (b.2.2.2.2.2.any (fun n=>n.1==g.1&&n.2==d)):=by
   refine eP (Ģ b.2.2.2.2.2 (fun n=>n.1==g.1&&n.2==d) (fun _=>some true) (some true) (some false) (fun _=>rfl) (fun i a hi ha kn=>?_) (fun kn=>?_)) ?_
   ·try dsimp only
    unfold nM;rw[Ð hi,Ç ha,Ç ha,Ë hi (by omega)]
    cases h1:(a.1==g.1) with
    |false=>have:ieq a.1 g.1=false:=h1; simp[this]
    |true =>
     have:ieq a.1 g.1=true:=h1;rw[this]
     cases h2:(a.2==d) with
     |false=>have:ieq a.2 d=false:=h2; simp[this]
     |true=>have:ieq a.2 d=true:=h2; simp[this]
   ·try dsimp only
    unfold nM;rw[Ù]
   ·cases b.2.2.2.2.2.any _<;>rfl
  rw[inner];refine eP (Ģ b.2.2.2.2.1 (fun c=>c.2.1==d&&(Mo c.2.2.1 c.2.2.2.1==g.1||Mo c.2.2.2.1 c.2.2.1==g.1)) (fun _=>some true) (some true) (some (b.2.2.2.2.2.any (fun n=>n.1==g.1&&n.2==d))) (fun _=>rfl) (fun i a hi ha kn=>?_) (fun kn=>?_)) ?_
  ·have hp:=hs.piles a (dg ha)
   try dsimp only
   unfold rA;rw[Ð hi,Ç ha,Lh (by omega) (by omega),Lh (by omega) (by omega),Ë hi (by omega)];simp only[À]
   cases h1:(a.2.1==d) with
   |false=>have:ieq a.2.1 d=false:=h1; simp[this]
   |true =>
    have:ieq a.2.1 d=true:=h1;rw[this]
    cases h2:(Mo a.2.2.1 a.2.2.2.1==g.1) with
    |true=>have:ieq (Mo a.2.2.1 a.2.2.2.1) g.1=true:=h2; simp[this]
    |false =>
     have:ieq (Mo a.2.2.1 a.2.2.2.1) g.1=false:=h2;rw[this]
     cases h3:(Mo a.2.2.2.1 a.2.2.1==g.1) with
     |true=>have:ieq (Mo a.2.2.2.1 a.2.2.1) g.1=true:=h3; simp[this]
     |false=>have:ieq (Mo a.2.2.2.1 a.2.2.1) g.1=false:=h3; simp[this]
  ·try dsimp only
   unfold rA;rw[Ù]
  ·cases b.2.2.2.2.1.any _<;>rfl
def aoy {b:Þ} (h:Pre b) {g:é} (hg:g∈b.2.1) {d:Int}:NJ b g d=true↔d∈ß b g:=by
 have hid:g.1≠0:=by
  have:=((uM g).1 (h.gauge g hg)).2.2.2.1;omega
 rw[iw];unfold NJ;simp only[Bool.or_eq_true,List.any_eq_true,Bool.and_eq_true,beq_iff_eq,or_assoc];refine or_congr eq_comm (or_congr ?_ Iff.rfl);constructor
 ·rintro⟨c,hc,e,h1⟩;obtain⟨_,l1,l2⟩:=h.cmp c hc;refine⟨c,hc,?_,e⟩;rw[Yl l1 hid,Yl l2 hid] at h1;intro he;rw[dO,eN,eN] at he;rcases h1 with⟨x,y⟩|⟨x,y⟩
  ·exact y (he.1 x)
  ·exact y (he.2 x)
 ·rintro⟨c,hc,h1,e⟩;obtain⟨_,l1,l2⟩:=h.cmp c hc;refine⟨c,hc,e,?_⟩;rw[Yl l1 hid,Yl l2 hid]
  by_cases ha:g.1∈c.2.2.1
  ·by_cases hb:g.1∈c.2.2.2.1
   ·exact absurd (by rw[dO,eN,eN]; exact⟨fun _=>hb,fun _=>ha⟩) h1
   ·exact .inl ⟨ha,hb⟩
  ·by_cases hb:g.1∈c.2.2.2.1
   ·exact .inr ⟨hb,ha⟩
   ·exact absurd (by rw[dO,eN,eN]; exact⟨fun x=>absurd x ha,fun x=>absurd x hb⟩) h1
def nx (v:Int) (D:List Int):Int:=D.foldl (fun m d=>if v<d then min m d else m) 20001
def amB (v:Int) (D:List Int) (d:Int):nx v (D++[d])=if v<d then min (nx v D) d else nx v D:=by
 unfold nx;rw[List.foldl_append];rfl
def Ym (v:Int):∀D:List Int,nx v D≤20001∧(∀d∈D,v<d→nx v D≤d)∧(nx v D=20001∨(nx v D∈D∧v<nx v D)):=by
 suffices H:∀(n:Nat) (D:List Int),D.length=n→nx v D≤20001∧(∀d∈D,v<d→nx v D≤d)∧(nx v D=20001∨(nx v D∈D∧v<nx v D)) from fun D=>H _ D rfl
 intro n
 induction n with
 |zero =>
  intro D hD;rw[dw.1 hD];exact⟨dQ _,by simp,.inl rfl⟩
 |succ n ih =>
  intro D' hD'
  obtain⟨D,d,rfl⟩:∃D d,D'=D++[d]:=by
   rcases List.eq_nil_or_concat D' with rfl|⟨L,b,rfl⟩
   ·simp at hD'
   ·exact⟨L,b,by simp⟩
  obtain⟨h1,h2,h3⟩:=ih D (by simpa using hD');rw[amB]
  by_cases hd:v<d
  ·rw[if_pos hd];refine⟨by omega,fun x hx hv=>?_,?_⟩
   ·rcases dh.1 hx with hx|hx
    ·have:=h2 x hx hv; omega
    ·rw[dk] at hx; omega
   ·rcases Int.le_total (nx v D) d with h|h
    ·rw[Int.min_eq_left h];rcases h3 with h3|h3
     ·exact .inl h3
     ·exact .inr ⟨by simp[h3.1],h3.2⟩
    ·rw[Int.min_eq_right h];exact .inr ⟨by simp,hd⟩
  ·rw[if_neg hd];refine⟨h1,fun x hx hv=>?_,?_⟩
   ·rcases dh.1 hx with hx|hx
    ·exact h2 x hx hv
    ·rw[dk] at hx; omega
   ·rcases h3 with h3|h3
    ·exact .inl h3
    ·exact .inr ⟨by simp[h3.1],h3.2⟩
def asa {D:List Int} (hD:D.length≤1000000) (v:Int) (K:Int→Option (List (Int×Int))) :
 Í (fun(v18:Int×Int) kk21=>lR v D v18.1 v18.2 (fun u19 u20=>kk21 (u19,u20)) K) ((20001:Int),(0:Int))=K (nx v D):=by
 refine ġ (fun x:Int×Int=>∃k:Nat,k≤D.length∧x=(nx v (D.take k),(k:Int))) (fun x=>D.length-x.2.toNat) ?_ ⟨0,by omega,rfl⟩;rintro x ⟨k,hk,rfl⟩;rcases dA k D.length with hlt|hge
 ·refine .inr ⟨(nx v (D.take (k+1)),((k+1:Nat):Int)),⟨k+1,hlt,rfl⟩,by simp only[Int.toNat_natCast]; omega,fun kn=>?_⟩;have ha:D[k]?=some D[k]:=List.getElem?_eq_getElem hlt;unfold lR;have ho:ā D=((D.length:Nat):Int):=rfl;rw[Ð hlt,ho,iq hlt,ħ ha,take_succ ha,amB]
  by_cases h:v<D[k]
  ·rw[Ñ (by simpa[igt] using h),iq hlt,ħ ha,Ë hlt (by omega),if_pos h,wF];simp
  ·rw[Î (by simpa[igt] using h),Ë hlt (by omega),if_neg h];simp
 ·have:k=D.length:=by omega
  subst this;refine .inl fun kn=>?_;unfold lR;rw[Ù,List.take_length]
def alq (b:Þ) (g:é) (D:List Int) (v:Int):List Int:=(XW D).filter fun d=>decide (v<d)&&NJ b g d
def Tk {b:Þ} {g:é} {D:List Int} (hD:∀d∈D,d≤20000) (v:Int):alq b g D v=if nx v D<20001 then(if NJ b g (nx v D) then nx v D::alq b g D (nx v D) else alq b g D (nx v D)) else[]:=by
 obtain⟨h1,h2,h3⟩:=Ym v D;refine abC ((vl D).sublist fQ) ?_ fun x=>?_
 ·split
  ·split
   ·rw[dS];refine⟨fun a ha=>?_,(vl D).sublist fQ⟩;have:=(d8.1 ha).2;simp at this;omega
   ·exact(vl D).sublist fQ
  ·exact List.Pairwise.nil
 ·have hm:∀v x,x∈alq b g D v↔x∈D∧v<x∧NJ b g x=true:=by
   intro v x;unfold alq;rw[List.mem_filter,qW];simp
  rw[hm]
  split
  ·rename_i hlt
   have h4:nx v D∈D∧v<nx v D:=by
    rcases h3 with h3|h3
    ·omega
    ·exact h3
   split
   ·rename_i ha;rw[di,hm];constructor
    ·rintro⟨a,c,e⟩;have:=h2 x a c;rcases Int.lt_or_eq_of_le this with h|h
     ·exact .inr ⟨a,h,e⟩
     ·exact .inl h.symm
    ·rintro(rfl|⟨a,c,e⟩)
     ·exact⟨h4.1,h4.2,ha⟩
     ·exact⟨a,by omega,e⟩
   ·rename_i ha;rw[hm];constructor
    ·rintro⟨a,c,e⟩;have:=h2 x a c;rcases Int.lt_or_eq_of_le this with h|h
     ·exact⟨a,h,e⟩
     ·rw[←h] at e; exact absurd e ha
    ·rintro⟨a,c,e⟩;exact⟨a,by omega,e⟩
  ·rename_i hge;constructor
   ·rintro⟨a,c,e⟩;have:=h2 x a c;have:=hD x a;omega
   ·intro h; cases h
def aqW {b:Þ} {g:é} {D:List Int} (v:Int):(alq b g D v).length≤D.length :=
 dG (dR _ _) (EQ D)
set_option maxHeartbeats 1000000 in
def aqr {b:Þ} (hs:ľ b) {i:Nat} {g:é} (hg:b.2.1[i]?=some g) {D:List Int} (hl:D.length≤1000000) (hD:∀d∈D,d≤20000) {out:List (Int×Int)} (ho:out.length+D.length≤1000000000) (K:List (Int×Int)→Option (List (Int×Int))) :
 Í (fun(v24:Int×List (Int×Int)) kk27=>lS (i:Int) b.1.1 b.1.2 b.2.1 b.2.2.1 b.2.2.2.1 b.2.2.2.2.1 b.2.2.2.2.2 D v24.1 v24.2 (fun u25 u26=>kk27 (u25,u26)) K) ((-1:Int),out)=K (out++(alq b g D (-1)).map fun d=>((g.1,d):Int×Int)):=by
 refine ġ (fun x:Int×List (Int×Int)=>x.2++(alq b g D x.1).map (fun d=>((g.1,d):Int×Int))=out++(alq b g D (-1)).map fun d=>((g.1,d):Int×Int)) (fun x=>(20001-x.1).toNat) ?_ rfl;rintro⟨v,o⟩ hI;simp only at hI
 by_cases hv:v<20001
 ·obtain⟨h1,h2,h3⟩:=Ym v D
  have hlt:v<nx v D:=by
   rcases h3 with h3|h3
   ·omega
   ·exact h3.2
  refine .inr ⟨(nx v D,if nx v D<20001∧NJ b g (nx v D)=true then o++[(g.1,nx v D)] else o),?_,by simp only; omega,fun kn=>?_⟩
  ·rw[←hI];simp only;rw[Tk hD v]
   by_cases ha:nx v D<20001
   ·rw[if_pos ha]
    cases hq:NJ b g (nx v D) with
    |true=>rw[if_pos ⟨ha,rfl⟩,if_pos rfl]; simp
    |false=>rw[if_neg (by simp),if_neg (by simp)]
   ·rw[if_neg (by omega),if_neg ha]
    have:alq b g D (nx v D)=[]:=by
     have e:=Tk (b:=b) (g:=g) hD (nx v D);rw[e,if_neg];obtain⟨g1,g2,g3⟩:=Ym (nx v D) D;rcases g3 with g3|g3
     ·omega
     ·have:=hD _ g3.1; omega
    rw[this]
  ·unfold lS;rw[Ñ (by simpa[ilt] using hv)];refine Eq.trans (asa hl v _) ?_;dsimp only
   by_cases ha:nx v D<20001
   ·rw[Ñ (by simpa[ilt] using ha),Ç hg,aq4 (b:=((b.1.1,b.1.2),b.2.1,b.2.2.1,b.2.2.2.1,b.2.2.2.2.1,b.2.2.2.2.2)) ⟨hs.gauges,hs.uses,hs.loans,hs.compares,hs.looks,hs.piles⟩,À];have e:NJ ((b.1.1,b.1.2),b.2.1,b.2.2.1,b.2.2.2.1,b.2.2.2.2.1,b.2.2.2.2.2) g (nx v D)=NJ b g (nx v D):=rfl;rw[e]
    cases hq:NJ b g (nx v D) with
    |true =>
     have hol:o.length≤1000000000:=by
      have:=congrArg List.length hI;simp only[dc,dY] at this;have:=aqW (b:=b) (g:=g) (D:=D) (-1);omega
     rw[Ñ rfl,Ç hg,Ó (by simp only[dK]; omega),Am.iff_true,if_pos ⟨ha,rfl⟩]
    |false=>rw[Î rfl,if_neg (by simp)]
   ·rw[Î (by simpa[ilt] using ha),if_neg (by omega)]
 ·refine .inl fun kn=>?_;unfold lS;rw[Î (by simpa[ilt] using hv)]
  have:alq b g D v=[]:=by
   rw[Tk hD,if_neg];obtain⟨g1,g2,g3⟩:=Ym v D;rcases g3 with g3|g3
   ·omega
   ·have:=hD _ g3.1; omega
  rw[this] at hI;simp only[fA,dU] at hI;rw[hI]
def AE (b:Þ):List Int:=b.2.1.map (fun g=>g.2.1)++b.2.2.2.2.1.map (fun c=>c.2.1)++b.2.2.2.2.2.map fun n=>n.2
def ah9 {b:Þ} (hs:ľ b):(AE b).length≤3000:=by
 have h1:=hs.gauges; have h2:=hs.compares; have h3:=hs.looks;simp only[AE,dc,dY];omega
def Pre.days {b:Þ} (h:Pre b):∀d∈AE b,0≤d∧d≤20000:=by
 intro d hd;simp only[AE,dh,dP] at hd;rcases hd with(⟨g,hg,rfl⟩|⟨c,hc,rfl⟩)|⟨n,hn,rfl⟩
 ·have:=((uM g).1 (h.gauge g hg)).2.2.2.2.1;omega
 ·have:=(h.cmp c hc).1;simp only[Il,inP,cZ,decide_eq_true_eq] at this;exact this
 ·have:=h.look n hn;simp only[Il,inP,cZ,decide_eq_true_eq] at this;exact this
def aoz {b:Þ} (h:Pre b) {g:é} (hg:g∈b.2.1):alq b g (AE b) (-1)=ß b g:=by
 refine abC ((vl _).sublist List.filter_sublist) (tx b g) fun x=>?_;unfold alq;rw[List.mem_filter,qW,Bool.and_eq_true,aoy h hg,decide_eq_true_eq];constructor
 ·exact fun hx=>hx.2.2
 ·intro hx
  have hm:x∈AE b:=by
   simp only[AE,dh,dP];rcases iw.1 hx with e|⟨c,hc,_,e⟩|⟨n,hn,_,e⟩
   ·exact .inl (.inl ⟨g,hg,e.symm⟩)
   ·exact .inl (.inr ⟨c,hc,e⟩)
   ·exact .inr ⟨n,hn,e⟩
  have:=h.days x hm;exact⟨hm,by omega,hx⟩
def Yr {α:Type} (f:α→Int) (l:List α) (s:List Int) (i:Nat) {a:α} (ha:l[i]?=some a):s++(l.take (i+1)).map f=(s++(l.take i).map f)++[f a]:=by
 rw[take_succ ha,gG,dz]; rfl
def IE {b:Þ} (h:Pre b):jW b=some (Ì b):=by
 have h1:=h.size.gauges; have h2:=h.size.compares; have h3:=h.size.looks;have hl:=ah9 h.size;unfold jW Jt;refine ë b.2.1 (fun i=>(b.2.1.take i).map (fun g=>g.2.1)) _ rfl (fun i a hi ha kn=>?_) (fun kn=>?_)
 ·try dsimp only
  unfold oX;have:=Yr (fun g:é=>g.2.1) b.2.1 [] i ha;simp only[List.nil_append] at this;rw[Ð hi,Ç ha,Ó (by simp only[List.length_map,List.length_take,List.length_singleton]; omega),Am.iff_true,Ë hi (by omega),this]
 ·try dsimp only
  unfold oX;rw[Ù,List.take_length];dsimp only;refine ë b.2.2.2.2.1 (fun i=>b.2.1.map (fun g=>g.2.1)++(b.2.2.2.2.1.take i).map (fun c=>c.2.1)) _ (by simp) (fun i a hi ha kn=>?_) (fun kn=>?_)
  ·try dsimp only
   unfold oW;rw[Ð hi,Ç ha,Ó (by simp only[List.length_append,List.length_map,List.length_take,List.length_singleton]; omega),Am.iff_true,Ë hi (by omega),Yr (fun c:Cmp=>c.2.1) b.2.2.2.2.1 _ i ha]
  ·try dsimp only
   unfold oW;rw[Ù,List.take_length];dsimp only;refine ë b.2.2.2.2.2 (fun i=>b.2.1.map (fun g=>g.2.1)++b.2.2.2.2.1.map (fun c=>c.2.1)++(b.2.2.2.2.2.take i).map (fun n=>n.2)) _ (by simp) (fun i a hi ha kn=>?_) (fun kn=>?_)
   ·try dsimp only
    unfold oV;rw[Ð hi,Ç ha,Ó (by simp only[List.length_append,List.length_map,List.length_take,List.length_singleton]; omega),Am.iff_true,Ë hi (by omega),Yr (fun n:Int×Int=>n.2) b.2.2.2.2.2 _ i ha]
   ·try dsimp only
    unfold oV;rw[Ù,List.take_length];dsimp only;rw[show b.2.1.map (fun g=>g.2.1)++b.2.2.2.2.1.map (fun c=>c.2.1)++b.2.2.2.2.2.map (fun n=>n.2)=AE b from rfl];refine ë b.2.1 (fun i=>(b.2.1.take i).flatMap fun g=>(ß b g).map fun d=>((g.1,d):Int×Int)) _ rfl (fun i g hi hg kn=>?_) (fun kn=>?_)
    ·try dsimp only
     unfold oU;rw[Ð hi]
     have hlen:((b.2.1.take i).flatMap fun g=>(ß b g).map fun d=>((g.1,d):Int×Int)).length≤2001000:=by
      have:=wK (fun g:é=>(ß b g).map fun d=>((g.1,d):Int×Int)) 2001 (fun g=>by rw[dY]; exact Ik h.size g) (b.2.1.take i);rw[dm] at this;have:min i b.2.1.length*2001≤1000*2001:=dJ _ (by omega);omega
     refine eP (aqr h.size hg (by omega) (fun d hd=>(h.days d hd).2) (by omega) _) ?_;rw[Ë hi (by omega),aoz h (dg hg),take_succ hg,eZ];simp
    ·try dsimp only
     unfold oU;rw[Ù,List.take_length];rfl
def XL {n d:Int} (hd:0<d) (hn:n.natAbs≤2147483647) (hd2:d≤2147483647):qE n d=some (ot n d,0):=by
 obtain⟨g,h0,hg,h1,h2⟩:=AM (n:=n) hd;have hr:=(ky _).1 (X2 hd hn hd2)
 have z:õ d 0=false:=by simp[õ]; omega
 have zg:õ (g:Int) 0=false:=by simp[õ]; omega
 unfold qE D3
 by_cases hn0:n=0
 ·subst hn0
  have e:ot 0 d=(0,1):=by
   unfold ot
   have:(Nat.gcd (0:Int).natAbs d.natAbs:Int)=d:=by simp; omega
   rw[this,Int.ediv_self (by omega)];simp
  rw[Î (by rfl),Î z,Ò (by simp) (by simp),Î z,Int.tdiv_self (by omega),Ò (by omega) (by omega),Int.zero_tdiv,e];rfl
 ·rw[Ñ (by simpa[ine] using hn0),Î z];have a0:(Int.tmod n d).natAbs=n.natAbs % d.natAbs:=gZ n d;have hlt:=gO n.natAbs (show 0<d.natAbs by omega);rw[aoT ⟨by omega,by omega⟩,À]
  have ed:d=((d.natAbs:Nat):Int):=by omega
  have eg:Bh ((Int.tmod n d).natAbs:Int) d=some (g:Int):=by
   have:=aoQ (Int.tmod n d).natAbs d.natAbs;rw[←ed] at this;rw[this,a0,hg];congr 2;rw[gY n.natAbs,Nat.gcd_rec d.natAbs n.natAbs]
  rw[eg,À,Î zg]
  have q1:Int.tdiv n (g:Int)=(ot n d).1:=by
   conv=>lhs; rw[h1]
   exact gF _ (by omega)
  have q2:Int.tdiv d (g:Int)=(ot n d).2:=by
   conv=>lhs; rw[h2]
   exact gF _ (by omega)
  rw[q1,q2,Ò (by omega) (by omega),Î zg,Ò (by omega) (by omega),Î (by simp[igt]; omega),Î (by simp[ilt]; omega),Î (by simp[igt]; omega)]
def asO {x y:Int×Int} (hx:qS x 1000 100) (hy:qS y 1000 100):Oe x y=some (subP x y,0):=by
 obtain⟨b1,b2,b3⟩:=IM hx hy;have h1:=nl hx.num (show -100≤y.2∧y.2≤100 from⟨by have:=hy.pos; omega,hy.den⟩);have h2:=nl hy.num (show -100≤x.2∧x.2≤100 from⟨by have:=hx.pos; omega,hx.den⟩);have h3:=hy.num;unfold Oe Zt abd Zv abe ZC;rw[Ò (by omega) (by omega),À];dsimp only
 have e:(0-y.1)*x.2 = -(y.1*x.2):=by rw[Int.zero_sub,Int.neg_mul]
 rw[Ò (by omega) (by omega),e,Ò (by omega) (by omega),Ò (by omega) (by omega),Ò (by omega) (by omega)]
 have e2:x.1*y.2 + -(y.1*x.2)=x.1*y.2-y.1*x.2:=by omega
 rw[e2,XL b2 (by omega) (by omega),À,À];rfl
def aoO {k:Int×Int} (hk:qS k 200000 10000) {n:Int} (hn : -10000≤n∧n≤10000):wQ (n,1) k=some (Fv k n,0):=by
 have b:=Jb hk hn;have p:=hk.pos;have q:=hk.den;unfold wQ Zw;have e:n*k.1=k.1*n:=Int.mul_comm _ _;dsimp only;rw[e,Int.one_mul,Ò (by omega) (by omega),Ò (by omega) (by omega),XL (by omega) (by omega) (by omega),À];rfl
def aoN {k:Int×Int} (hk:qS k 200000 10000) {heat:Int×Int} (hh:j6 heat (-10000) 10000=true):Bg ((heat.1,1),(heat.2,1)) k=some (Yi k heat,0):=by
 simp only[j6,Bool.and_eq_true,decide_eq_true_eq] at hh;have hp:=hk.pos;rw[akm (by omega) hh.2.1];unfold Bg JN HY QA;dsimp only;rw[aoO hk ⟨by omega,by omega⟩,aoO hk ⟨by omega,by omega⟩]
 by_cases hn:k.1<0
 ·rw[Ñ (by simpa[ilt] using hn),if_pos hn];rfl
 ·rw[Î (by simpa[ilt] using hn),if_neg hn];rfl
def aoK {r:Int×Int} (h:Lt r=true):Bi r=some (r.1 / r.2):=by
 have:=(ky r).1 h;have e:=aba (n:=r.1) (d:=r.2) (by omega) (by omega);unfold uU GZ at e;unfold Bi JP SC Qy;rw[e];rfl
def aq3 {r:Int×Int} (h:Lt r=true):HZ r=some (K9 r):=by
 have hr:=(ky r).1 h;unfold HZ QC ahH agR
 have z:õ r.2 0=false:=by simp[õ]; omega
 have t:=Int.mul_tdiv_add_tmod r.1 r.2
 have b1 : -4000000000≤Int.tdiv r.1 r.2∧Int.tdiv r.1 r.2≤4000000000:=by
  have:=Int.natAbs_tdiv_le_natAbs r.1 r.2;omega
 have h5 : -r.2<Int.tmod r.1 r.2∧Int.tmod r.1 r.2<r.2:=by
  have h6:=gZ r.1 r.2;have h7:=gO r.1.natAbs (show 0<r.2.natAbs by omega);omega
 rw[Î z,Ò (by omega) (by omega),Î z,Č];unfold K9
 by_cases hp:0<Int.tmod r.1 r.2
 ·rw[if_pos (by simpa[igt] using hp),Ò (by omega) (by omega),À];congr 1
  have : -r.1 / r.2 = -(Int.tdiv r.1 r.2)-1:=by
   refine(gp (by omega)).2 ⟨?_,?_⟩
   ·rw[Int.sub_mul,Int.neg_mul,fS (Int.tdiv r.1 r.2)]; omega
   ·rw[Int.sub_mul,Int.neg_mul,fS (Int.tdiv r.1 r.2)]; omega
  omega
 ·rw[if_neg (by simpa[igt] using hp),À];congr 1
  have : -r.1 / r.2 = -(Int.tdiv r.1 r.2):=by
   refine(gp (by omega)).2 ⟨?_,?_⟩
   ·rw[Int.neg_mul,fS (Int.tdiv r.1 r.2)]; omega
   ·rw[Int.neg_mul,fS (Int.tdiv r.1 r.2)]; omega
  omega
structure asW (b:Þ) (c:Cmp):Prop where
 ok:aig b c
 ids:b.2.1.Pairwise fun a b=>a.1<b.1
 pile:∀x∈c.2.2.1++c.2.2.2.1,∃g,ł b x=some g
def Ċ.cmpIn {b:Þ} (h:Ċ b) {c:Cmp} (hc:c∈b.2.2.2.2.1):asW b c:=⟨h.cmp hc,h.ids,fun x hx=>by obtain⟨⟨g,hg,_⟩,_⟩:=h.pile hc hx; exact⟨g,hg⟩⟩
def aig.ne {b:Þ} {c:Cmp} (h:aig b c):∀x∈c.2.2.1++c.2.2.2.1,x≠0:=by
 intro x hx;have hn:=(Η c).1 h.nums;have h1:=((EZ _).1 hn.2.2.2.2.2.1).1;have h2:=((EZ _).1 hn.2.2.2.2.2.2).1;rcases dh.1 hx with hx|hx
 ·have:=h1 x hx; omega
 ·have:=h2 x hx; omega
def afX {b:Þ} (hs:ľ b) (hi:b.2.1.Pairwise fun a b=>a.1<b.1) {p q:List Int} (hx:∀x∈p,x≠0∧∃g,ł b x=some g):uN b (Mo p q)=some (ye (Ť b) (ç p q)):=by
 have h1:=hs.gauges;unfold uN Jl
 cases hl:ç p q with
 |nil =>
  have:Mo p q=0:=by unfold Mo; rw[hl]; rfl
  rw[this];rfl
 |cons x t =>
  have e:Mo p q=x:=by unfold Mo; rw[hl]; rfl
  have hm:x∈p:=(i5.1 (show x∈ç p q by rw[hl]; simp)).1;obtain⟨h0,g,hg⟩:=hx x hm;rw[e,Î (by simpa[ieq] using h0),On (by omega),À];rcases A8 (b:=b) (id:=x) with⟨j,g',h2,h3,h4⟩|⟨h2,h3⟩
  ·rw[h2]
   try dsimp only
   rw[Ç h3];unfold ye;dsimp only;rw[hZ hi,h4]
  ·rw[h3] at hg; cases hg
def alv {b:Þ} (hs:ľ b) {c:Cmp} (h:asW b c):wN b c=some (Ĭ b c):=by
 have hn:=(Η c).1 h.ok.nums;have ha:=Ĵ hn.2.2.2.2.2.1;have hb:=Ĵ hn.2.2.2.2.2.2;have hA:∀x∈c.2.2.1,x≠0∧∃g,ł b x=some g:=fun x hx=>⟨h.ok.ne x (by simp[hx]),h.pile x (by simp[hx])⟩;have hB:∀x∈c.2.2.2.1,x≠0∧∃g,ł b x=some g:=fun x hx=>⟨h.ok.ne x (by simp[hx]),h.pile x (by simp[hx])⟩;unfold wN DY;rw[Lh (by omega) (by omega),À,afX hs h.ids hA,À,Lh (by omega) (by omega),À,afX hs h.ids hB,À,asO h.ok.r1 h.ok.r2,À]
 try dsimp only
 rw[aoN (heat:=c.2.2.2.2.2.2) (Oy h.ok.r1 h.ok.r2) hn.2.2.2.2.1,À];rfl
def aoR {b:Þ} {c:Cmp} (hA:c.2.2.1.length≤1000) (hB:c.2.2.2.1.length≤1000) (h1:0≤b.1.1) (h2:b.1.1≤1000000) (h3:0≤b.1.2) (h4:b.1.2≤1000000):Be b c=some (i6 b c):=by
 unfold Be Jw i6
 have e:∀n:Nat,TC 0 ((n:Int)-1)=((n-1:Nat):Int):=by
  intro n;unfold TC
  split<;>omega
 have bd:∀(n:Nat) (x:Int),n≤1000→0≤x→x≤1000000→0≤((n-1:Nat):Int)*x∧((n-1:Nat):Int)*x≤1000000000:=by
  intro n x hn h0 hx;refine⟨f9 (by omega) h0,?_⟩;have:=fF (show((n-1:Nat):Int)≤1000 by omega) hx h0 (by omega);omega
 have b1:=bd _ _ hA h1 h2;have b2:=bd _ _ hA h3 h4;have b3:=bd _ _ hB h1 h2;have b4:=bd _ _ hB h3 h4;simp only[Ü];rw[Ò (by omega) (by omega),Ò (by omega) (by omega)];simp only[e];rw[Ò (by omega) (by omega),Ò (by omega) (by omega),Ò (by omega) (by omega),Ò (by omega) (by omega),Ò (by omega) (by omega),Ò (by omega) (by omega)]
def aq6 {b:Þ} (hs:ľ b) (hf:0≤b.1.1∧b.1.1≤b.1.2∧b.1.2≤1000000) {c:Cmp} (h:asW b c):uO b c=some (Ū b c):=by
 have hn:=(Η c).1 h.ok.nums;have ha:=Ĵ hn.2.2.2.2.2.1;have hb:=Ĵ hn.2.2.2.2.2.2;obtain⟨q1,q2,b1,b2,b3⟩:=ya hf h.ok;have c1:=Bu q1;have c2:=wJ q2;have fb:=wL (b:=b) (c:=c) (by omega) (by omega) (by omega) (by omega) (by omega) (by omega);have hd:=hn.2.2.1;unfold uO PO Ū;rw[alv hs h,À,aoR (by omega) (by omega) (by omega) (by omega) (by omega) (by omega),À,aoK q2.rat,aq3 q1.rat];simp only[À];rw[Ò (by omega) (by omega),Ò (by omega) (by omega),Ò (by omega) (by omega),Ò (by omega) (by omega),Ò (by omega) (by omega),Ò (by omega) (by omega)]
section
variable {b:Þ}
def aq7 (h:Ċ b) {id:Int} {g:é} (hg:ł b id=some g) {f t:Int} (hf:0≤f∧f≤100000) (ht:t≤100000):uP b id f t=some (ii b g f t):=by
 have hG:=h.nG;have hU:=h.nU;have hL:=h.nL;obtain⟨hgm,hid⟩:=iD hg;unfold uP P0;rw[On (by omega),À];rcases A8 (b:=b) (id:=id) with⟨j,g',h2,h3,h4⟩|⟨h2,h3⟩
 ·rw[h2]
  have:g'=g:=by rw[hg] at h4; exact(Option.some.inj h4).symm
  subst this
  try dsimp only
  rw[Ç h3];refine ġ (fun x:Int×Int=>f≤x.2∧(x.2≤t∨x.2=f)∧x.1=ii b g' f x.2) (fun x=>(t-x.2).toNat) ?_ ⟨dQ _,.inr rfl,(zW g' (dQ _)).symm⟩;rintro⟨s,d⟩ ⟨hfd,hdt,hs⟩;simp only at hfd hdt hs;subst hs
  by_cases hd:d<t
  ·refine .inr ⟨(ii b g' f (d+1),d+1),⟨by simp only; omega,.inl (by simp only; omega),rfl⟩,by simp only; omega,fun kn=>?_⟩;have e:=RV h g' hfd;have lb:=kY h hgm (f:=f) (t:=d) hf.1;have lb2:=kY h hgm (f:=f) (t:=d+1) hf.1;unfold rK;rw[Ñ (by simpa[ilt] using hd),ajW (b:=((b.1.1,b.1.2),b.2.1,b.2.2.1,b.2.2.2.1,b.2.2.2.2.1,b.2.2.2.2.2)) (by simp only; omega),À];have e1:j5 ((b.1.1,b.1.2),b.2.1,b.2.2.1,b.2.2.2.1,b.2.2.2.2.1,b.2.2.2.2.2) id d=j5 b id d:=rfl;rw[e1];unfold ahL at e;rw[hid] at e
   cases ha:j5 b id d with
   |some l =>
    rw[ha] at e;simp only at e;rw[Ñ rfl]
    try dsimp only
    rw[←e,Ò (by omega) (by omega),Ò (by omega) (by omega)]
   |none =>
    rw[ha] at e;simp only at e;rw[Î rfl,aq5 (b:=((b.1.1,b.1.2),b.2.1,b.2.2.1,b.2.2.2.1,b.2.2.2.2.1,b.2.2.2.2.2)) (by simp only; omega),À];have e2:Mi ((b.1.1,b.1.2),b.2.1,b.2.2.1,b.2.2.2.1,b.2.2.2.2.1,b.2.2.2.2.2) id d=Mi b id d:=rfl;rw[e2]
    cases hu:Mi b id d with
    |true =>
     rw[hu,if_pos rfl] at e;rw[Ñ rfl]
     try dsimp only
     rw[←e,Ò (by omega) (by omega),Ò (by omega) (by omega)]
    |false =>
     rw[hu,if_neg (by simp)] at e;rw[Î rfl,Ò (by omega) (by omega),e,gd]
  ·refine .inl fun kn=>?_;unfold rK;rw[Î (by simpa[ilt] using hd)]
   have:ii b g' f d=ii b g' f t:=by
    rcases gM t f with hlt|hge
    ·have:d=f:=by omega
     rw[this,zW g' (dQ _),zW g' (by omega)]
    ·have:d=t:=by omega
     rw[this]
   rw[this]
 ·rw[h3] at hg; cases hg
end
def Ts {b:Þ} (h:Pre b) (n:Int×Int):Ε b n=some (A5 b n.1 n.2):=by
 have hl:=I9 h.size;unfold Ε Ju;rw[IE h,À];refine Eq.trans (ś (Ì b) (fun m=>decide (n.1=m.1)&&decide (n.2=m.2)) (fun z=>some (z+1)) (some 0) (fun i a hi ha kn=>?_) (fun kn=>?_)) ?_
 ·try dsimp only
  unfold oY;rw[Ð hi,Ç ha,Ë hi (by omega),Ë hi (by omega),Č,Bool.and_true]
  have e:(õ a.1 n.1&&õ a.2 n.2)=(decide (n.1=a.1)&&decide (n.2=a.2)):=by
   rw[dO];simp only[õ,cZ,decide_eq_true_eq];exact and_congr eq_comm eq_comm
  rw[e]
 ·try dsimp only
  unfold oY;rw[Ù]
 ·unfold A5 jf
  cases List.findIdx? (fun m=>decide (n.1=m.1)&&decide (n.2=m.2)) (Ì b)<;>rfl
def anf {b:Þ} (h:Pre b) (p q:List Int) (d:Int):A5 b (Mo p q) d=atP (Ì b) (ç p q) d:=by
 unfold A5 atP Mo
 cases hl:ç p q with
 |nil =>
  simp only[List.head?_nil,Option.getD_none]
  have:jf (Ì b) 0 d=none:=by
   unfold jf;rw[List.findIdx?_eq_none_iff];intro n hn;obtain⟨g,hg,hn⟩:=List.mem_flatMap.1 hn;obtain⟨e,_,rfl⟩:=List.mem_map.1 hn;have:=((uM g).1 (h.gauge g hg)).2.2.2.1
   have:¬((0:Int)=g.1):=by omega
   simp[this]
  rw[this]
 |cons x t=>rfl
section
variable {b:Þ}
def apT {k:Nat} (hk:k<(Ì b).length):∃(i:Nat) (g:é) (j:Nat) (d:Int),b.2.1[i]?=some g∧(ß b g)[j]?=some d∧k=off b i+j∧(Ì b)[k]?=some (g.1,d):=by
 obtain⟨i,g,j,h1,h2,h3⟩:=aiZ (b:=b) b.2.1.length (cY _) k (by rw[amz]; exact hk);have hd:(ß b g)[j]?=some (ß b g)[j]:=cX h2;exact⟨i,g,j,_,h1,hd,h3,by rw[h3]; exact NY h1 hd⟩
def akf (h:Ċ b) {i j:Nat} {g g':é} (hi:b.2.1[i]?=some g) (hj:b.2.1[j]?=some g') (he:g.1=g'.1):i=j∧g=g':=by
 obtain⟨h1,rfl⟩:=df.1 hi;obtain⟨h2,rfl⟩:=df.1 hj;have hp:=dI.1 h.ids;rcases Nat.lt_trichotomy i j with hlt|rfl|hlt
 ·have:=hp i j h1 h2 hlt; omega
 ·exact⟨rfl,rfl⟩
 ·have:=hp j i h2 h1 hlt; omega
def qA (b:Þ) (i:Nat) (g:é) (k:Nat):List Lk :=
 if k≤off b i then[] else[(0,(off b i:Int)+1,g.2.2.1+g.2.2.2.1.2),((off b i:Int)+1,0,-(g.2.2.1+g.2.2.2.1.1))] ++
  (List.range (min (k-off b i-1) ((ß b g).length-1))).flatMap fun(k:Nat)=>[((off b i:Int)+1+k,(off b i:Int)+1+k+1,0),((off b i:Int)+1+k+1,(off b i:Int)+1+k,ii b g ((ß b g)[k]?.getD 0) ((ß b g)[k+1]?.getD 0))]
def iO (b:Þ) (i:Nat) (g:é) (k:Nat):List (Int×Int) :=
 if k≤off b i then[] else[(1,(i:Int)),(1,(i:Int))]++(List.range (min (k-off b i-1) ((ß b g).length-1))).flatMap fun _=>[(2,(i:Int)),(2,(i:Int))]
def akM (h:Ċ b) {i:Nat} {g:é} (hg:b.2.1[i]?=some g):qA b i g (Ì b).length=á b g∧iO b i g (Ì b).length=à b i g:=by
 have ho:=amy h hg;have hp:=gn (kK (b:=b) g)
 have e:min ((Ì b).length-off b i-1) ((ß b g).length-1)=(ß b g).length-1:=by omega
 unfold qA iO á à;rw[if_neg (by omega),if_neg (by omega),e,ajM h hg];exact⟨rfl,rfl⟩
def aff {i:Nat} {g:é} {k:Nat} (hk:k<off b i∨off b i+(ß b g).length≤k) (hp:0<(ß b g).length):qA b i g (k+1)=qA b i g k∧iO b i g (k+1)=iO b i g k:=by
 unfold qA iO;rcases hk with hk|hk
 ·rw[if_pos (by omega),if_pos (by omega),if_pos (by omega),if_pos (by omega)];exact⟨rfl,rfl⟩
 ·have e:min (k+1-off b i-1) ((ß b g).length-1)=min (k-off b i-1) ((ß b g).length-1):=by omega
  rw[if_neg (by omega),if_neg (by omega),if_neg (by omega),if_neg (by omega),e];exact⟨rfl,rfl⟩
def afg {i:Nat} {g:é}:qA b i g (off b i+1)=qA b i g (off b i)++[(0,(off b i:Int)+1,g.2.2.1+g.2.2.2.1.2),((off b i:Int)+1,0,-(g.2.2.1+g.2.2.2.1.1))]∧iO b i g (off b i+1)=iO b i g (off b i)++[(1,(i:Int)),(1,(i:Int))]:=by
 unfold qA iO;rw[if_neg (by omega),if_pos (Nat.le_refl _),if_neg (by omega),if_pos (Nat.le_refl _),show off b i+1-off b i-1=0 by omega,Nat.zero_min];exact⟨by simp,by simp⟩
def ahF {i:Nat} {g:é} {j:Nat} (hj:j+1<(ß b g).length):qA b i g (off b i+(j+1)+1)=qA b i g (off b i+(j+1))++[((off b i:Int)+1+j,(off b i:Int)+1+j+1,0),((off b i:Int)+1+j+1,(off b i:Int)+1+j,ii b g ((ß b g)[j]?.getD 0) ((ß b g)[j+1]?.getD 0))] ∧
 iO b i g (off b i+(j+1)+1)=iO b i g (off b i+(j+1))++[(2,(i:Int)),(2,(i:Int))]:=by
 unfold qA iO;rw[if_neg (by omega),if_neg (by omega),if_neg (by omega),if_neg (by omega),show min (off b i+(j+1)+1-off b i-1) ((ß b g).length-1)=j+1 by omega,show min (off b i+(j+1)-off b i-1) ((ß b g).length-1)=j by omega,tM,tM];exact⟨by simp,by simp⟩
def akL (i:Nat) (g:é) (k:Nat) (hd:(ß b g).length≤59):(qA b i g k).length≤120∧(iO b i g k).length≤120:=by
 unfold qA iO;constructor
 ·split
  ·simp
  ·rw[dc,Ņ _ _ (fun _=>rfl)];simp only[dj,dE]; omega
 ·split
  ·simp
  ·rw[dc,Ņ _ _ (fun _=>rfl)];simp only[dj,dE]; omega
set_option maxHeartbeats 1000000 in
def alT (h:Ċ b) {i:Nat} {g:é} (hg:b.2.1[i]?=some g) {L:List Lk} {S:List (Int×Int)} (hL:L.length≤100000) (hS:S.length≤100000) (K:List Lk×List (Int×Int)→Option (List Lk×List (Int×Int))) :
 Í (fun(v21:Int×List Lk×List (Int×Int)) kk25=>pZ (Ì b) (i:Int) b.1.1 b.1.2 b.2.1 b.2.2.1 b.2.2.2.1 b.2.2.2.2.1 b.2.2.2.2.2 g.1 g.2.1 g.2.2.1 g.2.2.2.1.1 g.2.2.2.1.2 v21.1 v21.2.1 v21.2.2 (fun u22 u23 u24=>kk25 (u22,u23,u24)) K) ((0:Int),L,S)=K (L++á b g,S++à b i g):=by
 have hN:=h.nodes;have hgm:=dg hg;have hdl:=Ij h hgm;have hp:=gn (kK (b:=b) g);have hr:=h.gaugeR hgm;have r1:=hr.2.2.2.2.2.1;have r2:=hr.2.2.2.2.2.2.1;obtain⟨tl,htl⟩:=SO h hgm;refine ë (Ì b) (fun k=>(L++qA b i g k,S++iO b i g k)) _ (by simp[qA,iO]) (fun k n hk hn kn=>?_) (fun kn=>?_)
 ·try dsimp only
  unfold pZ;have gl:=akL (b:=b) i g k hdl;rw[Ð hk,Ç hn];obtain⟨i',g',j,d,h1,h2,h3,h4⟩:=apT hk
  have hnd:n=(g'.1,d):=by rw[hn] at h4; exact Option.some.inj h4
  by_cases hsame:n.1=g.1
  ·obtain⟨hi',hgg⟩:=akf h h1 hg (by rw[hnd] at hsame; exact hsame);subst hgg;have hin:i'=i:=hi';rw[hin] at h3 h1;rw[Î (by simp[ine,hsame]),Ç hn]
   have hdn:n.2=d:=by rw[hnd]
   rw[hdn]
   cases j with
   |zero =>
    have hdd:d=g'.2.1:=by rw[htl] at h2; simpa using h2.symm
    have hk0:k=off b i:=by omega
    rw[Ñ (by simp[ieq,hdd])];obtain⟨e1,e2⟩:=afg (b:=b) (i:=i) (g:=g');rw[←hk0] at e1 e2;rw[Ë hk (by omega),Ò (by omega) (by omega),Ë hk (by omega),Ò (by omega) (by omega),Ò (by omega) (by omega),Ó (by simp only[dc,dj,dE]; omega),Am.iff_true,Ó (by simp only[dc,dj,dE]; omega),Am.iff_true,Ë hk (by omega),e1,e2]
    have e3:0-g'.2.2.1-g'.2.2.2.1.1 = -(g'.2.2.1+g'.2.2.2.1.1):=by omega
    rw[e3];simp only[dz]
   |succ j =>
    have hjl:=(df.1 h2).1
    have hdd:d≠g'.2.1:=by
     have hp1:=tx b g';rw[htl] at h2 hp1;rw[List.getElem?_cons_succ] at h2;have:=(dS.1 hp1).1 d (dg h2);omega
    rw[Î (by simpa[ieq] using hdd)]
    have hprev:(ß b g')[j]?=some ((ß b g')[j]?.getD 0):=by rw[cX (by omega)]; rfl
    have hd':d=(ß b g')[j+1]?.getD 0:=by rw[h2]; rfl
    have hpn:=NY h1 hprev;have d1:=h.day hgm (dg hprev);have d2:=h.day hgm (dg h2);have hk0:k=off b i+(j+1):=h3;obtain⟨e1,e2⟩:=ahF (b:=b) (i:=i) (g:=g') hjl;rw[←hk0] at e1 e2
    have hkm:((k:Int)-1)=((off b i+j:Nat):Int):=by omega
    have lb:=kY h hgm (t:=d) d1.2.1;rw[SV (by omega) (by omega),hkm,Ç hpn,Ç hn,hdn]
    try dsimp only
    rw[show uP ((b.1.1,b.1.2),b.2.1,b.2.2.1,b.2.2.2.1,b.2.2.2.2.1,b.2.2.2.2.2) g'.1 ((ß b g')[j]?.getD 0) d=uP b g'.1 ((ß b g')[j]?.getD 0) d from rfl,aq7 h (ű h.ids hgm) ⟨by omega,by omega⟩ (by omega),À,Ë hk (by omega),Ë hk (by omega),Ó (by simp only[dc,dj,dE]; omega),Am.iff_true,Ó (by simp only[dc,dj,dE]; omega),Am.iff_true,Ë hk (by omega),e1,e2,←hd']
    have e3:(off b i:Int)+1+(j:Int)=(k:Int):=by omega
    rw[e3];simp only[dz]
  ·rw[Ñ (by simp[ine,hsame]),Ë hk (by omega)]
   have hout:k<off b i∨off b i+(ß b g).length≤k:=by
    rcases dA k (off b i) with hlt|hge
    ·exact .inl hlt
    ·rcases dA k (off b i+(ß b g).length) with hlt2|hge2
     ·have:=NY hg (k:=k-off b i) (cX (by omega));rw[show off b i+(k-off b i)=k by omega,hn] at this;exact absurd (by rw[Option.some.inj this]) hsame
     ·exact .inr hge2
   obtain⟨e1,e2⟩:=aff hout hp;rw[e1,e2]
 ·try dsimp only
  unfold pZ;rw[Ù];obtain⟨e1,e2⟩:=akM h hg;rw[e1,e2]
end
def afn {α β:Type} {e:Nat→α→Option β}:∀{l:List α} {k i:Nat} {a:α} {b:β},(∀j c,j<i→l[j]?=some c→e (k+j) c=none)→l[i]?=some a→e (k+i) a=some b→ģ e k l=some b
 |[],_,_,_,_,_,ha,_=>by simp at ha
 |c::t,k,0,a,b,_,ha,hb=>by
  simp only[List.getElem?_cons_zero,Option.some.injEq] at ha;subst ha;unfold ģ;rw[Nat.add_zero] at hb;rw[hb]
 |c::t,k,i+1,a,b,h,ha,hb=>by
  unfold ģ;have h0:=h 0 c (by omega) rfl;rw[Nat.add_zero] at h0;rw[h0];refine afn (i:=i) (fun j d hj hd=>?_) (by simpa using ha) (by rw[←hb]; congr 1; omega);have:=h (j+1) d (by omega) (by simpa using hd);rw[←this];congr 1;omega
def EA {ρ α β:Type} (l:List α) (e:Nat→α→Option β) (k0:β→Option ρ) (k1:Option ρ) {f:Int→(Int→Option ρ)→Option ρ}
 (h:∀(i:Nat) (a:α),i<l.length→l[i]?=some a→∀kn,f i kn=match e i a with|some b=>k0 b|none=>kn ((i:Int)+1))
 (hn:(∀j a,l[j]?=some a→e j a=none)→∀kn,f l.length kn=k1):Í f 0=match ģ e 0 l with|some b=>k0 b|none=>k1:=by
 refine ġ (fun x:Int=>∃i:Nat,i≤l.length∧x=i∧∀j a,j<i→l[j]?=some a→e j a=none) (fun x=>l.length-x.toNat) ?_ ⟨0,by omega,rfl,fun j a hj=>by omega⟩;rintro x ⟨i,hi,rfl,hp⟩;rcases dA i l.length with hlt|hge
 ·have ha:l[i]?=some l[i]:=cX hlt
  cases hc:e i l[i] with
  |some b =>
   refine .inl fun kn=>?_;rw[h i _ hlt ha,hc,afn (k:=0) (b:=b) (fun j c hj hc=>by rw[du]; exact hp j c hj hc) ha (by rw[du]; exact hc)]
  |none =>
   refine .inr ⟨((i+1:Nat):Int),⟨i+1,hlt,rfl,fun j a hj hja=>?_⟩,by simp only[dt]; omega,fun kn=>?_⟩
   ·rcases dA j i with h1|h1
    ·exact hp j a h1 hja
    ·have:j=i:=by omega
     subst this;rw[ha] at hja;rw[←Option.some.inj hja]; exact hc
   ·rw[h i _ hlt ha,hc];simp
 ·have:i=l.length:=by omega
  subst this;refine .inl fun kn=>?_;have hall:∀j a,l[j]?=some a→e j a=none:=fun j a hja=>hp j a (df.1 hja).1 hja;rw[hn hall kn,iP.2 fun j a hja=>by rw[du]; exact hall j a hja]
def afs {e:Int}:ajo e=none↔e=0:=by
 unfold ajo
 split<;>simp_all
section
variable {b:Þ}
def Xl (h:Ċ b):∀i,((b.2.1.take i).flatMap (á b)).length≤1440∧(((b.2.1.take i).mapIdx (à b)).flatten).length≤1440:=by
 have hG:=h.nG
 have gl:∀g∈b.2.1,(á b g).length≤120∧∀i,(à b i g).length≤120:=by
  intro g hg;have:=Ij h hg;constructor
  ·unfold á;rw[List.length_append,Ņ _ _ (fun _=>rfl)];simp only[List.length_cons,List.length_nil]; omega
  ·intro i;unfold à;rw[List.length_append,Ņ _ _ (fun _=>rfl)];simp only[List.length_cons,List.length_nil]; omega
 have key:∀i,i≤b.2.1.length→((b.2.1.take i).flatMap (á b)).length≤i*120∧(((b.2.1.take i).mapIdx (à b)).flatten).length≤i*120:=by
  intro i
  induction i with
  |zero=>intro _; simp
  |succ i ih =>
   intro hi;have ih:=ih (by omega);have hg:b.2.1[i]?=some b.2.1[i]:=cX hi;have h2:=gl _ (dg hg);have h3:=h2.2 i;rw[iI _ hg,take_succ hg,eZ,fP,dc,dc];simp only[dM,gR,dU,f7,gy];omega
 intro i;rcases dA b.2.1.length i with h1|h1
 ·rw[er (by omega)];have:=key b.2.1.length (cY _);rw[gT] at this;omega
 ·have:=key i h1;omega
set_option maxHeartbeats 1000000 in
def aoM (h:Ċ b):wM b=some (Ø b,ĥ b):=by
 have hC:=h.nC;have hG:=h.nG;unfold wM YT;rw[IE h.pre,À];refine ë b.2.1 (fun i=>((b.2.1.take i).flatMap (á b),((b.2.1.take i).mapIdx (à b)).flatten)) _ rfl (fun i g hi hg kn=>?_) (fun kn=>?_)
 ·try dsimp only
  unfold vE;have hls:=Xl h i;rw[Ð hi,Ç hg];refine Eq.trans (alT h hg (by omega) (by omega) _) ?_;rw[Ë hi (by omega),iI _ hg,take_succ hg,List.flatMap_append,List.flatten_append];simp only[List.flatMap_cons,List.flatMap_nil,List.append_nil,List.flatten_cons,List.flatten_nil]
 ·try dsimp only
  unfold vE;rw[Ù,List.take_length];dsimp only;have hls:=Xl h b.2.1.length;rw[List.take_length] at hls;refine ë b.2.2.2.2.1 (fun i=>(b.2.1.flatMap (á b)++(b.2.2.2.2.1.take i).flatMap (ø b),(b.2.1.mapIdx (à b)).flatten++((b.2.2.2.2.1.take i).mapIdx fun i _=>[((3:Int),(i:Int)),((3:Int),(i:Int))]).flatten)) _ (by simp) (fun i c hi hc kn=>?_) (fun kn=>?_)
  ·try dsimp only
   unfold vD;have hcm:=List.mem_of_getElem? hc;have hn:=(Η c).1 (h.nums hcm);have ha:=Ĵ hn.2.2.2.2.2.1;have hb:=Ĵ hn.2.2.2.2.2.2;have hcl:=XE (b:=b) i (by omega);have sb:=Dp h hcm;rw[Ð hi,Ç hc,Lh (by omega) (by omega),À];rw[show Ε ((b.1.1,b.1.2),b.2.1,b.2.2.1,b.2.2.2.1,b.2.2.2.2.1,b.2.2.2.2.2) (Mo c.2.2.1 c.2.2.2.1,c.2.1)=Ε b (Mo c.2.2.1 c.2.2.2.1,c.2.1) from rfl,Ts h.pre,À,Lh (by omega) (by omega),À];rw[show Ε ((b.1.1,b.1.2),b.2.1,b.2.2.1,b.2.2.2.1,b.2.2.2.2.1,b.2.2.2.2.2) (Mo c.2.2.2.1 c.2.2.1,c.2.1)=Ε b (Mo c.2.2.2.1 c.2.2.1,c.2.1) from rfl,Ts h.pre,À];rw[show uO ((b.1.1,b.1.2),b.2.1,b.2.2.1,b.2.2.2.1,b.2.2.2.2.1,b.2.2.2.2.2) c=uO b c from rfl,aq6 h.size h.film (h.cmpIn hcm),À];rw[Ò (by omega) (by omega),Ó (by simp only[List.length_append,List.length_cons,List.length_nil]; omega),Am.iff_true,Ó (by simp only[List.length_append,List.length_cons,List.length_nil]; omega),Am.iff_true,Ë hi (by omega)];rw[iI _ hc,take_succ hc,List.flatMap_append,List.flatten_append,anf h.pre,anf h.pre];simp only[List.flatMap_cons,List.flatMap_nil,List.append_nil,List.flatten_cons,List.flatten_nil,List.append_assoc];rw[Int.zero_sub];rfl
  ·try dsimp only
   unfold vD;rw[Ù,List.take_length];rfl
def kL (b:Þ) (i:Nat) (c:Cmp):Int:=if !Mp c then 1 else if (b.2.2.2.2.1.take i).any (fun x=>x.1==c.1) then 6 else B6 b c
def Xx (hi:b.2.1.Pairwise fun a b=>a.1<b.1) (i:Nat) (c:Cmp):kL b i c=mj b (Ť b) i c:=by
 unfold kL mj;rw[apM hi]
def arR (b:Þ):Int:=match (b.2.2.2.2.1.mapIdx (kL b)).find? (fun e=>e != 0) with
 |some e=>e
 |none=>match (b.2.2.2.2.2.map (abW b)).find? (fun e=>e != 0) with
  |some e=>e
  |none=>if 59<(Ì b).length then 2 else if 300<2*b.2.1.length+2*((Ì b).length-b.2.1.length:Int)+2*b.2.2.2.2.1.length then 2 else 0
def ant {α:Type} {l:List α} {E:α→Int} (h:(l.map E).find? (fun e=>e != 0)=none):∀a∈l,E a=0:=by
 intro a ha;have:=ew.1 h (E a) (dP.2 ⟨a,ha,rfl⟩);simpa using this
def akO {α:Type} {l:List α} {E:Nat→α→Int} (h:(l.mapIdx E).find? (fun e=>e != 0)=none):∀i a,l[i]?=some a→E i a=0:=by
 intro i a ha;obtain⟨hi,rfl⟩:=df.1 ha;have:=ew.1 h (E i l[i]) (gX.2 ⟨i,hi,rfl⟩);simpa using this
def abl {i:Nat} {c:Cmp} (h:kL b i c=0):Mp c=true∧(ç c.2.2.1 c.2.2.2.1).length≤1∧(ç c.2.2.2.1 c.2.2.1).length≤1:=by
 unfold kL at h
 split at h
 ·omega
 rename_i h1
 split at h
 ·omega
 unfold B6 at h
 (repeat' split at h)<;>first|omega|exact⟨by simpa using h1,by omega,by omega⟩
set_option maxHeartbeats 4000000 in
def arQ (hs:ľ b) (hfilm:0≤b.1.1∧b.1.1≤b.1.2∧b.1.2≤1000000) (nG:b.2.1.length≤12) (nU:b.2.2.1.length≤40) (nL:b.2.2.2.1.length≤12) (nC:b.2.2.2.2.1.length≤40) (nK:b.2.2.2.2.2.length≤10)
 (hg:∀g∈b.2.1,qz g=true) (hi:b.2.1.Pairwise fun a b=>a.1<b.1) (hu:∀u∈b.2.2.1,abW b u=0) (hl:∀i l,b.2.2.2.1[i]?=some l→VV b i l=0) :
 Í (fun(v41:Int) kk43=>jL b.1.1 b.1.2 b.2.1 b.2.2.1 b.2.2.2.1 b.2.2.2.2.1 b.2.2.2.2.2 v41 (fun u42=>kk43 u42) (fun z26=>some z26) (fun _=>Í (fun(v38:Int) kk40=>jK b.1.1 b.1.2 b.2.1 b.2.2.1 b.2.2.2.1 b.2.2.2.2.1 b.2.2.2.2.2 v38 (fun u39=>kk40 u39) (fun z34=>some z34) (fun _=>Å (jW b) fun r36=>ifb (igt (Ö r36) (59:Int)) (some (2:Int)) (Å (wM b) fun r37=>ifb (igt (Ö r37.1) (300:Int)) (some (2:Int)) (some (0:Int))))) (0:Int))) (0:Int)=some (arR b):=by
 unfold arR
 refine eP (EA b.2.2.2.2.1 (fun i c=>ajo (kL b i c)) some (some (match (b.2.2.2.2.2.map (abW b)).find? (fun e=>e != 0) with
  |some e=>e
  |none=>if 59<(Ì b).length then 2 else if 300<2*b.2.1.length+2*((Ì b).length-b.2.1.length:Int)+2*b.2.2.2.2.1.length then 2 else 0)) (fun i c hci hc kn=>?_) (fun hcz kn=>?_)) ?_
 ·try dsimp only
  unfold jL;have hp:=hs.piles c (List.mem_of_getElem? hc);rw[Ð hci,Ç hc,aoH (by omega) (by omega),À];unfold kL ajo
  cases Mp c with
  |false=>rfl
  |true =>
   rw[Î (by rfl)]
   have hl9:(b.2.2.2.2.1.take i).length=i:=by rw[dm]; omega
   refine eP (Ģ (b.2.2.2.2.1.take i) (fun x=>x.1==c.1) (fun _=>some 6) (some 6) (if B6 b c=0 then kn ((i:Int)+1) else some (B6 b c)) (fun _=>rfl) (fun j a hj ha kn'=>?_) (fun kn'=>?_)) ?_
   ·try dsimp only
    unfold oZ;rw[hl9] at hj
    have ha':b.2.2.2.2.1[j]?=some a:=by rwa [List.getElem?_take_of_lt hj] at ha
    rw[Ñ (show ilt (j:Int) (i:Int)=true by simp[ilt]; omega),Ç ha',Ç hc,Ë hj (by omega),Č]
   ·try dsimp only
    unfold oZ;rw[hl9,Î (show ilt (i:Int) (i:Int)=false by simp[ilt])];dsimp only;rw[Ç hc,show jU ((b.1.1,b.1.2),b.2.1,b.2.2.1,b.2.2.2.1,b.2.2.2.2.1,b.2.2.2.2.2) c=jU b c from rfl,afY hs hp.1 hp.2,À,Ë hci (by omega)]
    by_cases hz:B6 b c=0
    ·rw[Î (by simp[ine,hz]),if_pos hz]
    ·rw[Ñ (by simp[ine,hz]),if_neg hz]
   ·cases hany:(b.2.2.2.2.1.take i).any (fun x=>x.1==c.1) with
    |true=>simp
    |false =>
     by_cases hz:B6 b c=0
     ·simp[hz]
     ·simp[hz]
 ·try dsimp only
  unfold jL;rw[Ù];dsimp only;have hcz':∀i c,b.2.2.2.2.1[i]?=some c→kL b i c=0:=fun i c hc=>afs.1 (hcz i c hc);refine Eq.trans (EA b.2.2.2.2.2 (fun _ u=>ajo (abW b u)) some (some (if 59<(Ì b).length then 2 else if 300<2*b.2.1.length+2*((Ì b).length-b.2.1.length:Int)+2*b.2.2.2.2.1.length then 2 else 0)) (fun i a hia ha kn'=>?_) (fun hlz kn'=>?_)) ?_
  ·try dsimp only
   unfold jK;rw[Ð hia,Ç ha,abM,À];unfold abW ajo
   cases Il a.2 with
   |false=>rfl
   |true =>
    rw[Î (by rfl),Ç ha,Ç ha,IC (b:=((b.1.1,b.1.2),b.2.1,b.2.2.1,b.2.2.2.1,b.2.2.2.2.1,b.2.2.2.2.2)) (by simp only; omega),À,Ë hia (by omega)];have e:ι ((b.1.1,b.1.2),b.2.1,b.2.2.1,b.2.2.2.1,b.2.2.2.2.1,b.2.2.2.2.2) a.1 a.2=ι b a.1 a.2:=rfl;rw[e]
    by_cases hz:ι b a.1 a.2=0
    ·rw[Î (by simp[ine,hz])]; simp[hz]
    ·rw[Ñ (by simp[ine,hz])]; simp[hz]
  ·try dsimp only
   unfold jK;rw[Ù];dsimp only
   have hlz':∀u∈b.2.2.2.2.2,abW b u=0:=fun u hum=>by
    obtain⟨j,hj,rfl⟩:=dl.1 hum;exact afs.1 (hlz j _ (cX hj))
   have pre:Pre b:=⟨hs,hg,fun c hc=>by
    obtain⟨j,hj,rfl⟩:=dl.1 hc;have q:=abl (hcz' j _ (cX hj))
    exact⟨ac0 q.1,q.2⟩,fun n hn=>by
    have:=hlz' n hn;unfold abW at this
    split at this
    ·omega
    ·rename_i hd; simpa using hd⟩
   rw[IE pre,À,Ü]
   by_cases h59:59<(Ì b).length
   ·rw[Ñ (by simp[igt]; omega),if_pos h59]
   ·rw[Î (by simp[igt]; omega),if_neg h59];have good:Ċ b:=⟨hfilm,nG,nU,nL,nC,nK,hg,hi,fun u hum=>by rw[←aip hi]; exact hu u hum,fun i l hil=>by rw[←am1 hi]; exact hl i l hil,fun i c hic=>by rw[←Xx hi]; exact hcz' i c hic,fun u hum=>by rw[←aip hi]; exact hlz' u hum,by omega,by omega⟩;have hll:=RY good;rw[aoM good,À,Ü];dsimp only;rw[hll,Î (by simp[igt]; omega),if_neg (by omega)]
  ·rw[Sy]
   cases(b.2.2.2.2.2.map (abW b)).find? (fun e=>e != 0)<;>rfl
 ·rw[Sx (kL b)]
  cases(b.2.2.2.2.1.mapIdx (kL b)).find? (fun e=>e != 0)<;>rfl
end
def abc {l m:List Int}:(l++m).find? (fun e=>e != 0)=match l.find? (fun e=>e != 0) with|some e=>some e|none=>m.find? (fun e=>e != 0):=by
 rw[List.find?_append]
 cases l.find? (fun e=>e != 0)<;>rfl
set_option maxHeartbeats 4000000 in
def IF {b:Þ} (hs:ľ b):jX b=some (â b):=by
 unfold jX Jy â;rw[w7,À]
 cases hsp:j6 b.1 0 1000000 with
 |false=>rfl
 |true =>
 have hfilm:0≤b.1.1∧b.1.1≤b.1.2∧b.1.2≤1000000:=by
  simp only[j6,cZ,decide_eq_true_eq] at hsp;exact hsp
 rw[Î (show(!true)=false from rfl),if_neg (by simp)];rw[Ü b.2.1,Ü b.2.2.1,Ü b.2.2.2.1,Ü b.2.2.2.2.1,Ü b.2.2.2.2.2]
 by_cases c0:12<b.2.1.length
 ·rw[Ñ (by simp[igt]; omega),if_pos c0]
 rw[Î (by simp[igt]; omega),if_neg c0]
 by_cases c1:40<b.2.2.1.length
 ·rw[Ñ (by simp[igt]; omega),if_pos c1]
 rw[Î (by simp[igt]; omega),if_neg c1]
 by_cases c2:12<b.2.2.2.1.length
 ·rw[Ñ (by simp[igt]; omega),if_pos c2]
 rw[Î (by simp[igt]; omega),if_neg c2]
 by_cases c3:40<b.2.2.2.2.1.length
 ·rw[Ñ (by simp[igt]; omega),if_pos c3]
 rw[Î (by simp[igt]; omega),if_neg c3]
 by_cases c4:10<b.2.2.2.2.2.length
 ·rw[Ñ (by simp[igt]; omega),if_pos c4]
 rw[Î (by simp[igt]; omega),if_neg c4]
 refine eP (EA b.2.1 (oL b.2.1) some (some (match (yh b (Ť b)).find? (fun e=>e != 0) with
  |some e=>e
  |none=>if 59<(Ì b).length then 2 else if 300<2*b.2.1.length+2*((Ì b).length-b.2.1.length:Int)+2*b.2.2.2.2.1.length then 2 else 0)) (fun i g hi hg kn=>?_) (fun hz kn=>?_)) ?_
 ·try dsimp only
  unfold o8;rw[Ð hi,Ç hg,aoJ,À];unfold oL
  cases qz g with
  |false=>rfl
  |true =>
   rw[Î (by rfl)];rcases fE i with h0|h0
   ·subst h0
    have:igt ((0:Nat):Int) 0=false:=by simp[igt]
    rw[Î this,Ë hi (by omega)];simp[EJ]
   ·obtain⟨q,hq⟩:=EY hi h0
    have h1:igt (i:Int) 0=true:=by simp[igt]; omega
    rw[Ñ h1,Ç hg,SV h0 (by omega),HF h0 hq];simp only[EJ,h0,decide_true,Bool.true_and,hq,Option.any_some];unfold ile
    cases h2:decide (g.1≤q.1) with
    |true=>simp
    |false=>rw[æ,Ë hi (by omega)]; simp
 ·try dsimp only
  unfold o8;rw[Ù];dsimp only
  have hg0:jz b=0:=by
   unfold jz;rw[iP.2 fun j a ha=>by rw[Nat.zero_add]; exact hz j a ha];rfl
  obtain⟨hg,hi⟩:=(wH b).1 hg0;have eu:b.2.2.1.map (abW b)=b.2.2.1.map fun u=>af8 (Ť b) u.1 u.2:=List.map_congr_left fun u _=>aip hi u;have el:b.2.2.2.1.mapIdx (VV b)=b.2.2.2.1.mapIdx fun i l=>HA b (Ť b) i l:=List.mapIdx_eq_mapIdx_iff.2 fun i hl=>am1 hi i _;have ec:b.2.2.2.2.1.mapIdx (kL b)=b.2.2.2.2.1.mapIdx fun i c=>mj b (Ť b) i c:=List.mapIdx_eq_mapIdx_iff.2 fun i hc=>Xx hi i _;have ek:b.2.2.2.2.2.map (abW b)=b.2.2.2.2.2.map fun u=>af8 (Ť b) u.1 u.2:=List.map_congr_left fun u _=>aip hi u;unfold yh;rw[←eu,←el,←ec,←ek,abc,abc,abc,aq1 hs,À]
  cases hue:(b.2.2.1.map (abW b)).find? (fun e=>e != 0) with
  |some e =>
   have he:e≠0:=by have:=fL hue; simpa using this
   simp only[fD];rw[Î (by simpa[ieq] using he),Ñ (by simpa[ine] using he)]
  |none =>
   simp only[Option.getD_none];rw[Ñ (by rfl),aoI hs,À]
   cases hle:(b.2.2.2.1.mapIdx (VV b)).find? (fun e=>e != 0) with
   |some e =>
    have he:e≠0:=by have:=fL hle; simpa using this
    simp only[fD];rw[Ñ (by simpa[ine] using he)]
   |none =>
    simp only[Option.getD_none];rw[Î (by rfl)];refine Eq.trans (arQ hs hfilm (by omega) (by omega) (by omega) (by omega) (by omega) hg hi (ant hue) (akO hle)) ?_;unfold arR
    cases(b.2.2.2.2.1.mapIdx (kL b)).find? (fun e=>e != 0)<;>rfl
 ·unfold jz
  cases hf:ģ (oL b.2.1) 0 b.2.1 with
  |none =>
   simp
   cases(yh b (Ť b)).find? (fun e=>e != 0)<;>rfl
  |some e =>
   have he:jz b=e:=by unfold jz; rw[hf]; rfl
   have hne:e≠0:=by
    intro h0;rw[h0] at he;obtain⟨h1,h2⟩:=(wH b).1 he
    have h3:∀j a,b.2.1[j]?=some a→oL b.2.1 j a=none:=by
     intro j a ha;have h4:=(abB (fun g:é=>g.1) b.2.1).2 h2 j a ha;simp[oL,h1 a (dg ha),h4]
    rw[iP.2 fun j a ha=>by rw[du]; exact h3 j a ha] at hf;cases hf
   simp[hne]
def Li {b:Þ} (h:Ċ b):la b=some (((Ì b).length:Int)+1,Ø b):=by
 have hN:=h.nodes;unfold la DP;rw[IE h.pre,À,Ü,Ò (by omega) (by omega),aoM h,À]
section
variable {ρ:Type}
abbrev aq8:Type:=Þ×Sys×List (List Int)×Int
def aja (e:Int):aq8:=(i9,(0,[]),[],e)
def tabR (B:Þ):List (List Int):=sI ((Ì B).length+1) (ao9 B)
def alA (b:Þ) (ns:List (Int×Int)):aq8 :=
 if (ě b ns).2≠0 then aja (ě b ns).2 else((ě b ns).1,NR (ě b ns).1,tabR (ě b ns).1,0)
def aoP {b:Þ} (h:Ċ b) (n:Int×Int):uQ b n=some (if â (oa b n)≠0 then(i9,â (oa b n)) else(oa b n,0)):=by
 have h5:=h.nK;unfold uQ P2;rw[Ó (by omega),Am.iff_true,List.nil_append,Ó (by simp only[List.length_singleton]; omega),Am.iff_true];rw[show jX (b.1,b.2.1,b.2.2.1,b.2.2.2.1,b.2.2.2.2.1,b.2.2.2.2.2++[n])=jX (oa b n) from rfl,IF (ae2 h n),À]
 by_cases hc2:â (oa b n)=0
 ·rw[Î (by simp[ine,hc2]),if_neg (show ¬(â (oa b n)≠0) from fun h=>h hc2)];rfl
 ·rw[Ñ (by simp[ine,hc2]),if_pos hc2];rfl
abbrev alB:Type:=Int×Int×List é×List (Int×Int)×List IG×List Cmp×List (Int×Int)×Int×Int×Int×Int
def bkK (s:alB):Þ:=((s.1,s.2.1),s.2.2.1,s.2.2.2.1,s.2.2.2.2.1,s.2.2.2.2.2.1,s.2.2.2.2.2.2.1)
def am9 {ns:List (Int×Int)} (hl:ns.length≤1000) (X:Þ→Option aq8) {E1 K1:alB→Option aq8} (hK:∀s:alB,K1 s=X (bkK s))
 (hE:∀s:alB,s.2.2.2.2.2.2.2.1=0→s.2.2.2.2.2.2.2.2.1=0→s.2.2.2.2.2.2.2.2.2.1=0→E1 s=some (aja s.2.2.2.2.2.2.2.2.2.2)) {b:Þ} (hg:Ċ b) :
 Í (fun(v12:Int×alB) kk25=>nI ns v12.1 v12.2.1 v12.2.2.1 v12.2.2.2.1 v12.2.2.2.2.1 v12.2.2.2.2.2.1 v12.2.2.2.2.2.2.1 v12.2.2.2.2.2.2.2.1 v12.2.2.2.2.2.2.2.2.1 v12.2.2.2.2.2.2.2.2.2.1 v12.2.2.2.2.2.2.2.2.2.2.1 v12.2.2.2.2.2.2.2.2.2.2.2 (fun u13 u14 u15 u16 u17 u18 u19 u20 u21 u22 u23 u24=>kk25 (u13,u14,u15,u16,u17,u18,u19,u20,u21,u22,u23,u24)) E1 K1) ((0:Int),b.1.1,b.1.2,b.2.1,b.2.2.1,b.2.2.2.1,b.2.2.2.2.1,b.2.2.2.2.2,(0:Int),(0:Int),(0:Int),(0:Int)) =
  if (ū b ns).2≠0 then some (aja (ū b ns).2) else X (ū b ns).1:=by
 refine Hz ns (fun(i:Nat) (s:alB) (t:List (Int×Int))=>if (ū (bkK s) t).2≠0 then some (aja (ū (bkK s) t).2) else X (ū (bkK s) t).1)
  (fun i s=>Ċ (bkK s)∧s.2.2.2.2.2.2.2.1=0∧s.2.2.2.2.2.2.2.2.1=0∧s.2.2.2.2.2.2.2.2.2.1=0) (fun s hs kn=>?_) (fun i n t s hd hi ha hs kn hk=>?_) (s:=(b.1.1,b.1.2,b.2.1,b.2.2.1,b.2.2.2.1,b.2.2.2.2.1,b.2.2.2.2.2,(0:Int),(0:Int),(0:Int),(0:Int))) ⟨hg,rfl,rfl,rfl⟩
 ·dsimp only;unfold nI;rw[Ù];exact hK s
 ·dsimp only;unfold nI;obtain⟨hs1,z1,z2,z3⟩:=hs;rw[Ð hi,Ç ha];rw[show Ε ((s.1,s.2.1),s.2.2.1,s.2.2.2.1,s.2.2.2.2.1,s.2.2.2.2.2.1,s.2.2.2.2.2.2.1) n=Ε (bkK s) n from rfl,Ts hs1.pre,À,Ç ha];rw[show uQ ((s.1,s.2.1),s.2.2.1,s.2.2.2.1,s.2.2.2.2.1,s.2.2.2.2.2.1,s.2.2.2.2.2.2.1) n=uQ (bkK s) n from rfl,aoP hs1,À];have hr:=Χ (bkK s) n
  have hu:ū (bkK s) (n::t)=if (mG (bkK s) n).2≠0 then(i9,(mG (bkK s) n).2) else ū (mG (bkK s) n).1 t:=rfl
  rw[hu]
  by_cases h0:A5 (bkK s) n.1 n.2=0
  ·rw[Î (decide_eq_false (by omega))]
   by_cases h2:â (oa (bkK s) n)=0
   ·have e:mG (bkK s) n=(oa (bkK s) n,0):=by unfold mG; rw[if_neg (by simp[h0]),if_neg (by simp[h2])]
    rw[if_neg (show ¬â (oa (bkK s) n)≠0 by simp[h2]),Î (by rfl),Ë hi (by omega),e,if_neg (show ¬((0:Int)≠0) by simp)];exact hk (s.1,s.2.1,s.2.2.1,s.2.2.2.1,s.2.2.2.2.1,s.2.2.2.2.2.1,s.2.2.2.2.2.2.1++[n],s.2.2.2.2.2.2.2) ⟨(ê _).1 h2,z1,z2,z3⟩
   ·have e:mG (bkK s) n=(i9,â (oa (bkK s) n)):=by unfold mG; rw[if_neg (by simp[h0]),if_pos h2]
    rw[if_pos h2,Ñ (by simp[ine,h2]),e,if_pos h2,if_pos h2];exact hE _ rfl rfl rfl
  ·have e:mG (bkK s) n=(bkK s,0):=by unfold mG; rw[if_pos h0]
   rw[Ñ (decide_eq_true (by omega)),Ë hi (by omega),e,if_neg (show ¬((0:Int)≠0) by simp)];exact hk s ⟨hs1,z1,z2,z3⟩
def ao1 {b:Þ} (hI:In b) {ns:List (Int×Int)} (hl:ns.length≤1000):HT b ns=some (alA b ns):=by
 unfold HT Pz;rw[IF hI.size,À]
 by_cases hc:â b=0
 case neg =>
  have e:ě b ns=(i9,â b):=by unfold ě; rw[if_pos hc]
  rw[Ñ (bne_iff_ne.2 hc)];unfold alA;rw[e,if_pos hc];rfl
 have hg:=(ê b).1 hc
 have e:ě b ns=if (ū b ns).2≠0 then(i9,(ū b ns).2) else if Ĕ (Ø (ū b ns).1) ((Ì (ū b ns).1).length+1) then((ū b ns).1,0) else(i9,9):=by
  unfold ě; rw[if_neg (show ¬â b≠0 by simp[hc])]
 rw[Î (by rw[hc]; rfl)];refine(am9 hl (fun B=>Å (la B) fun r10=>Å (pH r10) fun r11=>ifb (!r11.2) (some ((((0:Int),(0:Int)),[],[],[],[],[]),((0:Int),[]),[],(9:Int))) (some (B,r10,r11.1,(0:Int)))) (fun s=>rfl) (fun s h1 h2 h3=>?_) hg).trans ?_
 ·rw[h1,h2,h3];rfl
 by_cases hr:(ū b ns).2=0
 case neg =>
  rw[if_pos hr] at e;unfold alA;rw[if_pos hr,e,if_pos hr]
 have hg':=EV hg hr;rw[if_neg (show ¬(ū b ns).2≠0 by simp[hr])] at e ⊢;generalize (ū b ns).1=B at hg' e;rw[Li hg',À,show(((Ì B).length:Int)+1,Ø B)=((((Ì B).length+1:Nat):Int),Ø B) by push_cast; rfl,ajU hg'.sys hg'.tied,À];unfold alA
 cases ho:Ĕ (Ø B) ((Ì B).length+1) with
 |true =>
  rw[if_pos ho] at e;rw[if_pos rfl,e,if_neg (by simp),Î (by rfl),←sJ];rfl
 |false =>
  rw[if_neg (by simp[ho])] at e;rw[if_neg (by simp),e,if_pos (by simp),Ñ (by rfl)];rfl
def ajb (b:Þ) (ns:List (Int×Int)):(alA b ns).2.2.2=(ě b ns).2:=by
 unfold alA
 by_cases h:(ě b ns).2=0
 ·rw[if_neg (by simp[h]),h]
 ·rw[if_pos h]; rfl
end
def abH {ρ α:Type} (l:List α) (p:α→Bool) (K:Bool→Option ρ) {f:Bool×Int→(Bool×Int→Option ρ)→Option ρ} (b0:Bool)
 (h:∀(i:Nat) (a:α) (v:Bool),i<l.length→l[i]?=some a→∀kn,f (v,i) kn=kn ((v||p a),(i:Int)+1)) (hn:∀v kn,f (v,l.length) kn=K v):Í f (b0,(0:Int))=K (b0||l.any p):=by
 refine ġ (fun v=>∃i:Nat,i≤l.length∧v=((b0||(l.take i).any p),(i:Int))) (fun v=>l.length-v.2.toNat) ?_ ⟨0,by omega,by simp⟩;rintro v ⟨i,hi,rfl⟩;rcases dA i l.length with h2|h2
 ·have hg:l[i]?=some l[i]:=List.getElem?_eq_getElem h2;refine .inr ⟨((b0||(l.take (i+1)).any p),((i+1:Nat):Int)),⟨i+1,h2,rfl⟩,by dsimp only; omega,fun kn=>?_⟩;rw[h i _ _ h2 hg,take_succ hg,List.any_append];simp[Bool.or_assoc]
 ·refine .inl fun kn=>?_
  obtain rfl:i=l.length:=by omega
  rw[hn,gT]
def Tt {l m:List Int} (hn:l.length≤1000000):Κ l m=some (decide (l=m)):=by
 unfold Κ vJ;rw[Ü,Ü]
 by_cases hl:l.length=m.length
 ·rw[Î (by simp[ine,hl])];refine eP (ij l (fun i a=>if m[i]?=some a then none else some false) some (some true) (fun i a hi ha kn=>?_) (fun kn=>?_)) ?_
  ·try dsimp only
   unfold kE;have hm:m[i]?=some m[i]:=List.getElem?_eq_getElem (by omega);rw[Ð hi,Ç ha,Ç hm,Ë hi (by omega),hm,Č]
   by_cases h:a=m[i]
   ·simp[ine,h]
   ·have h':¬m[i]=a:=fun e=>h e.symm;simp[ine,h,h']
  ·try dsimp only
   unfold kE;rw[Ù]
  ·cases h:ģ (fun i a=>if m[i]?=some a then none else some false) 0 l with
   |none=>simp[ET hl h]
   |some b =>
    obtain⟨h1,h2⟩:=ES h;rw[h1,decide_eq_false h2]
 ·rw[Ñ (bne_iff_ne.2 (by omega)),decide_eq_false (fun e=>hl (by rw[e]))]
def aoU {c d:Cmp} (hA:c.2.2.1.length≤1000) (hB:c.2.2.2.1.length≤1000):kH c d=some (decide (c=d)):=by
 unfold kH ow
 have hsplit:(c=d)↔(c.1=d.1∧c.2.1=d.2.1∧c.2.2.2.2.1=d.2.2.2.2.1∧c.2.2.2.2.2.1=d.2.2.2.2.2.1∧(c.2.2.2.2.2.2.1=d.2.2.2.2.2.2.1∧c.2.2.2.2.2.2.2=d.2.2.2.2.2.2.2)∧c.2.2.1=d.2.2.1∧c.2.2.2.1=d.2.2.2.1):=by
  simp only[fK];constructor
  ·rintro⟨a1,a2,a3,a4,a5,a6,a7,a8⟩; exact⟨a1,a2,a5,a6,⟨a7,a8⟩,a3,a4⟩
  ·rintro⟨a1,a2,a5,a6,⟨a7,a8⟩,a3,a4⟩; exact⟨a1,a2,a3,a4,a5,a6,a7,a8⟩
 rw[Tt (by omega),À,Tt (by omega),À]
 have hno:∀{P:Prop},¬P→(c=d→P)→some (decide (c=d))=some false:=fun h1 h2=>by rw[decide_eq_false fun h=>h1 (h2 h)]
 by_cases a1:c.1=d.1
 case neg=>rw[hno a1 (fun e=>(hsplit.1 e).1),Î (beq_eq_false_iff_ne.2 a1)]
 rw[Ñ (beq_iff_eq.2 a1)]
 by_cases a2:c.2.1=d.2.1
 case neg=>rw[hno a2 (fun e=>(hsplit.1 e).2.1),Î (beq_eq_false_iff_ne.2 a2)]
 rw[Ñ (beq_iff_eq.2 a2)]
 by_cases a3:c.2.2.2.2.1=d.2.2.2.2.1
 case neg=>rw[hno a3 (fun e=>(hsplit.1 e).2.2.1),Î (beq_eq_false_iff_ne.2 a3)]
 rw[Ñ (beq_iff_eq.2 a3)]
 by_cases a4:c.2.2.2.2.2.1=d.2.2.2.2.2.1
 case neg=>rw[hno a4 (fun e=>(hsplit.1 e).2.2.2.1),Î (beq_eq_false_iff_ne.2 a4)]
 rw[Ñ (beq_iff_eq.2 a4)]
 by_cases a5:c.2.2.2.2.2.2.1=d.2.2.2.2.2.2.1∧c.2.2.2.2.2.2.2=d.2.2.2.2.2.2.2
 case neg=>rw[hno a5 (fun e=>(hsplit.1 e).2.2.2.2.1),Î (by simp only[õ,fB,gw,decide_eq_false_iff_not]; exact Decidable.not_and_iff_or_not.1 a5)]
 rw[Ñ (by simp[õ,a5.1,a5.2])]
 by_cases a6:c.2.2.1=d.2.2.1
 case neg=>rw[hno a6 (fun e=>(hsplit.1 e).2.2.2.2.2.1),Î (decide_eq_false a6)]
 rw[Ñ (decide_eq_true a6)];congr 1;exact decide_eq_decide.2 ⟨fun h=>hsplit.2 ⟨a1,a2,a3,a4,a5,a6,h⟩,fun h=>(hsplit.1 h).2.2.2.2.2.2⟩
def alw {b:Þ} (hn:b.2.1.length≤1000) (g:é):pG b g=some (rf g b.2.1):=by
 unfold pG Jg;refine(Ģ b.2.1 (fun a=>decide (g=a)) (fun _=>some true) (some true) (some false) (fun _=>rfl) (fun i a hi ha kn=>?_) (fun kn=>?_)).trans ?_
 ·try dsimp only
  unfold oR
  have e:((õ a.1 g.1)&&((õ a.2.1 g.2.1)&&((õ a.2.2.1 g.2.2.1)&&((õ a.2.2.2.1.1 g.2.2.2.1.1)&&((õ a.2.2.2.1.2 g.2.2.2.1.2)&&((õ a.2.2.2.2.1.1 g.2.2.2.2.1.1)&&((õ a.2.2.2.2.1.2 g.2.2.2.2.1.2)&&((õ a.2.2.2.2.2 g.2.2.2.2.2)&&true))))))))=decide (g=a):=by
   rw[dO];simp only[õ,fB,cZ,decide_eq_true_eq,fK];exact⟨fun⟨h1,h2,h3,h4,h5,h6,h7,h8⟩=>⟨h1.symm,h2.symm,h3.symm,⟨h4.symm,h5.symm⟩,⟨h6.symm,h7.symm⟩,h8.symm⟩,fun⟨h1,h2,h3,⟨h4,h5⟩,⟨h6,h7⟩,h8⟩=>⟨h1.symm,h2.symm,h3.symm,h4.symm,h5.symm,h6.symm,h7.symm,h8.symm⟩⟩
  rw[Ð hi,Ç ha,Ë hi (by omega),Č,e]
 ·try dsimp only
  unfold oR;rw[Ù]
 ·unfold rf
  cases b.2.1.any fun a=>decide (g=a)<;>rfl
def XM {b:Þ} (hn:b.2.1.length≤1000) (id:Int):jS b id=some ((oJ b).contains id):=by
 unfold jS Jf;refine(Ģ b.2.1 (fun g=>g.1==id) (fun _=>some true) (some true) (some false) (fun _=>rfl) (fun i a hi ha kn=>?_) (fun kn=>?_)).trans ?_
 ·try dsimp only
  unfold oQ;rw[Ð hi,Ç ha,Ë hi (by omega),Č]
 ·try dsimp only
  unfold oQ;rw[Ù]
 ·have:(oJ b).contains id=b.2.1.any fun g=>g.1==id:=by
   unfold oJ;rw[Bool.eq_iff_iff];simp only[List.contains_iff_mem,List.mem_map,List.any_eq_true,beq_iff_eq]
  rw[this]
  cases b.2.1.any fun g=>g.1==id<;>rfl
def TF (a b s:Þ):Bool:=Ν a.2.2.1 b.2.2.1 (fun u=>(oJ s).contains u.1)&&Ν a.2.2.2.1 b.2.2.2.1 (fun u=>(oJ s).contains u.1)
def Ol {ρ α:Type} (l:List α) (p:α→Bool) (k0:Bool→Option ρ) (K:Option ρ) {f:Int→(Int→Option ρ)→Option ρ}
 (h:∀(i:Nat) (a:α),i<l.length→l[i]?=some a→∀kn,f i kn=if p a then kn ((i:Int)+1) else k0 false) (hn:∀kn,f l.length kn=K):Í f 0=if l.all p then K else k0 false:=by
 refine(Ģ l (fun a=>!p a) (fun _=>k0 false) (k0 false) K (fun _=>rfl) (fun i a hi ha kn=>?_) hn).trans ?_
 ·rw[h i a hi ha kn]
  cases p a<;>rfl
 ·rw[List.all_eq_not_any_not]
  cases l.any fun a=>!p a<;>rfl
def afZ {a b s:Þ} (ha:ľ a) (hb:ľ b) (hs:ľ s):Ah a b s=some (TF a b s):=by
 have a1:=ha.uses; have a2:=ha.loans; have b1:=hb.uses; have b2:=hb.loans; have s1:=hs.gauges;unfold Ah Pq TF Ν;refine(Ol a.2.2.1 (fun u=>!(oJ s).contains u.1||rf u b.2.2.1) some (some (a.2.2.2.1.all fun u=>!(oJ s).contains u.1||rf u b.2.2.2.1)) (fun i u hi hu kn=>?_) (fun kn=>?_)).trans ?_
 rotate_right
 ·cases a.2.2.1.all fun u=>!(oJ s).contains u.1||rf u b.2.2.1<;>rfl
 ·try dsimp only
  unfold rj;rw[Ð hi,Ç hu,show jS ((s.1.1,s.1.2),s.2.1,s.2.2.1,s.2.2.2.1,s.2.2.2.2.1,s.2.2.2.2.2) u.1=jS s u.1 from rfl,XM s1,À];refine(abH b.2.2.1 (fun x=>decide (u=x)) (fun z7=>ifb (!z7) (some false) (ck ((i:Int)+(1:Int)) fun n8=>kn n8)) (!(oJ s).contains u.1) (fun j x v hj hx kn'=>?_) (fun v kn'=>?_)).trans ?_
  ·try dsimp only
   unfold ri;rw[Ð hj]
   cases v with
   |true=>rw[ė,Ë hj (by omega)]; rfl
   |false =>
    have e:((õ x.1 u.1)&&((õ x.2 u.2)&&true))=decide (u=x):=by
     rw[dO];simp only[õ,fB,cZ,decide_eq_true_eq,fK];exact⟨fun⟨h1,h2⟩=>⟨h1.symm,h2.symm⟩,fun⟨h1,h2⟩=>⟨h1.symm,h2.symm⟩⟩
    rw[æ,Ç hx,Ç hu,Ë hj (by omega),e]; rfl
  ·try dsimp only
   unfold ri;rw[Ù]
  ·rw[Ë hi (by omega),show(b.2.2.1.any fun x=>decide (u=x))=rf u b.2.2.1 from rfl]
   cases(!(oJ s).contains u.1||rf u b.2.2.1)<;>rfl
 ·try dsimp only
  unfold rj;rw[Ù];dsimp only;refine(Ol a.2.2.2.1 (fun u=>!(oJ s).contains u.1||rf u b.2.2.2.1) some (some true) (fun i u hi hu kn=>?_) (fun kn=>?_)).trans ?_
  rotate_right
  ·cases a.2.2.2.1.all fun u=>!(oJ s).contains u.1||rf u b.2.2.2.1<;>rfl
  ·try dsimp only
   unfold rh;rw[Ð hi,Ç hu,show jS ((s.1.1,s.1.2),s.2.1,s.2.2.1,s.2.2.2.1,s.2.2.2.2.1,s.2.2.2.2.2) u.1=jS s u.1 from rfl,XM s1,À];refine(abH b.2.2.2.1 (fun x=>decide (u=x)) (fun z7=>ifb (!z7) (some false) (ck ((i:Int)+(1:Int)) fun n8=>kn n8)) (!(oJ s).contains u.1) (fun j x v hj hx kn'=>?_) (fun v kn'=>?_)).trans ?_
   ·try dsimp only
    unfold rg;rw[Ð hj]
    cases v with
    |true=>rw[ė,Ë hj (by omega)]; rfl
    |false =>
     have e:((õ x.1 u.1)&&((õ x.2.1.1 u.2.1.1)&&((õ x.2.1.2 u.2.1.2)&&((õ x.2.2 u.2.2)&&true))))=decide (u=x):=by
      rw[dO];simp only[õ,fB,cZ,decide_eq_true_eq,fK];exact⟨fun⟨h1,h2,h3,h4⟩=>⟨h1.symm,⟨h2.symm,h3.symm⟩,h4.symm⟩,fun⟨h1,⟨h2,h3⟩,h4⟩=>⟨h1.symm,h2.symm,h3.symm,h4.symm⟩⟩
     rw[æ,Ç hx,Ç hu,Ë hj (by omega),e]; rfl
   ·try dsimp only
    unfold rg;rw[Ù]
   ·rw[Ë hi (by omega),show(b.2.2.2.1.any fun x=>decide (u=x))=rf u b.2.2.2.1 from rfl]
    cases(!(oJ s).contains u.1||rf u b.2.2.2.1)<;>rfl
  ·try dsimp only
   unfold rh;rw[Ù]
def aoV {s b:Þ} (hs:ľ s) (hb:ľ b):HS s b=some (E7 s b):=by
 have s1:=hs.gauges; have s4:=hs.compares; have b1:=hb.gauges; have b4:=hb.compares
 have e0:E7 s b=(decide (s.1=b.1)&&((s.2.1.all fun g=>rf g b.2.1)&&((s.2.2.2.2.1.all fun c=>rf c b.2.2.2.2.1)&&(TF s b s&&TF b s s)))):=by
  have q1:(Ν s.2.1 b.2.1 fun _=>true)=s.2.1.all fun g=>rf g b.2.1:=rfl;have q2:(Ν s.2.2.2.2.1 b.2.2.2.2.1 fun _=>true)=s.2.2.2.2.1.all fun c=>rf c b.2.2.2.2.1:=rfl;unfold E7 TF;rw[q1,q2];generalize (s.2.1.all fun g=>rf g b.2.1)=x1;generalize (s.2.2.2.2.1.all fun c=>rf c b.2.2.2.2.1)=x2;generalize decide (s.1=b.1)=x3;generalize (Ν s.2.2.1 b.2.2.1 fun u=>(oJ s).contains u.1)=x4;generalize (Ν b.2.2.1 s.2.2.1 fun u=>(oJ s).contains u.1)=x5;generalize (Ν s.2.2.2.1 b.2.2.2.1 fun u=>(oJ s).contains u.1)=x6;generalize (Ν b.2.2.2.1 s.2.2.2.1 fun u=>(oJ s).contains u.1)=x7
  cases x1<;>cases x2<;>cases x3<;>cases x4<;>cases x5<;>cases x6<;>cases x7<;>rfl
 rw[e0];unfold HS Px
 by_cases hf:s.1=b.1
 case neg =>
  have ef:(!((õ s.1.1 b.1.1)&&((õ s.1.2 b.1.2)&&true)))=true:=by
   rw[fK] at hf;simp[õ];omega
  rw[ef,ė,decide_eq_false hf];rfl
 have ef:(!((õ s.1.1 b.1.1)&&((õ s.1.2 b.1.2)&&true)))=false:=by simp[õ,hf]
 rw[ef,æ,decide_eq_true hf,dV];refine(Ol s.2.1 (fun g=>rf g b.2.1) some (some ((s.2.2.2.2.1.all fun c=>rf c b.2.2.2.2.1)&&(TF s b s&&TF b s s))) (fun i g hi hg kn=>?_) (fun kn=>?_)).trans ?_
 rotate_right
 ·cases s.2.1.all fun g=>rf g b.2.1<;>rfl
 ·try dsimp only
  unfold rq;rw[Ð hi,Ç hg,show pG ((b.1.1,b.1.2),b.2.1,b.2.2.1,b.2.2.2.1,b.2.2.2.2.1,b.2.2.2.2.2) g=pG b g from rfl,alw b1,À,Ë hi (by omega)]
  cases rf g b.2.1<;>rfl
 ·try dsimp only
  unfold rq;rw[Ù];dsimp only;refine(Ol s.2.2.2.2.1 (fun c=>rf c b.2.2.2.2.1) some (some (TF s b s&&TF b s s)) (fun i c hi hc kn=>?_) (fun kn=>?_)).trans ?_
  rotate_right
  ·cases s.2.2.2.2.1.all fun c=>rf c b.2.2.2.2.1<;>rfl
  ·try dsimp only
   unfold ro;have hp:=hs.piles c (List.mem_of_getElem? hc);rw[Ð hi];refine(abH b.2.2.2.2.1 (fun x=>decide (c=x)) (fun z7=>ifb (!z7) (some false) (ck ((i:Int)+(1:Int)) fun n8=>kn n8)) false (fun j x v hj hx kn'=>?_) (fun v kn'=>?_)).trans ?_
   ·try dsimp only
    unfold rl;rw[Ð hj]
    cases v with
    |true=>rw[ė,Ë hj (by omega)]; rfl
    |false=>rw[æ,Ç hc,Ç hx,aoU hp.1 hp.2,À,Ë hj (by omega)]; rfl
   ·try dsimp only
    unfold rl;rw[Ù]
   ·rw[Ë hi (by omega),Bool.false_or,show(b.2.2.2.2.1.any fun x=>decide (c=x))=rf c b.2.2.2.2.1 from rfl]
    cases rf c b.2.2.2.2.1<;>rfl
  ·try dsimp only
   unfold ro;rw[Ù];dsimp only;rw[afZ hs hb hs,À,afZ hb hs hs,À]
   cases TF s b s<;>rfl
def sumQ (L:List Lk):Int→Int→List Int→Int×Int×Bool
 |u,s,[]=>(s,u,true)
 |u,s,i::t=>if υ L i=true∨(L[i.toNat]?.getD (0,0,0)).1≠u then(0,0,false) else sumQ L (L[i.toNat]?.getD (0,0,0)).2.1 (s+(L[i.toNat]?.getD (0,0,0)).2.2) t
def ab6 {L:List Lk}:∀(l:List Int) (u s:Int),(∀i∈l,υ L i=false)→sumQ L u s l=((kM L u s l).2.1,(kM L u s l).1,(kM L u s l).2.2)
 |[],u,s,_=>rfl
 |i::t,u,s,h=>by
  unfold sumQ kM;have h1:=h i (by simp)
  by_cases hc:(L[i.toNat]?.getD (0,0,0)).1=u
  ·rw[if_neg (by simp[h1,hc]),if_pos hc];exact ab6 t _ _ fun j hj=>h j (by simp[hj])
  ·rw[if_pos (.inr hc),if_neg hc]
section
variable {L:List Lk} {N:Nat}
def asN (hS:Ą L N) (u:Int) {l:List Int} (hl:l.length≤90):Od ((N:Int),L) u l=some (sumQ L u 0 l):=by
 have hl3:=hS.len;unfold Od Zm;dsimp only
 have:=n0 (f:=fun(v7:Int×Int×Int) kk11=>vI l L v7.1 v7.2.1 v7.2.2 (fun u8 u9 u10=>kk11 (u8,u9,u10)) (fun z5=>some (z5.1,z5.2.1,z5.2.2)) (fun z6=>some (z6.2,z6.1,true)))
  (F:=fun v=>some (sumQ L v.1 v.2.1 (l.drop v.2.2.toNat))) (fun v=>∃i:Nat,v.2.2=i∧i≤l.length∧(-(i*4503599627370496)≤v.2.1∧v.2.1≤i*4503599627370496)) (fun v=>l.length-v.2.2.toNat) (fun v hv kn hk=>?_) (x:=(u,(0:Int),(0:Int))) ⟨0,rfl,by omega,by simp⟩
 ·exact this
 ·obtain⟨w,s,n⟩:=v;obtain⟨i,e,h1,h2⟩:=hv;dsimp only at e h2 hk ⊢;subst e;rw[Int.toNat_natCast] at hk ⊢;unfold vI;rcases Nat.lt_or_ge i l.length with h3|h3
  ·have ha:l[i]?=some l[i]:=List.getElem?_eq_getElem h3;have hd:l.drop i=l[i]::l.drop (i+1):=List.drop_eq_getElem_cons h3;rw[hd];generalize l[i]=a at ha;rw[Ð h3];simp only[Ç ha];unfold sumQ
   by_cases c1:a<0
   ·rw[Ñ (decide_eq_true c1),if_pos (.inl (by simp[υ,c1]))]
   rw[Î (decide_eq_false c1),Ü]
   by_cases c2:(L.length:Int)≤a
   ·rw[Ñ (decide_eq_true c2),if_pos (.inl (by simp[υ,c2]))]
   rw[Î (decide_eq_false (by omega))];have hg:L[a.toNat]?=some L[a.toNat]:=cX (by omega);have hm:=hS.most _ (dg hg);generalize L[a.toNat]=x at hg hm;simp only[ip (show 0≤a by omega) hg];rw[hg];simp only[fD]
   have hb:υ L a=false:=by simp[υ]; omega
   by_cases hc:x.1=w
   ·rw[Î (by rw[hc]; exact bne_self_eq_false' _),if_neg (by simp[hb,hc]),Ò (by omega) (by omega),Ë h3 (by omega),hk _ ⟨i+1,by push_cast; rfl,h3,by dsimp only; push_cast; omega⟩ (by simp; omega)];simp
   ·rw[Ñ (bne_iff_ne.2 hc),if_pos (.inr hc)]
  ·obtain rfl:i=l.length:=by omega
   rw[Ù,gV];rfl
def aic (N:Int) (hL:L.length≤1000) {l:List Int} (hl:l.length≤90):su (N,L) l=some (!l.any (υ L)):=by
 unfold su ze;refine(Ģ l (υ L) (fun _=>some false) (some false) (some true) (fun _=>rfl) (fun i a hi ha kn=>?_) (fun kn=>?_)).trans ?_
 ·try dsimp only
  unfold lX υ;simp only[Ç ha];rw[Ð hi,Ë hi (by omega),Ü,Č,Č]
  by_cases h1:a<0
  ·simp[ilt,h1]
  ·by_cases h2:(L.length:Int)≤a
   ·simp[ilt,ige,h1,h2]
   ·simp[ilt,ige,h1,h2]
 ·try dsimp only
  unfold lX;rw[Ù]
 ·cases l.any (υ L)<;>rfl
end
def qP {c:aj1} (hs:ľ c.1) (hl:c.2.2.2.2.length≤90):ir c=some (iW c):=by
 unfold ir pY iW;rw[IF hs,À]
 by_cases hc:â c.1=0
 case neg=>rw[Ñ (bne_iff_ne.2 hc),if_pos hc]
 have hg:=(ê c.1).1 hc;have hS:=hg.sys;have hlen:=hS.len;rw[Î (by rw[hc]; rfl),if_neg (by simp[hc])]
 by_cases h1:c.2.1=(0,0)
 case neg =>
  have e1:(!((õ c.2.1.1 0)&&((õ c.2.1.2 0)&&true)))=true:=by
   rw[Prod.ext_iff] at h1;simp[õ];dsimp only at h1;omega
  rw[e1,ė,if_pos (.inl h1)]
 have e1:(!((õ c.2.1.1 0)&&((õ c.2.1.2 0)&&true)))=false:=by rw[h1]; rfl
 rw[e1,æ]
 cases h2:c.2.2.1 with
 |true=>rw[ė,if_pos (.inr (.inl rfl))]
 |false =>
  rw[æ]
  by_cases h3:c.2.2.2.1=0
  case neg=>rw[Ñ (bne_iff_ne.2 h3),if_pos (.inr (.inr h3))]
  rw[Î (by rw[h3]; rfl),if_neg (by simp[h1,h3]),Ü]
  have fin:∀(x:Int) (y:Bool),ŋ (Ø c.1) c.2.2.2.2=x→y=decide (x=0)→ifb (!y) (some (8:Int)) (some 0)=some (if ŋ (Ø c.1) c.2.2.2.2=0 then 0 else 8):=by
   rintro x y rfl rfl
   by_cases hx:ŋ (Ø c.1) c.2.2.2.2=0
   ·rw[decide_eq_true hx,if_pos hx]; rfl
   ·rw[decide_eq_false hx,if_neg hx]; rfl
  by_cases h4:80<c.2.2.2.2.length
  ·rw[Ñ (decide_eq_true (by omega)),if_neg];unfold ŋ Ι;rw[if_pos h4];simp
  rw[Î (decide_eq_false (by omega)),Li hg,À,show(((Ì c.1).length:Int)+1,Ø c.1)=((((Ì c.1).length+1:Nat):Int),Ø c.1) by push_cast; rfl];unfold EF D2;rw[aic _ (by omega) hl,À,Ü]
  cases hx:c.2.2.2.2 with
  |nil =>
   rw[hx] at fin;rw[Ñ (by rfl),À];exact fin 8 false rfl rfl
  |cons i t =>
   rw[hx] at hl h4 fin;rw[Î (beq_eq_false_iff_ne.2 (by simp; omega))]
   cases ha:(i::t).any (υ (Ø c.1)) with
   |true =>
    rw[Ñ (by rfl),À];refine fin 1 false ?_ rfl;unfold ŋ Ι;rw[if_neg h4,ha];rfl
   |false =>
    have hix:Ι (Ø c.1) (i::t)=0:=by
     unfold Ι;rw[if_neg h4,ha];rfl
    have hall:∀j∈i::t,υ (Ø c.1) j=false:=fun j hj=>ee.2 (eo.1 ha j hj);have hi0:=hall i (by simp);simp only[υ,fI,decide_eq_false_iff_not] at hi0;obtain⟨x,hg2⟩:∃x,(Ø c.1)[i.toNat]?=some x:=⟨_,cX (by omega)⟩
    have hC:ŋ (Ø c.1) (i::t)=afA x.1 (kM (Ø c.1) x.1 0 (i::t)):=by
     unfold ŋ;rw[hix,if_neg (by simp)];dsimp only;rw[hg2];rfl
    rw[Î (by rfl),afa,ip (by omega) hg2,asN hS _ hl,À,ab6 _ _ _ hall];generalize kM (Ø c.1) x.1 0 (i::t)=w at hC;obtain⟨e,sum,ok⟩:=w;unfold afA at hC;dsimp only at hC ⊢
    cases ok with
    |false =>
     rw[æ,À];exact fin 8 false (by rw[hC,if_neg (by simp)]) rfl
    |true =>
     rw[ė]
     by_cases g1:e=x.1
     ·rw[Ñ (beq_iff_eq.2 g1),À]
      by_cases g2:sum<0
      ·exact fin 0 _ (by rw[hC,if_pos ⟨rfl,g1,g2⟩]) (decide_eq_true g2)
      ·exact fin 8 _ (by rw[hC,if_neg (fun h=>g2 h.2.2)]) (decide_eq_false g2)
     ·rw[Î (beq_eq_false_iff_ne.2 g1),À];exact fin 8 false (by rw[hC,if_neg (fun h=>g1 h.2.1)]) rfl
def aib {l m:List Int} (hn:l.length≤1000000):jV l m=some (decide (l=m)):=by
 unfold jV vF;rw[Ü,Ü]
 by_cases hl:l.length=m.length
 ·rw[Î (by simp[ine,hl])];refine eP (ij l (fun i a=>if m[i]?=some a then none else some false) some (some true) (fun i a hi ha kn=>?_) (fun kn=>?_)) ?_
  ·try dsimp only
   unfold kD;have hm:m[i]?=some m[i]:=List.getElem?_eq_getElem (by omega);rw[Ð hi,Ç ha,Ç hm,Ë hi (by omega),hm,Č]
   by_cases h:a=m[i]
   ·simp[ine,h]
   ·have h':¬m[i]=a:=fun e=>h e.symm;simp[ine,h,h']
  ·try dsimp only
   unfold kD;rw[Ù]
  ·cases h:ģ (fun i a=>if m[i]?=some a then none else some false) 0 l with
   |none=>simp[ET hl h]
   |some b =>
    obtain⟨h1,h2⟩:=ES h;simp[h1,h2]
 ·rw[Ñ (by simp[ine]; omega)];have:l≠m:=fun e=>hl (by rw[e]);simp[this]
def Hy {ρ α:Type} (l:List α) (K:Option ρ) {f:Int→(Int→Option ρ)→Option ρ} (h:∀(i:Nat) (a:α),i<l.length→l[i]?=some a→∀kn,f i kn=kn ((i:Int)+1)) (hn:∀kn,f l.length kn=K):Í f 0=K:=by
 refine eP (ś l (fun _=>false) (fun _=>K) K (fun i a hi ha kn=>by rw[h i a hi ha kn]; rfl) hn) ?_;rw[dT.2 (by simp)]
def V2 {l:List (Int×Int)} (hn:l.length≤1000000):kj l l=some true:=by rw[afW hn]; simp
def IB {l:List Int} (hn:l.length≤1000000):jV l l=some true:=by rw[aib hn]; simp
def NK {c:Cmp} (hA:c.2.2.1.length≤1000) (hB:c.2.2.2.1.length≤1000):kI c c=some true:=by
 unfold kI oy;rw[IB (by omega),À,IB (by omega),À];simp[ieq,õ]
def aoF {b:Þ} (hs:ľ b):qC b b=some true:=by
 have h1:=hs.gauges; have h2:=hs.uses; have h3:=hs.loans; have h4:=hs.compares; have h5:=hs.looks;unfold qC PT;rw[Î (by simp[õ]),Î (show ine (Ö b.2.1) (Ö b.2.1)=false by simp[ine]),Î (show ine (Ö b.2.2.1) (Ö b.2.2.1)=false by simp[ine]),Î (show ine (Ö b.2.2.2.1) (Ö b.2.2.2.1)=false by simp[ine]),Î (show ine (Ö b.2.2.2.2.1) (Ö b.2.2.2.2.1)=false by simp[ine])];refine Hy b.2.1 _ (fun i a hi ha kn=>?_) (fun kn=>?_)
 ·try dsimp only
  unfold rG;rw[Ð hi,Ç ha,Ç ha,Ë hi (by omega)];simp[õ]
 ·try dsimp only
  unfold rG;rw[Ù];dsimp only;refine Hy b.2.2.1 _ (fun i a hi ha kn=>?_) (fun kn=>?_)
  ·try dsimp only
   unfold rE;rw[Ð hi,Ç ha,Ç ha,Ë hi (by omega)];simp[õ]
  ·try dsimp only
   unfold rE;rw[Ù];dsimp only;refine Hy b.2.2.2.1 _ (fun i a hi ha kn=>?_) (fun kn=>?_)
   ·try dsimp only
    unfold rD;rw[Ð hi,Ç ha,Ç ha,Ë hi (by omega)];simp[õ]
   ·try dsimp only
    unfold rD;rw[Ù];dsimp only;refine Hy b.2.2.2.2.1 _ (fun i a hi ha kn=>?_) (fun kn=>?_)
    ·try dsimp only
     unfold rC;have hp:=hs.piles a (List.mem_of_getElem? ha);rw[Ð hi,Ç ha,Ç ha,NK hp.1 hp.2,À,Ë hi (by omega)];rfl
    ·try dsimp only
     unfold rC;rw[Ù];dsimp only;rw[V2 (by omega),À]
def Same0:qC i9 i9=some true:=aoF ⟨by simp[i9],by simp[i9],by simp[i9],by simp[i9],by simp[i9],by simp[i9]⟩
def aoG:jT K7 K7=some true:=by
 unfold jT vA;rw[show qC K7.1 K7.1=qC i9 i9 from rfl,Same0,À,ė,Ñ (by rfl),Ñ (by rfl),Ñ (by rfl)];rw[show Κ K7.2.2.2.2 K7.2.2.2.2=Κ [] [] from rfl,Tt (by simp),À];rfl
def asI {c:aj1} (hv : -4503599627370496≤c.2.2.2.1∧c.2.2.2.1≤4503599627370496) (hd:0≤c.2.1.2∧c.2.1.2≤20000) (hl:c.2.2.2.2.length≤90) (hi:∀i∈c.2.2.2.2,0≤i∧i≤1000) (w y:Int) :
 ∃x:aj1,HQ c w y=some x∧x.1=c.1∧I64 x.2.2.2.1∧x.2.2.2.2.length≤90:=by
 have h64:I64 c.2.2.2.1:=⟨by omega,by omega⟩;have t50:=Int.lt_tmod_of_pos y (show(0:Int)<50 by decide);have t50':=Int.tmod_lt_of_pos y (show(0:Int)<50 by decide);have t3:=Int.lt_tmod_of_pos y (show(0:Int)<3 by decide);have t3':=Int.tmod_lt_of_pos y (show(0:Int)<3 by decide);unfold HQ Pl
 by_cases c0:Int.tmod w 5=0
 ·rw[Ñ (beq_iff_eq.2 c0),Ò (by omega) (by omega)];exact⟨_,rfl,rfl,⟨by dsimp only; omega,by dsimp only; omega⟩,hl⟩
 rw[Î (beq_eq_false_iff_ne.2 c0)]
 by_cases c1:Int.tmod w 5=1
 ·rw[Ñ (beq_iff_eq.2 c1)];exact⟨_,rfl,rfl,h64,hl⟩
 rw[Î (beq_eq_false_iff_ne.2 c1)]
 by_cases c2:Int.tmod w 5=2
 ·rw[Ñ (beq_iff_eq.2 c2),Ò (by omega) (by omega)];exact⟨_,rfl,rfl,h64,hl⟩
 rw[Î (beq_eq_false_iff_ne.2 c2)]
 by_cases c3:Int.tmod w 5=3
 ·rw[Ñ (beq_iff_eq.2 c3)]
  by_cases h0:c.2.2.2.2.length=0
  ·rw[Î (by rw[Ü,h0]; rfl)];exact⟨_,rfl,rfl,h64,hl⟩
  rw[Ñ (by rw[Ü]; exact decide_eq_true (by omega)),Ó (by omega),Am.iff_true,fM]
  have q0:0≤IntKind.wrap .i64 (IntKind.wrap .u8 (Int.tdiv w 5)):=by
   simp[IntKind.wrap,IntKind.bits,IntKind.signed]
   split<;>omega
  generalize IntKind.wrap .i64 (IntKind.wrap .u8 (Int.tdiv w 5))=q at q0;have k0:=Int.tmod_nonneg (c.2.2.2.2.length:Int) q0;have k1:=Int.tmod_lt_of_pos q (show(0:Int)<c.2.2.2.2.length by omega);rw[Ü];generalize hk:Int.tmod q (c.2.2.2.2.length:Int)=k at k0 k1;have hg:c.2.2.2.2[k.toNat]?=some (c.2.2.2.2[k.toNat]'(by omega)):=List.getElem?_eq_getElem (by omega);have he:=hi _ (List.mem_of_getElem? hg);generalize c.2.2.2.2[k.toNat]'(by omega)=e at hg he;rw[Î (show õ (c.2.2.2.2.length:Int) 0=false from decide_eq_false (by omega)),aa5,ip k0 hg,Ò (by omega) (by omega),aa5,ip k0 hg];exact⟨_,rfl,rfl,h64,by dsimp only; rw[List.length_set]; exact hl⟩
 rw[Î (beq_eq_false_iff_ne.2 c3)]
 by_cases h0:c.2.2.2.2.length=0
 ·rw[Î (by rw[Ü,h0]; rfl)];exact⟨_,rfl,rfl,h64,hl⟩
 rw[Ñ (by rw[Ü]; exact decide_eq_true (by omega)),ğ (by simp only[ile,ā]; exact decide_eq_true (by omega))];exact⟨_,rfl,rfl,h64,by dsimp only; rw[List.length_drop]; omega⟩
def apP {b:Þ} (hg:Ċ b):(ě b []).2=0↔Ĕ (Ø b) ((Ì b).length+1)=true:=by
 unfold ě;rw[if_neg (by simp[(ê _).2 hg])];rw[show ū b []=(b,0) from rfl];dsimp only;rw[if_neg (by simp)]
 cases Ĕ (Ø b) ((Ì b).length+1)<;>simp
def anS {L:List Lk} {N:Nat} (hS:Ą L N) (ht:BX L N) (hno:Ĕ L N=false) {p:List Int} (hp:mh ((N:Int),L)=some (p,0)):(∃q,uR ((N:Int),L)=some q∧q.length=p.length)∧p.length≤60∧∀i∈p,0≤i∧i≤1000:=by
 obtain⟨K,l,hK,hfirst,hl,hrun⟩:=TA hS hno;obtain⟨q,q1,q2,q3,_⟩:=Aw hS hK (fG hl) (fL hl);obtain⟨r,r1,r2⟩:=aoS hS ht hno hK hfirst hl;have hN:=hS.n60;have hlen:=hS.len;rw[hrun,q1] at hp
 have e:q=p:=by
  have:=Option.some.inj hp;exact(Prod.mk.inj this).1
 subst e;refine⟨⟨r,r1,by omega⟩,by omega,fun i hi=>?_⟩;have:=AB.1 (q3 i hi);omega
def ahQ {b:Þ} (hn:∀g∈b.2.1,I64 g.2.2.2.2.1.1) {c:aj1} (hcn:∀g∈c.1.2.1,I64 g.2.2.2.2.1.1) (w y:Int):m9 b c w y=some true:=by
 unfold m9 mL;rw[art,À,art,À,ake]
 by_cases hf:fewP b=true
 case neg=>rw[ee.2 hf]; rfl
 have hI:In b:=⟨ajl hf,hn⟩;rw[hf,Î (by rfl)]
 by_cases hf2:fewP c.1=true
 case neg=>rw[ee.2 hf2]; rfl
 have hIc:In c.1:=⟨ajl hf2,hcn⟩;rw[hf2,Î (by rfl),Ü]
 by_cases l1:90<c.2.2.2.2.length
 ·rw[Ñ (decide_eq_true (by omega)),À]
 rw[Î (decide_eq_false (by omega)),w8 hIc,qP hIc.size (by omega),IF hI.size];have same0:jT K7 ((((0:Int),(0:Int)),[],[],[],[],[]),((0:Int),(0:Int)),false,(0:Int),[])=some true:=aoG
 by_cases hc:â b=0
 case neg =>
  rw[akd hI hc,À,À,À,Î (by simp[ine]),À,Ñ (bne_iff_ne.2 hc),À,ė,Ñ (beq_iff_eq.2 rfl),same0,À]
 have hg:=(ê b).1 hc;have hko:=apP hg
 cases ho:Ĕ (Ø b) ((Ì b).length+1) with
 |true =>
  rw[OH hg hn ho,À,À,À,Î (by simp[ine]),À,hc,Î (by rfl),ao1 hI (by simp),À,ajb,Ñ (beq_iff_eq.2 (hko.2 ho)),À,ė,Ñ (by rfl),same0,À]
 |false =>
  obtain⟨x,x1,x2,x3,x4,x5,x6,x7,x8,x9,x10,x11⟩:=XX hg hn ho;have hIx:In x.1:=x5.inn x6;rw[sJ] at x11;obtain⟨⟨r,r1,r2⟩,p1,p2⟩:=anS x5.sys x5.tied x10 x11;obtain⟨z,z1,z2,z3,z4⟩:=asI (c:=x) (by omega) (by rw[x2]; decide) (by omega) p2 w y
  have hIz:In z.1:=by rw[z2]; exact hIx
  rw[x1,À,À,À,Î (by simp[ine]),À,hc,Î (by rfl),ao1 hI (by simp),À,ajb,Î (beq_eq_false_iff_ne.2 fun h=>by rw[hko.1 h] at ho; cases ho),Î (by rfl)];dsimp only
  rw[qP hIx.size (by omega),À,x3,Î (by rfl),aoV hIx.size hI.size,À,x4,Î (by rfl),Li x5,À,show((((Ì x.1).length:Int)+1,Ø x.1):Sys)=((((Ì x.1).length+1:Nat):Int),Ø x.1) from by push_cast; rfl,r1,À,Ü,Ü,Î (by simp[ine,r2]),z1,À,À,ė,
   w8 hIz,À,qP hIz.size z4,À]
  simp[ieq]
end Go.Proofs.ZzM
end
