/- lemmas -/
import Derived.Test.YtenljaeklhlanaaGreatPlA
import Derived.Test.YtenljaeklhlanaaGreatMdTA
set_option linter.all false
noncomputable section
namespace Go.Proofs.ZzM
open Go Go.Am
def wA (n lo hi:Int):kO n lo hi=some (inP n lo hi):=by
 unfold kO aha inP ige ile
 cases h:decide (lo<=n)<;>simp_all
def Qp (n:Int):qp n=some (yH n):=by
 unfold qp acM;rw[wA]; rfl
def yd (s:Int×Int) (lo hi:Int):jU s lo hi=some (j7 s lo hi):=by
 unfold jU Km j7 ile
 cases decide (lo<=s.1)<;>cases decide (s.1<=s.2)<;>rfl
def ank {l:CK Int} (f:l.length<=1000000) (x:Int):Mg l x=some (l.contains x):=by
 unfold Mg acL;refine Eq.trans (Ē l (fun a=>a==x) (fun _=>some true) (some true) (some false) (fun _=>rfl) (fun i a hi ha d=>?_) (fun d=>?_)) ?_
 ·try dsimp only
  unfold xe;rw[Ì hi,Æ ha,È hi (by omega),õ]
 ·try dsimp only
  unfold xe;rw[Ó]
 ·have:l.any (fun a=>a==x)=l.contains x:=by
   rw[eM,dA,dW];constructor
   ·rintro⟨a,ha,e⟩; rw[<-eq_of_beq e]; exact ha
   ·intro h; exact⟨x,h,by simp⟩
  rw[this]
  cases l.contains x<;>rfl
def aeI {a b:CK Int} {i:Nat} {x:Int} (h:a[i]?=some x):á (a.take (i+1)) b=á (a.take i) b++if b.contains x then[] else[x]:=by
 rw[take_succ h,á,á,eS];congr 1
 cases d:b.contains x<;>simp only[eO,d,dR,fu,dr,if_false,if_true,eJ]
def Ws {a b:CK Int} (ha:a.length<=1000000) (hb:b.length<=1000000):lq a b=some (á a b):=by
 unfold lq Yz;refine ê a (fun i=>á (a.take i) b) _ rfl (fun i x hi d e=>?_) (fun e=>?_)
 ·try dsimp only
  unfold tP
  have f:(á (a.take i) b).length<=1000000:=by
   have:=rM (a.take i) b;rw[dm] at this;omega
  rw[Ì hi,Æ d,ank hb,À,aeI d]
  cases b.contains x with
  |true=>rw[Í (by rfl),È hi (by omega)]; simp
  |false=>rw[Ñ (by rfl),Æ d,Ð (by simp only[dH]; omega),Am.iff_true,È hi (by omega)]; simp
 ·try dsimp only
  unfold tP;rw[Ó,List.take_length]
def KL (a b:CK Int):Int:=(á a b).head?.getD 0
def JZ {a b:CK Int} (ha:a.length<=1000000) (hb:b.length<=1000000):qo a b=some (KL a b):=by
 unfold qo acJ KL;rw[Ws ha hb,À,Î]
 cases h:á a b with
 |nil=>rfl
 |cons x t =>
  rw[Í (by simp[ieq]; omega)];exact Æ (i:=0) rfl _
def B7 {b:ø} (e:b.2.1.length<=1000000) (id:Int):jm b id=some (match b.2.1.findIdx? (fun g=>g.1==id) with|some j=>(j:Int)|none=>-1):=by
 unfold jm YA;refine Eq.trans (Χ b.2.1 (fun g=>g.1==id) (fun z=>some z) (some (-1)) (fun i a hi ha d=>?_) (fun d=>?_)) ?_
 ·try dsimp only
  unfold tQ;rw[Ì hi,Æ ha,È hi (by omega),õ]
 ·try dsimp only
  unfold tQ;rw[Ó]
 ·cases List.findIdx? (fun g:æ=>g.1==id) b.2.1<;>rfl
def qI {b:ø} {id:Int}:(∃j g,b.2.1.findIdx? (fun g=>g.1==id)=some j/\b.2.1[j]?=some g/\î b id=some g)\/(b.2.1.findIdx? (fun g=>g.1==id)=none/\î b id=none):=by
 unfold î;rw[Ma]
 cases h:b.2.1.findIdx? (fun g=>g.1==id) with
 |none=>exact .inr ⟨rfl,rfl⟩
 |some j =>
  obtain⟨a,_,_⟩:=dN.1 h;exact .inl ⟨j,_,rfl,cX a,cX a⟩
def ŋ (b:ø) (id day:Int):Int:=match î b id with|some g=>if day<g.2.1 then 4 else 0|none=>5
def Bb {b:ø} (d:b.2.1.length<=1000000) (id day:Int):jv b id day=some (ŋ b id day):=by
 unfold jv Ta ŋ;rw[B7 d,À];rcases qI (b:=b) (id:=id) with⟨j,g,a,h2,e⟩|⟨a,h2⟩
 ·rw[a,e]
  try dsimp only
  rw[Í (by simp[ilt]),Æ h2,õ]
  by_cases hd:day<g.2.1
  ·rw[if_pos (by simpa[ilt] using hd),if_pos hd]
  ·rw[if_neg (by simpa[ilt] using hd),if_neg hd]
 ·rw[a,h2];rfl
def wG {b:ø} (hi:b.2.1.Pairwise fun a b=>a.1<b.1) (id day:Int):ŋ b id day=mu (ŝ b) id day:=by
 unfold ŋ mu;rw[vc hi]
 cases î b id<;>rfl
def Mr {b:ø} (r:b.2.2.2.1.length<=1000000) (id day:Int):jV b id day=some (match ś b id day with|some l=>(l,true)|none=>((0,(0,0),0),false)):=by
 unfold jV Yy;refine AH b.2.2.2.1 (fun _=>((0:Int),(0:Int),(0:Int),(0:Int))) _ (fun i=>∀l∈b.2.2.2.1.take i,(l.1==id&&inP day l.2.1.1 l.2.1.2)=false) rfl (by simp) (fun i a hi ha g o=>?_) (fun g o=>?_)
 ·try dsimp only
  unfold tO;rw[Ì hi,Æ ha]
  by_cases f:(a.1==id&&inP day a.2.1.1 a.2.1.2)=true
  ·refine .inl ?_;have d:=f;simp only[inP,cY,beq_iff_eq,decide_eq_true_eq] at d;rw[Ñ (by simp[ieq,d.1]),Ñ (by simp[ile,d.2.1]),Ñ (by simp[ile,d.2.2])]
   have p:ś b id day=some a:=by
    unfold ś;obtain⟨n,rfl⟩:=List.getElem?_eq_some_iff.1 ha;rw[List.find?_eq_some_iff_getElem];refine⟨f,i,n,rfl,fun j s=>?_⟩;have:=g b.2.2.2.1[j] (List.mem_iff_getElem.2 ⟨j,by rw[List.length_take]; omega,by rw[List.getElem_take]⟩);simp[this]
   rw[p]
  ·refine .inr ⟨fun l e=>?_,?_⟩
   ·rw[take_succ ha,dg,dj] at e;rcases e with e|rfl
    ·exact g l e
    ·simpa using f
   ·have d:=f;simp only[inP,cY,beq_iff_eq,decide_eq_true_eq] at d
    by_cases k:a.1=id
    ·by_cases h2:a.2.1.1<=day
     ·rw[Ñ (by simp[ieq,k]),Ñ (by simp[ile,h2]),Í (by simp[ile]; exact Int.lt_of_not_ge fun q=>d ⟨k,h2,q⟩),È hi (by omega)]
     ·rw[Ñ (by simp[ieq,k]),Í (by simp[ile]; omega),È hi (by omega)]
    ·rw[Í (by simp[ieq,k]),È hi (by omega)]
 ·try dsimp only
  unfold tO;rw[Ó]
  have:ś b id day=none:=by
   unfold ś;rw[List.find?_eq_none];intro l e;have:=g l (by rw[List.take_length]; exact e);simp[this]
  rw[this]
def alu {b:ø} (f:b.2.2.1.length<=1000000) (id day:Int):HZ b id day=some (KH b id day):=by
 unfold HZ Yr;refine Eq.trans (Ē b.2.2.1 (fun u=>u.1==id&&u.2==day) (fun _=>some true) (some true) (some false) (fun _=>rfl) (fun i a hi ha e=>?_) (fun e=>?_)) ?_
 ·try dsimp only
  unfold tJ;rw[Ì hi,Æ ha,Æ ha,È hi (by omega)]
  cases d:(a.1==id) with
  |false=>have:ieq a.1 id=false:=d; simp[this]
  |true =>
   have:ieq a.1 id=true:=d;rw[this]
   cases h2:(a.2==day) with
   |false=>have:ieq a.2 day=false:=h2; simp[this]
   |true=>have:ieq a.2 day=true:=h2; simp[this]
 ·try dsimp only
  unfold tJ;rw[Ó]
 ·unfold KH
  cases b.2.2.1.any _<;>rfl
def aju (a b:Nat):BL a b=some ((Nat.gcd a b:Nat):Int):=by
 unfold BL acQ;refine ñ (fun x:Int×Int=>∃c d:Nat,x=((c:Int),(d:Int))/\Nat.gcd c d=Nat.gcd a b) (fun x=>x.2.toNat) ?_ ⟨a,b,rfl,rfl⟩;rintro x ⟨c,d,rfl,e⟩
 cases d with
 |zero =>
  refine .inl fun f=>?_;rw[Nat.gcd_zero_right] at e;unfold xf;simp[e,ine]
 |succ d =>
  refine .inr ⟨(((d+1:Nat):Int),((c % (d+1):Nat):Int)),⟨d+1,c % (d+1),rfl,?_⟩,?_,fun f=>?_⟩
  ·rw[<-e,ir c (d+1),Nat.gcd_rec (d+1) c,ir]
  ·have:=g9 c (gT d);simp only[dl];omega
  ·unfold xf
   have g:ine ((d+1:Nat):Int) 0=true:=by simp[ine]; omega
   have h2:mX ((d+1:Nat):Int) 0=false:=by simp[mX]; omega
   simp only[g,Ñ Í h2];congr 1
def ajw {n:Int} (h : -9223372036854775807<=n/\n<=9223372036854775807):H8 n=some (n.natAbs:Int):=by
 unfold H8 acS
 by_cases a:n<0
 ·rw[Ñ (by simpa[ilt] using a),Ï (by omega) (by omega)];congr 1;omega
 ·rw[Í (by simpa[ilt] using a)];congr 1;omega
def ajq (r:Int×Int):BJ r=some (J9 r):=by
 unfold BJ Tf J9
 by_cases d:1<=r.2
 ·rw[Í (by simp[ilt]; omega)]
  by_cases h2:r.2<=2147483647
  ·rw[Í (by simp[igt]; omega)]
   by_cases g:r.1 < -2147483647
   ·rw[Ñ (by simp[ilt]; omega)]
    have:¬((r.1.natAbs:Int)<=2147483647):=by omega
    simp[this]
   ·rw[Í (by simp[ilt]; omega)]
    by_cases f:2147483647<r.1
    ·rw[Ñ (by simp[igt]; omega)]
     have:¬((r.1.natAbs:Int)<=2147483647):=by omega
     simp[this]
    ·rw[Í (by simp[igt]; omega),ajw ⟨by omega,by omega⟩,À]
     have a:r.2=((r.2.natAbs:Nat):Int):=by omega
     have e:((r.1.natAbs:Int)<=2147483647):=by omega
     rw[a,aju,À,<-a];congr 1;rw[eM];simp only[ieq,beq_iff_eq,d,h2,e,decide_true,eI,decide_eq_true_eq];omega
  ·rw[Ñ (by simp[igt]; omega)];simp[h2]
 ·rw[Ñ (by simp[ilt]; omega)];simp[d]
def ajn (g:æ):BH g=some (rQ g):=by
 unfold BH S9 rQ;rw[ajq,wA,wA,Qp,wA,yd,wA];simp only[À]
 have e:igt g.2.2.2.2.1.2 100=!decide (g.2.2.2.2.1.2<=100):=by
  rw[eM]; simp[igt]
 rw[e]
 cases J9 g.2.2.2.2.1<;>cases inP g.2.2.2.2.1.1 (-1000) 1000<;>cases decide (g.2.2.2.2.1.2<=100)<;>cases inP g.1 1 1099511627776<;>cases yH g.2.1<;>cases inP g.2.2.1 1 1125899906842624<;>cases j7 g.2.2.2.1 (-1073741824) 1073741824<;>rfl
def aam {l:CK Int}:∀(m:CK Int) (j:Nat) (x:Bool),Ĝ (yA l) j m=some x->x=false:=by
 intro m
 induction m with
 |nil=>intro j x h; cases h
 |cons a m e =>
  intro j x h;unfold Ĝ at h
  cases d:yA l j a with
  |none=>rw[d] at h; exact e _ _ h
  |some y =>
   rw[d] at h;cases h;unfold yA at d
   split at d
   ·cases d; rfl
   ·split at d
    ·cases d; rfl
    ·cases d
def adT {l:CK Int} (g:l.length<=1000000):AQ l=some (uz l):=by
 unfold AQ Yu;refine Eq.trans (jt l (yA l) some (some (decide (l.length<=6))) (fun i a hi ha e=>?_) (fun e=>?_)) ?_
 ·try dsimp only
  unfold tM;rw[Ì hi,Æ ha,wA,À];unfold yA
  cases inP a 1 1099511627776 with
  |false=>rfl
  |true =>
   simp only[dR,ä,dr,if_false];rcases fK i with h0|h0
   ·subst h0
    have:igt ((0:Nat):Int) 0=false:=by simp[igt]
    rw[Í this,È hi (by omega)];simp[lU]
   ·obtain⟨q,d⟩:=uQ hi h0
    have f:igt (i:Int) 0=true:=by simp[igt]; omega
    rw[Ñ f,Æ ha,PX h0 (by omega),HE h0 d];simp only[lU,h0,decide_true,Bool.true_and,d,Option.any_some];unfold ile
    cases h2:decide (a<=q) with
    |true=>rfl
    |false =>
     rw[ä,È hi (by omega)];rfl
 ·try dsimp only
  unfold tM;rw[Ó,Î];simp[ile];omega
 ·unfold uz
  cases h:Ĝ (yA l) 0 l with
  |none=>rfl
  |some x=>rw[aam _ _ _ h]
def ajl {c:Cmp} (d:c.2.2.1.length<=1000000) (a:c.2.2.2.1.length<=1000000):BF c=some (I1 c):=by
 unfold BF S6 I1;rw[adT d,adT a,wA,Qp,wA,wA,yd];simp only[À]
 cases uz c.2.2.1<;>cases uz c.2.2.2.1<;>cases inP c.1 1 1099511627776<;>cases yH c.2.1<;>cases inP c.2.2.2.2.1 (-1125899906842624) 1125899906842624<;>cases inP c.2.2.2.2.2.1 0 1073741824<;>cases j7 c.2.2.2.2.2.2 (-10000) 10000<;>rfl
def WB (b:ø) (u:Int×Int):Int:=if !yH u.2 then 1 else ŋ b u.1 u.2
def abR {b:ø} (hi:b.2.1.Pairwise fun a b=>a.1<b.1) (u:Int×Int):WB b u=Z7 (ŝ b) u.1 u.2:=by
 unfold WB Z7;rw[wG hi]
def Ff (e:Int):BY Int:=if e=0 then none else some e
def JG {α:Type} (E:Nat->α->Int):∀(k:Nat) (l:CK α),Ĝ (fun i a=>Ff (E i a)) k l=(l.mapIdx fun i a=>E (i+k) a).find? (fun e=>e != 0)
 |_,[]=>rfl
 |k,a::t=>by
  unfold Ĝ;rw[JG E (k+1) t,List.mapIdx_cons,List.find?_cons];unfold Ff
  by_cases h:E k a=0
  ·simp only[h,if_true,dL];have:((0:Int) != 0)=false:=rfl;rw[this]
   have e:(fun(i:Nat) (a:α)=>E (i+(k+1)) a)=fun i a=>E (i+1+k) a:=by
    funext i a;congr 1;omega
   rw[e]
  ·simp only[h,if_false,dL]
   have:(E k a != 0)=true:=by simpa using h
   rw[this]
def PF {α:Type} (E:Nat->α->Int) (l:CK α):Ĝ (fun i a=>Ff (E i a)) 0 l=(l.mapIdx E).find? (fun e=>e != 0):=JG E 0 l
def PG {α:Type} (E:α->Int) (l:CK α):Ĝ (fun _ a=>Ff (E a)) 0 l=(l.map E).find? (fun e=>e != 0):=by
 rw[JG (fun _ a=>E a) 0 l];congr 1
 exact il (by simp) fun i d h2=>by simp
def alo {b:ø} (f:jp b):HX b=some (((b.2.2.1.map (WB b)).find? (fun e=>e != 0)).getD 0):=by
 have j:=f.gauges;have h2:=f.uses;unfold HX Ym;refine Eq.trans (jt b.2.2.1 (fun _ u=>Ff (WB b u)) some (some 0) (fun i a hi ha g=>?_) (fun g=>?_)) ?_
 ·try dsimp only
  unfold tB;rw[Ì hi,Æ ha,Qp,À];unfold WB Ff
  cases yH a.2 with
  |false=>rfl
  |true =>
   rw[Í (by rfl),Æ ha,Æ ha,Bb (b:=((b.1.1,b.1.2),b.2.1,b.2.2.1,b.2.2.2.1,b.2.2.2.2.1,b.2.2.2.2.2)) (by simp only; omega),À,È hi (by omega)];have e:ŋ ((b.1.1,b.1.2),b.2.1,b.2.2.1,b.2.2.2.1,b.2.2.2.2.1,b.2.2.2.2.2) a.1 a.2=ŋ b a.1 a.2:=rfl;rw[e]
   by_cases d:ŋ b a.1 a.2=0
   ·rw[Í (by simp[ine,d])]; simp[d]
   ·rw[Ñ (by simp[ine,d])]; simp[d]
 ·try dsimp only
  unfold tB;rw[Ó]
 ·rw[PG]
  cases List.find? (fun e=>e != 0) (b.2.2.1.map (WB b))<;>rfl
def RK (b:ø) (i:Nat) (l:IE):Int :=
 if !j7 l.2.1 0 20000 then 1 else if !inP l.2.2 0 1048576 then 1 else if ŋ b l.1 l.2.1.1 != 0 then ŋ b l.1 l.2.1.1 else
 if (b.2.2.2.1.take i).any (fun x=>x.1==l.1&&(decide (x.2.1.1<=l.2.1.2)&&decide (l.2.1.1<=x.2.1.2))) then 9 else
 if b.2.2.1.any (fun u=>u.1==l.1&&inP u.2 l.2.1.1 l.2.1.2) then 9 else 0
def ahu {b:ø} (hi:b.2.1.Pairwise fun a b=>a.1<b.1) (i:Nat) (l:IE):RK b i l=LD b (ŝ b) i l:=by
 unfold RK LD;rw[wG hi]
def ajm {b:ø} (z:jp b):BG b=some (((b.2.2.2.1.mapIdx (RK b)).find? (fun e=>e != 0)).getD 0):=by
 have F:=z.gauges;have h2:=z.uses;have E:=z.loans;unfold BG S7;refine Eq.trans (jt b.2.2.2.1 (fun i l=>Ff (RK b i l)) some (some 0) (fun i l hi A n=>?_) (fun n=>?_)) ?_
 ·try dsimp only
  unfold pV;rw[Ì hi,Æ A,yd,À];unfold RK Ff
  cases j7 l.2.1 0 20000 with
  |false=>rfl
  |true =>
  rw[Í (by rfl),wA,À]
  cases inP l.2.2 0 1048576 with
  |false=>rfl
  |true =>
  rw[Í (by rfl),Bb (b:=((b.1.1,b.1.2),b.2.1,b.2.2.1,b.2.2.2.1,b.2.2.2.2.1,b.2.2.2.2.2)) (by simp only; omega),À];have e:ŋ ((b.1.1,b.1.2),b.2.1,b.2.2.1,b.2.2.2.1,b.2.2.2.2.1,b.2.2.2.2.2) l.1 l.2.1.1=ŋ b l.1 l.2.1.1:=rfl;rw[e]
  by_cases r:ŋ b l.1 l.2.1.1=0
  ·rw[Í (by simp[ine,r])]
   have q:(b.2.2.2.1.take i).length=i:=by rw[dm]; omega
   have f:Ê (fun(t:Int) o=>mJ b.2.2.1 l.1 l.2.1.1 l.2.1.2 t (fun v=>o v) (fun s=>(some s:BY Int)) (fun _=>ck ((i:Int)+(1:Int)) fun y=>n y)) (0:Int)=if b.2.2.1.any (fun u=>u.1==l.1&&inP u.2 l.2.1.1 l.2.1.2) then some 9 else n ((i:Int)+1):=by
    refine Ē b.2.2.1 _ (fun _=>some 9) (some 9) (n ((i:Int)+1)) (fun _=>rfl) (fun j a k ha d=>?_) (fun d=>?_)
    ·try dsimp only
     unfold mJ;rw[Ì k,Æ ha,Æ ha,wA,À,È k (by omega)]
     cases p:(a.1==l.1) with
     |false=>have:ieq a.1 l.1=false:=p; simp[this]
     |true =>
      have:ieq a.1 l.1=true:=p;rw[this]
      cases inP a.2 l.2.1.1 l.2.1.2<;>simp
    ·try dsimp only
     unfold mJ;rw[Ó];dsimp only;rw[È hi (by omega)]
   try dsimp only
   rw[f];refine dY (Ē (b.2.2.2.1.take i) (fun x=>x.1==l.1&&(decide (x.2.1.1<=l.2.1.2)&&decide (l.2.1.1<=x.2.1.2))) (fun _=>some 9) (some 9) (if b.2.2.1.any (fun u=>u.1==l.1&&inP u.2 l.2.1.1 l.2.1.2) then some 9 else n ((i:Int)+1)) (fun _=>rfl) (fun j a k ha d=>?_) (fun d=>?_)) ?_
   ·try dsimp only
    unfold pU;rw[q] at k
    have g:b.2.2.2.1[j]?=some a:=by rwa [List.getElem?_take_of_lt k] at ha
    rw[Ñ (show ilt (j:Int) (i:Int)=true by simp[ilt]; omega),Æ g,Æ g,Æ g,È k (by omega)]
    cases p:(a.1==l.1) with
    |false=>have:ieq a.1 l.1=false:=p; simp[this]
    |true =>
     have:ieq a.1 l.1=true:=p;rw[this]
     cases D:decide (a.2.1.1<=l.2.1.2)<;>cases C:decide (l.2.1.1<=a.2.1.2)<;>simp[ile,D,C,õ]<;>simp_all
   ·try dsimp only
    unfold pU;rw[q,Í (show ilt (i:Int) (i:Int)=false by simp[ilt])]
   ·simp only[r]
    cases List.any (b.2.2.2.1.take i) _<;>cases b.2.2.1.any _<;>rfl
  ·rw[Ñ (by simp[ine,r])]; simp[r]
 ·try dsimp only
  unfold pV;rw[Ó]
 ·rw[PF (RK b)]
  cases(b.2.2.2.1.mapIdx (RK b)).find? (fun e=>e != 0)<;>rfl
def CB (b:ø) (c:Cmp):Int :=
 if (c.2.2.1++c.2.2.2.1).any (fun id=>ŋ b id c.2.1==5) then 5 else
 if (c.2.2.1++c.2.2.2.1).any (fun id=>ŋ b id c.2.1 != 0) then 4 else
 if (c.2.2.1++c.2.2.2.1).any (fun id=>(ś b id c.2.1).isSome) then 9 else
 if 1<(á c.2.2.1 c.2.2.2.1).length then 1 else if 1<(á c.2.2.2.1 c.2.2.1).length then 1 else
 if (á c.2.2.1 c.2.2.2.1).length+(á c.2.2.2.1 c.2.2.1).length=0 then 1 else 0
def aj3 {b:ø} (hi:b.2.1.Pairwise fun a b=>a.1<b.1) (c:Cmp):CB b c=uR b (ŝ b) c:=by
 unfold CB uR;simp only[wG hi]
 by_cases d:(c.2.2.1++c.2.2.2.1).any (fun id=>mu (ŝ b) id c.2.1==5)=true
 ·rw[if_pos d,if_pos d]
 ·rw[if_neg d,if_neg d]
  have e:(c.2.2.1++c.2.2.2.1).any (fun id=>mu (ŝ b) id c.2.1 != 0)=(c.2.2.1++c.2.2.2.1).any (fun id=>mu (ŝ b) id c.2.1==4):=by
   rw[eM,dA,dA];constructor
   ·rintro⟨x,g,h⟩;refine⟨x,g,?_⟩;rcases Ej (ŝ b) x c.2.1 with f|f|f
    ·rw[f] at h; cases h
    ·rw[f]; rfl
    ·exact absurd (dA.2 ⟨x,g,by rw[f]; rfl⟩) d
   ·rintro⟨x,g,h⟩;refine⟨x,g,?_⟩;rw[eq_of_beq h]; rfl
  rw[e]
def aac {b:ø} {id d:Int}:(ŋ b id d==5)=(b.2.1.findIdx? (fun g=>g.1==id)).isNone:=by
 unfold ŋ;rcases qI (b:=b) (id:=id) with⟨j,g,a,h2,e⟩|⟨a,h2⟩
 ·rw[a,e]
  try dsimp only
  split<;>rfl
 ·rw[a,h2]; rfl
set_option maxHeartbeats 1000000 in
def ZT {b:ø} (C:jp b) {c:Cmp} (J:c.2.2.1.length<=1000) (I:c.2.2.2.1.length<=1000):ku b c=some (CB b c):=by
 have M:=C.gauges;have K:=C.loans;unfold ku xb CB;rw[Ð (by omega),Am.iff_true,List.nil_append,Ð (by omega),Am.iff_true]
 have E:(c.2.2.1++c.2.2.2.1).length<=2000:=by rw[dc]; omega
 generalize H:c.2.2.1++c.2.2.2.1=P at E
 have s:∀{i:Nat},i<P.length->((ile (0:Int) (i:Int))&&(ilt (i:Int) (ç P)))=true:=fun {i} hi=>by simp[ile,ilt,ç]; omega
 have q:Ê (fun(o:Int) k=>Μ b.1.1 b.1.2 b.2.1 b.2.2.1 b.2.2.2.1 b.2.2.2.2.1 b.2.2.2.2.2 c.2.1 P o (fun p=>k p) (fun n=>some n) (fun _=>Ä (lq c.2.2.1 c.2.2.2.1) fun f=>Ä (lq c.2.2.2.1 c.2.2.1) fun d=>ifb (igt (Õ f) (1:Int)) (some (1:Int)) (ifb (igt (Õ d) (1:Int)) (some (1:Int)) (ck ((Õ f)+(Õ d)) fun r=>ifb (ieq r (0:Int)) (some (1:Int)) (some (0:Int)))))) (0:Int) =
  some (if P.any (fun id=>(ś b id c.2.1).isSome) then 9 else if 1<(á c.2.2.1 c.2.2.2.1).length then 1 else if 1<(á c.2.2.2.1 c.2.2.1).length then 1 else if (á c.2.2.1 c.2.2.2.1).length+(á c.2.2.2.1 c.2.2.1).length=0 then 1 else 0):=by
  refine dY (Ē P (fun id=>(ś b id c.2.1).isSome) (fun _=>some 9) (some 9) (some (if 1<(á c.2.2.1 c.2.2.2.1).length then 1 else if 1<(á c.2.2.2.1 c.2.2.1).length then 1 else if (á c.2.2.1 c.2.2.2.1).length+(á c.2.2.2.1 c.2.2.1).length=0 then 1 else 0)) (fun _=>rfl) (fun i a hi ha t=>?_) (fun t=>?_)) ?_
  ·try dsimp only
   unfold Μ;rw[Ì hi,à (s hi),é ha,Mr (b:=((b.1.1,b.1.2),b.2.1,b.2.2.1,b.2.2.2.1,b.2.2.2.2.1,b.2.2.2.2.2)) (by simp only; omega),À,È hi (by omega)];have e:ś ((b.1.1,b.1.2),b.2.1,b.2.2.1,b.2.2.2.1,b.2.2.2.2.1,b.2.2.2.2.2) a c.2.1=ś b a c.2.1:=rfl;rw[e]
   cases ś b a c.2.1<;>rfl
  ·try dsimp only
   unfold Μ;rw[Ó];dsimp only;have G:=rM c.2.2.1 c.2.2.2.1;have F:=rM c.2.2.2.1 c.2.2.1;rw[Ws (by omega) (by omega),À,Ws (by omega) (by omega),À];simp only[Î]
   by_cases A:1<(á c.2.2.1 c.2.2.2.1).length
   ·rw[Ñ (by simp[igt]; omega),if_pos A]
   ·rw[Í (by simp[igt]; omega),if_neg A]
    by_cases z:1<(á c.2.2.2.1 c.2.2.1).length
    ·rw[Ñ (by simp[igt]; omega),if_pos z]
    ·rw[Í (by simp[igt]; omega),if_neg z,Ï (by omega) (by omega)]
     by_cases y:(á c.2.2.1 c.2.2.2.1).length+(á c.2.2.2.1 c.2.2.1).length=0
     ·rw[Ñ (by simp[ieq]; omega),if_pos y]
     ·rw[Í (by simp[ieq]; omega),if_neg y]
  ·cases P.any _<;>rfl
 have l:Ê (fun(v:Int) u=>jl b.1.1 b.1.2 b.2.1 b.2.2.1 b.2.2.2.1 b.2.2.2.2.1 b.2.2.2.2.2 c.2.1 P v (fun x=>u x) (fun D=>some D) (fun _=>Ê (fun(o:Int) k=>Μ b.1.1 b.1.2 b.2.1 b.2.2.1 b.2.2.2.1 b.2.2.2.2.1 b.2.2.2.2.2 c.2.1 P o (fun p=>k p) (fun n=>some n) (fun _=>Ä (lq c.2.2.1 c.2.2.2.1) fun f=>Ä (lq c.2.2.2.1 c.2.2.1) fun d=>ifb (igt (Õ f) (1:Int)) (some (1:Int)) (ifb (igt (Õ d) (1:Int)) (some (1:Int)) (ck ((Õ f)+(Õ d)) fun r=>ifb (ieq r (0:Int)) (some (1:Int)) (some (0:Int)))))) (0:Int))) (0:Int) =
  some (if P.any (fun id=>ŋ b id c.2.1 != 0) then 4 else if P.any (fun id=>(ś b id c.2.1).isSome) then 9 else if 1<(á c.2.2.1 c.2.2.2.1).length then 1 else if 1<(á c.2.2.2.1 c.2.2.1).length then 1 else if (á c.2.2.1 c.2.2.2.1).length+(á c.2.2.2.1 c.2.2.1).length=0 then 1 else 0):=by
  rw[q];refine dY (Ē P (fun id=>ŋ b id c.2.1 != 0) (fun _=>some 4) (some 4) (some (if P.any (fun id=>(ś b id c.2.1).isSome) then 9 else if 1<(á c.2.2.1 c.2.2.2.1).length then 1 else if 1<(á c.2.2.2.1 c.2.2.1).length then 1 else if (á c.2.2.1 c.2.2.2.1).length+(á c.2.2.2.1 c.2.2.1).length=0 then 1 else 0)) (fun _=>rfl) (fun i a hi ha t=>?_) (fun t=>?_)) ?_
  ·try dsimp only
   unfold jl;rw[Ì hi,à (s hi),é ha,Bb (b:=((b.1.1,b.1.2),b.2.1,b.2.2.1,b.2.2.2.1,b.2.2.2.2.1,b.2.2.2.2.2)) (by simp only; omega),À,È hi (by omega)];have e:ŋ ((b.1.1,b.1.2),b.2.1,b.2.2.1,b.2.2.2.1,b.2.2.2.2.1,b.2.2.2.2.2) a c.2.1=ŋ b a c.2.1:=rfl;rw[e,õ]
  ·try dsimp only
   unfold jl;rw[Ó]
  ·cases P.any (fun id=>ŋ b id c.2.1 != 0)<;>rfl
 rw[l];refine dY (Ē P (fun id=>ŋ b id c.2.1==5) (fun _=>some 5) (some 5) (some (if P.any (fun id=>ŋ b id c.2.1 != 0) then 4 else if P.any (fun id=>(ś b id c.2.1).isSome) then 9 else if 1<(á c.2.2.1 c.2.2.2.1).length then 1 else if 1<(á c.2.2.2.1 c.2.2.1).length then 1 else if (á c.2.2.1 c.2.2.2.1).length+(á c.2.2.2.1 c.2.2.1).length=0 then 1 else 0)) (fun _=>rfl) (fun i a hi ha t=>?_) (fun t=>?_)) ?_
 ·try dsimp only
  unfold lK;rw[Ì hi,à (s hi),é ha,B7 (b:=((b.1.1,b.1.2),b.2.1,b.2.2.1,b.2.2.2.1,b.2.2.2.2.1,b.2.2.2.2.2)) (by simp only; omega),À,È hi (by omega),aac]
  try dsimp only
  cases List.findIdx? (fun g:æ=>g.1==a) b.2.1 with
  |none=>rfl
  |some j =>
   have:ilt (j:Int) 0=false:=by simp[ilt]
   rw[Í this]; rfl
 ·try dsimp only
  unfold lK;rw[Ó]
 ·cases P.any (fun id=>ŋ b id c.2.1==5)<;>rfl
structure Pre (b:ø):Prop where
 size:jp b
 gauge:∀g∈b.2.1,rQ g=true
 cmp:∀c∈b.2.2.2.2.1,yH c.2.1=true/\(á c.2.2.1 c.2.2.2.1).length<=1/\(á c.2.2.2.1 c.2.2.1).length<=1
 look:∀n∈b.2.2.2.2.2,yH n.2=true
def XP {c:Cmp} (h:I1 c=true):yH c.2.1=true:=by
 have:=((Ŷ c).1 h).2.1;simp[yH,inP,this.1,this.2]
def Ŧ.pre {b:ø} (h:Ŧ b):Pre b :=
 ⟨h.size,h.gauge,fun c a=>⟨XP (h.nums a),(h.lefts a).1,(h.lefts a).2.1⟩,fun n d=>(by have:=(WD h (h.looks n d)).1; simp[yH,inP,this.1,this.2])⟩
def UL {a b:CK Int} (h:(á a b).length<=1) {id:Int} (h0:id≠0):KL a b=id↔id∈a/\id∉b:=by
 rw[<-lf];unfold KL
 cases d:á a b with
 |nil =>
  simp only[List.head?_nil,Option.getD_none,ik,iff_false];exact fun e=>h0 e.symm
 |cons x t =>
  have:t=[]:=by
   rw[d] at h;simp only[dk] at h;exact dv.1 (by omega)
  subst this;simp only[List.head?_cons,fZ,dj];exact eq_comm
def LM (b:ø) (g:æ) (d:Int):Bool :=
 g.2.1==d||b.2.2.2.2.1.any (fun c=>c.2.1==d&&(KL c.2.2.1 c.2.2.2.1==g.1||KL c.2.2.2.1 c.2.2.1==g.1))||b.2.2.2.2.2.any (fun n=>n.1==g.1&&n.2==d)
def als {b:ø} (q:jp b) (g:æ) (d:Int):HY b g d=some (LM b g d):=by
 have f:=q.compares;have h2:=q.looks;unfold HY Yq LM
 cases r:(g.2.1==d) with
 |true =>
  have:ieq g.2.1 d=true:=r;rw[Ñ this];simp
 |false =>
  have:ieq g.2.1 d=false:=r;rw[Í this]
  have e:Ê (fun(l:Int) j=>oO d b.2.2.2.2.2 g.1 l (fun o=>j o) (fun k=>some k) (fun _=>some false)) (0:Int)=some (b.2.2.2.2.2.any (fun n=>n.1==g.1&&n.2==d)):=by
   refine dY (Ē b.2.2.2.2.2 (fun n=>n.1==g.1&&n.2==d) (fun _=>some true) (some true) (some false) (fun _=>rfl) (fun i a hi ha p=>?_) (fun p=>?_)) ?_
   ·try dsimp only
    unfold oO;rw[Ì hi,Æ ha,Æ ha,È hi (by omega)]
    cases f:(a.1==g.1) with
    |false=>have:ieq a.1 g.1=false:=f; simp[this]
    |true =>
     have:ieq a.1 g.1=true:=f;rw[this]
     cases h2:(a.2==d) with
     |false=>have:ieq a.2 d=false:=h2; simp[this]
     |true=>have:ieq a.2 d=true:=h2; simp[this]
   ·try dsimp only
    unfold oO;rw[Ó]
   ·cases b.2.2.2.2.2.any _<;>rfl
  rw[e];refine dY (Ē b.2.2.2.2.1 (fun c=>c.2.1==d&&(KL c.2.2.1 c.2.2.2.1==g.1||KL c.2.2.2.1 c.2.2.1==g.1)) (fun _=>some true) (some true) (some (b.2.2.2.2.2.any (fun n=>n.1==g.1&&n.2==d))) (fun _=>rfl) (fun i a hi ha p=>?_) (fun p=>?_)) ?_
  ·have t:=q.piles a (df ha)
   try dsimp only
   unfold tG;rw[Ì hi,Æ ha,JZ (by omega) (by omega),JZ (by omega) (by omega),È hi (by omega)];simp only[À]
   cases f:(a.2.1==d) with
   |false=>have:ieq a.2.1 d=false:=f; simp[this]
   |true =>
    have:ieq a.2.1 d=true:=f;rw[this]
    cases h2:(KL a.2.2.1 a.2.2.2.1==g.1) with
    |true=>have:ieq (KL a.2.2.1 a.2.2.2.1) g.1=true:=h2; simp[this]
    |false =>
     have:ieq (KL a.2.2.1 a.2.2.2.1) g.1=false:=h2;rw[this]
     cases s:(KL a.2.2.2.1 a.2.2.1==g.1) with
     |true=>have:ieq (KL a.2.2.2.1 a.2.2.1) g.1=true:=s; simp[this]
     |false=>have:ieq (KL a.2.2.2.1 a.2.2.1) g.1=false:=s; simp[this]
  ·try dsimp only
   unfold tG;rw[Ó]
  ·cases b.2.2.2.2.1.any _<;>rfl
def ajd {b:ø} (h:Pre b) {g:æ} (n:g∈b.2.1) {d:Int}:LM b g d=true↔d∈Ý b g:=by
 have a:g.1≠0:=by
  have:=((vY g).1 (h.gauge g n)).2.2.2.1;omega
 rw[Γ];unfold LM;simp only[Bool.or_eq_true,List.any_eq_true,Bool.and_eq_true,beq_iff_eq,or_assoc];refine or_congr eq_comm (or_congr ?_ Iff.rfl);constructor
 ·rintro⟨c,f,e,i⟩;obtain⟨_,k,j⟩:=h.cmp c f;refine⟨c,f,?_,e⟩;rw[UL k a,UL j a] at i;intro l;rw[eM,dW,dW] at l;rcases i with⟨x,y⟩|⟨x,y⟩
  ·exact y (l.1 x)
  ·exact y (l.2 x)
 ·rintro⟨c,f,i,e⟩;obtain⟨_,k,j⟩:=h.cmp c f;refine⟨c,f,e,?_⟩;rw[UL k a,UL j a]
  by_cases ha:g.1∈c.2.2.1
  ·by_cases hb:g.1∈c.2.2.2.1
   ·exact absurd (by rw[eM,dW,dW]; exact⟨fun _=>hb,fun _=>ha⟩) i
   ·exact .inl ⟨ha,hb⟩
  ·by_cases hb:g.1∈c.2.2.2.1
   ·exact .inr ⟨hb,ha⟩
   ·exact absurd (by rw[eM,dW,dW]; exact⟨fun x=>absurd x ha,fun x=>absurd x hb⟩) i
def nx (v:Int) (D:CK Int):Int:=D.foldl (fun m d=>if v<d then min m d else m) 20001
def agN (v:Int) (D:CK Int) (d:Int):nx v (D++[d])=if v<d then min (nx v D) d else nx v D:=by
 unfold nx;rw[List.foldl_append];rfl
def UM (v:Int):∀D:CK Int,nx v D<=20001/\(∀d∈D,v<d->nx v D<=d)/\(nx v D=20001\/(nx v D∈D/\v<nx v D)):=by
 suffices H:∀(n:Nat) (D:CK Int),D.length=n->nx v D<=20001/\(∀d∈D,v<d->nx v D<=d)/\(nx v D=20001\/(nx v D∈D/\v<nx v D)) from fun D=>H _ D rfl
 intro n
 induction n with
 |zero =>
  intro D k;rw[dv.1 k];exact⟨dQ _,by simp,.inl rfl⟩
 |succ n j =>
  intro i f
  obtain⟨D,d,rfl⟩:∃D d,i=D++[d]:=by
   rcases List.eq_nil_or_concat i with rfl|⟨L,b,rfl⟩
   ·simp at f
   ·exact⟨L,b,by simp⟩
  obtain⟨l,h2,a⟩:=j D (by simpa using f);rw[agN]
  by_cases hd:v<d
  ·rw[if_pos hd];refine⟨by omega,fun x e g=>?_,?_⟩
   ·rcases dg.1 e with e|e
    ·have:=h2 x e g; omega
    ·rw[dj] at e; omega
   ·rcases Int.le_total (nx v D) d with h|h
    ·rw[Int.min_eq_left h];rcases a with a|a
     ·exact .inl a
     ·exact .inr ⟨by simp[a.1],a.2⟩
    ·rw[Int.min_eq_right h];exact .inr ⟨by simp,hd⟩
  ·rw[if_neg hd];refine⟨l,fun x e g=>?_,?_⟩
   ·rcases dg.1 e with e|e
    ·exact h2 x e g
    ·rw[dj] at e; omega
   ·rcases a with a|a
    ·exact .inl a
    ·exact .inr ⟨by simp[a.1],a.2⟩
def amA {D:CK Int} (o:D.length<=1000000) (v:Int) (K:Int->BY (CK (Int×Int))) :
 Ê (fun(d:Int×Int) e=>mK v D d.1 d.2 (fun g f=>e (g,f)) K) ((20001:Int),(0:Int))=K (nx v D):=by
 refine ñ (fun x:Int×Int=>∃k:Nat,k<=D.length/\x=(nx v (D.take k),(k:Int))) (fun x=>D.length-x.2.toNat) ?_ ⟨0,by omega,rfl⟩;rintro x ⟨k,n,rfl⟩;rcases dq k D.length with a|l
 ·refine .inr ⟨(nx v (D.take (k+1)),((k+1:Nat):Int)),⟨k+1,a,rfl⟩,by simp only[Int.toNat_natCast]; omega,fun i=>?_⟩;have ha:D[k]?=some D[k]:=List.getElem?_eq_getElem a;unfold mK;have j:ç D=((D.length:Nat):Int):=rfl;rw[Ì a,j,ő a,é ha,take_succ ha,agN]
  by_cases h:v<D[k]
  ·rw[Ñ (by simpa[igt] using h),ő a,é ha,È a (by omega),if_pos h,Ps];simp
  ·rw[Í (by simpa[igt] using h),È a (by omega),if_neg h];simp
 ·have:k=D.length:=by omega
  subst this;refine .inl fun i=>?_;unfold mK;rw[Ó,List.take_length]
def aft (b:ø) (g:æ) (D:CK Int) (v:Int):CK Int:=(WX D).filter fun d=>decide (v<d)&&LM b g d
def Qj {b:ø} {g:æ} {D:CK Int} (n:∀d∈D,d<=20000) (v:Int):aft b g D v=if nx v D<20001 then(if LM b g (nx v D) then nx v D::aft b g D (nx v D) else aft b g D (nx v D)) else[]:=by
 obtain⟨o,h2,f⟩:=UM v D;refine abE ((D5 D).sublist gQ) ?_ fun x=>?_
 ·split
  ·split
   ·rw[dJ];refine⟨fun a ha=>?_,(D5 D).sublist gQ⟩;have:=(dX.1 ha).2;simp at this;omega
   ·exact(D5 D).sublist gQ
  ·exact List.Pairwise.nil
 ·have i:∀v x,x∈aft b g D v↔x∈D/\v<x/\LM b g x=true:=by
   intro v x;unfold aft;rw[List.mem_filter,wH];simp
  rw[i]
  split
  ·rename_i k
   have j:nx v D∈D/\v<nx v D:=by
    rcases f with f|f
    ·omega
    ·exact f
   split
   ·rename_i ha;rw[dh,i];constructor
    ·rintro⟨a,c,e⟩;have:=h2 x a c;rcases Int.lt_or_eq_of_le this with h|h
     ·exact .inr ⟨a,h,e⟩
     ·exact .inl h.symm
    ·rintro(rfl|⟨a,c,e⟩)
     ·exact⟨j.1,j.2,ha⟩
     ·exact⟨a,by omega,e⟩
   ·rename_i ha;rw[i];constructor
    ·rintro⟨a,c,e⟩;have:=h2 x a c;rcases Int.lt_or_eq_of_le this with h|h
     ·exact⟨a,h,e⟩
     ·rw[<-h] at e; exact absurd e ha
    ·rintro⟨a,c,e⟩;exact⟨a,by omega,e⟩
  ·rename_i l;constructor
   ·rintro⟨a,c,e⟩;have:=h2 x a c;have:=n x a;omega
   ·intro h; cases h
def alf {b:ø} {g:æ} {D:CK Int} (v:Int):(aft b g D v).length<=D.length :=
 dw (dP _ _) (Fs D)
set_option maxHeartbeats 1000000 in
def akL {b:ø} (f:jp b) {i:Nat} {g:æ} (t:b.2.1[i]?=some g) {D:CK Int} (C:D.length<=1000000) (n:∀d∈D,d<=20000) {out:CK (Int×Int)} (G:out.length+D.length<=1000000000) (K:CK (Int×Int)->BY (CK (Int×Int))) :
 Ê (fun(k:Int×CK (Int×Int)) l=>mL (i:Int) b.1.1 b.1.2 b.2.1 b.2.2.1 b.2.2.2.1 b.2.2.2.2.1 b.2.2.2.2.2 D k.1 k.2 (fun r q=>l (r,q)) K) ((-1:Int),out)=K (out++(aft b g D (-1)).map fun d=>((g.1,d):Int×Int)):=by
 refine ñ (fun x:Int×CK (Int×Int)=>x.2++(aft b g D x.1).map (fun d=>((g.1,d):Int×Int))=out++(aft b g D (-1)).map fun d=>((g.1,d):Int×Int)) (fun x=>(20001-x.1).toNat) ?_ rfl;rintro⟨v,o⟩ j;simp only at j
 by_cases s:v<20001
 ·obtain⟨H,h2,p⟩:=UM v D
  have A:v<nx v D:=by
   rcases p with p|p
   ·omega
   ·exact p.2
  refine .inr ⟨(nx v D,if nx v D<20001/\LM b g (nx v D)=true then o++[(g.1,nx v D)] else o),?_,by simp only; omega,fun u=>?_⟩
  ·rw[<-j];simp only;rw[Qj n v]
   by_cases ha:nx v D<20001
   ·rw[if_pos ha]
    cases y:LM b g (nx v D) with
    |true=>rw[if_pos ⟨ha,rfl⟩,if_pos rfl]; simp
    |false=>rw[if_neg (by simp),if_neg (by simp)]
   ·rw[if_neg (by omega),if_neg ha]
    have:aft b g D (nx v D)=[]:=by
     have e:=Qj (b:=b) (g:=g) n (nx v D);rw[e,if_neg];obtain⟨F,E,a⟩:=UM (nx v D) D;rcases a with a|a
     ·omega
     ·have:=n _ a.1; omega
    rw[this]
  ·unfold mL;rw[Ñ (by simpa[ilt] using s)];refine Eq.trans (amA C v _) ?_;dsimp only
   by_cases ha:nx v D<20001
   ·rw[Ñ (by simpa[ilt] using ha),Æ t,als (b:=((b.1.1,b.1.2),b.2.1,b.2.2.1,b.2.2.2.1,b.2.2.2.2.1,b.2.2.2.2.2)) ⟨f.gauges,f.uses,f.loans,f.compares,f.looks,f.piles⟩,À];have e:LM ((b.1.1,b.1.2),b.2.1,b.2.2.1,b.2.2.2.1,b.2.2.2.2.1,b.2.2.2.2.2) g (nx v D)=LM b g (nx v D):=rfl;rw[e]
    cases y:LM b g (nx v D) with
    |true =>
     have z:o.length<=1000000000:=by
      have:=congrArg List.length j;simp only[dc,dC] at this;have:=alf (b:=b) (g:=g) (D:=D) (-1);omega
     rw[Ñ rfl,Æ t,Ð (by simp only[dH]; omega),Am.iff_true,if_pos ⟨ha,rfl⟩]
    |false=>rw[Í rfl,if_neg (by simp)]
   ·rw[Í (by simpa[ilt] using ha),if_neg (by omega)]
 ·refine .inl fun u=>?_;unfold mL;rw[Í (by simpa[ilt] using s)]
  have:aft b g D v=[]:=by
   rw[Qj n,if_neg];obtain⟨F,E,a⟩:=UM v D;rcases a with a|a
   ·omega
   ·have:=n _ a.1; omega
  rw[this] at j;simp only[fF,du] at j;rw[j]
def A9 (b:ø):CK Int:=b.2.1.map (fun g=>g.2.1)++b.2.2.2.2.1.map (fun c=>c.2.1)++b.2.2.2.2.2.map fun n=>n.2
def abG {b:ø} (a:jp b):(A9 b).length<=3000:=by
 have e:=a.gauges; have h2:=a.compares; have d:=a.looks;simp only[A9,dc,dC];omega
def Pre.days {b:ø} (h:Pre b):∀d∈A9 b,0<=d/\d<=20000:=by
 intro d hd;simp only[A9,dg,dE] at hd;rcases hd with(⟨g,e,rfl⟩|⟨c,f,rfl⟩)|⟨n,a,rfl⟩
 ·have:=((vY g).1 (h.gauge g e)).2.2.2.2.1;omega
 ·have:=(h.cmp c f).1;simp only[yH,inP,cY,decide_eq_true_eq] at this;exact this
 ·have:=h.look n a;simp only[yH,inP,cY,decide_eq_true_eq] at this;exact this
def ajg {b:ø} (h:Pre b) {g:æ} (f:g∈b.2.1):aft b g (A9 b) (-1)=Ý b g:=by
 refine abE ((D5 _).sublist List.filter_sublist) (sg b g) fun x=>?_;unfold aft;rw[List.mem_filter,wH,Bool.and_eq_true,ajd h f,decide_eq_true_eq];constructor
 ·exact fun a=>a.2.2
 ·intro a
  have d:x∈A9 b:=by
   simp only[A9,dg,dE];rcases Γ.1 a with e|⟨c,j,_,e⟩|⟨n,i,_,e⟩
   ·exact .inl (.inl ⟨g,f,e.symm⟩)
   ·exact .inl (.inr ⟨c,j,e⟩)
   ·exact .inr ⟨n,i,e⟩
  have:=h.days x d;exact⟨d,by omega,a⟩
def UU {α:Type} (f:α->Int) (l:CK α) (s:CK Int) (i:Nat) {a:α} (ha:l[i]?=some a):s++(l.take (i+1)).map f=(s++(l.take i).map f)++[f a]:=by
 rw[take_succ ha,fc,di]; rfl
def Iw {b:ø} (h:Pre b):kv b=some (Ò b):=by
 have o:=h.size.gauges; have h2:=h.size.compares; have l:=h.size.looks;have k:=abG h.size;unfold kv Tb;refine ê b.2.1 (fun i=>(b.2.1.take i).map (fun g=>g.2.1)) _ rfl (fun i a hi ha e=>?_) (fun e=>?_)
 ·try dsimp only
  unfold pZ;have:=UU (fun g:æ=>g.2.1) b.2.1 [] i ha;simp only[List.nil_append] at this;rw[Ì hi,Æ ha,Ð (by simp only[List.length_map,List.length_take,List.length_singleton]; omega),Am.iff_true,È hi (by omega),this]
 ·try dsimp only
  unfold pZ;rw[Ó,List.take_length];dsimp only;refine ê b.2.2.2.2.1 (fun i=>b.2.1.map (fun g=>g.2.1)++(b.2.2.2.2.1.take i).map (fun c=>c.2.1)) _ (by simp) (fun i a hi ha e=>?_) (fun e=>?_)
  ·try dsimp only
   unfold pY;rw[Ì hi,Æ ha,Ð (by simp only[List.length_append,List.length_map,List.length_take,List.length_singleton]; omega),Am.iff_true,È hi (by omega),UU (fun c:Cmp=>c.2.1) b.2.2.2.2.1 _ i ha]
  ·try dsimp only
   unfold pY;rw[Ó,List.take_length];dsimp only;refine ê b.2.2.2.2.2 (fun i=>b.2.1.map (fun g=>g.2.1)++b.2.2.2.2.1.map (fun c=>c.2.1)++(b.2.2.2.2.2.take i).map (fun n=>n.2)) _ (by simp) (fun i a hi ha e=>?_) (fun e=>?_)
   ·try dsimp only
    unfold pX;rw[Ì hi,Æ ha,Ð (by simp only[List.length_append,List.length_map,List.length_take,List.length_singleton]; omega),Am.iff_true,È hi (by omega),UU (fun n:Int×Int=>n.2) b.2.2.2.2.2 _ i ha]
   ·try dsimp only
    unfold pX;rw[Ó,List.take_length];dsimp only;rw[show b.2.1.map (fun g=>g.2.1)++b.2.2.2.2.1.map (fun c=>c.2.1)++b.2.2.2.2.2.map (fun n=>n.2)=A9 b from rfl];refine ê b.2.1 (fun i=>(b.2.1.take i).flatMap fun g=>(Ý b g).map fun d=>((g.1,d):Int×Int)) _ rfl (fun i g hi f e=>?_) (fun e=>?_)
    ·try dsimp only
     unfold pW;rw[Ì hi]
     have j:((b.2.1.take i).flatMap fun g=>(Ý b g).map fun d=>((g.1,d):Int×Int)).length<=2001000:=by
      have:=xI (fun g:æ=>(Ý b g).map fun d=>((g.1,d):Int×Int)) 2001 (fun g=>by rw[dC]; exact Ig h.size g) (b.2.1.take i);rw[dm] at this;have:min i b.2.1.length*2001<=1000*2001:=dF _ (by omega);omega
     refine dY (akL h.size f (by omega) (fun d hd=>(h.days d hd).2) (by omega) _) ?_;rw[È hi (by omega),ajg h (df f),take_succ f,eP];simp
    ·try dsimp only
     unfold pW;rw[Ó,List.take_length];rfl
def ain {k:Int×Int} (d:0<k.2) (m n:Int):0<alY (FL k m) (FL k n)↔k.1*n<k.1*m:=by
 obtain⟨g,q,_,p,o⟩:=Bh (n:=k.1*m) d;obtain⟨h,h0,_,l,h2⟩:=Bh (n:=k.1*n) d
 have key:(FL k n).1*(FL k m).2<(FL k m).1*(FL k n).2↔k.1*n<k.1*m:=by
  have i:(FL k n).1*(FL k m).2*((g:Int)*h)=k.1*n*k.2:=by
   show(pj (k.1*n) k.2).1*(pj (k.1*m) k.2).2*((g:Int)*h)=k.1*n*k.2
   calc _=((pj (k.1*n) k.2).1*h)*((pj (k.1*m) k.2).2*g):=by ac_rfl
    _=_:=by rw[<-l,<-o]
  have f:(FL k m).1*(FL k n).2*((g:Int)*h)=k.1*m*k.2:=by
   show(pj (k.1*m) k.2).1*(pj (k.1*n) k.2).2*((g:Int)*h)=k.1*m*k.2
   calc _=((pj (k.1*m) k.2).1*g)*((pj (k.1*n) k.2).2*h):=by ac_rfl
    _=_:=by rw[<-p,<-h2]
  have j:0<(g:Int)*h:=Int.mul_pos (by omega) (by omega);constructor
  ·intro a;have:=Int.mul_lt_mul_of_pos_right a j;rw[i,f] at this;exact Int.lt_of_mul_lt_mul_right this (by omega)
  ·intro a;have:=Int.mul_lt_mul_of_pos_right a d;rw[<-i,<-f] at this;exact Int.lt_of_mul_lt_mul_right this (by omega)
 rw[<-key];unfold alY
 by_cases e:FL k m=FL k n
 ·rw[if_pos e,e];omega
 ·rw[if_neg e]
  split
  ·omega
  ·split<;>omega
def aeh {k:Int×Int} (d:0<k.2) {heat:Int×Int} (e:heat.1<=heat.2):UI k heat=if k.1<0 then(FL k heat.2,FL k heat.1) else(FL k heat.1,FL k heat.2):=by
 unfold UI
 by_cases a:k.1<0
 ·rw[if_pos a]
  by_cases f:heat.1=heat.2
  ·rw[f]
   split<;>rfl
  ·rw[if_pos ((ain d _ _).2 (Int.mul_lt_mul_of_neg_left (by omega) a))]
 ·rw[if_neg a,if_neg (fun h=>by
   have g:=(ain d _ _).1 h;have h2:=Int.mul_le_mul_of_nonneg_left e (show 0<=k.1 by omega)
   omega)]
def Uf {n d:Int} (hd:0<d) (l:n.natAbs<=2147483647) (f:d<=2147483647):sa n d=some (pj n d,0):=by
 obtain⟨g,h0,p,q,h2⟩:=Bh (n:=n) hd;have t:=(lC _).1 (Us hd l f)
 have z:mX d 0=false:=by simp[mX]; omega
 have i:mX (g:Int) 0=false:=by simp[mX]; omega
 unfold sa OJ
 by_cases a:n=0
 ·subst a
  have e:pj 0 d=(0,1):=by
   unfold pj
   have:(Nat.gcd (0:Int).natAbs d.natAbs:Int)=d:=by simp; omega
   rw[this,Int.ediv_self (by omega)];simp
  rw[Í (by rfl),Í z,Ï (by simp) (by simp),Í z,Int.tdiv_self (by omega),Ï (by omega) (by omega),Int.zero_tdiv,e];rfl
 ·rw[Ñ (by simpa[ine] using a),Í z];have a0:(Int.tmod n d).natAbs=n.natAbs % d.natAbs:=iv n d;have o:=g9 n.natAbs (show 0<d.natAbs by omega);rw[ajw ⟨by omega,by omega⟩,À]
  have s:d=((d.natAbs:Nat):Int):=by omega
  have r:BL ((Int.tmod n d).natAbs:Int) d=some (g:Int):=by
   have:=aju (Int.tmod n d).natAbs d.natAbs;rw[<-s] at this;rw[this,a0,p];congr 2;rw[ir n.natAbs,Nat.gcd_rec d.natAbs n.natAbs]
  rw[r,À,Í i]
  have k:Int.tdiv n (g:Int)=(pj n d).1:=by
   conv=>lhs; rw[q]
   exact gL _ (by omega)
  have j:Int.tdiv d (g:Int)=(pj n d).2:=by
   conv=>lhs; rw[h2]
   exact gL _ (by omega)
  rw[k,j,Ï (by omega) (by omega),Í i,Ï (by omega) (by omega),Í (by simp[igt]; omega),Í (by simp[ilt]; omega),Í (by simp[igt]; omega)]
def anj {x y:Int×Int} (d:sE x 1000 100) (a:sE y 1000 100):Mh x y=some (subP x y,0):=by
 obtain⟨k,g,b3⟩:=IH d a;have j:=nY d.num (show -100<=y.2/\y.2<=100 from⟨by have:=a.pos; omega,a.den⟩);have h2:=nY a.num (show -100<=x.2/\x.2<=100 from⟨by have:=d.pos; omega,d.den⟩);have i:=a.num;unfold Mh acN VT acO VU acR;rw[Ï (by omega) (by omega),À];dsimp only
 have e:(0-y.1)*x.2 = -(y.1*x.2):=by rw[Int.zero_sub,Int.neg_mul]
 rw[Ï (by omega) (by omega),e,Ï (by omega) (by omega),Ï (by omega) (by omega),Ï (by omega) (by omega)]
 have f:x.1*y.2 + -(y.1*x.2)=x.1*y.2-y.1*x.2:=by omega
 rw[f,Uf g (by omega) (by omega),À,À];rfl
def ajt {k:Int×Int} (a:sE k 200000 10000) {n:Int} (d : -10000<=n/\n<=10000):xP (n,1) k=some (FL k n,0):=by
 have b:=I4 a d;have p:=a.pos;have q:=a.den;unfold xP acP;have e:n*k.1=k.1*n:=Int.mul_comm _ _;dsimp only;rw[e,Int.one_mul,Ï (by omega) (by omega),Ï (by omega) (by omega),Uf (by omega) (by omega) (by omega),À];rfl
def ajs {k:Int×Int} (d:sE k 200000 10000) {heat:Int×Int} (e:j7 heat (-10000) 10000=true):BK ((heat.1,1),(heat.2,1)) k=some (UI k heat,0):=by
 simp only[j7,Bool.and_eq_true,decide_eq_true_eq] at e;have f:=d.pos;rw[aeh (by omega) e.2.1];unfold BK Tg H6 YD;dsimp only;rw[ajt d ⟨by omega,by omega⟩,ajt d ⟨by omega,by omega⟩]
 by_cases a:k.1<0
 ·rw[Ñ (by simpa[ilt] using a),if_pos a];rfl
 ·rw[Í (by simpa[ilt] using a),if_neg a];rfl
def ajo {r:Int×Int} (h:J9 r=true):BM r=some (r.1 / r.2):=by
 have:=(lC r).1 h;have e:=VM (n:=r.1) (d:=r.2) (by omega) (by omega);unfold wo O5 at e;unfold BM Ti PN YC;rw[e];rfl
def alr {r:Int×Int} (h:J9 r=true):H7 r=some (RS r):=by
 have d:=(lC r).1 h;unfold H7 YH aa8 ahc
 have z:mX r.2 0=false:=by simp[mX]; omega
 have t:=Int.mul_tdiv_add_tmod r.1 r.2
 have i : -4000000000<=Int.tdiv r.1 r.2/\Int.tdiv r.1 r.2<=4000000000:=by
  have:=Int.natAbs_tdiv_le_natAbs r.1 r.2;omega
 have g : -r.2<Int.tmod r.1 r.2/\Int.tmod r.1 r.2<r.2:=by
  have f:=iv r.1 r.2;have e:=g9 r.1.natAbs (show 0<r.2.natAbs by omega);omega
 rw[Í z,Ï (by omega) (by omega),Í z,õ];unfold RS
 by_cases a:0<Int.tmod r.1 r.2
 ·rw[if_pos (by simpa[igt] using a),Ï (by omega) (by omega),À];congr 1
  have : -r.1 / r.2 = -(Int.tdiv r.1 r.2)-1:=by
   refine(gz (by omega)).2 ⟨?_,?_⟩
   ·rw[Int.sub_mul,Int.neg_mul,f6 (Int.tdiv r.1 r.2)]; omega
   ·rw[Int.sub_mul,Int.neg_mul,f6 (Int.tdiv r.1 r.2)]; omega
  omega
 ·rw[if_neg (by simpa[igt] using a),À];congr 1
  have : -r.1 / r.2 = -(Int.tdiv r.1 r.2):=by
   refine(gz (by omega)).2 ⟨?_,?_⟩
   ·rw[Int.neg_mul,f6 (Int.tdiv r.1 r.2)]; omega
   ·rw[Int.neg_mul,f6 (Int.tdiv r.1 r.2)]; omega
  omega
def ant (b:ø) (g d:Int):Bool×Int:=if Qh b g [d]≠0 then(false,Qh b g [d]) else((ś b g d).isSome,0)
def ans {b:ø} (h:In b) (g d:Int):BQ b g d=some (ant b g d):=by
 have a:=h.size.loans;unfold BQ ac4 ant;rw[ajf h g (by simp),À]
 by_cases ha:Qh b g [d]=0
 ·rw[Í (by simp[ine,ha]),ajb (by omega),À,if_neg (by simpa using ha)]
  cases ś b g d<;>rfl
 ·rw[Ñ (by simp[ine,ha]),if_pos ha]
section
variable {ρ:Type}
def vQ {α σ:Type} (l:CK α) (g:Nat->σ) (r:BY ρ) {f:σ×Int->(σ×Int->BY ρ)->BY ρ} {k:σ} (P:Nat->Prop) (h0:g 0=k) (t:P 0)
 (h:∀(i:Nat) (a:α),i<l.length->l[i]?=some a->P i->∀d,f (g i,i) d=r\/(P (i+1)/\f (g i,i) d=d (g (i+1),(i:Int)+1)))
 (p:P l.length->∀d,f (g l.length,l.length) d=r):Ê f (k,0)=r:=by
 subst h0;refine vR (F:=fun _=>r) (fun x=>∃i:Nat,i<=l.length/\x=(g i,(i:Int))/\P i) (fun x=>l.length-x.2.toNat) (fun x o d q=>?_) ⟨0,ee _,rfl,t⟩;obtain⟨i,hi,rfl,n⟩:=o;rcases dq i l.length with e|s
 ·rcases h i _ e (cX e) n d with j|⟨j,h2⟩
  ·exact j
  ·rw[h2,q _ ⟨i+1,e,by simp,j⟩ (by simp; omega)]
 ·have:i=l.length:=by omega
  subst this;exact p n d
def Vu {l:CK Int} {f:Int->(Int->BY ρ)->BY ρ} {K k1:BY ρ} (h:∀(i:Nat) (a b:Int),l[i]?=some a->l[i+1]?=some b->∀d,f ((i:Int)+1) d=if b<=a then K else d ((i:Int)+1+1))
 (t:∀n:Nat,l.length<=n->∀d,f n d=k1):Ê f 1=if l.Pairwise (·<·) then k1 else K:=by
 have hb:=Iq (fun x:Int=>x) l;refine ñ (fun x=>∃i:Nat,x=(i:Int)+1/\∀j a,j<=i->l[j]?=some a->lU (fun x=>x) l j a=false) (fun x=>l.length-x.toNat) ?_ ⟨0,rfl,fun j a k _=>?_⟩
 ·rintro x ⟨i,rfl,hi⟩;rcases dq (i+1) l.length with p|q
  ·have ha:l[i]?=some l[i]:=cX (by omega);have o:l[i+1]?=some l[i+1]:=cX p
   by_cases e:l[i+1]<=l[i]
   ·refine .inl fun d=>?_;rw[h i _ _ ha o,if_pos e,if_neg];intro s;have:=hb.2 s (i+1) _ o;simp[lU,ha,e] at this
   ·refine .inr ⟨(i:Int)+1+1,⟨i+1,by simp,fun j a k g=>?_⟩,by omega,fun d=>by rw[h i _ _ ha o,if_neg e]⟩;rcases dq i j with r|r
    ·have:j=i+1:=by omega
     subst this;rw[o] at g; cases g;simp[lU,ha]; omega
    ·exact hi j a r g
  ·refine .inl fun d=>?_;have:=t (i+1) q d;simp only[Int.natCast_add,Int.cast_ofNat_Int] at this;rw[this,if_pos];refine hb.1 fun j a k=>hi j a ?_ k;have:=(de.1 k).1;omega
 ·have:j=0:=by omega
  subst this; simp[lU]
end
def mixE (b:ø) (l:CK Mx) (i:Nat) (x:Mx):Int :=
 if !(inP x.1 0 19999&&inP x.2.length 2 5) then 1 else
 if ¬x.2.Pairwise (·<·) then 1 else
 if x.2.any (fun g=>(î b g).isNone) then 5 else
 if x.2.any (fun g=>ŋ b g x.1 != 0) then 4 else
 if lU (fun y=>y.1) l i x then 6 else
 if x.2.any (fun g=>(ś b g x.1).isSome||(ś b g (x.1+1)).isSome) then 9 else 0
def IB:Nat->Nat
 |0=>1
 |n+1=>IB n*(n+1)
def mY:CK Mx->Nat
 |[]=>1
 |x::r=>IB x.2.length*mY r
def Bi:∀{l:CK Mx} {i:Nat} {x:Mx},l[i]?=some x->mY (l.take (i+1))=mY (l.take i)*IB x.2.length
 |[],_,_,h=>by simp at h
 |y::l,0,x,h=>by simp at h; subst h; simp[mY]
 |y::l,i+1,x,h=>by
  simp only[fB] at h;simp only[gk,mY,Bi h,Nat.mul_assoc]
def PM:∀{n:Nat},n<=5->IB n<=120
 |0,_|1,_|2,_|3,_|4,_|5,_=>by decide
 |n+6,h=>by omega
def Uv:∀{l:CK Mx} {n:Nat},l.length<=n->(∀x∈l,x.2.length<=5)->mY l<=120 ^ n
 |[],n,_,_=>Nat.one_le_pow _ _ (by decide)
 |x::l,0,h,_=>by simp at h
 |x::l,n+1,h,a=>by
  have e:=Uv (l:=l) (n:=n) (by simpa using h) fun y d=>a y (dS _ d);have h2:=PM (a x (by simp));rw[mY,Nat.pow_succ,Nat.mul_comm];exact fJ e h2
def Ni (b:ø) (l:CK Mx):BY Int:=Ĝ (fun i x=>Ff (mixE b l i x)) 0 l
def ī (m:ł):Int :=
 if ŏ m.1≠0 then ŏ m.1 else if 4<m.2.length then 2 else match Ni m.1 m.2 with
 |some e=>e
 |none=>if 150<mY m.2 then 2 else 0
def Np (l:CK æ):CK (Int×Int):=l.foldl (fun m g=>Nh (k:=tI) (v:=tI) g.1 g.2.1 m) []
def SN (x y n:Int):∀m:CK (Int×Int),pk (k:=tI) (v:=tI) x (Nh (k:=tI) (v:=tI) y n m)=if x=y then some n else pk (k:=tI) (v:=tI) x m
 |[]=>by
  unfold Nh pk Ž pk
  by_cases h:x=y<;>simp[h]
 |e::m=>by
  unfold Nh
  by_cases h:y=e.1
  ·have:Ž tI y e.1=true:=by simp[Ž,h]
   rw[this];simp only;unfold pk
   by_cases a:x=y
   ·subst a; simp[Ž]
   ·have:Ž tI x y=false:=by simp[Ž,a]
    have h2:Ž tI x e.1=false:=by simp[Ž,<-h,a]
    rw[this,if_neg a];simp only[h2]
  ·have:Ž tI y e.1=false:=by simp[Ž,h]
   rw[this];simp only;unfold pk
   by_cases a:x=e.1
   ·subst a;rw[if_neg (fun e=>h e.symm)];simp[Ž]
   ·have h2:Ž tI x e.1=false:=by simp[Ž,a]
    rw[h2];exact SN x y n m
def aeq (x:Int) (l:CK æ):pk (k:=tI) (v:=tI) x (Np l)=(l.reverse.find? fun g=>g.1==x).map fun g=>g.2.1:=by
 have key:∀r:CK æ,pk (k:=tI) (v:=tI) x (Np r.reverse)=(r.find? fun g=>g.1==x).map fun g=>g.2.1:=by
  intro r
  induction r with
  |nil=>rfl
  |cons g r a =>
   rw[List.reverse_cons,Np,List.foldl_append];simp only[gy,List.foldl_nil];rw[SN,f8]
   by_cases h:x=g.1
   ·subst h; simp
   ·have:(g.1==x)=false:=by simp; exact fun e=>h e.symm
    rw[if_neg h,this];exact a
 have:=key l.reverse
 rwa [List.reverse_reverse] at this
def agZ {b:ø} (h:b.2.1.Pairwise fun a b=>a.1<b.1) (x:Int):pk (k:=tI) (v:=tI) x (Np b.2.1)=(î b x).map fun g=>g.2.1:=by
 rw[aeq,KA h]; rfl
def Za {ρ:Type} {b:ø} (h:b.2.1.Pairwise fun a b=>a.1<b.1) (x:Int) (f:Int->BY ρ) (g:BY ρ):Qt (k:=tI) (v:=tI) x (Np b.2.1) f g=match î b x with|some y=>f y.2.1|none=>g:=by
 unfold Qt;rw[agZ h]
 cases î b x<;>rfl
section
variable {ρ:Type} {b:ø}
def mix_L0 {l:CK Int} (k:l.length<=1000) (k0:Int->BY ρ) (k1:Unit->BY ρ):Ê (fun(v:Int) g=>ox l v (fun u=>g u) k0 k1) 1=if l.Pairwise (·<·) then k1 () else k0 1:=by
 refine Vu (fun i a c ha d f=>?_) (fun n j f=>?_)
 ·have hi:=(List.getElem?_eq_some_iff.1 d).1;unfold ox
  have e:((i:Int)+1)=((i+1:Nat):Int):=by omega
  rw[e,Ì hi,Æ d,Ï (by omega) (by omega),<-e,Int.add_sub_cancel,Æ ha,õ,Ï (by omega) (by omega)];simp
 ·unfold ox;rw[Í (by simp[ilt,Î]; omega)]
def mix_L1 (f:b.2.1.length<=1000) (k0:CK (Int×Int)->BY ρ):Ê (fun(v:Int×CK (Int×Int)) e=>ow b.2.1 (Õ b.2.1) v.1 v.2 (fun u v=>e (u,v)) k0) ((0:Int),[])=k0 (Np b.2.1):=by
 refine ê b.2.1 (fun i=>Np (b.2.1.take i)) _ rfl (fun i g hi a d=>?_) (fun d=>?_)
 ·try dsimp only
  unfold ow;rw[Ì hi,Æ a,È hi (by omega)];congr 2;rw[take_succ a,Np,Np,List.foldl_append];rfl
 ·try dsimp only
  unfold ow;rw[Ó,List.take_length]
def mix_L2 (hi:b.2.1.Pairwise fun a b=>a.1<b.1) {l:CK Int} (k:l.length<=1000) (X Y Z:BY ρ):Ê (fun(v:Int) f=>ov l (Õ l) (Np b.2.1) v (fun u=>f u) (fun z=>ifb (ige z (0:Int)) X Y) (fun _=>Z)) 0=if l.any (fun g=>(î b g).isNone) then X else Z:=by
 refine Ē l _ (fun z=>ifb (ige z (0:Int)) X Y) X Z (fun j=>Ñ (by simp[ige]) _ _) (fun i a d ha e=>?_) (fun e=>?_)
 ·unfold ov;rw[Ì d,Æ ha,Za hi,È d (by omega)]
  cases î b a<;>rfl
 ·unfold ov;rw[Ó]
def mix_L3 (hi:b.2.1.Pairwise fun a b=>a.1<b.1) {l:CK Int} (p:l.length<=1000) (n:∀x∈l,∃g,î b x=some g) (d:Int) (X Y Z:BY ρ):Ê (fun(v:Int) k=>l6 l (Õ l) d (Np b.2.1) v (fun u=>k u) (fun z=>ifb (ige z (0:Int)) X Y) (fun _=>Z)) 0=if l.any (fun g=>ŋ b g d != 0) then X else Z:=by
 refine Ē l _ (fun z=>ifb (ige z (0:Int)) X Y) X Z (fun j=>Ñ (by simp[ige]) _ _) (fun i a e ha f=>?_) (fun f=>?_)
 ·unfold l6;rw[Ì e,Æ ha,Za hi,È e (by omega)];obtain⟨g,o⟩:=n a (List.mem_of_getElem? ha);unfold ŋ;rw[o];dsimp only;rw[õ]
  by_cases h:d<g.2.1<;>simp[ilt,h]
 ·unfold l6;rw[Ó]
def mix_L4 (h:Ŧ b) {l:CK Int} (s:l.length<=1000) (q:∀x∈l,∃g,î b x=some g) {d:Int} (hd:0<=d/\d<20000) (X Y Z:BY ρ):Ê (fun(v:Int) p=>Ō l (Õ l) b.1.1 b.1.2 b.2.1 b.2.2.1 b.2.2.2.1 b.2.2.2.2.1 b.2.2.2.2.2 d v (fun u=>p u) (fun z=>ifb (ige z (0:Int)) X Y) (fun _=>Z)) 0=if l.any (fun g=>(ś b g d).isSome||(ś b g (d+1)).isSome) then X else Z:=by
 refine Ē l _ (fun z=>ifb (ige z (0:Int)) X Y) X Z (fun j=>Ñ (by simp[ige]) _ _) (fun i a f ha o=>?_) (fun o=>?_)
 ·unfold Ō;obtain⟨g,k⟩:=q a (List.mem_of_getElem? ha)
  have n:∀e,0<=e->e<=20000->BQ ((b.1.1,b.1.2),b.2.1,b.2.2.1,b.2.2.2.1,b.2.2.2.2.1,b.2.2.2.2.2) a e=some ((ś b a e).isSome,0):=fun e h0 r=>by
   rw[show(((b.1.1,b.1.2),b.2.1,b.2.2.1,b.2.2.2.1,b.2.2.2.2.1,b.2.2.2.2.2):ø)=b from rfl,ans ⟨h.size,fun g k=>by have:=(h.gaugeR k).2.1; unfold I64; omega⟩]
   have:Qh b a [e]=0:=by
    unfold Qh;rw[if_neg (by simp[(Ο b).2 h]),if_neg (by simp[yH,inP,h0,r]),vc h.ids,k]; rfl
   unfold ant;rw[if_neg (by simp[this])]
  rw[Ì f,Æ ha,n d hd.1 (by omega),À,Ï (by omega) (by omega),n (d+1) (by omega) (by omega),À,È f (by omega)];dsimp only
  cases(ś b a d).isSome<;>cases(ś b a (d+1)).isSome<;>rfl
 ·unfold Ō;rw[Ó]
end
def akp {b:ø} (h:Ŧ b) {l:CK Mx} {i:Nat} {x:Mx} (o:l[i]?=some x) (q:i<=1000):HP b l i=some (mixE b l i x):=by
 unfold HP NI mixE;rw[Æ o]
 by_cases d:inP x.1 0 19999=true/\inP (x.2.length:Int) 2 5=true
 ·obtain⟨d,h2⟩:=d;rw[if_neg (by simp[d,h2])];simp only[inP,cY,decide_eq_true_eq] at d h2
  have k:x.2.length<=1000:=by omega
  rw[Í (by simp[ilt]; omega),Í (by simp[ige]; omega),Í (by simp[ilt,Î]; omega),Í (by simp[igt,Î]; omega),mix_L0 k]
  by_cases f:x.2.Pairwise (·<·)
  ·rw[if_pos f,if_neg (by simpa using f)]
   try dsimp only
   rw[mix_L1 (by have:=h.nG; omega),mix_L2 h.ids k]
   by_cases a:(x.2.any fun g=>(î b g).isNone)=true
   ·rw[if_pos a,if_pos a]
   ·have p:∀y∈x.2,∃g,î b y=some g:=fun y j=>by
     simp only[dA,not_exists,not_and,Option.isNone_iff_eq_none] at a;exact Option.ne_none_iff_exists'.1 (a y j)
    rw[if_neg a,if_neg a,mix_L3 h.ids k p]
    by_cases n:(x.2.any fun g=>ŋ b g x.1 != 0)=true
    ·rw[if_pos n,if_pos n]
    ·rw[if_neg n,if_neg n,mix_L4 h k p (by omega)]
     cases i with
     |zero =>
      rw[Í (by simp[igt]),if_neg (show ¬lU (fun y:Mx=>y.1) l 0 x=true by simp[lU])]
      split<;>rfl
     |succ i =>
      obtain⟨hi,_⟩:=de.1 o;have j:l[i]?=some l[i]:=cX (by omega)
      have e:((i+1:Nat):Int)-1=i:=by omega
      rw[Ñ (by simp[igt]),Ï (by omega) (by omega),e,Æ j,õ];unfold lU;simp only[Nat.add_sub_cancel,j,Option.any_some,Nat.succ_pos,decide_true,Bool.true_and,ile,decide_eq_true_eq]
      split
      ·rfl
      ·split<;>rfl
  ·rw[if_neg f,if_pos f]
 ·rw[if_pos (by simp only[eQ]; cases h2:inP x.1 0 19999<;>cases f:inP (x.2.length:Int) 2 5<;>simp_all)]
  simp only[inP,cY,decide_eq_true_eq,not_and,Int.not_le] at d;simp only[õ,ilt,ige,igt,Î,decide_eq_true_eq]
  split
  ·rfl
  split
  ·rfl
  split
  ·rfl
  rw[if_pos (by have:=d (by omega); omega)]
def UT {b:ø} {l:CK Mx} {i:Nat} {x:Mx} (h:mixE b l i x=0):x.2.length<=5:=by
 unfold mixE at h
 split at h
 ·cases h
 ·rename_i a;simp[inP] at a;omega
def akE {n v:Nat} (k:n<=5) (g:v<=1000000000) {ρ:Type} (k0:Int->BY ρ):Ê (fun(u:Int×Int) f=>oy (agX n) u.1 u.2 (fun a b=>f (a,b)) k0) ((v:Int),(0:Int))=k0 ((v*IB n:Nat):Int):=by
 refine vQ (List.range n) (fun i=>((v*IB i:Nat):Int)) _ (fun _=>True) (by simp[IB]) trivial (fun i a hi ha _ d=>.inr ⟨trivial,?_⟩) (fun _ d=>?_)
 ·rw[fi] at hi
  try dsimp only
  unfold oy;have j:=PM (n:=i) (by omega);have hb:v*IB i<=1000000000*120:=Nat.mul_le_mul g j;have h2:v*IB i*(i+1)<=1000000000*120*6:=Nat.mul_le_mul hb (by omega)
  have e:((v*IB i:Nat):Int)*((i:Int)+1)=((v*IB i*(i+1):Nat):Int):=by simp
  rw[alR hi,Ï (by omega) (by omega),e,Ï (by omega) (by omega),Ï (by omega) (by omega),IB,Nat.mul_assoc]
 ·rw[fi]
  try dsimp only
  unfold oy;rw[Ó]
def FM {b:ø} {l:CK Mx} {i:Nat} {x:Mx} (g:l[i]?=some x) (o:∀j y,j<i->l[j]?=some y->mixE b l j y=0) (q:mixE b l i x≠0):Ni b l=some (mixE b l i x):=by
 have key:∀(m:CK Mx) (k:Nat),l.drop k=m->k<=i->Ĝ (fun i x=>Ff (mixE b l i x)) k m=some (mixE b l i x):=by
  intro m
  induction m with
  |nil =>
   intro k d f;have:=List.drop_eq_nil_iff.1 d;have:=(de.1 g).1;omega
  |cons y m n =>
   intro k d f
   have e:l[k]?=some y:=by
    have:(l.drop k)[0]?=some y:=by rw[d]; rfl
    simpa using this
   rw[Ĝ];rcases dq k i with a|p
   ·rw[o k y a e];simp only[Ff,if_true];refine n (k+1) ?_ a;rw[<-List.tail_drop,d]; rfl
   ·have:k=i:=by omega
    subst this;rw[g] at e; cases e;simp[Ff,q]
 exact key l 0 rfl (ee _)
def Eg {b:ø} {l:CK Mx} (d:∀j y,l[j]?=some y->mixE b l j y=0):Ni b l=none:=by
 rw[Ni,Α];intro j y a;rw[dL,d j y a]; rfl
def mS {m:ł} (k:In m.1) (u:m.2.length<=1000):ζ m=some (ī m):=by
 unfold ζ Yg ī;rw[B8 k.size k.num,À]
 by_cases g:ŏ m.1=0
 ·have r:=(Ο _).1 g;rw[Í (by simp[ine,g]),if_neg (by simp[g])]
  by_cases p:4<m.2.length
  ·rw[Ñ (by simp[igt,Î]; omega),if_pos p]
  ·rw[Í (by simp[igt,Î]; omega),if_neg p];refine vQ m.2 (fun i=>((mY (m.2.take i):Nat):Int)) _ (fun i=>∀j y,j<i->m.2[j]?=some y->mixE m.1 m.2 j y=0) (by simp[mY]) (fun j y h _=>by omega) (fun i x hi d e q=>?_) (fun e q=>?_)
   ·try dsimp only
    unfold tp;rw[Ì hi,Æ d,show(((m.1.1.1,m.1.1.2),m.1.2.1,m.1.2.2.1,m.1.2.2.2.1,m.1.2.2.2.2.1,m.1.2.2.2.2.2):ø)=m.1 from rfl,akp r d (by omega),À]
    by_cases f:mixE m.1 m.2 i x=0
    ·rw[Í (by simp[ine,f])]
     have t:∀y∈m.2.take i,y.2.length<=5:=fun y a=>by
      obtain⟨j,o,rfl⟩:=dp.1 a;rw[dm] at o;rw[fj];exact UT (e j _ (by omega) (cX (by omega)))
     have hb:=Uv (l:=m.2.take i) (n:=4) (by rw[dm]; omega) t
     have s:(120:Nat) ^ 4=207360000:=by decide
     refine .inr ⟨fun j y o a=>?_,?_⟩
     ·rcases dq j i with h|h
      ·exact e j y h a
      ·have:j=i:=by omega
       subst this;rw[d] at a; cases a;exact f
     ·rw[akE (UT f) (by omega),È hi (by omega),Bi d]
    ·refine .inl ?_;rw[Ñ (by simp[ine,f]),FM d e f]
   ·try dsimp only
    unfold tp;rw[Ó,Eg fun j y a=>e j y (List.getElem?_eq_some_iff.1 a).1 a,List.take_length];dsimp only;rw[õ];simp only[igt,decide_eq_true_eq]
    by_cases h:150<mY m.2
    ·rw[if_pos (by omega),if_pos h]
    ·rw[if_neg (by omega),if_neg h]
 ·rw[Ñ (by simp[ine,g]),if_pos g]
def W0 {α:Type} [DecidableEq α] {l m:CK α} (f:l.length=m.length) (h:Ĝ (fun i a=>if m[i]?=some a then none else some false) 0 l=none):l=m:=by
 have:=Α.1 h;refine il f fun i g h2=>?_;have d:=this i l[i] (cX g);rw[dL] at d
 split at d
 ·rename_i e;rw[cX h2] at e;exact(Option.some.inj e).symm
 ·cases d
def WZ {α:Type} [DecidableEq α] {l m:CK α} {b:Bool} (h:Ĝ (fun i a=>if m[i]?=some a then none else some false) 0 l=some b):b=false/\l≠m:=by
 constructor
 ·have:∀(k:Nat) (x:CK α) (b:Bool),Ĝ (fun i a=>if m[i]?=some a then none else some false) k x=some b->b=false:=by
   intro k x
   induction x generalizing k with
   |nil=>intro b h; cases h
   |cons a t f =>
    intro b h;unfold Ĝ at h
    split at h
    ·rename_i c d
     split at d
     ·cases d
     ·cases d; cases h; rfl
    ·exact f _ _ h
  exact this _ _ _ h
 ·intro e;subst e;rw[Α.2 fun j a ha=>by rw[dL,if_pos ha]] at h;cases h
def Fc {l m:CK Int} (k:l.length<=1000000):η l m=some (decide (l=m)):=by
 unfold η GM;rw[Î,Î]
 by_cases d:l.length=m.length
 ·rw[Í (by simp[ine,d])];refine dY (jt l (fun i a=>if m[i]?=some a then none else some false) some (some true) (fun i a hi ha g=>?_) (fun g=>?_)) ?_
  ·try dsimp only
   unfold lL;have f:m[i]?=some m[i]:=List.getElem?_eq_getElem (by omega);rw[Ì hi,Æ ha,Æ f,È hi (by omega),f,õ]
   by_cases h:a=m[i]
   ·simp[ine,h]
   ·have h':¬m[i]=a:=fun e=>h e.symm;simp[ine,h,h']
  ·try dsimp only
   unfold lL;rw[Ó]
  ·cases h:Ĝ (fun i a=>if m[i]?=some a then none else some false) 0 l with
   |none=>simp[W0 d h]
   |some b =>
    obtain⟨j,h2⟩:=WZ h;simp[j,h2]
 ·rw[Ñ (by simp[ine]; omega)];have:l≠m:=fun e=>d (by rw[e]);simp[this]
structure MixOk (b:ø) (x:Mx):Prop where
 day:0<=x.1/\x.1<20000
 len:2<=x.2.length/\x.2.length<=5
 asc:x.2.Pairwise (·<·)
 known:∀l∈x.2,∃g,î b l=some g/\g.2.1<=x.1
 home:∀l∈x.2,ś b l x.1=none/\ś b l (x.1+1)=none
def XU {b:ø} {l:CK Mx} {i:Nat} {x:Mx} (h:mixE b l i x=0):MixOk b x/\lU (fun y=>y.1) l i x=false:=by
 unfold mixE at h
 split at h
 ·cases h
 rename_i n
 split at h
 ·cases h
 rename_i h2
 split at h
 ·cases h
 rename_i j
 split at h
 ·cases h
 rename_i f
 split at h
 ·cases h
 rename_i k
 split at h
 ·cases h
 rename_i e;simp only[inP,Bool.not_eq_true',Bool.and_eq_false_iff,not_or,Bool.not_eq_false,decide_eq_false_iff_not,Int.not_le,Bool.and_eq_true,decide_eq_true_eq] at n;simp only[List.any_eq_true,not_exists,not_and,Option.isNone_iff_eq_none] at j;simp only[List.any_eq_true,not_exists,not_and,bne_iff_ne,ne_eq,Decidable.not_not] at f;simp only[List.any_eq_true,not_exists,not_and,Bool.or_eq_true,not_or,Option.isSome_iff_ne_none,ne_eq,Decidable.not_not] at e;refine⟨⟨by omega,by omega,Decidable.not_not.1 h2,fun y a=>?_,e⟩,by simpa using k⟩;obtain⟨g,d⟩:=Option.ne_none_iff_exists'.1 (j y a);refine⟨g,d,?_⟩;have:=f y a;unfold ŋ at this;rw[d] at this;dsimp only at this
 split at this
 ·cases this
 ·omega
structure MOk (m:ł):Prop where
 good:Ŧ m.1
 n4:m.2.length<=4
 mixE:∀i x,m.2[i]?=some x->mixE m.1 m.2 i x=0
 prod:mY m.2<=150
def Ľ (m:ł):ī m=0↔MOk m:=by
 unfold ī;constructor
 ·intro h
  split at h
  ·rename_i f; exact absurd h f
  rename_i f
  split at h
  ·cases h
  rename_i h2
  cases a:Ni m.1 m.2 with
  |some e =>
   rw[a] at h;dsimp only at h;rw[Ni] at a
   have key:∀(l:CK Mx) (k:Nat) (e:Int),Ĝ (fun i x=>Ff (mixE m.1 m.2 i x)) k l=some e->e≠0:=by
    intro l
    induction l with
    |nil=>intro k e h; cases h
    |cons y l g =>
     intro k e h;rw[Ĝ] at h
     by_cases d:mixE m.1 m.2 k y=0
     ·rw[d] at h;exact g (k+1) e h
     ·simp only[Ff,if_neg d,Option.some.injEq] at h;rw[<-h]; exact d
   exact absurd h (key _ _ _ a)
  |none =>
   rw[a] at h;dsimp only at h
   split at h
   ·cases h
   rename_i n;refine⟨(Ο _).1 (Decidable.not_not.1 f),by omega,fun i x j=>?_,by omega⟩;have:=(Α.1 a) i x j;rw[Nat.zero_add] at this;unfold Ff at this
   split at this
   ·assumption
   ·cases this
 ·intro h;rw[if_neg (by simp[(Ο _).2 h.good]),if_neg (by have:=h.n4; omega),Eg h.mixE];dsimp only;rw[if_neg (by have:=h.prod; omega)]
section
variable {m:ł}
def MOk.mix (h:MOk m) {x:Mx} (a:x∈m.2):MixOk m.1 x:=by
 obtain⟨i,hi,rfl⟩:=dp.1 a;exact(XU (h.mixE i _ (cX hi))).1
def MOk.days (h:MOk m):m.2.Pairwise fun a b=>a.1<b.1:=(Iq (fun y:Mx=>y.1) m.2).1 fun i x d=>(XU (h.mixE i x d)).2
def MOk.len5 (h:MOk m):∀x∈m.2,x.2.length<=5:=fun x a=>(h.mix a).len.2
def MOk.in_ (h:MOk m):In m.1:=⟨h.good.size,fun g a=>by have:=(h.good.gaugeR a).2.1; unfold I64; omega⟩
end
def acg {l:CK Int} {i:Nat} (hi:i<l.length):(l[i]::(l.take i++l.drop (i+1))).Perm l:=by
 have h:l=l.take i++l[i]::l.drop (i+1):=by rw[<-dV hi,eD]
 exact List.Perm.trans (List.perm_middle.symm) (by rw[<-h])
def LX:∀{n:Nat} {l x:CK Int},l.length=n->(x∈uX n l↔x.Perm l)
 |0,l,x,h=>by
  have:l=[]:=dv.1 h;subst this;simp[uX]
 |n+1,l,x,h=>by
  rw[uX,if_neg (by omega)];simp only[dD,fh,dE];constructor
  ·rintro⟨i,hi,y,d,rfl⟩;have d:=(LX (n:=n) (by simp; omega)).1 d;rw[ej,cX hi];exact(d.cons _).trans (acg hi)
  ·intro e
   cases x with
   |nil=>have:=e.length_eq; simp at this; omega
   |cons a x =>
    have ha:a∈l:=e.subset (by simp);obtain⟨i,hi,rfl⟩:=dp.1 ha;refine⟨i,hi,x,(LX (n:=n) (by simp; omega)).2 ?_,by rw[ej,cX hi]; rfl⟩;exact List.Perm.cons_inv (e.trans (acg hi).symm)
def VN {α β:Type} (f:α->CK β) (n:Nat):∀l:CK α,(∀a∈l,(f a).length=n)->(l.flatMap f).length=l.length*n
 |[],_=>by simp
 |a::l,h=>by
  rw[dB,dc,h a (by simp),VN f n l fun b hb=>h b (dS _ hb),dk,Nat.succ_mul]; omega
def FI:∀{n:Nat} {l:CK Int},l.length=n->(uX n l).length=IB n
 |0,_,_=>rfl
 |n+1,l,h=>by
  rw[uX,if_neg (by omega),VN _ (IB n) _ fun i hi=>by rw[dC]; exact FI (by simp at hi ⊢; omega),fi,IB,h,Nat.mul_comm]
def wu:∀{ms:CK Mx} {w:Way},w∈ω ms↔Ĵ ms w
 |[],[]=>by simp[ω,Ĵ]
 |[],_::_=>by simp[ω,Ĵ]
 |m::ms,[]=>by simp[ω,Ĵ]
 |m::ms,l::ls=>by
  simp only[ω,dD,dE,Ĵ];constructor
  ·rintro⟨x,d,y,a,e⟩;cases e;exact⟨(LX rfl).1 d,wu.1 a⟩
  ·intro⟨f,h2⟩;exact⟨l,(LX rfl).2 f,ls,wu.2 h2,rfl⟩
def Ih:∀ms:CK Mx,(ω ms).length=mY ms
 |[]=>rfl
 |m::ms=>by rw[ω,VN _ (mY ms) _ fun x _=>by rw[dC,Ih],FI rfl,mY]
def Ŋ (ms:CK Mx):CK Way:=ĸ (uL ms) (ω ms)
def aeM {α:Type} {k a:α->Int} {x:α} {l:CK α} (f:k x=a x) (h:∀y∈l,k y=a y):VE k x l=VE a x l:=by
 induction l with
 |nil=>rfl
 |cons y l d =>
  unfold VE;rw[f,h y (by simp),d fun z e=>h z (List.mem_cons_of_mem _ e)]
def Pp {α:Type} {k a:α->Int}:∀{l:CK α},(∀y∈l,k y=a y)->ĸ k l=ĸ a l
 |[],_=>rfl
 |x::l,h=>by
  have e:=Pp fun y d=>h y (dS x d);show VE k x (ĸ k l)=VE a x (ĸ a l);rw[e];exact aeM (h x (by simp)) fun y d=>h y (dS _ ((ŕ (key:=a) l).mem.1 d))
def yL {ms:CK Mx} {w:Way}:w∈Ŋ ms↔Ĵ ms w:=by
 rw[Ŋ,(ŕ (ω ms)).mem,wu]
def afT (ms:CK Mx):(Ŋ ms).length=mY ms:=by rw[Ŋ,(ŕ (ω ms)).length,Ih]
section
variable {m:ł} {ρ:Type}
def MOk.wgt (h:MOk m) {w:Way} (d:Ĵ m.2 w):Ĺ m w=some (uL m.2 w) :=
 afS d (by have:=h.n4; omega) fun x a=>by have:=h.len5 x a; omega
def L9 {α:Type} {f:CK α->α->(CK α->BY ρ)->BY ρ} (h:∀v y a,v.length<=1000000->f v y a=a (v++[y])):∀{xs:CK α} {v:CK α} {K:CK α->BY ρ},v.length+xs.length<=1000000->AO f xs v K=K (v++xs)
 |[],v,K,_=>by simp[AO]
 |x::xs,v,K,d=>by
  simp only[dk] at d;rw[AO,h v x _ (by omega),L9 h (by simp; omega)]; simp
def aik (h:MOk m):nM m.2=some (ω m.2):=by
 unfold nM;rw[à];simp only[Bool.and_eq_true,decide_eq_true_eq,List.all_eq_true];exact⟨by have:=h.n4; omega,fun x a=>by have:=h.len5 x a; omega⟩
def Mo (h:MOk m):(ω m.2).length<=150:=by rw[Ih]; exact h.prod
def WR (h:MOk m):ĺ (ω m.2) (Õ (ω m.2)) m=some (Ŋ m.2,m):=by
 have h2:∀w∈ω m.2,Ĺ m w=some (uL m.2 w):=fun w a=>h.wgt (wu.1 a)
 have d:∀w∈ω m.2,Ě m w=uL m.2 w:=fun w a=>by unfold Ě; rw[h2 w a]; rfl
 rw[Î,af6 (fun w a=>by rw[h2 w a,d w a]) (by have:=Mo h; omega),Pp d]; rfl
def Mz (h:MOk m):uj m=some (Ŋ m.2):=by
 unfold uj UX;have e:=Mo h;rw[aik h,À,L9 (fun v y a d=>by unfold Em; rw[à (Ð (by simp; omega))]) (by simp; omega),List.nil_append,WR h];rfl
def anh (d:In m.1) (e:m.2.length<=1000):Mb m=some (if ī m≠0 then([],ī m) else(Ŋ m.2,0)):=by
 unfold Mb acD;rw[mS d e,À]
 by_cases a:ī m=0
 ·rw[Í (by simp[ine,a]),if_neg (by simp[a]),Mz ((Ľ m).1 a)]; rfl
 ·rw[Ñ (by simp[ine,a]),if_pos a]
end
def ac6 {ρ:Type} (n:Nat) (p:Nat->Bool) (g j:BY ρ) {f:Int->(Int->BY ρ)->BY ρ} (h:∀i:Nat,i<n->∀d,f i d=if p i then d ((i:Int)+1) else g) (k:∀d,f n d=j):Ê f 0=if (List.range n).all p then j else g:=by
 have:=Ē (List.range n) (fun i=>!p i) (fun _=>g) g j (f:=f) (fun _=>rfl) (fun i a hi ha d=>by
  obtain⟨_,rfl⟩:=de.1 ha;rw[fi] at hi;rw[h i hi d,List.getElem_range]
  cases p i<;>rfl) (fun d=>by rw[fi]; exact k d)
 rw[this]
 have e:(List.range n).any (fun i=>!p i)=!(List.range n).all p:=by rw[List.all_eq_not_any_not]; simp
 rw[e]
 cases(List.range n).all p<;>rfl
def ug:CK Mx->Way->Bool
 |[],[]=>true
 |m::ms,l::ls=>decide (lh l=m.2)&&ug ms ls
 |_,_=>false
def TG:∀{ms:CK Mx} {w:Way},(∀x∈ms,x.2.Pairwise (·<·))->(ug ms w=true↔Ĵ ms w)
 |[],[],_=>by simp[ug,Ĵ]
 |[],_::_,_=>by simp[ug,Ĵ]
 |_::_,[],_=>by simp[ug,Ĵ]
 |m::ms,l::ls,h=>by
  rw[ug,Ĵ,cY,decide_eq_true_eq,TG fun x d=>h x (dS _ d)];have f:=h m (by simp);refine and_congr ⟨fun e=>by rw[<-e]; exact(ĵ l).symm,fun e=>?_⟩ Iff.rfl;exact gX (fun a b _ _ g h2=>Int.le_antisymm g h2) (Ω l) (f.imp fun h=>Int.le_of_lt h) ((ĵ l).trans e)
def ahG {ms:CK Mx} {w:Way} (a:w.length=ms.length):ug ms w=(List.range ms.length).all fun i=>match ms[i]?,w[i]? with|some m,some l=>decide (lh l=m.2)|_,_=>false:=by
 induction ms generalizing w with
 |nil =>
  have:w=[]:=dv.1 a;subst this; rfl
 |cons m ms d =>
  cases w with
  |nil=>simp at a
  |cons l w =>
   rw[ug,d (by simpa using a),dk,List.range_succ_eq_map,fP,List.all_map];rfl
def row_eq {l m:CK Int} (d:l.length=m.length) (o:m.length<=5):(l.getD 0 0=m.getD 0 0/\l.getD 1 0=m.getD 1 0/\l.getD 2 0=m.getD 2 0/\l.getD 3 0=m.getD 3 0/\l.getD 4 0=m.getD 4 0)↔l=m:=by
 constructor
 ·intro⟨h0,n,h2,j,g⟩;refine il d fun i hi a=>?_
  have e:∀k:Nat,l.getD k 0=m.getD k 0->k=i->l[i]=m[i]:=fun k f e=>by
   subst e;simpa[ej,cX hi,cX a] using f
  have:i=0\/i=1\/i=2\/i=3\/i=4:=by omega
  rcases this with h|h|h|h|h
  ·exact e 0 h0 h.symm
  ·exact e 1 n h.symm
  ·exact e 2 h2 h.symm
  ·exact e 3 j h.symm
  ·exact e 4 g h.symm
 ·rintro rfl; simp
def ako {m:ł} (h:MOk m) {w:Way} (n:∀l∈w,l.length<=100000):HO m w=some (ug m.2 w):=by
 unfold HO NC;have E:=h.n4
 by_cases p:w.length=m.2.length
 ·rw[Í (by simp[ine,Î]; omega),ahG p];have r:∀i,i<m.2.length->∃x l,m.2[i]?=some x/\w[i]?=some l:=fun i hi=>⟨_,_,cX hi,cX (by omega)⟩;refine dY (ac6 m.2.length (fun i=>match m.2[i]?,w[i]? with|some m,some l=>decide (lh l=m.2)|_,_=>false) (some false) (some true) (fun i hi k=>?_) (fun k=>?_)) ?_
  ·obtain⟨x,l,j,a⟩:=r i hi
   try dsimp only
   unfold ta;have g:=h.len5 x (List.mem_of_getElem? j);have s:=n l (List.mem_of_getElem? a);rw[Ì (by omega),Æ a,Æ j,j,a];dsimp only
   by_cases d:l.length=x.2.length
   ·rw[Í (by simp[ine,Î]; omega)];unfold Bv;rw[à (Ð (by omega)),À,L9 (fun v y k D=>by unfold zD; rw[à (Ð (by simp; omega))]) (by simp; omega),List.nil_append,à (Ð (by omega))];unfold HN;rw[À,À,Ul];have o:=row_eq (l:=lh l) (m:=x.2) (by rw[(ĵ l).length_eq]; exact d) g
    by_cases f:lh l=x.2
    ·obtain⟨C,A,z,u,t⟩:=o.2 f;rw[C,A,z,u,t,Í (by simp[mX]),Ï (by omega) (by omega),if_pos (by simpa using f)]
    ·rw[Ñ,if_neg (by simpa using f)]
     cases hb:(!((mX ((lh l).getD 0 0) (x.2.getD 0 0))&&((mX ((lh l).getD 1 0) (x.2.getD 1 0))&&((mX ((lh l).getD 2 0) (x.2.getD 2 0))&&((mX ((lh l).getD 3 0) (x.2.getD 3 0))&&((mX ((lh l).getD 4 0) (x.2.getD 4 0))&&true)))))) with
     |true=>rfl
     |false =>
      refine absurd (o.1 ?_) f;simpa[mX] using hb
   ·rw[Ñ (by simp[ine,Î]; omega),if_neg];intro e;simp only[decide_eq_true_eq] at e;have:=(ĵ l).length_eq;rw[e] at this;exact d this.symm
  ·try dsimp only
   unfold ta;rw[Í (by simp[ilt,Î]; omega)]
  ·cases(List.range m.2.length).all (fun i=>match m.2[i]?,w[i]? with|some m,some l=>decide (lh l=m.2)|_,_=>false)<;>rfl
 ·rw[Ñ (by simp[ine,Î]; omega)];congr 1
  symm
  clear n
  have key:∀{ms:CK Mx} {w:Way},w.length≠ms.length->ug ms w=false:=by
   intro ms
   induction ms with
   |nil=>intro w h; cases w with|nil=>exact absurd rfl h|cons _ _=>rfl
   |cons x ms q =>
    intro w h
    cases w with
    |nil=>rfl
    |cons l w=>rw[ug,q (by simpa using h),Bool.and_false]
  exact key p
def Qi (m:ł) (w:Way):Int:=if ī m≠0 then ī m else if ug m.2 w then 0 else 1
def aje {m:ł} (e:In m.1) (f:m.2.length<=1000) {w:Way} (d:∀l∈w,l.length<=100000):HQ m w=some (Qi m w):=by
 unfold HQ Yd Qi;rw[mS e f,À]
 by_cases a:ī m=0
 ·rw[Í (by simp[ine,a]),if_neg (by simp[a]),ako ((Ľ m).1 a) d,À]
  cases ug m.2 w<;>rfl
 ·rw[Ñ (by simp[ine,a]),if_pos a]
def abC {m:ł} {w:Way}:Qi m w=0↔MOk m/\Ĵ m.2 w:=by
 unfold Qi
 by_cases a:ī m=0
 ·have h:=(Ľ m).1 a;rw[if_neg (by simp[a])];have:=TG (w:=w) fun x d=>(h.mix d).asc
  cases hi:ug m.2 w with
  |true=>simp[this.1 hi,h]
  |false =>
   exact⟨fun e=>absurd (show(1:Int)=0 from e) (by decide),fun e=>absurd (this.2 e.2) (by simp[hi])⟩
 ·rw[if_pos a];exact⟨fun e=>absurd e a,fun⟨e,_⟩=>absurd ((Ľ m).2 e) a⟩
section
variable {ρ:Type}
def oi {α β:Type} (l:CK α) (g:α->β) (K:CK β->BY ρ) {f:Int×CK β->(Int×CK β->BY ρ)->BY ρ}
 (h:∀(i:Nat) (a:α),i<l.length->l[i]?=some a->∀(v:CK β) d,v.length=i->f (i,v) d=d ((i:Int)+1,v++[g a])) (e:∀(v:CK β) d,f (l.length,v) d=K v):Ê f (0,[])=K (l.map g):=by
 refine ê l (fun i=>(l.take i).map g) _ rfl (fun i a hi ha d=>?_) (fun d=>?_)
 ·rw[h i a hi ha _ d (by simp; omega),take_succ ha,fc]; rfl
 ·rw[e,fo]
end
def nq (m:ł) (w:Way) (d:Int) (l:CK Int):CK Int:=lh (l.map fun x=>ţ m.2 w x d)
def afF (m:ł) (w:Way) (c:Cmp):Cmp:=(c.1,c.2.1,nq m w c.2.1 c.2.2.1,nq m w c.2.1 c.2.2.2.1,c.2.2.2.2)
def trP (m:ł) (w:Way):ø :=
 (m.1.1,m.1.2.1,m.1.2.2.1.map (fun u=>(ţ m.2 w u.1 u.2,u.2)),m.1.2.2.2.1.map (fun l=>(ţ m.2 w l.1 l.2.1.1,l.2)),m.1.2.2.2.2.1.map (afF m w),m.1.2.2.2.2.2.map (fun n=>(ţ m.2 w n.1 n.2,n.2)))
section
variable {ρ:Type} {m:ł} {w:Way}
def MOk.who (h:MOk m) (e:Ĵ m.2 w) (x d:Int):rW m w x d=some (ţ m.2 w x d) :=
 who_ok e (by have:=h.n4; omega) (fun y a=>by have:=h.len5 y a; omega) x d
def tr_L0 (h:MOk m) (f:Ĵ m.2 w) (k0:CK (Int×Int)->BY ρ):Ê (fun(v:Int×CK (Int×Int)) e=>lG m w m.1.2.2.1 (Õ m.1.2.2.1) v.1 v.2 (fun a b=>e (a,b)) k0) ((0:Int),[])=k0 (m.1.2.2.1.map fun u=>(ţ m.2 w u.1 u.2,u.2)):=by
 have j:=h.good.nU
 refine oi m.1.2.2.1 (fun u:Int×Int=>((ţ m.2 w u.1 u.2,u.2):Int×Int)) k0 (fun i a hi ha v d g=>?_) (fun v d=>?_)<;>(try dsimp only)<;>unfold lG
 ·rw[Ì hi,Æ ha,h.who f,À,à (Ð (by simp; omega)),È hi (by omega)]
 ·rw[Ó]
def tr_L1 (h:MOk m) (f:Ĵ m.2 w) (k0:CK IE->BY ρ):Ê (fun(v:Int×CK IE) e=>lF m w m.1.2.2.2.1 (Õ m.1.2.2.2.1) v.1 v.2 (fun a b=>e (a,b)) k0) ((0:Int),[])=k0 (m.1.2.2.2.1.map fun l=>(ţ m.2 w l.1 l.2.1.1,l.2)):=by
 have j:=h.good.nL
 refine oi m.1.2.2.2.1 (fun l:IE=>((ţ m.2 w l.1 l.2.1.1,l.2):IE)) k0 (fun i a hi ha v d g=>?_) (fun v d=>?_)<;>(try dsimp only)<;>unfold lF
 ·rw[Ì hi,Æ ha,h.who f,À,à (Ð (by simp; omega)),È hi (by omega)]
 ·rw[Ó]
def Fo (h:MOk m) (f:Ĵ m.2 w) (d:Int) {l:CK Int} (j:l.length<=1000):jT l d m w=some (nq m w d l):=by
 unfold jT zz;rw[oi l (fun x:Int=>(ţ m.2 w x d:Int)) (fun z=>Û (ß z.length) (some (yR z))) (fun i a hi ha v e g=>?_) (fun v e=>?_),à (Ð (by simp; omega)),Ul]; rfl
 ·try dsimp only
  unfold jB;rw[Ì hi,Æ ha,h.who f,À,à (Ð (by simp; omega)),È hi (by omega)]
 ·try dsimp only
  unfold jB;rw[Ó]
def tr_L2 (h:MOk m) (d:Ĵ m.2 w) (k0:CK Cmp->BY ρ):Ê (fun(v:Int×CK Cmp) j=>lE m w m.1.2.2.2.2.1 (Õ m.1.2.2.2.2.1) v.1 v.2 (fun a b=>j (a,b)) k0) ((0:Int),[])=k0 (m.1.2.2.2.2.1.map (afF m w)):=by
 have l:=h.good.nC
 refine oi m.1.2.2.2.2.1 (afF m w) k0 (fun i a hi ha v g k=>?_) (fun v g=>?_)<;>(try dsimp only)<;>unfold lE
 ·obtain⟨f,e⟩:=h.good.size.piles a (df ha);rw[Ì hi,Æ ha,Fo h d _ f,À,Fo h d _ e,À,à (Ð (by simp; omega)),È hi (by omega)];rfl
 ·rw[Ó]
def tr_L3 (h:MOk m) (f:Ĵ m.2 w) (k0:CK (Int×Int)->BY ρ):Ê (fun(v:Int×CK (Int×Int)) e=>lD m w m.1.2.2.2.2.2 (Õ m.1.2.2.2.2.2) v.1 v.2 (fun a b=>e (a,b)) k0) ((0:Int),[])=k0 (m.1.2.2.2.2.2.map fun n=>(ţ m.2 w n.1 n.2,n.2)):=by
 have j:=h.good.nK
 refine oi m.1.2.2.2.2.2 (fun n:Int×Int=>((ţ m.2 w n.1 n.2,n.2):Int×Int)) k0 (fun i a hi ha v d g=>?_) (fun v d=>?_)<;>(try dsimp only)<;>unfold lD
 ·rw[Ì hi,Æ ha,h.who f,À,à (Ð (by simp; omega)),È hi (by omega)]
 ·rw[Ó]
def sH (h:MOk m) (a:Ĵ m.2 w):jf m w=some (trP m w):=by
 have d:=h.good.nG;unfold jf wM trP;rw[à (Ð (by omega)),tr_L0 h a,tr_L1 h a,tr_L2 h a,tr_L3 h a]
end
def aaY {l:CK Int} {x:Int} (h:x∈l):∃k,l.findIdx? (·==x)=some k/\l[k]?=some x:=by
 cases a:l.findIdx? (·==x) with
 |none =>
  have:=dU.1 a x h;simp at this
 |some k =>
  obtain⟨d,e,_⟩:=dN.1 a;exact⟨k,rfl,by rw[cX d]; simpa using e⟩
def VF {l:CK Int} {x:Int} (h:x∉l):l.findIdx? (·==x)=none:=by
 rw[dU];intro y a;simp only[beq_eq_false_iff_ne];exact fun e=>h (e▸a)
def idx_at {l:CK Int} (d:l.Nodup) {k:Nat} {x:Int} (h:l[k]?=some x):l.findIdx? (·==x)=some k:=by
 obtain⟨j,e,a⟩:=aaY (df h);obtain⟨i,g⟩:=de.1 h;obtain⟨h2,f⟩:=de.1 a;rw[e,(List.getElem_inj d).1 (f.trans g.symm)]
def abY {d d0:Int} {l k:CK Int} (g:l.Nodup) (n:k.Nodup) (f:l.Perm k) (x:Int):stp d (d0,k) l (stp d (d0,l) k x)=x:=by
 unfold stp
 by_cases hd:d0<d
 ·simp only[if_pos hd]
  by_cases a:x∈k
  ·obtain⟨i,j,h2⟩:=aaY a;rw[j];dsimp only
   have hi:i<l.length:=by rw[f.length_eq]; exact(de.1 h2).1
   have e:l[i]?=some (l.getD i 0):=by rw[ej,cX hi]; rfl
   rw[idx_at g e];dsimp only;rw[List.getD_eq_getElem?_getD,h2]; rfl
  ·rw[VF a];dsimp only;rw[VF fun h=>a (f.subset h)]
 ·simp only[if_neg hd]
def af2 {d:Int} {m:Mx} {l:CK Int} (e:l.Perm m.2) (x:Int):stp d m l x=x\/(m.1<d/\x∈m.2/\stp d m l x∈m.2):=by
 unfold stp
 by_cases hd:m.1<d
 ·simp only[if_pos hd]
  by_cases a:x∈l
  ·obtain⟨i,f,h2⟩:=aaY a;rw[f];dsimp only
   have hi:i<m.2.length:=by rw[<-e.length_eq]; exact(de.1 h2).1
   exact .inr ⟨hd,e.subset a,by rw[ej,cX hi]; exact fq hi⟩
  ·rw[VF a];exact .inl rfl
 ·simp only[if_neg hd];exact .inl trivial
def alQ:CK Mx->Way->Int->Int->Int
 |m::ms,l::ls,x,d=>alQ ms ls (stp d (m.1,l) m.2 x) d
 |_,_,x,_=>x
def ajh {l:CK Int} (h:l.Pairwise (·<·)):l.Nodup:=h.imp fun h=>Int.ne_of_lt h
def afN:∀{ms:CK Mx} {w:Way},Ĵ ms w->(∀x∈ms,x.2.Nodup)->∀x d,ţ ms w (alQ ms w x d) d=x
 |[],[],_,_,x,d=>rfl
 |m::ms,l::ls,h,a,x,d=>by
  rw[alQ,ţ,afN h.2 fun y e=>a y (dS _ e)];exact abY (d0:=m.1) (h.1.nodup_iff.2 (a m (by simp))) (a m (by simp)) h.1 x
def aaQ:∀{ms:CK Mx} {w:Way},Ĵ ms w->(∀x∈ms,x.2.Nodup)->∀x d,alQ ms w (ţ ms w x d) d=x
 |[],[],_,_,x,d=>rfl
 |m::ms,l::ls,h,a,x,d=>by
  rw[alQ,ţ];have:=abY (d:=d) (d0:=m.1) (l:=m.2) (k:=l) (a m (by simp)) (h.1.nodup_iff.2 (a m (by simp))) h.1.symm (ţ ms ls x d);rw[show stp d (m.1,l) m.2 (stp d m l (ţ ms ls x d))=_ from this];exact aaQ h.2 (fun y e=>a y (dS _ e)) x d
def Z6:∀{ms:CK Mx} {w:Way} (Q:Int->Prop) {d:Int},Ĵ ms w->(∀m∈ms,m.1<d->∀x∈m.2,Q x)->∀{x:Int},Q x->Q (ţ ms w x d)
 |[],[],Q,d,_,_,x,a=>a
 |m::ms,l::ls,Q,d,h,f,x,a=>by
  have:=Z6 (x:=x) Q h.2 (fun y g=>f y (dS _ g)) a;rw[ţ];rcases af2 (d:=d) h.1 (ţ ms ls x d) with e|⟨j,_,i⟩
  ·rw[e]; exact this
  ·exact f m (by simp) j _ i
def LN:∀{ms:CK Mx} {w:Way} {d:Int},Ĵ ms w->∀{x:Int},(∀m∈ms,m.1<d->x∉m.2)->ţ ms w x d=x
 |[],[],d,_,x,_=>rfl
 |m::ms,l::ls,d,h,x,a=>by
  rw[ţ,LN h.2 fun y f=>a y (dS _ f)];rcases af2 (d:=d) h.1 x with e|⟨i,g,_⟩
  ·exact e
  ·exact absurd g (a m (by simp) i)
def Wx:∀{ms:CK Mx} {w:Way} {d e:Int},Ĵ ms w->ms.Pairwise (fun a b=>a.1<b.1)->d<=e->∀{x:Int},(∀m∈ms,d<=m.1->m.1<e->x∉m.2)->ţ ms w x e=ţ ms w x d
 |[],[],d,e,_,_,_,x,_=>rfl
 |m::ms,l::ls,d,e,h,j,p,x,k=>by
  rw[dJ] at j;rcases gS m.1 d with n|o
  ·rw[ţ,ţ,Wx h.2 j.2 p fun y g=>k y (dS _ g)]
   have q:∀y,stp e m l y=stp d m l y:=fun y=>by unfold stp; rw[if_pos n,if_pos (by omega)]
   exact q _
  ·have q:ţ (m::ms) (l::ls) x e=x:=LN h fun y g i=>by
    rcases dh.1 g with rfl|f
    ·exact k y (by simp) o i
    ·exact k y g (by have:=j.1 y f; omega) i
   have s:ţ (m::ms) (l::ls) x d=x:=LN h fun y g r=>by
    rcases dh.1 g with rfl|f
    ·omega
    ·have:=j.1 y f; omega
   rw[q,s]
def FQ {b:ø} (hi:b.2.1.Pairwise fun a b=>a.1<b.1) {id day:Int}:mu (ŝ b) id day=0↔∃g,î b id=some g/\g.2.1<=day:=by
 rw[<-wG hi];unfold ŋ
 cases î b id with
 |none=>simp
 |some g =>
  dsimp only
  by_cases h:day<g.2.1
  ·rw[if_pos h]; simp; omega
  ·rw[if_neg h]; simp; omega
def Fh {b:ø} (hi:b.2.1.Pairwise fun a b=>a.1<b.1) {id day:Int}:Z7 (ŝ b) id day=0↔yH day=true/\∃g,î b id=some g/\g.2.1<=day:=by
 unfold Z7
 cases yH day with
 |false=>simp
 |true=>simp[FQ hi]
def Y6 {b:ø} (hi:b.2.1.Pairwise fun a b=>a.1<b.1) {i:Nat} {l:IE}:LD b (ŝ b) i l=0↔j7 l.2.1 0 20000=true/\inP l.2.2 0 1048576=true/\(∃g,î b l.1=some g/\g.2.1<=l.2.1.1) /\
 (∀x∈b.2.2.2.1.take i,x.1=l.1->¬(x.2.1.1<=l.2.1.2/\l.2.1.1<=x.2.1.2))/\∀u∈b.2.2.1,u.1=l.1->inP u.2 l.2.1.1 l.2.1.2=false:=by
 unfold LD;rw[<-FQ hi]
 cases j7 l.2.1 0 20000 with
 |false=>simp
 |true =>
  cases inP l.2.2 0 1048576 with
  |false=>simp
  |true =>
   by_cases h:mu (ŝ b) l.1 l.2.1.1=0
   ·simp only[h,dR,dr,if_false,bne_self_eq_false,true_and]
    split
    ·rename_i d;simp only[dA,cY,beq_iff_eq,decide_eq_true_eq] at d;obtain⟨x,f,n,k⟩:=d;exact⟨fun e=>absurd e (by decide),fun e=>absurd k (e.1 x f n)⟩
    ·rename_i d;simp only[dA,cY,beq_iff_eq,decide_eq_true_eq,not_exists,not_and] at d
     split
     ·rename_i h2;simp only[dA,cY,beq_iff_eq] at h2;obtain⟨u,j,n,k⟩:=h2;exact⟨fun e=>absurd e (by decide),fun e=>by have:=e.2 u j n; rw[k] at this; cases this⟩
     ·rename_i h2;simp only[dA,cY,beq_iff_eq,not_exists,not_and] at h2;exact⟨fun _=>⟨fun x f e ⟨p,q⟩=>d x f e p q,fun u j e=>by simpa using h2 u j e⟩,fun _=>rfl⟩
   ·simp[h]
def Sj {b:ø} (hi:b.2.1.Pairwise fun a b=>a.1<b.1) {c:Cmp}:uR b (ŝ b) c=0↔(∀x∈c.2.2.1++c.2.2.2.1,(∃g,î b x=some g/\g.2.1<=c.2.1)/\ś b x c.2.1=none) /\
 (á c.2.2.1 c.2.2.2.1).length<=1/\(á c.2.2.2.1 c.2.2.1).length<=1/\(á c.2.2.1 c.2.2.2.1).length+(á c.2.2.2.1 c.2.2.1).length≠0:=by
 unfold uR;constructor
 ·intro h
  split at h
  ·cases h
  rename_i f
  split at h
  ·cases h
  rename_i h2
  split at h
  ·cases h
  rename_i i
  split at h
  ·cases h
  split at h
  ·cases h
  split at h
  ·cases h
  simp only[dA,not_exists,not_and,beq_iff_eq] at f h2;simp only[dA,not_exists,not_and,Option.isSome_iff_ne_none,ne_eq,Decidable.not_not] at i;refine⟨fun x d=>⟨(FQ hi).1 ?_,i x d⟩,by omega,by omega,by omega⟩;rcases Ej (ŝ b) x c.2.1 with e|e|e
  ·exact e
  ·exact absurd e (h2 x d)
  ·exact absurd e (f x d)
 ·intro⟨f,h2,i,k⟩;have j:∀x∈c.2.2.1++c.2.2.2.1,mu (ŝ b) x c.2.1=0:=fun x d=>(FQ hi).2 (f x d).1;rw[if_neg,if_neg,if_neg,if_neg (by omega),if_neg (by omega),if_neg k]
  ·simp only[dA,not_exists,not_and,Option.isSome_iff_ne_none,ne_eq,Decidable.not_not];exact fun x d=>(f x d).2
  ·simp only[dA,not_exists,not_and,beq_iff_eq]
   exact fun x d e=>by rw[j x d] at e; cases e
  ·simp only[dA,not_exists,not_and,beq_iff_eq]
   exact fun x d e=>by rw[j x d] at e; cases e
def JV {b:ø} {x d:Int}:ś b x d=none↔∀l∈b.2.2.2.1,l.1=x->inP d l.2.1.1 l.2.1.2=false:=by
 unfold ś;rw[List.find?_eq_none];simp
def yX {m:ł} {w:Way} {d:Int} {l:CK Int} {y:Int}:y∈nq m w d l↔∃x∈l,ţ m.2 w x d=y:=by
 unfold nq;rw[(ĵ _).mem_iff,List.mem_map]
section
variable {m:ł} {w:Way}
def MOk.nd (h:MOk m):∀x∈m.2,x.2.Nodup:=fun x a=>ajh (h.mix a).asc
def MOk.inj (h:MOk m) (a:Ĵ m.2 w) {d x y:Int} (e:ţ m.2 w x d=ţ m.2 w y d):x=y:=by
 rw[<-aaQ a h.nd x d,e,aaQ a h.nd]
def MOk.whoG (h:MOk m) (i:Ĵ m.2 w) {d x:Int} (f:∃g,î m.1 x=some g/\g.2.1<=d):∃g,î m.1 (ţ m.2 w x d)=some g/\g.2.1<=d :=
 Z6 (fun y=>∃g,î m.1 y=some g/\g.2.1<=d) i (fun y e hd z a=>by
  obtain⟨g,j,h2⟩:=(h.mix e).known z a
  exact⟨g,j,by omega⟩) f
def MOk.made (h:MOk m) (f:Ĵ m.2 w) {x:Int} {g:æ} (i:î m.1 x=some g):ţ m.2 w x g.2.1=x :=
 LN f fun y d hd e=>by
  obtain⟨g',a,h2⟩:=(h.mix d).known x e;rw[i] at a; cases a;omega
def MOk.loan (h:MOk m) (f:Ĵ m.2 w) {l:IE} (g:l∈m.1.2.2.2.1) {d:Int} (hd:inP d l.2.1.1 l.2.1.2=true):ţ m.2 w l.1 d=ţ m.2 w l.1 l.2.1.1:=by
 simp only[inP,cY,decide_eq_true_eq] at hd;refine Wx f h.days hd.1 fun y a i h2 e=>?_;have:=(JV.1 ((h.mix a).home _ e).1) l g rfl;simp only[inP,iq,decide_eq_false_iff_not] at this;omega
def ahD (h:MOk m) (f:Ĵ m.2 w) (d:Int) (A B:CK Int):(á (nq m w d A) (nq m w d B)).Perm ((á A B).map fun x=>ţ m.2 w x d):=by
 unfold á;refine((ĵ _).filter _).trans ?_;rw[List.filter_map];refine List.Perm.of_eq ?_;congr 1;refine List.filter_congr fun x g=>?_;simp only[Function.comp];congr 1;rw[Bool.eq_iff_iff,List.contains_iff_mem,List.contains_iff_mem,yX];exact⟨fun⟨y,a,e⟩=>h.inj f e▸a,fun a=>⟨x,a,rfl⟩⟩
def acd (h:MOk m) (i:Ĵ m.2 w) {d:Int} {l:CK Int} (n:uz l=true) (p:∀x∈l,∃g,î m.1 x=some g/\g.2.1<=d):uz (nq m w d l)=true:=by
 obtain⟨u,h2,r⟩:=(yY l).1 n;refine(yY _).2 ⟨fun y j=>?_,?_,by unfold nq; rw[(ĵ _).length_eq,List.length_map]; exact r⟩
 ·obtain⟨x,k,rfl⟩:=yX.1 j;obtain⟨g,q,_⟩:=h.whoG i (p x k);obtain⟨t,s⟩:=δ q;have:=(h.good.gaugeR t).2.2.2.1;rw[<-s]; exact this
 ·have f:(nq m w d l).Nodup:=by
   unfold nq;rw[(ĵ _).nodup_iff];exact List.pairwise_map.2 (h2.imp fun o e=>by have:=h.inj i e; omega)
  exact((Ω _).and f).imp fun⟨a,b⟩=>Int.lt_iff_le_and_ne.2 ⟨a,b⟩
def al9 (h:MOk m) (f:Ĵ m.2 w) {x d:Int} (ha:ś m.1 x d=none):ś (trP m w) (ţ m.2 w x d) d=none:=by
 rw[JV];intro i a e;obtain⟨l,g,rfl⟩:=dE.1 a
 cases hd:inP d l.2.1.1 l.2.1.2 with
 |false=>rfl
 |true =>
  rw[<-h.loan f g hd] at e;have:=JV.1 ha l g (h.inj f e);rw[hd] at this; cases this
def Na {b:ø} (hi:b.2.1.Pairwise fun a b=>a.1<b.1):(Ò b).Nodup:=by
 unfold Ò List.Nodup;rw[List.pairwise_flatMap];refine⟨fun g _=>List.pairwise_map.2 ((sg b g).imp fun h e=>by cases e; omega),hi.imp fun j x i y f e=>?_⟩;obtain⟨d,_,rfl⟩:=List.mem_map.1 i;obtain⟨k,_,rfl⟩:=List.mem_map.1 f;simp only[Prod.mk.injEq] at e;omega
def zi {b:ø} {x d:Int}:(x,d)∈Ò b↔∃g∈b.2.1,g.1=x/\d∈Ý b g:=by
 unfold Ò;simp only[List.mem_flatMap,List.mem_map];constructor
 ·rintro⟨g,a,f,hd,e⟩;cases e;exact⟨g,a,rfl,hd⟩
 ·rintro⟨g,a,rfl,hd⟩;exact⟨g,a,d,hd,rfl⟩
def BT (h:MOk m) (f:Ĵ m.2 w) {d:Int} {A:CK Int} {x:Int}:(nq m w d A).contains (ţ m.2 w x d)=A.contains x:=by
 rw[eM,dW,dW,yX];exact⟨fun⟨y,a,e⟩=>h.inj f e▸a,fun a=>⟨x,a,rfl⟩⟩
def al8 (h:MOk m) (e:Ĵ m.2 w) {x d:Int} (o:(x,d)∈Ò m.1):(ţ m.2 w x d,d)∈Ò (trP m w):=by
 obtain⟨g,l,rfl,hd⟩:=zi.1 o;have a:=rR h.good.ids l;obtain⟨g',k,_⟩:=h.whoG e (x:=g.1) (d:=d) ⟨g,a,(h.good.day l hd).1⟩;obtain⟨q,j⟩:=δ k;refine zi.2 ⟨g',q,j,Γ.2 ?_⟩;rcases Γ.1 hd with rfl|⟨c,p,i,rfl⟩|⟨n,f,i,rfl⟩
 ·rw[h.made e a,a] at k;cases k;exact .inl rfl
 ·refine .inr (.inl ⟨afF m w c,dE.2 ⟨c,p,rfl⟩,?_,rfl⟩);rw[j];show(nq m w c.2.1 c.2.2.1).contains _≠(nq m w c.2.1 c.2.2.2.1).contains _;rw[BT h e,BT h e];exact i
 ·exact .inr (.inr ⟨_,dE.2 ⟨n,f,rfl⟩,by rw[j,i],rfl⟩)
def WK (h:MOk m) (j:Ĵ m.2 w) {y d:Int} (s:(y,d)∈Ò (trP m w)):∃x,ţ m.2 w x d=y/\(x,d)∈Ò m.1:=by
 obtain⟨g,k,rfl,hd⟩:=zi.1 s;have k:g∈m.1.2.1:=k;have o:=rR h.good.ids k;have q:ţ m.2 w (alQ m.2 w g.1 d) d=g.1:=afN j h.nd _ _
 have fin:∀x,ţ m.2 w x d=g.1->(∃g',î m.1 x=some g')->(∀g':æ,g'.1=x->d∈Ý m.1 g')->∃x,ţ m.2 w x d=g.1/\(x,d)∈Ò m.1:=fun x e ⟨g',A⟩ z=>by
  obtain⟨v,a⟩:=δ A;exact⟨x,e,zi.2 ⟨g',v,a,z g' a⟩⟩
 rcases Γ.1 hd with e|⟨c',p,a,f⟩|⟨C,l,a,f⟩
 ·subst e;exact⟨g.1,h.made j o,zi.2 ⟨g,k,rfl,om g⟩⟩
 ·obtain⟨c,r,rfl⟩:=dE.1 p;have f:c.2.1=d:=f;subst f;have a:(nq m w c.2.1 c.2.2.1).contains g.1≠(nq m w c.2.1 c.2.2.2.1).contains g.1:=a;rw[<-q,BT h j,BT h j] at a;refine fin _ q ?_ fun g' e=>Γ.2 (.inr (.inl ⟨c,r,by rw[e]; exact a,rfl⟩))
  have:alQ m.2 w g.1 c.2.1∈c.2.2.1++c.2.2.2.1:=by
   rw[dg,<-dW,<-dW]
   cases t:c.2.2.1.contains (alQ m.2 w g.1 c.2.1) with
   |true=>exact .inl rfl
   |false =>
    rw[t] at a;exact .inr (by simpa using a)
  obtain⟨⟨g',e,_⟩,_⟩:=h.good.pile r this;exact⟨g',e⟩
 ·obtain⟨n,i,rfl⟩:=dE.1 l;have f:n.2=d:=f;have a:ţ m.2 w n.1 n.2=g.1:=a;subst f;obtain⟨_,g',e,_⟩:=(Fh h.good.ids).1 (h.good.looks n i);exact fin n.1 a ⟨g',e⟩ fun u e=>Γ.2 (.inr (.inr ⟨n,i,e.symm,rfl⟩))
def aj9 (m:ł) (w:Way) (n:Int×Int):Int×Int:=(ţ m.2 w n.1 n.2,n.2)
def alF (h:MOk m):(trP m w).2.1.Pairwise fun a b=>a.1<b.1:=h.good.ids
def tr_len (h:MOk m) (g:Ĵ m.2 w):(Ò (trP m w)).length=(Ò m.1).length:=by
 have p:(Ò (trP m w)).length<=((Ò m.1).map (aj9 m w)).length:=gw (Na (alF h)) fun n k=>by
  obtain⟨x,e,f⟩:=WK (y:=n.1) (d:=n.2) h g k;exact dE.2 ⟨(x,n.2),f,Prod.ext e rfl⟩
 have h2:((Ò m.1).map (aj9 m w)).length<=(Ò (trP m w)).length:=by
  have j:((Ò m.1).map (aj9 m w)).Nodup:=by
   refine List.pairwise_map.2 ((Na h.good.ids).imp ?_);intro a b i e;unfold aj9 at e;simp only[Prod.mk.injEq] at e;obtain⟨o,l⟩:=e;rw[l] at o;exact i (Prod.ext (h.inj g o) l)
  refine gw j fun n k=>?_;obtain⟨⟨x,d⟩,f,rfl⟩:=dE.1 k;exact al8 h g f
 rw[dC] at p h2;omega
def wD (h:MOk m) (j:Ĵ m.2 w):Ŧ (trP m w):=by
 have a:=h.good;have f:=alF (w:=w) h;have Y:ŝ (trP m w)=ŝ m.1:=rfl;have hgo:∀x,î (trP m w) x=î m.1 x:=fun _=>rfl;have o:=tr_len h j;refine⟨a.film,a.nG,by simpa[trP] using a.nU,by simpa[trP] using a.nL,by simpa[trP] using a.nC,by simpa[trP] using a.nK,a.gauge,f,?_,?_,?_,?_,by rw[o]; exact a.nodes,by rw[o]; simpa[trP] using a.links⟩
 ·intro u' q;obtain⟨u,G,rfl⟩:=dE.1 q;obtain⟨D,C⟩:=(Fh a.ids).1 (a.uses u G);exact(Fh f).2 ⟨D,h.whoG j C⟩
 ·intro i P J
  obtain⟨l,Q,rfl⟩:∃l,m.1.2.2.2.1[i]?=some l/\(ţ m.2 w l.1 l.2.1.1,l.2)=P:=by
   have:(m.1.2.2.2.1.map (fun l:IE=>(ţ m.2 w l.1 l.2.1.1,l.2)))[i]?=some P:=J;rw[eW] at this
   cases d:m.1.2.2.2.1[i]? with
   |none=>rw[d] at this; cases this
   |some l=>rw[d] at this; exact⟨l,rfl,by simpa using this⟩
  have r:=df Q;obtain⟨D,C,e3,e4,e5⟩:=(Y6 a.ids).1 (a.loans i l Q);refine(Y6 f).2 ⟨D,C,h.whoG j e3,fun S k ex z=>?_,fun u' q O=>?_⟩
  ·have k:S∈(m.1.2.2.2.1.map (fun l:IE=>(ţ m.2 w l.1 l.2.1.1,l.2))).take i:=k;rw[<-List.map_take] at k;obtain⟨x,d,rfl⟩:=List.mem_map.1 k;have t:=List.mem_of_mem_take d;have s1:=(vS a t).1;have s2:=(vS a r).1;dsimp only at ex z
   have d1:inP (max x.2.1.1 l.2.1.1) x.2.1.1 x.2.1.2=true:=by simp[inP]; omega
   have d2:inP (max x.2.1.1 l.2.1.1) l.2.1.1 l.2.1.2=true:=by simp[inP]; omega
   rw[<-h.loan j t d1,<-h.loan j r d2] at ex;exact e4 x d (h.inj j ex) z
  ·obtain⟨u,G,rfl⟩:=List.mem_map.1 q;dsimp only at O ⊢
   cases hd:inP u.2 l.2.1.1 l.2.1.2 with
   |false=>rfl
   |true =>
    rw[<-h.loan j r hd] at O;have:=e5 u G (h.inj j O);rw[hd] at this; cases this
 ·intro i c' M
  obtain⟨c,R,rfl⟩:∃c,m.1.2.2.2.2.1[i]?=some c/\afF m w c=c':=by
   have:(m.1.2.2.2.2.1.map (afF m w))[i]?=some c':=M;rw[eW] at this
   cases d:m.1.2.2.2.2.1[i]? with
   |none=>rw[d] at this; cases this
   |some l=>rw[d] at this; exact⟨l,rfl,by simpa using this⟩
  have s:=df R;obtain⟨n1,W,V,n4,U,n6,T⟩:=(Ŷ c).1 (a.nums s);have v:=(Sj a.ids).1 (a.pilesOf s);have K:∀x∈c.2.2.1++c.2.2.2.1,∃g,î m.1 x=some g/\g.2.1<=c.2.1:=fun x d=>(v.1 x d).1;have A:I1 (afF m w c)=true:=(Ŷ _).2 ⟨n1,W,V,n4,U,acd h j n6 fun x d=>K x (dT _ d),acd h j T fun x d=>K x (dO _ d)⟩;have F:=(ahD h j c.2.1 c.2.2.1 c.2.2.2.1).length_eq;have E:=(ahD h j c.2.1 c.2.2.2.1 c.2.2.1).length_eq;rw[dC] at F E
  have H:uR (trP m w) (ŝ (trP m w)) (afF m w c)=0:=by
   refine(Sj f).2 ⟨fun y p=>?_,?_,?_,?_⟩
   ·have p:y∈nq m w c.2.1 c.2.2.1++nq m w c.2.1 c.2.2.2.1:=p
    obtain⟨x,d,rfl⟩:∃x∈c.2.2.1++c.2.2.2.1,ţ m.2 w x c.2.1=y:=by
     rcases dg.1 p with p|p
     ·obtain⟨x,d,e⟩:=yX.1 p;exact⟨x,dT _ d,e⟩
     ·obtain⟨x,d,e⟩:=yX.1 p;exact⟨x,dO _ d,e⟩
    exact⟨h.whoG j (K x d),al9 h j (v.1 x d).2⟩
   ·show(á (nq m w c.2.1 c.2.2.1) (nq m w c.2.1 c.2.2.2.1)).length<=1;rw[F]; exact v.2.1
   ·show(á (nq m w c.2.1 c.2.2.2.1) (nq m w c.2.1 c.2.2.1)).length<=1;rw[E]; exact v.2.2.1
   ·show(á (nq m w c.2.1 c.2.2.1) (nq m w c.2.1 c.2.2.2.1)).length+(á (nq m w c.2.1 c.2.2.2.1) (nq m w c.2.1 c.2.2.1)).length≠0;rw[F,E]; exact v.2.2.2
  have h0:=a.compares i c R;unfold lP at h0 ⊢;rw[a.nums s] at h0;rw[A,H]
  have X:((trP m w).2.2.2.2.1.take i).any (fun x=>x.1==(afF m w c).1)=(m.1.2.2.2.2.1.take i).any fun x=>x.1==c.1:=by
   show((m.1.2.2.2.2.1.map (afF m w)).take i).any _=_;rw[<-List.map_take,List.any_map]; rfl
  rw[X];simp only[dR,dr,if_false] at h0 ⊢
  split at h0
  ·cases h0
  ·rename_i h1; rw[if_neg h1]
 ·intro n' I;obtain⟨n,Z,rfl⟩:=dE.1 I;obtain⟨D,C⟩:=(Fh a.ids).1 (a.looks n Z);exact(Fh f).2 ⟨D,h.whoG j C⟩
end
section
variable {L:CK Lk} {N:Nat}
def Wt (h:jo L N):oj ((N:Int),L)=some (j8 L N,0):=by
 have h2:=h.n60;unfold oj Dv;rw[mW h,À];dsimp only;rw[Í (by rfl),wF h.links h.n1 (by omega),À]
 cases j8 L N<;>rfl
end
def abJ (x y:CK Int):CK Int×CK Int×Int:=if !uz x then([],[],1) else if !uz y then([],[],1) else(á x y,á y x,0)
def ajB {x y:CK Int} (d:x.length<=100000) (a:y.length<=100000):qJ x y=some (abJ x y):=by
 unfold qJ TA abJ;rw[Hz (by omega),À]
 cases uz x with
 |false=>rfl
 |true =>
  rw[Hz (by omega),À]
  cases uz y with
  |false=>rfl
  |true =>
   rw[AK (by omega) (by omega),À,AK (by omega) (by omega),À];rfl
def less (b:ø) (ids:CK Int):ø:=(b.1,b.2.1,b.2.2.1,b.2.2.2.1,b.2.2.2.2.1.filter (fun c=>!ids.contains c.1),b.2.2.2.2.2)
section
variable {b:ø} {ids:CK Int}
def Ŧ.distinct (h:Ŧ b):b.2.2.2.2.1.Pairwise fun a c=>a.1≠c.1:=by
 rw[List.pairwise_iff_getElem];intro i j hi f g k;have e:=h.compares j _ (List.getElem?_eq_getElem f);unfold lP at e
 have d:(b.2.2.2.2.1.take j).any (fun x=>x.1==b.2.2.2.2.1[j].1)=true:=by
  rw[dA];exact⟨b.2.2.2.2.1[i],dp.2 ⟨i,by rw[dm]; omega,by rw[fj]⟩,by simp[k]⟩
 rw[d] at e
 (repeat' split at e)<;>first|omega|simp_all
def ahT {α β:Type} (f g:α->CK β):∀l:CK α,(∀a∈l,(f a).length<=(g a).length)->(l.flatMap f).length<=(l.flatMap g).length
 |[],_=>cZ _
 |a::l,h=>by
  rw[dB,dB,dc,dc];have:=h a (by simp);have:=ahT f g l fun c d=>h c (by simp[d]);omega
def lt_len:∀{x y:CK Int},x.Pairwise (·<·)->(∀a∈x,a∈y)->x.length<=y.length:=by
 intro x y d h;exact(gw (d.imp fun h=>by omega) h)
def Ŧ.less (h:Ŧ b) (ids:CK Int):Ŧ (less b ids):=by
 have l:∀c∈(ZzM.less b ids).2.2.2.2.1,c∈b.2.2.2.2.1:=fun c o=>(dX.1 o).1;have p:(ZzM.less b ids).2.2.2.2.1.length<=b.2.2.2.2.1.length:=dP _ _
 have n:∀g,(Ý (ZzM.less b ids) g).length<=(Ý b g).length:=fun g=>lt_len (sg _ g) fun d hd=>by
  rcases Γ.1 hd with e|⟨c,o,y,h2⟩|C
  ·exact Γ.2 (.inl e)
  ·exact Γ.2 (.inr (.inl ⟨c,l c o,y,h2⟩))
  ·exact Γ.2 (.inr (.inr C))
 have f:(Ò (ZzM.less b ids)).length<=(Ò b).length:=ahT _ _ _ fun g _=>by rw[dC,dC]; exact n g
 have G:=h.nodes;have H:=h.nC;refine⟨h.film,h.nG,h.nU,h.nL,Nat.le_trans p h.nC,h.nK,h.gauge,h.ids,h.uses,h.loans,fun i c o=>?_,h.looks,Nat.le_trans f G,by omega⟩;have v:=l c (List.mem_of_getElem? o);obtain⟨j,E,t⟩:=List.mem_iff_getElem.1 v;have s:=h.compares j c (by rw[List.getElem?_eq_getElem E,t]);unfold lP at s ⊢
 split at s
 ·omega
 rename_i y
 split at s
 ·omega
 rw[if_neg y,if_neg ?_]
 ·exact s
 ·intro r;obtain⟨x,A,F⟩:=dA.1 r;obtain⟨k,D,q⟩:=dp.1 A;rw[dm] at D;rw[fj] at q;obtain⟨hi,u⟩:=de.1 o;have z:=dM.1 ((h.distinct.sublist gQ:(ZzM.less b ids).2.2.2.2.1.Pairwise fun a c=>a.1≠c.1)) k i (by omega) hi (by omega);rw[q,u] at z;exact z (eq_of_beq F)
end
abbrev zC:Cmp:=((0:Int),(0:Int),[],[],(0:Int),(0:Int),(0:Int),(0:Int))
section
variable {ρ α:Type}
def aib (a:α) (K:CK α->BY ρ) (z:Int×CK α):BY ρ :=
 Û ((ile (0:Int) z.1)&&(ile z.1 (ç z.2))) (Û ((ile (0:Int) z.1)&&(ile z.1 (ç (List.take (Int.toNat z.1) z.2++List.replicate (List.length z.2-(Int.toNat z.1)) a++List.drop ((Int.toNat z.1)+(List.length z.2-(Int.toNat z.1))) z.2))))
  (K (List.take (Int.toNat z.1) (List.drop 0 (List.take (Int.toNat z.1) z.2++List.replicate (List.length z.2-(Int.toNat z.1)) a++List.drop ((Int.toNat z.1)+(List.length z.2-(Int.toNat z.1))) z.2)))))
def abd (a:α) (K:CK α->BY ρ) {i:Nat} {s:CK α} (h:i<=s.length):aib a K ((i:Int),s)=K (s.take i):=by
 unfold aib
 have e:((ile (0:Int) (i:Int))&&(ile (i:Int) (ç s)))=true:=by simp[ile,ç]; omega
 dsimp only;rw[à e]
 have d:((ile (0:Int) (i:Int))&&(ile (i:Int) (ç (List.take (Int.toNat (i:Int)) s++List.replicate (List.length s-(Int.toNat (i:Int))) a++List.drop ((Int.toNat (i:Int))+(List.length s-(Int.toNat (i:Int)))) s))))=true:=by
  simp[ile,ç]; omega
 rw[à d,dl,gE,di,fQ (by simp; omega),List.take_take,Nat.min_self]
def aeZ (p:α->Bool) {a:CK α} {F:Int->Int->CK α->(Int->Int->CK α->BY ρ)->BY ρ} {k0:Int×CK α->BY ρ} {K:CK α->BY ρ}
 (M:∀(i j:Nat) (s:CK α) (x:α),s.length=a.length->i<j->j<s.length->s[j]?=some x->x∈a->∀d,F i j s d=if p x then d ((i:Int)+1) ((j:Int)+1) (s.set i x) else d i ((j:Int)+1) s)
 (O:∀(i:Nat) (s:CK α) d,i<=s.length->s.length=a.length->F i s.length s d=k0 ((i:Int),s)) (H:∀(i:Nat) (s:CK α),i<=s.length->k0 ((i:Int),s)=K (s.take i))
 {z:Nat} (E:z<a.length) (G:∀x∈a.take z,p x=true) (J:∀c,a[z]?=some c->p c=false) :
 Ê (fun(v:Int×Int×CK α) D=>F v.1 v.2.1 v.2.2 (fun x y w=>D (x,y,w))) ((z:Int),((z:Int)+1),a)=K (a.filter p):=by
 refine ñ (fun x:Int×Int×CK α=>∃i j:Nat,x.1=i/\x.2.1=j/\i<j/\j<=a.length/\x.2.2.length=a.length/\x.2.2.take i=(a.take j).filter p/\x.2.2.drop j=a.drop j) (fun x=>a.length-x.2.1.toNat) ?_
  ⟨z,z+1,rfl,by simp,by omega,by omega,rfl,?_,rfl⟩
 ·rintro⟨Q,P,s⟩ ⟨i,j,C,h2,t,I,g,l,hd⟩;simp only at C h2 g l hd;subst C h2;rcases dq j a.length with n|n
  ·refine .inr ?_
   have o:s[j]?=some a[j]:=by
    have A:(s.drop j)[0]?=(a.drop j)[0]?:=by rw[hd]
    rw[eR,eR] at A;simpa[cX n] using A
   have f:(a.take (j+1)).filter p=(a.take j).filter p++if p a[j] then[a[j]] else[]:=by
    rw[take_succ (cX n),eS];congr 1
    cases h:p a[j]<;>simp[h]
   have k:s.drop (j+1)=a.drop (j+1):=by
    have:=congrArg (List.drop 1) hd;simpa[gg,Nat.add_comm] using this
   have u:=M i j s a[j] g t (by omega) o (fq n)
   cases h:p a[j] with
   |false =>
    refine⟨(i,(j:Int)+1,s),⟨i,j+1,rfl,by simp,by omega,by omega,g,?_,k⟩,by simp; omega,fun d=>by dsimp only; rw[u,h]; rfl⟩;rw[f,h]; simpa using l
   |true =>
    have r:i<s.length:=by omega
    refine⟨((i:Int)+1,(j:Int)+1,s.set i a[j]),⟨i+1,j+1,by simp,by simp,by omega,by omega,by simpa using g,?_,?_⟩,by simp; omega,fun d=>by dsimp only; rw[u,h]; rfl⟩
    ·show List.take (i+1) (s.set i a[j])=_;rw[f,h,List.take_add_one,ic,List.take_set_of_le (cZ i),l];simp[r]
    ·show List.drop (j+1) (s.set i a[j])=_;rw[List.drop_set_of_lt (by omega)];exact k
  ·refine .inl fun d=>?_
   have q:j=s.length:=by omega
   try dsimp only
   rw[q,O i s _ (by omega) g,H i s (by omega),l,dZ (by omega)]
 ·show List.take z a=(a.take (z+1)).filter p;have e:a[z]?=some a[z]:=cX E;rw[take_succ e,eS,gN.2 G];simp[J _ e]
def abc (p:α->Bool) {a:CK α} {q:Int->(Int->BY ρ)->BY ρ} {F:Int->Int->CK α->(Int->Int->CK α->BY ρ)->BY ρ} {k0:Int×CK α->BY ρ} {K:CK α->BY ρ} {kf:Int->BY ρ} {kend:BY ρ}
 (G:∀(i:Nat) (x:α),i<a.length->a[i]?=some x->∀d,q i d=if !p x then kf i else d ((i:Int)+1)) (o:∀d,q a.length d=kend) (e:kend=K a)
 (l:∀z:Nat,z<a.length->kf z=Ê (fun(v:Int×Int×CK α) u=>F v.1 v.2.1 v.2.2 (fun x y w=>u (x,y,w))) ((z:Int),((z:Int)+1),a))
 (D:∀(i j:Nat) (s:CK α) (x:α),s.length=a.length->i<j->j<s.length->s[j]?=some x->x∈a->∀d,F i j s d=if p x then d ((i:Int)+1) ((j:Int)+1) (s.set i x) else d i ((j:Int)+1) s)
 (E:∀(i:Nat) (s:CK α) d,i<=s.length->s.length=a.length->F i s.length s d=k0 ((i:Int),s)) (A:∀(i:Nat) (s:CK α),i<=s.length->k0 ((i:Int),s)=K (s.take i)):Ê q 0=K (a.filter p):=by
 rw[Χ a (fun x=>!p x) kf kend G o]
 cases r:a.findIdx? (fun x=>!p x) with
 |none =>
  dsimp only;rw[e,List.filter_eq_self.2];intro x g;have:=List.findIdx?_eq_none_iff.1 r x g;simpa using this
 |some z =>
  obtain⟨f,n,k⟩:=List.findIdx?_eq_some_iff_getElem.1 r;dsimp only;rw[l z f];refine aeZ p D E A f (fun x g=>?_) (fun c t=>?_)
  ·obtain⟨j,C,rfl⟩:=dp.1 g;rw[dm] at C;rw[fj];have:=k j (by omega);simpa using this
  ·rw[cX f] at t;cases t;simpa using n
end
def mR (m:ł) (w:Way):Bool:=j8 (Ŕ (trP m w)) ((Ò (trP m w)).length+1)
def į (m:ł):CK Way:=(Ŋ m.2).filter (mR m)
def TT (m:ł):Way×Bool:=match (Ŋ m.2).find? (mR m) with|some w=>(w,true)|none=>([],false)
section
variable {m:ł} {w:Way} {ρ:Type}
def In_tr (h:MOk m) (a:Ĵ m.2 w):In (trP m w):=⟨(wD h a).size,h.in_.num⟩
def Qo (h:MOk m) (a:Ĵ m.2 w):jx (trP m w)=some ((((Ò (trP m w)).length:Int)+1,Ŕ (trP m w)),LR (trP m w),0):=by
 rw[ZR (In_tr h a),Wr,if_neg (by simp[(Ο _).2 (wD h a)])]
def xU (h:MOk m) (a:Ĵ m.2 w):ε m w=some (mR m w):=by
 unfold ε Ki;rw[sH h a,À,Qo h a,À];have:=Wt (wD h a).sys;simp only[Int.natCast_add,Int.cast_ofNat_Int] at this;rw[this]; rfl
def qO {i:Nat} (hi:(Ŋ m.2)[i]?=some w):Ĵ m.2 w:=yL.1 (df hi)
def sF (h:MOk m):(Ŋ m.2).length<=150:=by rw[afT]; exact h.prod
def aa2 (h:MOk m):BC m=some (į m):=by
 unfold BC U3;have H:=Mo h;have D:=sF h;have t:((((m.1.1.1,m.1.1.2),m.1.2.1,m.1.2.2.1,m.1.2.2.2.1,m.1.2.2.2.2.1,m.1.2.2.2.2.2),m.2):ł)=m:=rfl;rw[aik h,À,L9 (fun v y e G=>by unfold Ex; rw[à (Ð (by simp; omega))]) (by simp; omega),List.nil_append,WR h,À]
 refine abc (a:=Ŋ m.2) (mR m) (K:=fun l=>some l) (k0:=aib [] fun l=>some l) (kf:=fun n=>ifb (ieq n (-1:Int)) (some (Ŋ m.2)) (ck (n+(1:Int)) fun u=>Ê (fun(d:Int×Int×CK Way) f=>nz m.1.1.1 m.1.1.2 m.1.2.1 m.1.2.2.1 m.1.2.2.2.1 m.1.2.2.2.2.1 m.1.2.2.2.2.2 m.2 d.1 d.2.1 d.2.2 (fun q p o=>f (q,p,o)) (aib [] fun l=>some l)) (n,u,Ŋ m.2)))
  (F:=fun a b c e=>nz m.1.1.1 m.1.1.2 m.1.2.1 m.1.2.2.1 m.1.2.2.2.1 m.1.2.2.2.2.1 m.1.2.2.2.2.2 m.2 a b c e (aib [] fun l=>some l)) (kend:=some (Ŋ m.2)) (fun i x hi g e=>?_) (fun e=>?_) rfl (fun z A=>?_) (fun i j s x C E k g r e=>?_) (fun i s e hi C=>?_) (fun i s hi=>abd _ _ hi)
 ·try dsimp only
  unfold wO;rw[Ì hi,ő hi,é g,t,xU h (qO g),À,È hi (by omega),õ];rfl
 ·try dsimp only
  unfold wO;rw[Ó]
 ·rw[Í (by simp[ieq]),È A (by omega)]
 ·try dsimp only
  unfold nz;rw[Ì k,show ç s=((s.length:Nat):Int) from rfl,ő k,é g,t,xU h (yL.1 r),À];cases mR m x
  ·simp only[fu,dR,ä,dr,if_false];rw[È k (by omega)]
  ·simp only[fu,dR,jd,if_true];rw[ő (by omega),é (cX (by omega)),È (show i<s.length by omega) (by omega),È k (by omega),dl]
 ·try dsimp only
  unfold nz;rw[Ó]
def ur (h:MOk m):ă m=some (TT m):=by
 unfold ă F8;have g:=sF h;have f:((((m.1.1.1,m.1.1.2),m.1.2.1,m.1.2.2.1,m.1.2.2.2.1,m.1.2.2.2.2.1,m.1.2.2.2.2.2),m.2):ł)=m:=rfl;rw[Mz h,À];refine Eq.trans (jt (Ŋ m.2) (fun _ w=>if mR m w then some (w,true) else none) (fun z=>some (z.1,z.2)) (some ([],false)) (fun i x hi a d=>?_) (fun d=>?_)) ?_
 ·try dsimp only
  unfold lH;rw[Ì hi,Æ a,f,xU h (qO a),À,È hi (by omega),õ]
  cases mR m x<;>rfl
 ·try dsimp only
  unfold lH;rw[Ó]
 ·rw[Kz,TT]
  have key:∀l:CK Way,l.findSome? (fun w=>if mR m w then some (w,true) else none)=(l.find? (mR m)).map fun w=>(w,true):=by
   intro l
   induction l with
   |nil=>rfl
   |cons x l e =>
    rw[gO,f8]
    cases h:mR m x with
    |true=>rfl
    |false=>exact e
  rw[key]
  cases(Ŋ m.2).find? (mR m)<;>rfl
def pI (m:ł):Bool:=(Ŋ m.2).any (mR m)
def xG (m:ł):(TT m).2=pI m:=by
 unfold TT pI
 cases h:(Ŋ m.2).find? (mR m) with
 |none =>
  symm
  rw[eh]
  exact fun x a=>by simpa using(ew.1 h) x a
 |some w =>
  symm
  rw[dA];exact⟨w,fL h,fM h⟩
def All_ok (d:In m.1) (e:m.2.length<=1000):VQ m=some (if ī m≠0 then([],ī m) else(į m,0)):=by
 unfold VQ ag7;rw[mS d e,À]
 by_cases a:ī m=0
 ·rw[Í (by simp[ine,a]),if_neg (by simp[a]),aa2 ((Ľ m).1 a)]; rfl
 ·rw[Ñ (by simp[ine,a]),if_pos a]
def aaP (m:ł):Way×Int:=if ī m≠0 then([],ī m) else if pI m then((TT m).1,0) else([],5)
def ajz (d:In m.1) (e:m.2.length<=1000):HT m=some (aaP m):=by
 unfold HT Yf aaP;rw[mS d e,À]
 by_cases a:ī m=0
 ·rw[Í (by simp[ine,a]),if_neg (by simp[a]),ur ((Ľ m).1 a),À,xG]
  cases pI m<;>rfl
 ·rw[Ñ (by simp[ine,a]),if_pos a]
def amQ (m:ł) (p:Cmp->Bool):ł:=((m.1.1,m.1.2.1,m.1.2.2.1,m.1.2.2.2.1,m.1.2.2.2.2.1.filter p,m.1.2.2.2.2.2),m.2)
def uZ (m:ł) (ids:CK Int):ł:=amQ m fun c=>ids.contains c.1
def aar (C:m.1.2.2.2.2.1.length<=1000) {ids:CK Int} (hi:ids.length<=1000000):BA m ids=some (uZ m ids):=by
 unfold BA UY;rw[à (Ð (by omega))]
 refine abc (a:=m.1.2.2.2.2.1) (fun c=>ids.contains c.1) (K:=fun l=>some ((m.1.1,m.1.2.1,m.1.2.2.1,m.1.2.2.2.1,l,m.1.2.2.2.2.2),m.2)) (k0:=aib zC fun l=>some ((m.1.1,m.1.2.1,m.1.2.2.1,m.1.2.2.2.1,l,m.1.2.2.2.2.2),m.2))
  (kf:=fun n=>ifb (ieq n (-1:Int)) (some m) (ck (n+(1:Int)) fun t=>Ê (fun(d:Int×Int×CK Cmp) g=>ny ids d.1 d.2.1 d.2.2 (fun q p o=>g (q,p,o)) (aib zC fun l=>some ((m.1.1,m.1.2.1,m.1.2.2.1,m.1.2.2.2.1,l,m.1.2.2.2.2.2),m.2))) (n,t,m.1.2.2.2.2.1)))
  (F:=fun a b c f=>ny ids a b c f (aib zC fun l=>some ((m.1.1,m.1.2.1,m.1.2.2.1,m.1.2.2.2.1,l,m.1.2.2.2.2.2),m.2))) (kend:=some m) (fun i x e r f=>?_) (fun f=>?_) rfl (fun z u=>?_) (fun i j s x y A k r v f=>?_) (fun i s f hi y=>?_) (fun i s hi=>abd _ _ hi)
 ·try dsimp only
  unfold wN;rw[Ì e,ő e,é r,Ţ hi,À,È e (by omega),õ];rfl
 ·try dsimp only
  unfold wN;rw[Ó]
 ·rw[Í (by simp[ieq]),È u (by omega)]
 ·try dsimp only
  unfold ny;rw[Ì k,show ç s=((s.length:Nat):Int) from rfl,ő k,é r,Ţ hi,À];cases ids.contains x.1
  ·simp only[fu,dR,ä,dr,if_false];rw[È k (by omega)]
  ·simp only[fu,dR,jd,if_true];rw[ő (by omega),é (cX (by omega)),È (show i<s.length by omega) (by omega),È k (by omega),dl]
 ·try dsimp only
  unfold ny;rw[Ó]
end
section
variable {b:ø}
def L4 (h:Ŧ b) (g:æ) {f t u:Int} (d:f<=t) (h2:t<=u):jD b g f u=jD b g f t+jD b g t u:=by
 obtain⟨n,rfl⟩:∃n:Nat,u=t+n:=⟨(u-t).toNat,by omega⟩;clear h2
 induction n with
 |zero=>simp[AG]
 |succ n a =>
  have e:t+((n+1:Nat):Int)=(t+n)+1:=by omega
  rw[e,Pk h g (show f<=t+(n:Int) by omega),Pk h g (show t<=t+(n:Int) by omega),a];omega
def ET (h:Ŧ b) {g:æ} (a:g∈b.2.1) {f t:Int} (d:0<=f):0<=jD b g f t:=(jQ h a d).1
def iR (b:ø) (id d:Int):Int:=match iZ (Ò b) id d with|some j=>(j:Int)+1|none=>0
def sN (h:Ŧ b) {i:Nat} {g:æ} (e:b.2.1[i]?=some g) {k:Nat} {d:Int} (a:(Ý b g)[k]?=some d):iR b g.1 d=(off b i:Int)+k+1:=by
 unfold iR;rw[UO h e a];simp only;omega
structure wB (b:ø) (p:Int->Int) (g:æ):Prop where
 hi:p (iR b g.1 g.2.1)<=p 0+(g.2.2.1+g.2.2.2.1.2)
 lo:p 0+(g.2.2.1+g.2.2.2.1.1)<=p (iR b g.1 g.2.1)
 down:∀d e,d∈Ý b g->e∈Ý b g->d<=e->p (iR b g.1 e)<=p (iR b g.1 d)
 loss:∀d e,d∈Ý b g->e∈Ý b g->d<=e->p (iR b g.1 d)<=p (iR b g.1 e)+jD b g d e
def HI (h:Ŧ b) {i:Nat} {g:æ} (j:b.2.1[i]?=some g) {p:Int->Int}:(∀l∈ù b g,p l.2.1<=p l.1+l.2.2)↔wB b p g:=by
 have C:=df j;obtain⟨P,z⟩:=PU h C
 have h0:iR b g.1 g.2.1=(off b i:Int)+1:=by
  have:=sN h j (k:=0) (d:=g.2.1) (by rw[z]; rfl);rw[this];omega
 constructor
 ·intro q;have O:=q _ ((ń h j).2 (.inl rfl));have M:=q _ ((ń h j).2 (.inr (.inl rfl)));simp only at O M
  have step:∀(k:Nat) (d e:Int),(Ý b g)[k]?=some d->(Ý b g)[k+1]?=some e->p (iR b g.1 e)<=p (iR b g.1 d)/\p (iR b g.1 d)<=p (iR b g.1 e)+jD b g d e:=by
   intro k d e hd a;have r:=q _ ((ń h j).2 (.inr (.inr ⟨k,d,e,hd,a,.inl rfl⟩)));have o:=q _ ((ń h j).2 (.inr (.inr ⟨k,d,e,hd,a,.inr rfl⟩)));simp only at r o;rw[sN h j hd,sN h j a]
   have v:(off b i:Int)+((k+1:Nat):Int)+1=(off b i:Int)+k+2:=by omega
   rw[v];exact⟨by omega,o⟩
  have pair:∀(n k:Nat) (d e:Int),(Ý b g)[k]?=some d->(Ý b g)[k+n]?=some e->p (iR b g.1 e)<=p (iR b g.1 d)/\p (iR b g.1 d)<=p (iR b g.1 e)+jD b g d e:=by
   intro n
   induction n with
   |zero =>
    intro k d e hd a;rw[gD,hd] at a;cases a;rw[AG g (dQ _)];omega
   |succ n J =>
    intro k d e hd a;have t:=(de.1 a).1;have s:(Ý b g)[k+n]?=some ((Ý b g)[k+n]'(by omega)):=cX (by omega);obtain⟨r,o⟩:=J k d _ hd s;obtain⟨a3,y⟩:=step (k+n) _ e s a
    have I:d<=(Ý b g)[k+n]'(by omega):=by
     obtain⟨A,u⟩:=de.1 hd;rcases fK n with rfl|Q
     ·rw[<-u]; exact Int.le_of_eq (by congr 1)
     ·have:=(dM.1 (sg b g)) k (k+n) A (by omega) (by omega);rw[u] at this; omega
    have H:(Ý b g)[k+n]'(by omega)<=e:=by
     obtain⟨E,F⟩:=de.1 a;have:=(dM.1 (sg b g)) (k+n) (k+(n+1)) (by omega) E (by omega);rw[F] at this; omega
    have:=L4 h g I H;omega
  have any:∀d e,d∈Ý b g->e∈Ý b g->d<=e->p (iR b g.1 e)<=p (iR b g.1 d)/\p (iR b g.1 d)<=p (iR b g.1 e)+jD b g d e:=by
   intro d e hd a f;obtain⟨k,G,rfl⟩:=dp.1 hd;obtain⟨m,s,rfl⟩:=dp.1 a
   have K:k<=m:=by
    rcases dq m k with t|D
    ·have:=(dM.1 (sg b g)) m k s G t; omega
    ·exact D
   exact pair (m-k) k _ _ (cX G) (by rw[show k+(m-k)=m by omega]; exact cX s)
  exact⟨by rw[h0]; omega,by rw[h0]; omega,fun d e hd a f=>(any d e hd a f).1,fun d e hd a f=>(any d e hd a f).2⟩
 ·intro x l q;rcases(ń h j).1 q with rfl|rfl|⟨k,d,e,hd,a,rfl|rfl⟩
  ·have:=x.hi; rw[h0] at this; simp only; omega
  ·have:=x.lo; rw[h0] at this; simp only; omega
  ·have f:d<=e:=by
    obtain⟨r,o⟩:=de.1 hd;obtain⟨a3,y⟩:=de.1 a;have:=(dM.1 (sg b g)) k (k+1) r a3 (by omega);rw[o,y] at this; omega
   have:=x.down d e (df hd) (df a) f;rw[sN h j hd,sN h j a] at this
   have v:(off b i:Int)+((k+1:Nat):Int)+1=(off b i:Int)+k+2:=by omega
   rw[v] at this;simp only;omega
  ·have f:d<=e:=by
    obtain⟨r,o⟩:=de.1 hd;obtain⟨a3,y⟩:=de.1 a;have:=(dM.1 (sg b g)) k (k+1) r a3 (by omega);rw[o,y] at this; omega
   have:=x.loss d e (df hd) (df a) f;rw[sN h j hd,sN h j a] at this
   have v:(off b i:Int)+((k+1:Nat):Int)+1=(off b i:Int)+k+2:=by omega
   rw[v] at this;simp only;exact this
def agt (h:Ŧ b) {p:Int->Int}:Pot (Ŕ b) p↔(∀g∈b.2.1,wB b p g)/\∀c∈b.2.2.2.2.1,p (cx b c)<=p (cy b c)+(wJ b c).2/\p (cy b c)+(wJ b c).1<=p (cx b c):=by
 constructor
 ·intro f;refine⟨fun g j=>?_,fun c e=>?_⟩
  ·obtain⟨i,hi,rfl⟩:=dp.1 j;exact(HI h (cX hi)).1 fun l a=>f l.1 l.2.1 l.2.2 (qF.2 (.inl ⟨i,_,cX hi,a⟩))
  ·have n:=f _ _ _ (qF.2 (.inr ⟨c,e,.inl rfl⟩));have o:=f _ _ _ (qF.2 (.inr ⟨c,e,.inr rfl⟩));omega
 ·rintro⟨j,e⟩ u v m a;rcases qF.1 a with⟨i,g,d,a⟩|⟨c,k,a⟩
  ·exact(HI h d).2 (j g (df d)) (u,v,m) a
  ·obtain⟨n,o⟩:=e c k;rcases a with a|a
   ·obtain⟨rfl,rfl,rfl⟩:u=cy b c/\v=cx b c/\m=(wJ b c).2:=by simpa using a
    exact n
   ·obtain⟨rfl,rfl,rfl⟩:u=cx b c/\v=cy b c/\m = -(wJ b c).1:=by simpa using a
    omega
end
def alN:CK Int->Int
 |[]=>0
 |[a]=>a
 |a::b::t=>max a (alN (b::t))
def XW:∀{l:CK Int},l≠[]->(∀a∈l,a<=alN l)/\alN l∈l
 |[],h=>absurd rfl h
 |[a],_=>⟨fun x d=>by rw[dj] at d; rw[d]; exact dQ _,by simp[alN]⟩
 |a::b::t,_=>by
  obtain⟨f,h2⟩:=XW (l:=b::t) (by simp);have e:alN (a::b::t)=max a (alN (b::t)):=rfl;rw[e];constructor
  ·intro x d;rcases dh.1 d with rfl|d
   ·omega
   ·have:=f x d; omega
  ·rcases Int.le_total a (alN (b::t)) with h|h
   ·rw[Int.max_eq_right h]; exact dS _ h2
   ·rw[Int.max_eq_left h]; exact List.mem_cons_self
section
variable {b:ø}
def agr (b:ø) (f:Int->Int->Int) (z:Int) (v:Int):Int:=if v=0 then z else match (Ò b)[(v-1).toNat]? with|some n=>f n.1 n.2|none=>0
def MS (f:Int->Int->Int) (z:Int):agr b f z 0=z:=by unfold agr; rw[if_pos rfl]
def Xb (h:Ŧ b) (f:Int->Int->Int) (z:Int) {g:æ} (n:g∈b.2.1) {d:Int} (hd:d∈Ý b g):agr b f z (iR b g.1 d)=f g.1 d:=by
 obtain⟨i,hi,rfl⟩:=List.mem_iff_getElem.1 n;obtain⟨k,l,rfl⟩:=List.mem_iff_getElem.1 hd;have a:=List.getElem?_eq_getElem hi;have j:=List.getElem?_eq_getElem l;rw[sN h a j];unfold agr
 have e:((off b i:Int)+k+1-1).toNat=off b i+k:=by omega
 rw[if_neg (by omega),e,LY a j]
def ZH (b:ø) (l:CK Int) (d:Int):Int:=match l with|[]=>0|x::_=>iR b x d
def adM (l:CK Int) (d:Int):atP (Ò b) l d=ZH b l d:=by
 unfold atP ZH iR
 cases l<;>rfl
def aie (c:Cmp):cx b c=ZH b (á c.2.2.1 c.2.2.2.1) c.2.1:=adM _ _
def aid (c:Cmp):cy b c=ZH b (á c.2.2.2.1 c.2.2.1) c.2.1:=adM _ _
def adb (h:Ŧ b) {c:Cmp} (l:c∈b.2.2.2.2.1) {x:Int} (f:x∈á c.2.2.1 c.2.2.2.1\/x∈á c.2.2.2.1 c.2.2.1):∃g∈b.2.1,g.1=x/\c.2.1∈Ý b g:=by
 have d:(x∈c.2.2.1/\x∉c.2.2.2.1)\/(x∈c.2.2.2.1/\x∉c.2.2.1):=by
  rcases f with f|f
  ·exact .inl (lf.1 f)
  ·exact .inr (lf.1 f)
 have n:x∈c.2.2.1++c.2.2.2.1:=by rw[dg]; exact d.imp (·.1) (·.1)
 obtain⟨⟨g,o,_⟩,_⟩:=h.pile l n;obtain⟨j,i⟩:=δ o;refine⟨g,j,i,Γ.2 (.inr (.inl ⟨c,l,?_,rfl⟩))⟩;rw[i];intro k;rw[eM,dW,dW] at k;rcases d with⟨a,e⟩|⟨a,e⟩
 ·exact e (k.1 a)
 ·exact e (k.2 a)
def fill (b:ø) (p:Int->Int) (g:æ) (d:Int):Int:=alN ((Ý b g).map fun e=>if d<=e then p (iR b g.1 e) else p (iR b g.1 e)-jD b g e d)
def PJ {p:Int->Int} {g:æ} (d:Int):(∀e∈Ý b g,(if d<=e then p (iR b g.1 e) else p (iR b g.1 e)-jD b g e d)<=fill b p g d)/\∃e∈Ý b g,fill b p g d=if d<=e then p (iR b g.1 e) else p (iR b g.1 e)-jD b g e d:=by
 have a:((Ý b g).map fun e=>if d<=e then p (iR b g.1 e) else p (iR b g.1 e)-jD b g e d)≠[]:=by
  intro h;have:=List.map_eq_nil_iff.1 h;have h2:=om (b:=b) g;rw[this] at h2;cases h2
 obtain⟨j,h2⟩:=XW a;refine⟨fun e f=>j _ (dE.2 ⟨e,f,rfl⟩),?_⟩;obtain⟨e,f,i⟩:=dE.1 h2;exact⟨e,f,i.symm⟩
def ado (h:Ŧ b) {p:Int->Int} {g:æ} (l:g∈b.2.1) (f:wB b p g) {d:Int} (hd:d∈Ý b g):fill b p g d=p (iR b g.1 d):=by
 obtain⟨k,e,i,h2⟩:=PJ (b:=b) (p:=p) (g:=g) d;have j:=k d hd;rw[if_pos (dQ _)] at j
 have n:fill b p g d<=p (iR b g.1 d):=by
  rw[h2]
  split
  ·rename_i a;exact f.down d e hd i a
  ·rename_i a;have:=f.loss e d i hd (by omega);omega
 omega
def Zo (h:Ŧ b) {p:Int->Int} {g:æ} (a:g∈b.2.1) (D:wB b p g) {d e:Int} (h0:g.2.1<=d) (j:d<=e):fill b p g e<=fill b p g d/\fill b p g d<=fill b p g e+jD b g d e:=by
 obtain⟨z,x,n,v⟩:=PJ (b:=b) (p:=p) (g:=g) d;obtain⟨s,y,l,r⟩:=PJ (b:=b) (p:=p) (g:=g) e;have A:=(h.gaugeR a).2.2.2.2.1;have C:=ET h a (f:=d) (t:=e) (by omega);have E:=h.day a n;have o:=h.day a l;constructor
 ·have q:=z y l;rw[r]
  by_cases i:e<=y
  ·rw[if_pos i];rw[if_pos (by omega)] at q;exact q
  ·rw[if_neg i]
   by_cases k:d<=y
   ·rw[if_pos k] at q;have:=ET h a (f:=y) (t:=e) o.2.1;omega
   ·rw[if_neg k] at q;have:=L4 h g (f:=y) (t:=d) (u:=e) (by omega) j;omega
 ·have q:=s x n;rw[v]
  by_cases i:d<=x
  ·rw[if_pos i]
   by_cases k:e<=x
   ·rw[if_pos k] at q;omega
   ·rw[if_neg k] at q;have:=L4 h g (f:=d) (t:=x) (u:=e) i (by omega);have:=ET h a (f:=d) (t:=x) (by omega);omega
  ·rw[if_neg i];rw[if_neg (by omega)] at q;have:=L4 h g (f:=x) (t:=d) (u:=e) (by omega) j;omega
end
section
variable {b:ø} {c:Cmp}
def afp {a:ø} (h':Ŧ a) {l:CK Int} {day:Int} (f:Int->Int->Int) (z:Int) (d:∀x∈l,∃g∈a.2.1,g.1=x/\day∈Ý a g):agr a f z (ZH a l day)=match l with|[]=>z|x::_=>f x day:=by
 unfold ZH
 cases l with
 |nil=>exact MS f z
 |cons x t =>
  obtain⟨g,e,rfl,hd⟩:=d x (by simp);exact Xb h' f z e hd
end
section
variable {L:CK Lk} {N:Nat}
def Wl.app {u v:Int} {vs:CK Int} {d:Int} (i:Wl L (fun x=>x=u) vs v d) {a:CK Int} {w e:Int} (h2:Wl L (fun x=>x=v) a w e):∃xs,Wl L (fun x=>x=u) xs w (d+e):=by
 induction h2 with
 |nil h=>subst h; exact⟨vs,by rw[gG]; exact i⟩
 |step j g f =>
  obtain⟨xs,hi⟩:=f;have:=Wl.step hi g;rw[Int.add_assoc] at this;exact⟨_,this⟩
def dst (L:CK Lk) (N:Nat) (s t:Int):Int:=gv (kP L N s) t
def ah5 (h:jo L N) (g:abH L N) (n:j8 L N=true) {s t:Int} (a:0<=s/\s<N) (f:0<=t/\t<N):dst L N s t<=9007199254740992:=by
 have h2:=h.n60;obtain⟨p,l⟩:=(kQ h.links (by omega)).1 n;obtain⟨vs,d,k,hd⟩:=g.from' s a.1 a.2;obtain⟨o,e,j,q⟩:=g.to t f.1 f.2;obtain⟨xs,i⟩:=Wl.app k j;have:=(E6 h.links (by omega) l a).low t xs _ (alK.2 i);unfold dst;omega
def dst_ne (h:jo L N) (d:abH L N) (f:j8 L N=true) {s t:Int} (e:0<=s/\s<N) (a:0<=t/\t<N):dst L N s t≠Ŗ:=by
 have:=ah5 h d f e a;unfold Ŗ;omega
def ah4 (h:jo L N) (j:abH L N) (k:j8 L N=true) {s t:Int} (d:0<=s/\s<N) (a:0<=t/\t<N) {p:Int->Int} (e:Pot L p):p t-p s<=dst L N s t:=by
 have h2:=h.n60;obtain⟨vs,g⟩:=(E6 h.links (by omega) e d).att t a.1 a.2 (dst_ne h j k d a);obtain⟨u,i,f⟩:=(alK.1 g).pot e;subst i;exact f
def ah3 (h:jo L N) (f:abH L N) (a:j8 L N=true) {x y:Int} (e:0<=x/\x<N) (d:0<=y/\y<N) : -(dst L N x y)<=dst L N y x:=by
 have h2:=h.n60;obtain⟨p,g⟩:=(kQ h.links (by omega)).1 a;have j:=ah4 h f a e d g;have i:=ah4 h f a d e g;omega
def alV (h:jo L N) (d:abH L N) (f:j8 L N=true) {s t:Int} (e:0<=s/\s<N) (a:0<=t/\t<N) : -9007199254740992<=dst L N s t/\dst L N s t<=9007199254740992:=by
 have i:=ah5 h d f e a;have g:=ah5 h d f a e;have a3:=ah3 h d f a e;omega
end
def agc (f:Int->Int->Int) (z:Int) (l:CK Int) (d:Int):Int:=match l with|[]=>z|x::_=>f x d
def aeY (f:Int->Int->Int) (z:Int) (c:Cmp):Int:=agc f z (á c.2.2.1 c.2.2.2.1) c.2.1-agc f z (á c.2.2.2.1 c.2.2.1) c.2.1
structure ann (b:ø) (f:Int->Int->Int) (z:Int) (g:æ):Prop where
 hi:f g.1 g.2.1<=z+(g.2.2.1+g.2.2.2.1.2)
 lo:z+(g.2.2.1+g.2.2.2.1.1)<=f g.1 g.2.1
 down:∀d e,g.2.1<=d->d<=e->f g.1 e<=f g.1 d
 loss:∀d e,g.2.1<=d->d<=e->f g.1 d<=f g.1 e+jD b g d e
structure Hist (b:ø) (f:Int->Int->Int) (z:Int):Prop where
 gauge:∀g∈b.2.1,ann b f z g
 cmp:∀c∈b.2.2.2.2.1,(wJ b c).1<=aeY f z c/\aeY f z c<=(wJ b c).2
def ahY {b:ø} (h:Ŧ b) {p:Int->Int} (l:∀g∈b.2.1,wB b p g):∃f:Int->Int->Int,(∀g∈b.2.1,ann b f (p 0) g)/\∀g∈b.2.1,∀d∈Ý b g,f g.1 d=p (iR b g.1 d):=by
 let f:Int->Int->Int:=fun id d=>match î b id with|some g=>fill b p g d|none=>0
 have i:∀g∈b.2.1,∀d,f g.1 d=fill b p g d:=fun g a d=>by
  show(match î b g.1 with|some g=>fill b p g d|none=>0)=_;rw[rR h.ids a]
 refine⟨f,fun g a=>?_,fun g a d hd=>by rw[i g a]; exact ado h a (l g a) hd⟩;have k:=l g a
 have n:f g.1 g.2.1=p (iR b g.1 g.2.1):=by rw[i g a]; exact ado h a k (om g)
 refine⟨by rw[n]; exact k.hi,by rw[n]; exact k.lo,fun d e h0 j=>?_,fun d e h0 j=>?_⟩
 ·rw[i g a,i g a];exact(Zo h a k h0 j).1
 ·rw[i g a,i g a];exact(Zo h a k h0 j).2
def WU {b:ø} {f:Int->Int->Int} {p:Int->Int} (i:∀g∈b.2.1,∀d∈Ý b g,f g.1 d=p (iR b g.1 d)) {l:CK Int} {day:Int} (j:∀x∈l,∃g∈b.2.1,g.1=x/\day∈Ý b g):p (ZH b l day)=agc f (p 0) l day:=by
 cases l with
 |nil=>rfl
 |cons x t =>
  obtain⟨g,e,rfl,a⟩:=j x (by simp);exact(i g e day a).symm
def aia {b:ø} {f:Int->Int->Int} {p:Int->Int} (e:∀g∈b.2.1,∀d∈Ý b g,f g.1 d=p (iR b g.1 d)) {c:Cmp}
 (i:∀x,x∈á c.2.2.1 c.2.2.2.1\/x∈á c.2.2.2.1 c.2.2.1->∃g∈b.2.1,g.1=x/\c.2.1∈Ý b g):p (cx b c)-p (cy b c)=aeY f (p 0) c:=by
 unfold aeY;rw[aie,aid,WU e (fun x a=>i x (.inl a)),WU e (fun x a=>i x (.inr a))]
def Si {b:ø} (h:Ŧ b) (f:Int->Int->Int) (z:Int) {l:CK Int} {day:Int} (a:∀x∈l,∃g∈b.2.1,g.1=x/\day∈Ý b g):agr b f z (ZH b l day)=agc f z l day:=by
 rw[afp h f z a];unfold agc
 cases l<;>rfl
def agq {b:ø} (h:Ŧ b) {f:Int->Int->Int} {z:Int} {c:Cmp} (d:∀x,x∈á c.2.2.1 c.2.2.2.1\/x∈á c.2.2.2.1 c.2.2.1->∃g∈b.2.1,g.1=x/\c.2.1∈Ý b g):agr b f z (cx b c)-agr b f z (cy b c)=aeY f z c:=by
 unfold aeY;rw[aie,aid,Si h f z (fun x a=>d x (.inl a)),Si h f z (fun x a=>d x (.inr a))]
def aeg {b:ø} (h:Ŧ b) {f:Int->Int->Int} {z:Int} {g:æ} (j:g∈b.2.1) (i:ann b f z g):wB b (agr b f z) g:=by
 have q:∀d∈Ý b g,agr b f z (iR b g.1 d)=f g.1 d:=fun d hd=>Xb h f z j hd;have l:=q g.2.1 (om g);refine⟨?_,?_,fun d e hd k a=>?_,fun d e hd k a=>?_⟩
 ·rw[l,MS]; exact i.hi
 ·rw[l,MS]; exact i.lo
 ·rw[q d hd,q e k]; exact i.down d e (h.day j hd).1 a
 ·rw[q d hd,q e k]; exact i.loss d e (h.day j hd).1 a
section
variable {b:ø} {c:Cmp}
def aj2 (h:Ŧ b) {p:Int->Int} (j:Pot (Ŕ b) p):∃f,Hist b f (p 0)/\∀g∈b.2.1,∀d∈Ý b g,f g.1 d=p (iR b g.1 d):=by
 obtain⟨k,n⟩:=(agt h).1 j;obtain⟨f,l,e⟩:=ahY h k;refine⟨f,⟨l,fun c a=>?_⟩,e⟩;have:=aia e (c:=c) (fun x i=>adb h a i);have:=n c a;omega
def akv (h:Ŧ b) {f:Int->Int->Int} {z:Int} (a:Hist b f z):Pot (Ŕ b) (agr b f z):=by
 refine(agt h).2 ⟨fun g d=>aeg h d (a.gauge g d),fun c e=>?_⟩;have:=agq (f:=f) (z:=z) h (c:=c) (fun x i=>adb h e i);have:=a.cmp c e;omega
def XO (h:Ŧ b):j8 (Ŕ b) ((Ò b).length+1)=true↔∃f z,Hist b f z:=by
 have:=h.sys.n60;rw[kQ h.sys.links (by omega)];constructor
 ·rintro⟨p,a⟩;obtain⟨f,e,_⟩:=aj2 h a;exact⟨f,_,e⟩
 ·rintro⟨f,z,d⟩;exact⟨_,akv h d⟩
end
def akD {m:ł} (h:Ŧ m.1) (p:Cmp->Bool):(amQ m p).1=less m.1 ((m.1.2.2.2.2.1.filter fun c=>!p c).map fun c=>c.1):=by
 unfold amQ less;dsimp only;congr 5;refine List.filter_congr fun c k=>?_;rw[Bool.eq_iff_iff,Bool.not_eq_true',Bool.eq_false_iff,ne_eq,List.contains_iff_mem,List.mem_map];constructor
 ·rintro d ⟨c',f,e⟩;obtain⟨n,h2⟩:=dX.1 f
  have:c'=c:=by
   obtain⟨i,hi,rfl⟩:=dp.1 n;obtain⟨j,g,rfl⟩:=dp.1 k;have hd:=dM.1 h.distinct;rcases Nat.lt_trichotomy i j with a|a|a
   ·exact absurd e (hd i j hi g a)
   ·subst a; rfl
   ·exact absurd e.symm (hd j i g hi a)
  rw[this,d] at h2;cases h2
 ·intro l
  cases d:p c with
  |true=>rfl
  |false=>exact absurd ⟨c,dX.2 ⟨k,by simp[d]⟩,rfl⟩ l
def MOk.few {m:ł} (h:MOk m) (p:Cmp->Bool):MOk (amQ m p):=by
 refine⟨?_,h.n4,h.mixE,h.prod⟩;rw[akD h.good];exact h.good.less _
section
variable {m:ł} {ρ:Type}
def RM (h:MOk m) (ids:CK Int):ă (uZ m ids)=some (TT (uZ m ids)):=ur (h.few _)
def kI (b:ø) (id d:Int):Int:=if !yH d then 1 else if (î b id).isNone then 5 else 0
def Vz (o:m.1.2.1.length<=1000) (id d:Int):wd m id d=some (kI m.1 id d):=by
 unfold wd Yb kI
 by_cases h:yH d=true
 ·have h':=h;simp only[yH,inP,cY,decide_eq_true_eq] at h';rw[h,Í (by simp[ilt]; omega),Í (by simp[igt]; omega),if_neg (by simp)];refine dY (Ē m.1.2.1 (fun g=>g.1==id) (fun z=>ifb (!(ige z (0:Int))) (some 5) (some 0)) (some 0) (some 5) (fun j=>Í (by simp[ige]) _ _) (fun i a hi ha k=>?_) (fun k=>?_)) ?_
  ·try dsimp only
   unfold s9;rw[Ì hi,Æ ha,È hi (by omega),õ]
  ·try dsimp only
   unfold s9;rw[Ó]
  ·unfold î
   cases f:m.1.2.1.find? (fun g=>g.1==id) with
   |none =>
    rw[if_neg]
    ·rfl
    rw[dA];rintro⟨g,n,e⟩;exact absurd e (by simpa using(ew.1 f) g n)
   |some g =>
    rw[if_pos]
    ·rfl
    have l:=fM f;exact dA.2 ⟨g,fL f,l⟩
 ·have h':=h;simp only[yH,inP,cY,decide_eq_true_eq,not_and,Int.not_le] at h';rw[if_pos (by simp[h])];rw[õ,õ];simp only[ilt,igt,decide_eq_true_eq]
  split
  ·rfl
  ·rw[if_pos (by have:=h' (by omega); omega)]
def Qg (label:Int) (c:Cmp):Bool:=(á c.2.2.1 c.2.2.2.1).contains label||(á c.2.2.2.1 c.2.2.1).contains label
def JX (m:ł) (label:Int):Bool×Int:=if ī m≠0 then(false,ī m) else if kI m.1 label 0≠0 then(false,kI m.1 label 0) else(!pI (amQ m (Qg label)),0)
def ZQ (r:In m.1) (O:m.2.length<=1000) (label:Int):ql m label=some (JX m label):=by
 unfold ql wP JX;rw[mS r O,À]
 by_cases g:ī m=0
 ·have h:=(Ľ m).1 g;have W:=h.good.nC;rw[Í (by simp[ine,g]),if_neg (by simp[g]),Vz r.size.gauges,À]
  by_cases t:kI m.1 label 0=0
  ·rw[Í (by simp[ine,t]),if_neg (by simp[t]),à (Ð (by omega))]
   have f:∀c∈m.1.2.2.2.2.1,qJ c.2.2.1 c.2.2.2.1=some (á c.2.2.1 c.2.2.2.1,á c.2.2.2.1 c.2.2.1,0)/\(á c.2.2.1 c.2.2.2.1).length<=1000000/\(á c.2.2.2.1 c.2.2.1).length<=1000000:=fun c g=>by
    obtain⟨T,S⟩:=h.good.size.piles c g;have e:=(Ŷ c).1 (h.good.nums g);have V:=rM c.2.2.1 c.2.2.2.1;have U:=rM c.2.2.2.1 c.2.2.1;refine⟨?_,by omega,by omega⟩;rw[ajB (by omega) (by omega),abJ,e.2.2.2.2.2.1,e.2.2.2.2.2.2]; rfl
   have R:∀l,l=m.1.2.2.2.2.1.filter (Qg label)->Ä (ă ((m.1.1,m.1.2.1,m.1.2.2.1,m.1.2.2.2.1,l,m.1.2.2.2.2.2),m.2)) (fun d=>some ((!d.2),(0:Int)))=some (!pI (amQ m (Qg label)),0):=fun l P=>by
    subst P;have:=ur (h.few (Qg label));unfold amQ at this ⊢;rw[this,À,xG]
   refine dY (abc (a:=m.1.2.2.2.2.1) (Qg label) (K:=fun l=>Ä (ă ((m.1.1,m.1.2.1,m.1.2.2.1,m.1.2.2.2.1,l,m.1.2.2.2.2.2),m.2)) fun d=>some ((!d.2),(0:Int))) (k0:=aib zC fun l=>Ä (ă ((m.1.1,m.1.2.1,m.1.2.2.1,m.1.2.2.2.1,l,m.1.2.2.2.2.2),m.2)) fun d=>some ((!d.2),(0:Int)))
    (kf:=fun v=>ifb (ieq v (-1:Int)) (Ä (ă m) fun n=>some ((!n.2),(0:Int))) (ck (v+(1:Int)) fun D=>Ê (fun(k:Int×Int×CK Cmp) p=>Θ label k.1 k.2.1 k.2.2 (fun C A y=>p (C,A,y)) (aib zC fun l=>Ä (ă ((m.1.1,m.1.2.1,m.1.2.2.1,m.1.2.2.2.1,l,m.1.2.2.2.2.2),m.2)) fun d=>some ((!d.2),(0:Int)))) (v,D,m.1.2.2.2.2.1)))
    (F:=fun a b c o=>Θ label a b c o (aib zC fun l=>Ä (ă ((m.1.1,m.1.2.1,m.1.2.2.1,m.1.2.2.2.1,l,m.1.2.2.2.2.2),m.2)) fun d=>some ((!d.2),(0:Int)))) (kend:=Ä (ă m) fun n=>some ((!n.2),(0:Int))) (fun i x hi q o=>?_) (fun o=>?_) rfl (fun z M=>?_) (fun i j s x r Q u q E o=>?_) (fun i s o hi r=>?_) (fun i s hi=>abd _ _ hi)) (R _ rfl)
   ·try dsimp only
    unfold lJ;obtain⟨J,I,H⟩:=f x (List.mem_of_getElem? q);rw[Ì hi,ő hi,é q,J,À,Ţ I,À,Ţ H,À];unfold Qg
    cases(á x.2.2.1 x.2.2.2.1).contains label<;>cases(á x.2.2.2.1 x.2.2.1).contains label<;>simp only[jd,ä,dR,fu,Bool.or_true,Bool.or_false,if_true,dr,if_false]<;>first|rfl|rw[È hi (by omega)]
   ·try dsimp only
    unfold lJ;rw[Ó]
   ·rw[Í (by simp[ieq]),È M (by omega)]
   ·try dsimp only
    unfold Θ;obtain⟨J,I,H⟩:=f x E;have G:s[i]?=some s[i]:=List.getElem?_eq_getElem (by omega);rw[Ì u,show ç s=((s.length:Nat):Int) from rfl,ő u,é q,J,À,Ţ I,À,Ţ H,À];unfold Qg
    cases(á x.2.2.1 x.2.2.2.1).contains label<;>cases(á x.2.2.2.1 x.2.2.1).contains label<;>simp only[jd,ä,dR,fu,Bool.or_true,Bool.or_false,if_true,dr,if_false]<;>first|rw[È u (by omega)]|rw[ő (by omega),é G,È (show i<s.length by omega) (by omega),È u (by omega),dl]
   ·try dsimp only
    unfold Θ;rw[Ó]
  ·rw[Ñ (by simp[ine,t]),if_pos t]
 ·rw[Ñ (by simp[ine,g]),if_pos g]
def aa0 (m:ł):CK Int:=m.1.2.2.2.2.1.map fun c=>c.1
def aii (m:ł):Nat->CK Int->CK Int
 |0,l=>l
 |i+1,l=>aii m i (if pI (uZ m (l.take i++l.drop (i+1))) then l else l.take i++l.drop (i+1))
def anp (m:ł):CK Int×Int:=if ī m≠0 then([],ī m) else if pI m then([],5) else(aii m (aa0 m).length (aa0 m),0)
def ano (y:In m.1) (z:m.2.length<=1000):Md m=some (anp m):=by
 unfold Md acF anp;rw[mS y z,À]
 by_cases j:ī m=0
 ·have h:=(Ľ m).1 j;have F:=h.good.nC;have A:((((m.1.1.1,m.1.1.2),m.1.2.1,m.1.2.2.1,m.1.2.2.2.1,m.1.2.2.2.2.1,m.1.2.2.2.2.2),m.2):ł)=m:=rfl;rw[Í (by simp[ine,j]),if_neg (by simp[j]),ur h,À,xG]
  cases pI m with
  |true=>rfl
  |false =>
   simp only[ä,dr,if_false]
   have E:(aa0 m).length=m.1.2.2.2.2.1.length:=by unfold aa0; simp
   refine dY (oi m.1.2.2.2.2.1 (fun c=>c.1) (fun r=>ck ((Õ r)-(1:Int)) fun n6=>Ê (fun(e:CK Int×Int) f=>qZ m.1.1.1 m.1.1.2 m.1.2.1 m.1.2.2.1 m.1.2.2.2.1 m.1.2.2.2.2.1 m.1.2.2.2.2.2 m.2 e.1 e.2 (fun o n=>f (o,n)) (fun k=>some (k,(0:Int)))) (r,n6)) (fun i a hi ha v p D=>?_) (fun v p=>?_)) ?_
   ·try dsimp only
    unfold wS;rw[Ì hi,Æ ha,à (Ð (by simp; omega)),È hi (by omega)]
   ·try dsimp only
    unfold wS;rw[Ó]
   ·show(ck ((Õ (aa0 m))-(1:Int)) fun n6=>Ê _ (aa0 m,n6))=_;rw[Î,Ï (by omega) (by omega)];refine ñ (fun x:CK Int×Int=>∃i:Nat,x.2=(i:Int)-1/\i<=x.1.length/\x.1.length<=40/\aii m i x.1=aii m (aa0 m).length (aa0 m)) (fun x=>(x.2+1).toNat) ?_ ⟨_,rfl,Nat.le_refl _,by dsimp only; omega,rfl⟩;rintro⟨l,C⟩ ⟨i,t,q,g,d⟩;simp only at t q g d;subst t
    cases i with
    |zero =>
     refine .inl fun p=>?_
     try dsimp only
     unfold qZ;rw[Í (by simp[ige]),<-d]; rfl
    |succ i =>
     have u:((i+1:Nat):Int)-1=i:=by omega
     have s:(l.take i++l.drop (i+1)).length=l.length-1:=by simp; omega
     rw[aii] at d;refine .inr ⟨(if pI (uZ m (l.take i++l.drop (i+1))) then l else l.take i++l.drop (i+1),(i:Int)-1),⟨i,rfl,?_,?_,d⟩,by simp only[u]; omega,fun p=>?_⟩
     ·dsimp only; split<;>omega
     ·dsimp only; split<;>omega
     ·try dsimp only
      unfold qZ;rw[u,Ñ (by simp[ige]),à (by simp[ile,ç]; omega),Ï (by omega) (by omega),à (by simp[ile,ç]; omega),Int.toNat_natCast,show Int.toNat ((i:Int)+1)=i+1 by omega,Qs (by simp; omega) (by simp; omega),À,A,aar (by omega) (by omega),À,RM h,À,xG,õ,Ï (by omega) (by omega),Ï (by omega) (by omega)]
      cases pI (uZ m (l.take i++l.drop (i+1)))<;>rfl
 ·rw[Ñ (by simp[ine,j]),if_pos j]
end
def đ:CK Int->Nat->CK Int
 |[],_=>[]
 |x::l,s=>if s % 2=1 then x::đ l (s / 2) else đ l (s / 2)
def PZ:∀{l:CK Int} {s i:Nat} {x:Int},l[i]?=some x->đ (l.take (i+1)) s=đ (l.take i) s++if s / 2 ^ i % 2=1 then[x] else[]
 |[],_,_,_,h=>by simp at h
 |y::l,s,0,x,h=>by
  simp at h; subst h;simp[đ]
 |y::l,s,i+1,x,h=>by
  simp only[fB] at h;have:=PZ (s:=s / 2) h;simp only[gk,đ,this,Nat.pow_succ',<-Nat.div_div_eq_div_mul]
  split<;>rfl
def qM:∀(l:CK Int) (s:Nat),(đ l s).length<=l.length
 |[],_=>cZ _
 |x::l,s=>by
  have:=qM l (s / 2);unfold đ
  split<;>simp only[dk]<;>omega
def bit_i {s i:Nat} (e:s<9223372036854775808) (hi:i<=60):ieq (andI .i64 (iX .i64 (s:Int) (i:Int)) (1:Int)) (1:Int)=decide (s / 2 ^ i % 2=1):=by
 have d:iX .i64 (s:Int) (i:Int)=((s / 2 ^ i:Nat):Int):=by
  unfold iX;have:IntKind.i64.bits=64:=rfl;rw[this,Int.toNat_natCast,Nat.min_eq_left (by omega),Int.fdiv_eq_ediv_of_nonneg _ (Int.le_of_lt (Int.pow_pos (by decide)))];push_cast; rfl
 rw[d];unfold andI ajG
 have hb:(BitVec.ofInt 64 ((s / 2 ^ i:Nat):Int) &&& BitVec.ofInt 64 1).toNat=s / 2 ^ i % 2:=by
  rw[BitVec.toNat_and,gJ,show BitVec.ofInt 64 1=1#64 from rfl,BitVec.toNat_ofNat];rw[show(1#64).toNat=1 from rfl,Nat.and_one_is_mod,Nat.mod_mod_of_dvd _ (by decide)]
 show ieq (IntKind.i64.wrap ((BitVec.ofInt 64 ((s / 2 ^ i:Nat):Int) &&& BitVec.ofInt 64 1).toNat:Int)) 1=_;have a:s / 2 ^ i % 2<2:=Nat.mod_lt _ (by decide);rw[hb];generalize s / 2 ^ i % 2=q at a;rw[afM (by omega)];unfold ieq;rw[Bool.eq_iff_iff,beq_iff_eq,decide_eq_true_eq];omega
def amg (s x:Nat):Bool:=s &&& x==s
def sub_i {s x:Nat} (d:s<9223372036854775808) (f:x<9223372036854775808):ieq (JW .i64 (s:Int) (x:Int)) (0:Int)=amg s x:=by
 unfold JW ajG;show ieq (IntKind.i64.wrap ((BitVec.ofInt 64 (s:Int) &&& ~~~ BitVec.ofInt 64 (x:Int)).toNat:Int)) 0=_
 have e:(BitVec.ofInt 64 (s:Int) &&& ~~~ BitVec.ofInt 64 (x:Int)).toNat<9223372036854775808:=by
  rw[BitVec.toNat_and];refine Nat.lt_of_le_of_lt Nat.and_le_left ?_;rw[gJ,BitVec.toNat_ofNat,Nat.mod_eq_of_lt (by omega)]; exact d
 rw[afM e];unfold ieq amg;rw[Bool.eq_iff_iff,beq_iff_eq,beq_iff_eq]
 have h2:(((BitVec.ofInt 64 (s:Int) &&& ~~~ BitVec.ofInt 64 (x:Int)).toNat:Nat):Int)=0↔∀i,i<64->s.testBit i=true->x.testBit i=true:=by
  rw[Int.natCast_eq_zero,<-BitVec.toNat_zero (w:=64),BitVec.toNat_inj];constructor
  ·intro h i hi a;have:=congrArg (fun b:BitVec 64=>b.getLsbD i) h;simp only[BitVec.getLsbD_and,BitVec.getLsbD_not,gJ,BitVec.getLsbD_ofNat,BitVec.getLsbD_zero,hi,decide_true,eI,a] at this;simpa using this
  ·intro h;apply BitVec.eq_of_getLsbD_eq;intro i hi;simp only[BitVec.getLsbD_and,BitVec.getLsbD_not,gJ,BitVec.getLsbD_ofNat,BitVec.getLsbD_zero,hi,decide_true,eI]
   cases a:s.testBit i with
   |false=>simp
   |true=>rw[h i hi a]; simp
 rw[h2];constructor
 ·intro h;refine Nat.eq_of_testBit_eq fun i=>?_;rw[Nat.testBit_and]
  cases a:s.testBit i with
  |false=>rfl
  |true =>
   rcases dq i 64 with hi|hi
   ·rw[h i hi a]; rfl
   ·have:s<2 ^ i:=dz d (dw (by decide) (Nat.pow_le_pow_right (by decide) hi));rw[Nat.testBit_lt_two_pow this] at a; cases a
 ·intro h i _ a;rw[<-h,Nat.testBit_and,cY] at a;exact a.2
def afD:CK Int->CK Int->Int
 |[],[]=>0
 |[],_=>-1
 |_,[]=>1
 |x::l,y::m=>if x<y then -1 else if y<x then 1 else afD l m
def KI (m:ł) (ids:CK Int) (st:CK Int×Nat×CK Nat) (s:Nat):CK Int×Nat×CK Nat :=
 if st.1.length<(đ ids s).length\/((đ ids s).length=st.1.length/\0<=afD (đ ids s) st.1) then st else
 if st.2.2.any (amg s) then st else if pI (uZ m (đ ids s)) then(st.1,st.2.1,st.2.2++[s]) else(đ ids s,s,st.2.2)
def KJ (m:ł) (ids:CK Int) (n:Nat):CK Int×Nat×CK Nat:=(List.range n).foldl (KI m ids) (ids,2 ^ ids.length-1,[])
def ajk (m:ł) (ids:CK Int):CK Int×Int :=
 if ī m≠0 then([],ī m) else if 8<ids.length then([],2) else if !ids.all (fun i=>(aa0 m).contains i) then([],5) else if ¬ids.Pairwise (·<·) then([],6) else
 if pI (uZ m (đ ids (2 ^ ids.length-1))) then([],5) else(đ ids (KJ m ids (2 ^ ids.length-1)).2.1,0)
section
variable {m:ł} {ρ:Type}
def Ij {l:CK Int} (g:l.length<=60) {s:Nat} (e:s<9223372036854775808):ju l (s:Int)=some (đ l s):=by
 unfold ju SW;refine ê l (fun i=>đ (l.take i) s) _ rfl (fun i x hi a d=>?_) (fun d=>?_)
 ·try dsimp only
  unfold pQ;have f:=qM (l.take i) s
  have:(l.take i).length=i:=by rw[dm]; omega
  rw[Ì hi,Æ a,à (by simp[ile]),bit_i e (by omega),õ,PZ a]
  by_cases h:s / 2 ^ i % 2=1
  ·rw[if_pos (by simpa using h),if_pos h,à (Ð (by simp; omega)),È hi (by omega)]
  ·rw[if_neg (by simpa using h),if_neg h,È hi (by omega),du]
 ·try dsimp only
  unfold pQ;rw[Ó,List.take_length]
def ajW (p:m.1.2.2.2.2.1.length<=1000) {ids:CK Int} (hi:ids.length<=1000) (K:Int->BY ρ) (Z:BY ρ):Ê (fun(v:Int) g=>iF ids (Õ ids) m.1.2.2.2.2.1 v (fun u=>g u) K (fun _=>Z)) 0=if ids.all (fun i=>(aa0 m).contains i) then Z else K 5:=by
 have:=Ē ids (fun i=>!(aa0 m).contains i) (fun _=>K 5) (K 5) Z (f:=fun v g=>iF ids (Õ ids) m.1.2.2.2.2.1 v (fun u=>g u) K (fun _=>Z)) (fun _=>rfl) (fun i x a n e=>?_) (fun e=>?_)
 ·rw[this,List.all_eq_not_any_not]
  cases ids.any (fun i=>!(aa0 m).contains i)<;>rfl
 ·try dsimp only
  unfold iF;rw[Ì a,Æ n];refine Eq.trans (Ē m.1.2.2.2.2.1 (fun c=>c.1==x) (fun l=>ifb (!(ige l (0:Int))) (K (5:Int)) (ck ((i:Int)+(1:Int)) fun n6=>e n6)) (e ((i:Int)+1)) (K 5) (fun j=>by rw[Í (by simp[ige]),È a (by omega)]) (fun j c k o d=>?_) (fun d=>?_)) ?_
  ·try dsimp only
   unfold mB;rw[Ì k,Æ o,È k (by omega),õ]
  ·try dsimp only
   unfold mB;rw[Ó]
  ·have:(aa0 m).contains x=m.1.2.2.2.2.1.any fun c=>c.1==x:=by
    unfold aa0;rw[Bool.eq_iff_iff,List.contains_iff_mem,List.mem_map,List.any_eq_true];simp
   rw[this]
   cases m.1.2.2.2.2.1.any (fun c=>c.1==x)<;>rfl
 ·try dsimp only
  unfold iF;rw[Ó]
def ajV {l:CK Int} (k:l.length<=1000) (k0:Int->BY ρ) (k1:Unit->BY ρ):Ê (fun(v:Int) g=>jG l v (fun u=>g u) k0 k1) 1=if l.Pairwise (·<·) then k1 () else k0 6:=by
 refine Vu (fun i a c ha d f=>?_) (fun n j f=>?_)
 ·have hi:=(List.getElem?_eq_some_iff.1 d).1;unfold jG
  have e:((i:Int)+1)=((i+1:Nat):Int):=by omega
  rw[e,Ì hi,Æ d,Ï (by omega) (by omega),<-e,Int.add_sub_cancel,Æ ha,õ,Ï (by omega) (by omega)];simp
 ·unfold jG;rw[Í (by simp[ilt,Î]; omega)]
def Ie (h:MOk m) (ids:CK Int) {w:Way} (a:Ĵ m.2 w):ε (uZ m ids) w=some (mR (uZ m ids) w):=xU (h.few _) a
def ajU (h:MOk m) {ids:CK Int} (hi:ids.length<=60) {s:Nat} (g:s<9223372036854775808) (X Z:BY ρ):Ê (fun(v:Int) f=>jF (Ŋ m.2) (Õ (Ŋ m.2)) m.1.1.1 m.1.1.2 m.1.2.1 m.1.2.2.1 m.1.2.2.2.1 m.1.2.2.2.2.1 m.1.2.2.2.2.2 m.2 ids (s:Int) v (fun u=>f u) (fun z=>ifb z.2 X Z) (fun _=>Z)) 0=if pI (uZ m (đ ids s)) then X else Z:=by
 have j:((((m.1.1.1,m.1.1.2),m.1.2.1,m.1.2.2.1,m.1.2.2.2.1,m.1.2.2.2.2.1,m.1.2.2.2.2.2),m.2):ł)=m:=rfl;have k:=sF h;have l:=qM ids s;refine Ē (Ŋ m.2) (mR (uZ m (đ ids s))) (fun _=>X) X Z (fun _=>rfl) (fun i x a d e=>?_) (fun e=>?_)
 ·try dsimp only
  unfold jF;rw[Ì a,Æ d,Ij hi g,À,j,aar h.good.size.compares (by omega),À,Ie h _ (qO d),À,È a (by omega),õ,Bool.not_not];rfl
 ·try dsimp only
  unfold jF;rw[Ó]
def ajR (h:MOk m) {ids:CK Int} (hi:ids.length<=60) {s:Nat} (n:s<9223372036854775808) {op:CK Int} (r:op.length<=1000) (k0 k1:CK Int->BY ρ):Ê (fun(v:Int×CK Int) l=>Ş (s:Int) (Ŋ m.2) (Õ (Ŋ m.2)) ids m.1.1.1 m.1.1.2 m.1.2.1 m.1.2.2.1 m.1.2.2.2.1 m.1.2.2.2.2.1 m.1.2.2.2.2.2 m.2 v.1 v.2 (fun a b=>l (a,b)) k0 k1) ((0:Int),op)=if pI (uZ m (đ ids s)) then k0 (op++[(s:Int)]) else k1 op:=by
 have o:((((m.1.1.1,m.1.1.2),m.1.2.1,m.1.2.2.1,m.1.2.2.2.1,m.1.2.2.2.2.1,m.1.2.2.2.2.2),m.2):ł)=m:=rfl;have p:=sF h;have q:=qM ids s;refine AH (Ŋ m.2) (fun _=>op) _ (fun i=>∀w∈(Ŋ m.2).take i,mR (uZ m (đ ids s)) w=false) rfl (fun w d=>by simp at d) (fun i x f g j k=>?_) (fun j k=>?_)
 ·try dsimp only
  unfold Ş;rw[Ì f,Æ g,Ij hi n,À,o,aar h.good.size.compares (by omega),À,Ie h _ (qO g),À,È f (by omega),à (Ð (by simp; omega)),õ,Bool.not_not]
  cases e:mR (uZ m (đ ids s)) x with
  |true =>
   refine .inl ?_;have:pI (uZ m (đ ids s))=true:=dA.2 ⟨x,df g,e⟩;rw[this]; rfl
  |false =>
   refine .inr ⟨fun w d=>?_,rfl⟩;rw[take_succ g] at d;rcases dg.1 d with d|d
   ·exact j w d
   ·rw[dj.1 d]; exact e
 ·rw[fo] at j
  try dsimp only
  unfold Ş
  have:pI (uZ m (đ ids s))=false:=eh.2 fun w d=>by rw[show mR (uZ m (đ ids s)) w=false from j w d]; simp
  rw[Ó,this]; rfl
def ajS {s:Nat} (k:s<9223372036854775808) {op:CK Nat} (l:op.length<=1000) (e:∀x∈op,x<9223372036854775808) (X Z:BY ρ):Ê (fun(v:Int) j=>ş (s:Int) (Õ (op.map fun(x:Nat)=>(x:Int))) (op.map fun(x:Nat)=>(x:Int)) v (fun u=>j u) (fun _=>X) (fun _=>Z)) 0=if op.any (amg s) then X else Z:=by
 refine Ē op (amg s) (fun _=>X) X Z (fun _=>rfl) (fun i x hi f g=>?_) (fun g=>?_)
 ·try dsimp only
  unfold ş
  have d:(op.map fun(x:Nat)=>(x:Int))[i]?=some (x:Int):=by rw[eW,f]; rfl
  have a:i<(op.map fun(x:Nat)=>(x:Int)).length:=by simpa using hi
  rw[Ì a,ő a,é d,sub_i k (e x (df f)),È hi (by omega),õ]
 ·try dsimp only
  unfold ş;rw[Î,Í (by simp[ilt])]
def amH {l m:CK Int} (h:l.length=m.length) (d:∀(i:Nat) (x y:Int),l[i]?=some x->m[i]?=some y->x=y):afD l m=0:=by
 induction l generalizing m with
 |nil=>cases m with|nil=>rfl|cons _ _=>cases h
 |cons x l f =>
  cases m with
  |nil=>cases h
  |cons y m =>
   have e:=d 0 x y rfl rfl;subst e;rw[afD,if_neg (by omega),if_neg (by omega)];exact f (by simpa using h) fun i a b ha hb=>d (i+1) a b ha hb
def lex_at {l m:CK Int} {i:Nat} {x y:Int} (f:l[i]?=some x) (d:m[i]?=some y) (g:∀(j:Nat) (a b:Int),j<i->l[j]?=some a->m[j]?=some b->a=b) (n:x≠y):afD l m=if x<y then -1 else 1:=by
 induction l generalizing m i with
 |nil=>simp at f
 |cons a l k =>
  cases m with
  |nil=>simp at d
  |cons b m =>
   cases i with
   |zero =>
    simp at f d; subst f d;rw[afD]
    split
    ·rfl
    ·rw[if_pos (by omega)]
   |succ i =>
    have e:=g 0 a b (by omega) rfl rfl;subst e;rw[afD,if_neg (by omega),if_neg (by omega)];exact k (by simpa using f) (by simpa using d) fun j a b o ha hb=>g (j+1) a b (by omega) ha hb
def ajT {l k:CK Int} (h:k.length=l.length) (C:l.length<=1000) (X Y:BY ρ):Ê (fun(v:Int) o=>ź l k (Õ k) v (fun u=>o u) (fun z=>ifb (ige z (0:Int)) X Y) (fun _=>X)) 0=if 0<=afD k l then X else Y:=by
 have:=ñ (r:=if 0<=afD k l then X else Y) (f:=fun v o=>ź l k (Õ k) v (fun u=>o u) (fun z=>ifb (ige z (0:Int)) X Y) (fun _=>X)) (x:=(0:Int)) (fun x=>∃i:Nat,x=i/\i<=k.length/\∀(j:Nat) (a b:Int),j<i->k[j]?=some a->l[j]?=some b->a=b) (fun x=>k.length-x.toNat) ?_ ⟨0,rfl,ee _,fun j a b y=>by omega⟩
 ·exact this
 ·rintro x ⟨i,rfl,hi,s⟩;rcases dq i k.length with e|A
  ·have q:k[i]?=some k[i]:=cX e;have p:l[i]?=some l[i]:=cX (by omega)
   have t:∀g,ź l k (Õ k) (i:Int) g (fun z=>ifb (ige z (0:Int)) X Y) (fun _=>X)=if k[i]=l[i] then g ((i:Int)+1) else if k[i]<l[i] then Y else X:=fun g=>by
    unfold ź;rw[Ì e,Æ q,Í (by simp[ige,Î]; omega),Æ p,aim,À,È e (by omega)]
    by_cases d:k[i]<l[i]
    ·rw[if_pos d,if_neg (by omega),if_pos d]; rfl
    ·rw[if_neg d]
     by_cases h2:l[i]<k[i]
     ·rw[if_pos h2,if_neg (by omega),if_neg d]; rfl
     ·rw[if_neg h2,if_pos (by omega)]; rfl
   by_cases n:k[i]=l[i]
   ·refine .inr ⟨(i:Int)+1,⟨i+1,by simp,e,fun j a b y ha hb=>?_⟩,by omega,fun g=>by rw[t,if_pos n]⟩;rcases dq j i with d|d
    ·exact s j a b d ha hb
    ·have:j=i:=by omega
     subst this;rw[q] at ha; rw[p] at hb;cases ha; cases hb;exact n
   ·refine .inl fun g=>?_;rw[t,if_neg n,lex_at q p s n]
    by_cases d:k[i]<l[i]
    ·rw[if_pos d,if_pos d]; rfl
    ·rw[if_neg d,if_neg d]; rfl
  ·refine .inl fun g=>?_
   have:i=k.length:=by omega
   subst this;unfold ź;rw[Ó,amH h fun j a b ha hb=>s j a b (List.getElem?_eq_some_iff.1 ha).1 ha hb];rfl
abbrev stI (st:CK Int×Nat×CK Nat) (n:Nat):CK Int×Int×Int×CK Int:=(st.1,(st.2.1:Int),(n:Int),st.2.2.map fun(x:Nat)=>(x:Int))
def ad7 (h:MOk m) {ids:CK Int} (hi:ids.length<=8) {n N:Nat} (I:n<N) (J:N<=256) {st:CK Int×Nat×CK Nat} (K:st.1.length<=8) (H:st.2.2.length<=n) (D:∀x∈st.2.2,x<n) (i:CK Int->Int->Int->CK Int->BY ρ) (k0:Int×CK Int->BY ρ) :
 Ż (Ŋ m.2) (N:Int) ids m.1.1.1 m.1.1.2 m.1.2.1 m.1.2.2.1 m.1.2.2.2.1 m.1.2.2.2.2.1 m.1.2.2.2.2.2 m.2 (stI st n).1 (stI st n).2.1 (stI st n).2.2.1 (stI st n).2.2.2 i k0=i (stI (KI m ids st n) (n+1)).1 (stI (KI m ids st n) (n+1)).2.1 (stI (KI m ids st n) (n+1)).2.2.1 (stI (KI m ids st n) (n+1)).2.2.2:=by
 have G:=qM ids n;dsimp only;unfold Ż
 have o:∀x∈st.2.2,x<9223372036854775808:=fun x F=>by have:=D x F; omega
 have E:(st.2.2.map fun(x:Nat)=>(x:Int)).length<=1000:=by rw[dC]; omega
 have p:∀f:Int->BY ρ,ck ((n:Int)+(1:Int)) f=f ((n+1:Nat):Int):=fun f=>by rw[Ï (by omega) (by omega)]; simp
 rw[Ñ (by simp[ilt]; omega),Ij (by omega) (by omega),À];unfold KI
 by_cases e:st.1.length<(đ ids n).length
 ·rw[Ñ (by simp[igt,Î]; omega),if_pos (.inl e),p]
 ·rw[Í (by simp[igt,Î]; omega)]
  have d:∀M K2:BY ρ,Ê (fun(t:Int) k=>ş (n:Int) (Õ (st.2.2.map fun(x:Nat)=>(x:Int))) (st.2.2.map fun(x:Nat)=>(x:Int)) t (fun u=>k u) (fun _=>ck ((n:Int)+(1:Int)) fun C=>i st.1 (st.2.1:Int) C (st.2.2.map fun(x:Nat)=>(x:Int))) (fun _=>Ê (fun(j:Int×CK Int) l=>Ş (n:Int) (Ŋ m.2) (Õ (Ŋ m.2)) ids m.1.1.1 m.1.1.2 m.1.2.1 m.1.2.2.1 m.1.2.2.2.1 m.1.2.2.2.2.1 m.1.2.2.2.2.2 m.2 j.1 j.2 (fun y v=>l (y,v)) (fun s=>ck ((n:Int)+(1:Int)) fun A=>i st.1 (st.2.1:Int) A s) (fun r=>ck ((n:Int)+(1:Int)) fun z=>i (đ ids n) (n:Int) z r)) ((0:Int),st.2.2.map fun(x:Nat)=>(x:Int)))) (0:Int) =
   (fun q=>i (stI q (n+1)).1 (stI q (n+1)).2.1 (stI q (n+1)).2.2.1 (stI q (n+1)).2.2.2) (if st.2.2.any (amg n) then st else if pI (uZ m (đ ids n)) then(st.1,st.2.1,st.2.2++[n]) else(đ ids n,n,st.2.2)):=fun _ _=>by
   rw[ajR h (by omega) (by omega) E,ajS (by omega) (by omega) o,p,p,p]
   cases st.2.2.any (amg n) with
   |true=>rfl
   |false =>
    cases pI (uZ m (đ ids n)) with
    |true=>simp
    |false=>rfl
  by_cases g:(đ ids n).length=st.1.length
  ·rw[Ñ (by simp[ieq,Î]; omega),d none none,Í (show ilt (Õ (đ ids n)) (Õ st.1)=false by simp[ilt,Î]; omega),ajT g (by omega),p]
   by_cases a:0<=afD (đ ids n) st.1
   ·rw[if_pos a,if_pos (.inr ⟨g,a⟩)]
   ·rw[if_neg a,if_neg (show ¬(st.1.length<(đ ids n).length\/((đ ids n).length=st.1.length/\0<=afD (đ ids n) st.1)) from fun h=>h.elim e fun h=>a h.2)]
  ·rw[Í (by simp[ieq,Î]; omega),d none none,if_neg (show ¬(st.1.length<(đ ids n).length\/((đ ids n).length=st.1.length/\0<=afD (đ ids n) st.1)) from fun h=>h.elim e fun h=>g h.1)]
def ajN {ids:CK Int} {n:Nat} {st:CK Int×Nat×CK Nat} (hi:ids.length<=8) (e:st.1.length<=8) (h2:st.2.2.length<=n) (d:∀x∈st.2.2,x<n):(KI m ids st n).1.length<=8/\(KI m ids st n).2.2.length<=n+1/\∀x∈(KI m ids st n).2.2,x<n+1:=by
 have f:=qM ids n;unfold KI
 split
 ·exact⟨e,by omega,fun x a=>by have:=d x a; omega⟩
 split
 ·exact⟨e,by omega,fun x a=>by have:=d x a; omega⟩
 split
 ·refine⟨e,by simp; omega,fun x a=>?_⟩;rcases dg.1 a with a|a
  ·have:=d x a; omega
  ·rw[dj.1 a]; omega
 ·exact⟨by dsimp only; omega,by dsimp only; omega,fun x a=>by have:=d x a; omega⟩
def ab2 {ids:CK Int} (hi:ids.length<=8):∀n,(KJ m ids n).1.length<=8/\(KJ m ids n).2.2.length<=n/\∀x∈(KJ m ids n).2.2,x<n
 |0=>⟨hi,cZ _,fun x a=>by cases a⟩
 |n+1=>by
  obtain⟨e,h2,d⟩:=ab2 hi n;have:=ajN (m:=m) hi e h2 d;unfold KJ at this ⊢;rw[List.range_succ,List.foldl_append];exact this
def pow8 {n:Nat} (h:n<=8):1<=2 ^ n/\2 ^ n<=256:=⟨Nat.one_le_pow _ _ (by decide),Nat.pow_le_pow_right (by decide) h⟩
def adm {ids:CK Int} (hi:ids.length<=8):∀n,n<=256->(KJ m ids n).2.1<=256
 |0,_=>by have:=(pow8 hi).2; show 2 ^ ids.length-1<=256; omega
 |n+1,d=>by
  have a:=adm hi n (by omega);unfold KJ at a ⊢;rw[List.range_succ,List.foldl_append];show(KI m ids _ n).2.1<=256;unfold KI
  split
  ·exact a
  split
  ·exact a
  split
  ·exact a
  ·dsimp only; omega
def abI (D:In m.1) (F:m.2.length<=1000) {ids:CK Int} (G:ids.length<=1000000):uk m ids=some (ajk m ids):=by
 unfold uk zK ajk;rw[mS D F,À]
 by_cases l:ī m=0
 ·have h:=(Ľ m).1 l;rw[Í (by simp[ine,l]),if_neg (by simp[l])]
  by_cases y:8<ids.length
  ·rw[Ñ (by simp[igt,Î]; omega),if_pos y]
  ·have hi:ids.length<=8:=by omega
   obtain⟨M,K⟩:=pow8 hi;rw[Í (by simp[igt,Î]; omega),if_neg y,ajW h.good.size.compares (by omega)]
   cases ids.all (fun i=>(aa0 m).contains i) with
   |false=>rfl
   |true =>
    rw[if_pos rfl,if_neg (by simp),ajV (by omega)]
    by_cases o:ids.Pairwise (·<·)
    ·have u:shlI .i64 (1:Int) (Õ ids)=((2 ^ ids.length:Nat):Int):=by
      unfold shlI;rw[Î,Int.toNat_natCast,Nat.min_eq_left (by show ids.length<=64; omega),Int.one_mul,show((2:Int) ^ ids.length)=((2 ^ ids.length:Nat):Int) by simp,afM (by omega)]
     have J:((2 ^ ids.length:Nat):Int)-1=((2 ^ ids.length-1:Nat):Int):=by omega
     rw[if_pos o,if_neg (by simpa using o),Mz h,À,à (by simp[ile,Î]),u,Ï (by omega) (by omega),J]
     have loop:Ê (fun(e:CK Int×Int×Int×CK Int) j=>Ż (Ŋ m.2) ((2 ^ ids.length-1:Nat):Int) ids m.1.1.1 m.1.1.2 m.1.2.1 m.1.2.2.1 m.1.2.2.2.1 m.1.2.2.2.2.1 m.1.2.2.2.2.2 m.2 e.1 e.2.1 e.2.2.1 e.2.2.2 (fun t r q p=>j (t,r,q,p)) (fun f=>Ä (ju ids f.1) fun g=>some (g,(0:Int)))) (ids,((2 ^ ids.length-1:Nat):Int),(0:Int),[])=some (đ ids (KJ m ids (2 ^ ids.length-1)).2.1,0):=by
      refine ñ (fun x=>∃n:Nat,n<=2 ^ ids.length-1/\x=stI (KJ m ids n) n) (fun x=>2 ^ ids.length-1-x.2.2.1.toNat) ?_ ⟨0,ee _,rfl⟩;rintro x ⟨n,E,rfl⟩;obtain⟨C,A,z⟩:=ab2 (m:=m) hi n;rcases dq n (2 ^ ids.length-1) with k|H
      ·refine .inr ⟨stI (KJ m ids (n+1)) (n+1),⟨n+1,k,rfl⟩,by dsimp only; omega,fun v=>?_⟩;have:=ad7 h hi k (by omega) C A z (fun a b c d=>v (a,b,c,d)) (fun f=>Ä (ju ids f.1) fun g=>some (g,(0:Int)));rw[this];unfold KJ;rw[List.range_succ,List.foldl_append]; rfl
      ·have:n=2 ^ ids.length-1:=by omega
       subst this;refine .inl fun v=>?_;have O:=adm (m:=m) hi (2 ^ ids.length-1) (by omega);dsimp only;unfold Ż;rw[Í (by simp[ilt])];dsimp only;rw[Ij (by omega) (by omega)]; rfl
     have I:=ajU h (ids:=ids) (by omega) (s:=2 ^ ids.length-1) (by omega) (some ([],(5:Int))) (some (đ ids (KJ m ids (2 ^ ids.length-1)).2.1,0));rw[loop,I]
     split<;>rfl
    ·rw[if_neg o,if_pos o]
 ·rw[Ñ (by simp[ine,l]),if_pos l]
end
def L7 (b:ø) (x d:Int):Int:=match iZ (Ò b) x d with|some j=>(j:Int)+1|none=>0
def Qq (b:ø) (n:Int×Int):Int×Int:=if ŏ b≠0 then(0,ŏ b) else if L7 b n.1 n.2=0 then(0,5) else(L7 b n.1 n.2,0)
def Qr {b:ø} (h:In b) (n:Int×Int):sf b n=some (Qq b n):=by
 have e:=I2 h.size;unfold sf Y0 Qq;rw[B8 h.size h.num,À]
 by_cases a:ŏ b=0
 ·rw[Í (by simp[ine,a]),if_neg (show ¬(ŏ b≠0) from fun h=>h a),UN h.size,À,show û (Ò b) n=û (Ò b) (n.1,n.2) from rfl,ZW (by omega),À];unfold L7
  cases d:iZ (Ò b) n.1 n.2 with
  |none=>rfl
  |some j =>
   have:=(lX d).1;simp only;rw[Í (by simp[ilt]),Ï (by omega) (by omega),if_neg (by omega)]
 ·rw[Ñ (by simp[ine,a]),if_pos a]
def nI (b:ø) (n:Int×Int):ø:=(b.1,b.2.1,b.2.2.1,b.2.2.2.1,b.2.2.2.2.1,b.2.2.2.2.2++[n])
def Y5 {b:ø} (h:Ŧ b) (n:Int×Int):jp (nI b n):=by
 have a:=h.size;have:=h.nK;exact⟨a.gauges,a.uses,a.loans,a.compares,by simp[nI]; omega,a.piles⟩
def anm (b:ø) (n:Int×Int):ø×Int:=if ŏ b≠0 then(ai6,ŏ b) else if ŏ (nI b n)≠0 then(ai6,ŏ (nI b n)) else(nI b n,0)
def anl {b:ø} (h:In b) (n:Int×Int):Ml b n=some (anm b n):=by
 have e:=h.size;have s:=e.gauges; have h2:=e.uses; have r:=e.loans; have q:=e.compares; have p:=e.looks;unfold Ml ac3 anm;rw[B8 e h.num,À]
 by_cases f:ŏ b=0
 ·have k:=(Ο b).1 f;rw[Í (by simp[ine,f]),Ð (by omega),Am.iff_true,Ð (by omega),Am.iff_true,Ð (by omega),Am.iff_true,Ð (by omega),Am.iff_true,Ð (by omega),Am.iff_true,if_neg (show ¬(ŏ b≠0) from fun h=>h f)];refine ê b.2.2.2.2.1 (fun _=>b.2.2.2.2.1) _ rfl (fun i d hi hd j=>?_) (fun j=>?_)
  ·dsimp only;unfold xz;obtain⟨o,l⟩:=e.piles d (List.mem_of_getElem? hd)
   have g:b.2.2.2.2.1.set i d=b.2.2.2.2.1:=by
    obtain⟨h,rfl⟩:=de.1 hd;exact List.set_getElem_self h
   rw[Ì hi,ő hi,é hd,Ð (by omega),Am.iff_true,Ð (by omega),Am.iff_true,ő hi,é hd,dl];rw[show(d.1,d.2.1,d.2.2.1,d.2.2.2)=d from rfl,g,ő hi,Δ hd,È hi (by omega)];rw[show(d.1,d.2.1,d.2.2.1,d.2.2.2.1,d.2.2.2.2)=d from rfl,g]
  ·try dsimp only
   unfold xz;rw[Ó];dsimp only;rw[Ð (by simp only[List.length_singleton]; omega),Am.iff_true];rw[show κ (b.1,b.2.1,b.2.2.1,b.2.2.2.1,b.2.2.2.2.1,b.2.2.2.2.2++[n])=κ (nI b n) from rfl,B8 (Y5 k n) h.num,À]
   by_cases a:ŏ (nI b n)=0
   ·rw[Í (by simp[ine,a]),if_neg (show ¬(ŏ (nI b n)≠0) from fun h=>h a)];rfl
   ·rw[Ñ (by simp[ine,a]),if_pos a];rfl
 ·rw[Ñ (by simp[ine,f]),if_pos f];rfl
def qP (b:ø) (n:Int×Int):ø×Int:=if L7 b n.1 n.2≠0 then(b,0) else if ŏ (nI b n)≠0 then(ai6,ŏ (nI b n)) else(nI b n,0)
structure Room (B:ø):Prop where
 good:Ŧ B
 op:j8 (Ŕ B) ((Ò B).length+1)=true
 num:∀g∈B.2.1,I64 g.2.2.2.2.1.1
theorem aaX (B:ø) (n:Int×Int):0<=L7 B n.1 n.2/\L7 B n.1 n.2<((Ò B).length+1:Nat):=by
 unfold L7
 cases h:iZ (Ò B) n.1 n.2 with
 |none=>dsimp only; omega
 |some j=>have:=(lX h).1; dsimp only; omega
def ah7 (B:ø) (s t:Int):Int:=dst (Ŕ B) ((Ò B).length+1) s t
def ivR (B:ø) (n:Int×Int):Int×Int:=(-(ah7 B (L7 B n.1 n.2) 0),ah7 B 0 (L7 B n.1 n.2))
theorem ajI (B:ø):0<=(0:Int)/\(0:Int)<((Ò B).length+1:Nat):=by omega
section
variable {B:ø} (h:Room B)
include h
theorem ah6 {s t:Int} (d:0<=s/\s<((Ò B).length+1:Nat)) (a:0<=t/\t<((Ò B).length+1:Nat)) : -9007199254740992<=ah7 B s t/\ah7 B s t<=9007199254740992 :=
 alV h.good.sys h.good.tied h.op d a
end
def TM {ρ α:Type} {l:CK α} {i:Int} (h0:0<=i) {a:α} (h:l[i.toNat]?=some a) (f:α->BY ρ):ï l i f=f a:=by
 obtain⟨n,rfl⟩:=Int.eq_ofNat_of_zero_le h0;exact Æ (by simpa using h) f
def jW (x:CK Int) (y:CK Int) (l:Lk):CK Int:=if gv x l.2.1=Ŗ then y else y.set l.1.toNat (min (gv y l.1) (l.2.2+gv x l.2.1))
def T0 (L:CK Lk) (N:Nat) (x:CK Int):CK Int:=L.foldl (jW x) (List.replicate N Ŗ)
def exL (L:CK Lk) (N:Nat) (to:Int):Nat->CK Int
 |0=>(List.replicate N Ŗ).set to.toNat 0
 |k+1=>T0 L N (exL L N to k)
def nh (L:CK Lk) (N:Nat) (to:Int) (most:Nat):CK (CK Int):=(List.range (most+1)).map (exL L N to)
section
variable {L:CK Lk} {N:Nat}
def JK (x y:CK Int) (l:Lk):(jW x y l).length=y.length:=by unfold jW; split<;>simp
def JL (x:CK Int):∀(M:CK Lk) (y:CK Int),(M.foldl (jW x) y).length=y.length
 |[],y=>rfl
 |l::M,y=>by rw[gy,JL x M,JK]
def aeV (x:CK Int):(T0 L N x).length=N:=by unfold T0; rw[JL]; simp
def aa9 (to:Int) (k:Nat):(exL L N to k).length=N:=by
 cases k with
 |zero=>simp[exL]
 |succ k=>exact aeV _
def Lim (B:Int) (x:CK Int):Prop:=∀v:Int,gv x v≠Ŗ->-B<=gv x v/\gv x v<=B
def gv_out {x:CK Int} {v:Int} (h:¬v.toNat<x.length):gv x v=0:=by
 unfold gv;rw[List.getElem?_eq_none (by omega)];rfl
def Pl {B:Int} (d:0<=B):Lim B (List.replicate N Ŗ):=by
 intro v a
 by_cases h:v.toNat<N
 ·exfalso; apply a;unfold gv;rw[List.getElem?_replicate,if_pos h];rfl
 ·rw[gv_out (by simpa using h)]; omega
def ahA {B:Int} {y:CK Int} (f:Lim B y) {u:Int} (i:0<=u) (g:u.toNat<y.length) {a:Int} (ha:a≠Ŗ->-B<=a/\a<=B):Lim B (y.set u.toNat a):=by
 intro v d
 by_cases h:v.toNat=u.toNat
 ·have:gv (y.set u.toNat a) v=a:=by
   unfold gv;rw[h,List.getElem?_set_self g];rfl
  rw[this] at d ⊢;exact ha d
 ·have:gv (y.set u.toNat a) v=gv y v:=by
   unfold gv;rw[List.getElem?_set_ne (fun e=>h e.symm)]
  rw[this] at d ⊢;exact f v d
def ac7 (e:jo L N) {B:Int} (o:0<=B) (j:B<=1000000000000000000) {x y:CK Int} (g:Lim B x) (a:Lim (B+4503599627370496) y) (n:y.length=N) {l:Lk} (d:l∈L):Lim (B+4503599627370496) (jW x y l):=by
 unfold jW
 split
 ·exact a
 ·rename_i i;have k:=e.inr l d;have h2:=e.most l d;have p:=g _ i;refine ahA a k.1.1 (by omega) fun ha=>?_
  by_cases f:gv y l.1=Ŗ
  ·rw[f] at ha ⊢
   have:min Ŗ (l.2.2+gv x l.2.1)=l.2.2+gv x l.2.1:=by unfold Ŗ; omega
   rw[this]; omega
  ·have:=a _ f;omega
def ac8 (g:jo L N) {B:Int} (j:0<=B) (a:B<=1000000000000000000) {x:CK Int} (e:Lim B x):∀(M:CK Lk),(∀l∈M,l∈L)->∀y:CK Int,y.length=N->Lim (B+4503599627370496) y->Lim (B+4503599627370496) (M.foldl (jW x) y)
 |[],_,y,_,d=>d
 |l::M,i,y,f,d=>by
  rw[gy];exact ac8 g j a e M (fun m k=>i m (by simp[k])) _ (by rw[JK,f]) (ac7 g j a e d f (i l (by simp)))
def EW (d:jo L N) {to:Int} (a:0<=to/\to<N):∀k:Nat,k<=200->Lim (k*4503599627370496) (exL L N to k)
 |0,_=>by
  unfold exL;exact ahA (Pl (by omega)) a.1 (by simp; omega) (fun _=>by omega)
 |k+1,f=>by
  have:=ac8 d (B:=k*4503599627370496) (by omega) (by omega) (EW d a k (by omega)) L (fun _ h=>h) (List.replicate N Ŗ) (by simp) (Pl (by omega));unfold exL T0
  have e:(((k+1:Nat):Int)*4503599627370496)=(k:Int)*4503599627370496+4503599627370496:=by push_cast; omega
  rw[e];exact this
def Zn {ρ:Type} (o:N<=1000) (K:CK Int->BY ρ) {f:Int×CK Int->(Int×CK Int->BY ρ)->BY ρ}
 (l:∀(v:Int×CK Int) k,f v k=Br (N:Int) v.1 v.2 (fun g e=>k (g,e)) K):Ê f ((0:Int),List.replicate N (0:Int))=K (List.replicate N Ŗ):=by
 refine ê (List.replicate N (0:Int)) (fun i=>List.replicate i Ŗ++List.replicate (N-i) (0:Int)) _ (by simp) (fun i a hi ha n=>?_) (fun n=>?_)
 ·rw[l];dsimp only;unfold Br;rw[List.length_replicate] at hi
  have d:(List.replicate i Ŗ++List.replicate (N-i) (0:Int)).length=N:=by simp; omega
  have j:ilt (i:Int) (N:Int)=true:=decide_eq_true (by omega);rw[Ñ j,show ç (List.replicate i Ŗ++List.replicate (N-i) (0:Int))=(N:Int) by unfold ç; rw[d],ž (by omega) (by omega),kK (by rw[d]; omega),Ï (by omega) (by omega)];congr 2;rw[Int.toNat_natCast];rw[List.set_append_right _ _ (by simp),List.length_replicate,Nat.sub_self];rw[show N-i=(N-(i+1))+1 by omega,List.replicate_succ,List.set_cons_zero,List.replicate_succ'];simp
 ·rw[l];dsimp only;unfold Br;rw[List.length_replicate];have j:ilt (N:Int) (N:Int)=false:=decide_eq_false (by omega);rw[Í j];simp
def okN (a:N<=1000) {ρ:Type} (x:BY ρ):Û ((ile (0:Int) (N:Int))&&(ß (Int.toNat (N:Int)))) x=x:=by
 rw[à];rw[dl,Ð (by omega),Bool.and_true];exact decide_eq_true (by omega)
def ahz {ρ:Type} (o:jo L N) {B:Int} (v:0<=B) (u:B<=1000000000000000000) {x:CK Int} (s:Lim B x) (r:x.length=N) (K:CK Int->BY ρ) :
 Ê (fun(e:pc) f=>GY x L (Õ L) e.1 e.2 (fun k j=>f (k,j)) K) ((0:Int),List.replicate N Ŗ)=K (T0 L N x):=by
 have t:=o.len;refine ê L (fun i=>(L.take i).foldl (jW x) (List.replicate N Ŗ)) _ rfl (fun i l hi n q=>?_) (fun q=>?_)
 ·try dsimp only
  unfold GY;have p:=List.mem_of_getElem? n;have d:=o.inr l p;have h2:=o.most l p;rw[Ì hi,Æ n,xD d.2.1 (by omega),take_succ n,List.foldl_append,È hi (by omega)]
  have a:((L.take i).foldl (jW x) (List.replicate N Ŗ)).length=N:=by rw[JL]; simp
  generalize (L.take i).foldl (jW x) (List.replicate N Ŗ)=y at a ⊢
  by_cases g:gv x l.2.1=Ŗ
  ·rw[Í (by rw[g]; rfl)];simp only[List.foldl_cons,List.foldl_nil];unfold jW;rw[if_pos g]
  ·have z:=s _ g;rw[Ñ (bne_iff_ne.2 g),show ç y=(N:Int) by unfold ç; rw[a],ž d.1.1 d.1.2,kK (by omega),xD d.2.1 (by omega),Ï (by omega) (by omega),ž d.1.1 d.1.2,kK (by omega),È hi (by omega)];simp only[List.foldl_cons,List.foldl_nil];unfold jW;rw[if_neg g,Ps]
 ·try dsimp only
  unfold GY;rw[Ó,List.take_length];rfl
def akG {ρ:Type}:@Vm ρ=@Br ρ:=rfl
def JI (to:Int) (m:Nat):(nh L N to m).length=m+1:=by simp[nh]
def JJ {to:Int} {m k:Nat} (a:k<=m):(nh L N to m)[k]?=some (exL L N to k):=by
 unfold nh;rw[List.getElem?_map,List.getElem?_range (by omega)];rfl
def akF (e:jo L N) {to:Int} (d:0<=to/\to<N) {most:Nat} (l:most<=100):H9 ((N:Int),L) to (most:Int)=some (nh L N to most):=by
 have o:=e.n60
 unfold H9 YI
 dsimp only;rw[okN (by omega),Int.toNat_natCast];refine(Zn (by omega) _ (fun v j=>by rw[Î,List.length_replicate])).trans ?_;rw[show ç (List.replicate N Ŗ)=(N:Int) by simp[ç],ž d.1 d.2,kK (by simp; omega)];refine ê (List.replicate most ()) (fun i=>nh L N to i) _ (by simp[nh,exL]) (fun i a hi ha g=>?_) (fun g=>?_)
 ·try dsimp only
  unfold L2;rw[List.length_replicate] at hi;have f:ilt (i:Int) (most:Int)=true:=decide_eq_true (by omega);rw[Ñ f,Î,JI]
  have k:(((i+1:Nat):Int)-1)=(i:Int):=by omega
  rw[k,Ï (by omega) (by omega),show ç (nh L N to i)=((i+1:Nat):Int) by unfold ç; rw[JI],ž (by omega) (by omega),Int.toNat_natCast,Δ (JJ (Nat.le_refl i)),okN (by omega),Int.toNat_natCast];rw[akG];refine(Zn (by omega) _ (fun v j=>by rw[Î,List.length_replicate])).trans ?_;refine(ahz e (B:=i*4503599627370496) (by omega) (by omega) (EW e d i (by omega)) (aa9 _ _) _).trans ?_;rw[à (Ð (by simp only[JI,List.length_singleton]; omega)),Ï (by omega) (by omega)];congr 2;unfold nh;rw[List.range_succ (n:=i+1),List.map_append];rfl
 ·try dsimp only
  unfold L2;rw[List.length_replicate];have f:ilt (most:Int) (most:Int)=false:=decide_eq_false (by omega);rw[Í f]
def UQ (L:CK Lk) (x:CK Int) (good:Int->Bool) (u a:Int):BY Nat:=L.findIdx? fun l=>l.1==u&&(decide (gv x l.2.1≠Ŗ)&&good (a+l.2.2+gv x l.2.1))
def pw (L:CK Lk) (rest:Nat->CK Int) (good:Int->Bool):Nat->Int->Int->CK Int->CK Int
 |0,_,_,out=>out
 |k+1,u,sum,out=>match UQ L (rest k) good u sum with
  |some i=>pw L rest good k (L[i]?.getD (0,0,0)).2.1 (sum+(L[i]?.getD (0,0,0)).2.2) (out++[(i:Int)])
  |none=>pw L rest good k u sum out
def folL {ρ:Type} (good:Int->Bool) (c0:Int) (s:CK (CK Int)) (x:CK Lk) (v:Int) (e:Int) (v1:Int) (v2:Int) (a:CK Int) (o:Int->Int->Int->CK Int->BY ρ) (k0:Int×Int×CK Int->BY ρ):BY ρ :=
 ifb (ilt v2 v) (ï x v2 fun d=>ifb (ieq d.1 e) (ck (c0-(1:Int)) fun t=>ï s t fun u=>ï u d.2.1 fun r=>ifb (ine r (1152921504606846976:Int)) (ck (v1+d.2.2) fun n=>ck (c0-(1:Int)) fun l=>ï s l fun q=>ï q d.2.1 fun p=>ck (n+p) fun k=>ifb (good k) (Û (ß ((List.length a)+(List.length ([v2])))) (ck (v1+d.2.2) fun j=>k0 (d.2.1,j,(a++([v2]))))) (ck (v2+(1:Int)) fun i=>o e v1 i a)) (ck (v2+(1:Int)) fun g=>o e v1 g a)) (ck (v2+(1:Int)) fun f=>o e v1 f a)) (k0 (e,v1,a))
def amP {ρ:Type} (E:jo L N) (good:Int->Bool) {rest:CK (CK Int)} {k:Nat} {x:CK Int} (s:rest[k]?=some x) (T:k<=100) (H:Lim 1000000000000000000 x) (M:x.length=N) {u e:Int} (R : -1000000000000000000<=e/\e<=1000000000000000000) {out:CK Int} (S:out.length<=1000)
 (K:Int×Int×CK Int->BY ρ):Ê (fun(v:Int×Int×Int×CK Int) J=>folL good ((k+1:Nat):Int) rest L (Õ L) v.1 v.2.1 v.2.2.1 v.2.2.2 (fun a b c d=>J (a,b,c,d)) K) (u,e,(0:Int),out) =
  match UQ L x good u e with|some i=>K ((L[i]?.getD (0,0,0)).2.1,e+(L[i]?.getD (0,0,0)).2.2,out++[(i:Int)])|none=>K (u,e,out):=by
 have O:=E.len;refine ñ (fun v=>∃i:Nat,i<=L.length/\v=(u,e,(i:Int),out)/\∀j l,j<i->L[j]?=some l->(l.1==u&&(decide (gv x l.2.1≠Ŗ)&&good (e+l.2.2+gv x l.2.1)))=false) (fun v=>L.length-v.2.2.1.toNat) ?_ ⟨0,by omega,rfl,fun j l h=>by omega⟩;rintro v ⟨i,hi,rfl,D⟩
 have I:(((k+1:Nat):Int)-1)=(k:Int):=by omega
 rcases dq i L.length with h2|h2
 ·have f:L[i]?=some L[i]:=cX h2;generalize L[i]=l at f;have p:=df f;have t:=E.inr l p;have V:=E.most l p
  have n:(l.1==u&&(decide (gv x l.2.1≠Ŗ)&&good (e+l.2.2+gv x l.2.1)))=false->∃y,(∃i:Nat,i<=L.length/\y=(u,e,(i:Int),out)/\∀j l,j<i->L[j]?=some l->(l.1==u&&(decide (gv x l.2.1≠Ŗ)&&good (e+l.2.2+gv x l.2.1)))=false)/\(L.length-y.2.2.1.toNat<L.length-((u,e,(i:Int),out):Int×Int×Int×CK Int).2.2.1.toNat)/\y=(u,e,(i:Int)+1,out):=fun g =>
   ⟨_,⟨i+1,h2,by rw[show((i+1:Nat):Int)=(i:Int)+1 by push_cast; rfl],fun j m q p=>by
    rcases gW.1 q with h|rfl
    ·exact D j m h p
    ·rw[f] at p; cases p; exact g⟩,by simp; omega,rfl⟩
  by_cases g:(l.1==u&&(decide (gv x l.2.1≠Ŗ)&&good (e+l.2.2+gv x l.2.1)))=true
  ·refine .inl fun G=>?_
   have o:UQ L x good u e=some i:=by
    unfold UQ;rw[List.findIdx?_eq_some_iff_getElem];obtain⟨U,rfl⟩:=List.getElem?_eq_some_iff.1 f;exact⟨h2,g,fun j q=>by have:=D j _ q (List.getElem?_eq_getElem (by omega)); rw[this]; simp⟩
   rw[o];simp only[Bool.and_eq_true,beq_iff_eq,decide_eq_true_eq] at g;have P:=H _ g.2.1;dsimp only;unfold folL
   rw[Ì h2,Æ f,Ñ (by simp[g.1]),I,Ï (by omega) (by omega),Æ s,xD t.2.1 (by omega),Ñ (bne_iff_ne.2 g.2.1),Ï (by omega) (by omega),Ï (by omega) (by omega),Æ s,xD t.2.1 (by omega),Ï (by omega) (by omega),Ñ g.2.2,
    à (Ð (by simp; omega)),Ï (by omega) (by omega),f]
   rfl
  ·have r:=Bool.not_eq_true _▸g;obtain⟨y,C,A,rfl⟩:=n r;refine .inr ⟨_,C,A,fun G=>?_⟩;dsimp only;unfold folL;rw[Ì h2,Æ f,È h2 (by omega)]
   by_cases F:l.1=u
   ·rw[Ñ (by simp[F]),I,Ï (by omega) (by omega),Æ s,xD t.2.1 (by omega)]
    by_cases z:gv x l.2.1=Ŗ
    ·rw[Í (by rw[z]; rfl)]
    ·have P:=H _ z
     have Q:good (e+l.2.2+gv x l.2.1)=false:=by simpa[F,z] using r
     rw[Ñ (bne_iff_ne.2 z),Ï (by omega) (by omega),Ï (by omega) (by omega),Æ s,xD t.2.1 (by omega),Ï (by omega) (by omega),Í Q]
   ·rw[Í (by simpa using F)]
 ·refine .inl fun G=>?_
  obtain rfl:i=L.length:=by omega
  have o:UQ L x good u e=none:=by
   unfold UQ;rw[List.findIdx?_eq_none_iff];intro l f;obtain⟨j,q,rfl⟩:=List.mem_iff_getElem.1 f;exact D j _ q (List.getElem?_eq_getElem q)
  rw[o];dsimp only;unfold folL;rw[Ó]
def folM {ρ:Type} (good:Int->Bool) (c0:CK (CK Int)) (n:CK Lk) (o:Int) (v1:Int) (v2:Int) (l:CK Int) (p:Int->Int->Int->CK Int->BY ρ) (k0:CK Int->BY ρ):BY ρ :=
 ifb (igt v1 (0:Int)) (Ê (fun(a:Int×Int×Int×CK Int) e=>folL good v1 c0 n (Õ n) a.1 a.2.1 a.2.2.1 a.2.2.2 (fun j i g f=>e (j,i,g,f)) (fun d=>ck (v1-(1:Int)) fun k=>p d.1 k d.2.1 d.2.2)) (o,v2,(0:Int),l)) (k0 l)
def amO {ρ:Type} (r:jo L N) (good:Int->Bool) {rest:CK (CK Int)} {R:Nat->CK Int} {k0:Nat} (j:k0<=100) (y:∀k,k<k0->rest[k]?=some (R k)) (t:∀k,k<k0->Lim 900000000000000000 (R k)/\(R k).length=N) (u:Int) (K:CK Int->BY ρ) :
 Ê (fun(v:Int×Int×Int×CK Int) n=>folM good rest L v.1 v.2.1 v.2.2.1 v.2.2.2 (fun a b c d=>n (a,b,c,d)) K) (u,(k0:Int),(0:Int),[])=K (pw L R good k0 u 0 []):=by
 have key:=vR (f:=fun(v:Int×Int×Int×CK Int) n=>folM good rest L v.1 v.2.1 v.2.2.1 v.2.2.2 (fun a b c d=>n (a,b,c,d)) K) (F:=fun v=>K (pw L R good v.2.1.toNat v.1 v.2.2.1 v.2.2.2))
  (fun v=>∃k:Nat,v.2.1=k/\k<=k0/\(-(((k0-k:Nat):Int)*4503599627370496)<=v.2.2.1/\v.2.2.1<=((k0-k:Nat):Int)*4503599627370496)/\v.2.2.2.length<=k0-k) (fun v=>v.2.1.toNat) (fun v o C j=>?_) (x:=(u,(k0:Int),0,[])) ⟨k0,rfl,cZ _,by simp,by simp⟩
 ·rw[key]; simp
 ·obtain⟨u,D,l,out⟩:=v;obtain⟨k,e,G,h2,A⟩:=o;dsimp only at e h2 A j ⊢;subst e;rw[Int.toNat_natCast] at j ⊢;unfold folM
  cases k with
  |zero =>
   rw[Í (by rfl)];rfl
  |succ k =>
   rw[Ñ (decide_eq_true (by omega))];have q:=t k (by omega)
   have g:Lim 1000000000000000000 (R k):=fun v o=>by have:=q.1 v o; omega
   refine(amP r good (y k (by omega)) (by omega) g q.2 (by omega) (by omega) _).trans ?_;unfold pw
   have s:(((k+1:Nat):Int)-1)=(k:Int):=by omega
   cases p:UQ L (R k) good u l with
   |none =>
    dsimp only;rw[s,Ï (by omega) (by omega),j _ ⟨k,rfl,by omega,by dsimp only; omega,by dsimp only; omega⟩ (by simp)];simp
   |some i =>
    have hi:i<L.length:=by
     unfold UQ at p;exact(List.findIdx?_eq_some_iff_getElem.1 p).1
    have z:L[i]?=some L[i]:=List.getElem?_eq_getElem hi;have E:=r.most L[i] (List.getElem_mem _);dsimp only;rw[z];simp only[Option.getD_some];rw[s,Ï (by omega) (by omega),j _ ⟨k,rfl,by omega,by dsimp only; omega,by simp; omega⟩ (by simp)];simp
end
def D0 (L:CK Lk):Int->Int->CK Int->Int×Int×Bool
 |u,s,[]=>(u,s,true)
 |u,s,i::t=>if (L[i.toNat]?.getD (0,0,0)).1=u then D0 L (L[i.toNat]?.getD (0,0,0)).2.1 (s+(L[i.toNat]?.getD (0,0,0)).2.2) t else(0,0,false)
def DY (L:CK Lk) (i:Int):Bool:=decide (i<0)||decide ((L.length:Int)<=i)
def mN (L:CK Lk) (l:CK Int):Int:=if 80<l.length then 2 else if l.any (DY L) then 1 else 0
def adw (u:Int) (w:Int×Int×Bool):Int:=if w.2.2=true/\w.1=u/\w.2.1<0 then 0 else 8
def ŧ (L:CK Lk) (l:CK Int):Int :=
 if mN L l≠0 then mN L l else match l with
 |[]=>8
 |i::_=>adw (L[i.toNat]?.getD (0,0,0)).1 (D0 L (L[i.toNat]?.getD (0,0,0)).1 0 l)
section
variable {L:CK Lk} {N:Nat}
def aeO (N:Int) (f:L.length<=1000) (l:CK Int):xQ (N,L) l=some (mN L l):=by
 unfold xQ OK mN;dsimp only;rw[Î]
 by_cases h:80<l.length
 ·rw[Ñ (decide_eq_true (by omega)),if_pos h]
 ·rw[Í (decide_eq_false (by omega)),if_neg h,<-Î l];refine(Ē l (DY L) (fun z=>ifb (ige z 0) (some 1) (some 0)) (some 1) (some 0) (fun j=>by rw[show ige (j:Int) 0=true from decide_eq_true (by omega)]; rfl) (fun i a hi ha e=>?_) (fun e=>?_)).trans ?_
  ·try dsimp only
   unfold og DY;rw[Ì hi,Æ ha,È hi (by omega),Î,õ,õ]
   by_cases d:a<0
   ·simp[ilt,d]
   ·by_cases h2:(L.length:Int)<=a
    ·simp[ilt,ige,d,h2]
    ·simp[ilt,ige,d,h2]
  ·try dsimp only
   unfold og;rw[Ó]
  ·cases l.any (DY L)<;>rfl
def aaZ {l:CK Int} (h:mN L l=0):l.length<=80/\∀i∈l,0<=i/\i.toNat<L.length:=by
 unfold mN at h
 split at h
 ·omega
 ·rename_i a
  split at h
  ·omega
  ·rename_i h2;refine⟨by omega,fun i hi=>?_⟩;have:=eh.1 (eG.2 h2) i hi;simp[DY] at this;omega
def al7 (D:jo L N) (u:Int) {l:CK Int} (h:mN L l=0):Mi ((N:Int),L) u l=some (D0 L u 0 l):=by
 obtain⟨G,hi⟩:=aaZ h;unfold Mi acT;dsimp only
 have:=vR (f:=fun(p:Int×Int×Int) g=>xg l (Õ l) L p.1 p.2.1 p.2.2 (fun u8 z q=>g (u8,z,q)) (fun o=>some (o.1,o.2.1,o.2.2)) (fun y=>some (y.1,y.2,true)))
  (F:=fun v=>some (D0 L v.1 v.2.1 (l.drop v.2.2.toNat))) (fun v=>∃i:Nat,v.2.2=i/\i<=l.length/\(-(i*4503599627370496)<=v.2.1/\v.2.1<=i*4503599627370496)) (fun v=>l.length-v.2.2.toNat) (fun v A E t=>?_) (x:=(u,(0:Int),(0:Int))) ⟨0,rfl,by omega,by simp⟩
 ·exact this
 ·obtain⟨w,s,n⟩:=v;obtain⟨i,e,H,h2⟩:=A;dsimp only at e h2 t ⊢;subst e;rw[Int.toNat_natCast] at t ⊢;unfold xg;rcases Nat.lt_or_ge i l.length with d|d
  ·have ha:l[i]?=some l[i]:=List.getElem?_eq_getElem d;have hd:l.drop i=l[i]::l.drop (i+1):=List.drop_eq_getElem_cons d;rw[hd];have r:=hi l[i] (List.getElem_mem _);generalize l[i]=a at ha r;have j:L[a.toNat]?=some L[a.toNat]:=List.getElem?_eq_getElem r.2;have C:=D.most _ (List.mem_of_getElem? j);generalize L[a.toNat]=x at j C;rw[Ì d,Æ ha,TM r.1 j];unfold D0;rw[j];simp only[Option.getD_some]
   by_cases k:x.1=w
   ·rw[Í (by rw[k]; exact bne_self_eq_false' _),if_pos k,Ï (by omega) (by omega),È d (by omega),t _ ⟨i+1,by push_cast; rfl,d,by dsimp only; push_cast; omega⟩ (by simp; omega)];simp
   ·rw[Ñ (bne_iff_ne.2 k),if_neg k]
  ·obtain rfl:i=l.length:=by omega
   rw[Ó,List.drop_length];rfl
def ahL {ρ α:Type} (x:α) (t:CK α) (f:α->BY ρ):ï (x::t) (0:Int) f=f x:=rfl
def RX (f:jo L N) (l:CK Int):ol ((N:Int),L) l=some (ŧ L l):=by
 have k:=f.len;unfold ol DG ŧ;rw[mW f,À,Í (by rfl),aeO _ (by omega),À]
 by_cases h:mN L l=0
 ·rw[Í (by rw[h]; rfl),if_neg (by simp[h])]
  cases l with
  |nil=>rw[Î]; rfl
  |cons i t =>
   have g:=(aaZ h).2 i (by simp);have d:L[i.toNat]?=some L[i.toNat]:=List.getElem?_eq_getElem g.2;generalize L[i.toNat]=x at d;rw[Î,Í (beq_eq_false_iff_ne.2 (by simp; omega)),ahL,TM g.1 d,al7 f x.1 h,À];dsimp only;rw[d];dsimp only[Option.getD_some];generalize D0 L x.1 0 (i::t)=w;obtain⟨e,a,ok⟩:=w;unfold adw;dsimp only
   cases ok with
   |false=>rw[Ñ (by rfl),if_neg (by simp)]
   |true =>
    rw[Í (by rfl)]
    by_cases h2:e=x.1
    ·rw[Í (by rw[h2]; exact bne_self_eq_false' _)]
     by_cases j:a<0
     ·rw[Í (decide_eq_false (by omega)),if_pos ⟨rfl,h2,j⟩]
     ·rw[Ñ (decide_eq_true (by omega)),if_neg (fun h=>j h.2.2)]
    ·rw[Ñ (bne_iff_ne.2 h2),if_neg (fun h=>h2 h.2.1)]
 ·rw[Ñ (bne_iff_ne.2 h),if_pos h]
end
def ae5 {L:CK Lk} {N:Nat} (h:jo L N) (a:j8 L N=true):pe ((N:Int),L)=some ([],5):=by
 have d:=h.n60;unfold pe OZ;rw[mW h,À,Í (by rfl),wF h.links h.n1 (by omega),À,if_pos a];rfl
def adV (b:ø) (n:Int×Int):Prop:=∃g∈b.2.1,g.1=n.1/\n.2∈Ý b g
def VG {b:ø} (h:Ŧ b) {n:Int×Int}:L7 b n.1 n.2≠0↔adV b n:=by
 unfold L7;constructor
 ·intro a
  cases l:iZ (Ò b) n.1 n.2 with
  |none=>rw[l] at a; simp at a
  |some j =>
   have o:=List.mem_of_getElem? (lX l).2;unfold Ò at o;obtain⟨g,f,hd⟩:=List.mem_flatMap.1 o;obtain⟨d,hd,e⟩:=List.mem_map.1 hd;simp only[Prod.mk.injEq] at e;obtain⟨r,rfl⟩:=e;exact⟨g,f,r,hd⟩
 ·rintro⟨g,f,e,hd⟩;obtain⟨i,hi,rfl⟩:=List.mem_iff_getElem.1 f;obtain⟨k,p,q⟩:=List.mem_iff_getElem.1 hd;rw[<-e,UO h (List.getElem?_eq_getElem hi) (by rw[List.getElem?_eq_getElem p,q])];dsimp only;omega
def ahq {b:ø} (n:Int×Int) (h':Ŧ (nI b n)):adV (nI b n) n:=by
 have a:=h'.looks n (by simp[nI]);unfold Z7 at a
 split at a
 ·omega
 obtain⟨g,f,_⟩:=I5 h' a;obtain⟨d,e⟩:=δ f;refine⟨g,d,e,?_⟩;unfold Ý;rw[wH];unfold Zs nI;simp only[List.mem_append,List.mem_map,List.mem_filter];exact .inr ⟨n,⟨.inr (by simp),by simp[e]⟩,rfl⟩
def af4 {b:ø} {n:Int×Int} (e:(qP b n).2=0):(qP b n=(b,0)/\L7 b n.1 n.2≠0)\/(qP b n=(nI b n,0)/\Ŧ (nI b n)/\L7 b n.1 n.2=0):=by
 unfold qP at e ⊢
 split
 ·rename_i h; exact .inl ⟨rfl,h⟩
 ·rename_i a;rw[if_neg a] at e
  split
  ·rename_i h2; rw[if_pos h2] at e; exact absurd e h2
  ·rename_i h2; exact .inr ⟨rfl,(Ο _).1 (by simpa using h2),by simpa using a⟩
def ahr {b:ø} {n:Int×Int} {f:Int->Int->Int} {z:Int}:Hist (nI b n) f z↔Hist b f z :=
 ⟨fun h=>⟨fun g a=>by have:=h.gauge g a; exact⟨this.hi,this.lo,this.down,this.loss⟩,h.cmp⟩,fun h=>⟨fun g a=>by have:=h.gauge g a; exact⟨this.hi,this.lo,this.down,this.loss⟩,h.cmp⟩⟩
inductive Wk (L:List Lk) (to:Int):Nat->Int->Int->Prop
 |nil:Wk L to 0 to 0
 |step {k:Nat} {v w m d:Int}:(v,w,m)∈L->Wk L to k w d->Wk L to (k+1) v (m+d)
section
variable {L:CK Lk} {N:Nat}
def Wk.snoc {u v m:Int} (g:(u,v,m)∈L):∀{k:Nat} {s d:Int},Wk L u k s d->Wk L v (k+1) s (d+m):=by
 intro k s d h
 induction h with
 |nil =>
  have:=Wk.step g (Wk.nil (L:=L) (to:=v))
  have e:m+0=0+m:=by omega
  rw[e] at this;exact this
 | @step k a w f d i h2 ih =>
  have:=Wk.step i ih
  have e:f+(d+m)=f+d+m:=by omega
  rw[e] at this;exact this
def Wk.bd (a:jo L N) {t:Int} {k:Nat} {s d:Int} (h:Wk L t k s d) : -(k*4503599627370496)<=d/\d<=k*4503599627370496:=by
 induction h with
 |nil=>omega
 | @step k v w m d e h2 ih =>
  have:=a.most _ e;dsimp only at this;push_cast;omega
def aa1 {v:Int} (h0:0<=v) (a:v<N):gv (List.replicate N Ŗ) v=Ŗ:=by
 unfold gv;rw[List.getElem?_replicate,if_pos (by omega)];rfl
def aki {B:Int} (d:B<=1100000000000000000) {x:CK Int} (a:Lim B x) (v:Int):gv x v<=Ŗ:=by
 by_cases h:gv x v=Ŗ
 ·omega
 ·have:=a v h; unfold Ŗ; omega
def HM (k:jo L N) {B:Int} (r:0<=B) (f:B<=1000000000000000000) {x:CK Int} (o:Lim B x) {v:Int} (h0:0<=v) (D:v<N) :
 ∀(M:CK Lk),(∀l∈M,l∈L)->∀y:CK Int,y.length=N->Lim (B+4503599627370496) y ->
  gv (M.foldl (jW x) y) v<=gv y v/\(∀w m,(v,w,m)∈M->gv x w≠Ŗ->gv (M.foldl (jW x) y) v<=m+gv x w) /\
  (gv (M.foldl (jW x) y) v=gv y v\/∃w m,(v,w,m)∈M/\gv x w≠Ŗ/\gv (M.foldl (jW x) y) v=m+gv x w)
 |[],_,y,_,_=>⟨dQ _,fun _ _ h=>by simp at h,.inl rfl⟩
 |l::M,q,y,p,n=>by
  rw[gy];have d:=q l (by simp);obtain⟨E,z,u⟩:=HM k r f o h0 D M (fun m j=>q m (by simp[j])) (jW x y l) (by rw[JK,p]) (ac7 k r f o n p d);have C:=k.inr l d;have A:=aki (by omega) n
  -- the element behind one link
  have key:gv (jW x y l) v<=gv y v/\(l.1=v->gv x l.2.1≠Ŗ->gv (jW x y l) v<=l.2.2+gv x l.2.1)/\(gv (jW x y l) v=gv y v\/(l.1=v/\gv x l.2.1≠Ŗ/\gv (jW x y l) v=l.2.2+gv x l.2.1)):=by
   unfold jW
   by_cases i:gv x l.2.1=Ŗ
   ·rw[if_pos i];exact⟨dQ _,fun _ h=>absurd i h,.inl rfl⟩
   ·rw[if_neg i,pF C.1.1 h0 (by omega)]
    by_cases g:v=l.1
    ·rw[if_pos g,g];refine⟨by omega,fun _ _=>by omega,?_⟩
     by_cases F:gv y l.1<=l.2.2+gv x l.2.1
     ·exact .inl (by omega)
     ·exact .inr ⟨rfl,i,by omega⟩
    ·rw[if_neg g];exact⟨dQ _,fun h=>absurd h.symm g,.inl rfl⟩
  obtain⟨k1,t,s⟩:=key;refine⟨by omega,fun w m j a=>?_,?_⟩
  ·rcases dh.1 j with h|h
   ·subst h;have:=t rfl a;dsimp only at this;omega
   ·exact z w m h a
  ·rcases u with h|⟨w,m,h,a,e⟩
   ·rcases s with h'|⟨h',a,e⟩
    ·exact .inl (h.trans h')
    ·refine .inr ⟨l.2.1,l.2.2,?_,a,h.trans e⟩;rw[<-h']; simp
   ·exact .inr ⟨w,m,by simp[h],a,e⟩
def VX (f:jo L N) {to:Int} (l:0<=to/\to<N):∀k:Nat,k<=200->∀v:Int,0<=v->v<N ->
 (gv (exL L N to k) v≠Ŗ->Wk L to k v (gv (exL L N to k) v))/\∀d,Wk L to k v d->gv (exL L N to k) v<=d/\gv (exL L N to k) v≠Ŗ
 |0,_,v,h0,i=>by
  unfold exL;rw[pF l.1 h0 (by simp; omega)]
  by_cases j:v=to
  ·subst j;rw[if_pos rfl];refine⟨fun _=>.nil,fun d hd=>?_⟩;cases hd;exact⟨dQ _,by decide⟩
  ·rw[if_neg j,aa1 h0 i];refine⟨fun h=>absurd rfl h,fun d hd=>?_⟩;cases hd;exact absurd rfl j
 |k+1,C,v,h0,i=>by
  have g:=EW f l k (by omega);obtain⟨z,q,p⟩:=HM f (B:=k*4503599627370496) (by omega) (by omega) g h0 i L (fun _ h=>h) (List.replicate N Ŗ) (by simp) (Pl (by omega));have n:=VX f l k (by omega);unfold exL T0;refine⟨fun s=>?_,fun d hd=>?_⟩
  ·rcases p with h|⟨w,m,h,r,e⟩
   ·rw[aa1 h0 i] at h; exact absurd h s
   ·rw[e];have a:=(f.inr _ h).2;exact .step h ((n w a.1 a.2).1 r)
  ·have hb:=Wk.bd f hd
   cases hd with
   | @step x u w m d h h2 =>
    have a:=(f.inr _ h).2;obtain⟨y,o⟩:=(n w a.1 a.2).2 d h2;have:=q w m h o;refine⟨by omega,?_⟩
    have A:(m+d)<=1000000000000000000:=by push_cast at hb; omega
    intro t;rw[t] at this;unfold Ŗ at this;omega
def akH (g:jo L N) {to:Int} (j:0<=to/\to<N) {k:Nat} (l:k+1<=200) {u:Int} (d:0<=u/\u<N) (f:gv (exL L N to (k+1)) u≠Ŗ) :
 ∃w m,(u,w,m)∈L/\gv (exL L N to k) w≠Ŗ/\gv (exL L N to (k+1)) u=m+gv (exL L N to k) w:=by
 have a:=EW g j k (by omega);obtain⟨_,_,i⟩:=HM g (B:=k*4503599627370496) (by omega) (by omega) a d.1 d.2 L (fun _ h=>h) (List.replicate N Ŗ) (by simp) (Pl (by omega));have e:exL L N to (k+1)=L.foldl (jW (exL L N to k)) (List.replicate N Ŗ):=rfl;rw[e] at f ⊢;rcases i with h|h
 ·rw[aa1 d.1 d.2] at h; exact absurd h f
 ·exact h
def PC (o:jo L N) {to:Int} (n:0<=to/\to<N) (good:Int->Bool):∀(k:Nat),k<=200->∀(u a:Int) (out:CK Int),0<=u->u<N->gv (exL L N to k) u≠Ŗ->good (a+gv (exL L N to k) u)=true ->
 ∃q,pw L (exL L N to) good k u a out=out++q/\q.length=k/\(∀i∈q,DY L i=false)/\∃s,D0 L u a q=(to,s,true)/\good s=true
 |0,_,u,a,out,h0,v,t,f=>by
  have M:u=to:=by
   have g:=((VX o n 0 (by omega) u h0 v).1 t);generalize gv (exL L N to 0) u=y at g;cases g;rfl
  subst M
  have e:gv (exL L N u 0) u=0:=by
   unfold exL;rw[pF n.1 h0 (by simp; omega),if_pos rfl]
  rw[e,gG] at f;exact⟨[],by simp[pw],rfl,by simp,a,rfl,f⟩
 |k+1,P,u,a,out,h0,v,t,f=>by
  obtain⟨w,m,O,g,e⟩:=akH o n P ⟨h0,v⟩ t;unfold pw UQ
  cases A:L.findIdx? (fun l=>l.1==u&&(decide (gv (exL L N to k) l.2.1≠Ŗ)&&good (a+l.2.2+gv (exL L N to k) l.2.1))) with
  |none =>
   have:=dU.1 A (u,w,m) O;rw[e,<-Int.add_assoc] at f;simp[g,f] at this
  |some i =>
   obtain⟨hi,p,_⟩:=List.findIdx?_eq_some_iff_getElem.1 A;have d:L[i]?=some L[i]:=List.getElem?_eq_getElem hi;have C:=List.mem_of_getElem? d;generalize L[i]=x at p d C;simp only[Bool.and_eq_true,beq_iff_eq,decide_eq_true_eq] at p;obtain⟨K,J,I⟩:=p;have z:=(o.inr x C).2;obtain⟨q,H,G,F,s,E,D⟩:=PC o n good k (by omega) x.2.1 (a+x.2.2) (out++[(i:Int)]) z.1 z.2 J I;dsimp only;rw[d];simp only[Option.getD_some];refine⟨(i:Int)::q,by rw[H]; simp,by simp[G],fun j r=>?_,s,?_,D⟩
   ·rcases dh.1 r with rfl|r
    ·simp[DY]; omega
    ·exact F j r
   ·unfold D0;rw[Int.toNat_natCast,d];simp only[Option.getD_some];rw[if_pos K];exact E
def akk {P:Int->Prop} {B:Int} (h:∃d,P d) (f:∀d,P d->B<=d):∃d,P d/\∀e,P e->d<=e:=by
 obtain⟨d0,h0⟩:=h
 have:∀(n:Nat) (d:Int),P d->(d-B).toNat<=n->∃d,P d/\∀e,P e->d<=e:=by
  intro n
  induction n with
  |zero=>intro d hd j; exact⟨d,hd,fun e a=>by have:=f e a; have:=f d hd; omega⟩
  |succ n i =>
   intro d hd j
   by_cases g:∃e,P e/\e<d
   ·obtain⟨e,a,k⟩:=g;exact i e a (by have:=f e a; omega)
   ·exact⟨d,hd,fun e a=>by
     rcases gS e d with q|q
     ·exact absurd ⟨e,a,q⟩ g
     ·exact q⟩
 exact this _ d0 h0 (cZ _)
def Wl.cutK {S:Int->Prop} {vs:CK Int} {u d:Int} (h:Wl L S vs u d):∀x∈u::vs,∃a g k f,Wl L S a x g/\(x::a) <:+ (u::vs)/\Wk L u k x f/\d=g+f/\k<=vs.length:=by
 induction h with
 | @nil v l =>
  intro x e;simp at e;subst e;exact⟨[],0,0,0,.nil l,List.suffix_refl _,.nil,by omega,by simp⟩
 | @step vs u v m d j i ih =>
  intro x e;rcases dh.1 e with rfl|e
  ·exact⟨u::vs,d+m,0,0,.step j i,List.suffix_refl _,.nil,by omega,by simp⟩
  ·obtain⟨a,g,k,f,p,o,n,r,q⟩:=ih x e;exact⟨a,g,k+1,f+m,p,o.trans (List.suffix_cons _ _),n.snoc i,by omega,by simp; omega⟩
def aen (o:jo L N) (y:j8 L N=false):∃(k:Nat) (v d:Int),1<=k/\k<=N/\(0<=v/\v<N)/\Wk L v k v d/\d<0:=by
 have S:=o.n60;apply Classical.byContradiction;intro E
 have z:∀{k:Nat} {v d:Int},1<=k->k<=N->(0<=v/\v<N)->Wk L v k v d->0<=d:=fun {k v d} t h2 G F=>by
  rcases gS d 0 with q|q
  ·exact absurd ⟨k,v,d,t,h2,G,F,q⟩ E
  ·exact q
 have s:∀l∈L,-4503599627370496<=l.2.2:=fun l r=>(o.most l r).1
 let P:Int->Int->Prop:=fun v d=>∃vs,Wl L (fun u=>0<=u/\u<N) vs v d/\(v::vs).Nodup
 have i:∀v:Int,0<=v/\v<N->∃d,P v d/\∀e,P v e->d<=e:=fun v f=>akk (B:=-(60*4503599627370496)) ⟨0,[],.nil f,by simp⟩ (by
  rintro d ⟨vs,t,h2⟩;have R:=t.lowM s;have Q:=t.short o.inr (fun w j=>j) h2
  have:((vs.length:Nat):Int)*4503599627370496<=60*4503599627370496:=by omega
  omega)
 have A:j8 L N=true:=by
  refine(kQ o.links (by omega)).2 ⟨fun v=>if f:0<=v/\v<(N:Int) then Classical.choose (i v f) else 0,fun u v m r=>?_⟩;have g:=o.inr _ r;dsimp only at g;obtain⟨⟨vs,j,n⟩,D⟩:=Classical.choose_spec (i u g.1);obtain⟨_,p⟩:=Classical.choose_spec (i v g.2);have M:(if f:0<=u/\u<(N:Int) then Classical.choose (i u f) else 0)=Classical.choose (i u g.1):=dif_pos g.1;have K:(if f:0<=v/\v<(N:Int) then Classical.choose (i v f) else 0)=Classical.choose (i v g.2):=dif_pos g.2;dsimp only;rw[M,K];generalize Classical.choose (i u g.1)=a at *;generalize Classical.choose (i v g.2)=b at *
  by_cases f:v∈u::vs
  ·obtain⟨x,O,k,V,J,I,H,U,T⟩:=j.cutK v f;have C:=j.short o.inr (fun w j=>j) n;have:=z (by omega) (by omega) g.2 (H.snoc r);have:=p O ⟨x,J,n.sublist I.sublist⟩;omega
  ·have:=p (a+m) ⟨u::vs,j.step r,fD.2 ⟨f,n⟩⟩;omega
 rw[y] at A;cases A
def mV (L:CK Lk) (N:Nat) (k:Nat) (l:Lk):Bool:=decide (gv (exL L N l.1 k) l.2.1≠Ŗ)&&decide (l.2.2+gv (exL L N l.1 k) l.2.1<0)
def afs (a:jo L N) (e:j8 L N=false):∃k,k<N/\∃l∈L,mV L N k l=true:=by
 have p:=a.n60;obtain⟨k,v,d,r,h2,n,j,q⟩:=aen a e
 cases j with
 |nil=>omega
 | @step k v w m d g i =>
  have f:=a.inr _ g;obtain⟨s,o⟩:=(VX a n k (by omega) w f.2.1 f.2.2).2 d i;refine⟨k,by omega,(v,w,m),g,?_⟩;simp only[mV,cY,decide_eq_true_eq];exact⟨o,by omega⟩
def Zx (j:jo L N) {k:Nat} (E:k<N) {l:Lk} (z:l∈L) (hb:mV L N k l=true) :
 ∃q,pw L (exL L N l.1) (fun n=>ilt n 0) (k+1) l.1 0 []=q/\q.length=k+1/\(∀i∈q,DY L i=false)/\ŧ L q=0/\∃u s,D0 L u 0 q=(u,s,true)/\s<0:=by
 have D:=j.n60;have a:=j.inr _ z;simp only[mV,cY,decide_eq_true_eq] at hb;have e:=EW j a.1 k (by omega);obtain⟨_,C,_⟩:=HM j (B:=k*4503599627370496) (by omega) (by omega) e a.1.1 a.1.2 L (fun _ h=>h) (List.replicate N Ŗ) (by simp) (Pl (by omega));have h2:gv (exL L N l.1 (k+1)) l.1<=l.2.2+gv (exL L N l.1 k) l.2.1:=C l.2.1 l.2.2 z hb.1
 have p:gv (exL L N l.1 (k+1)) l.1≠Ŗ:=fun h=>by rw[h] at h2; unfold Ŗ at h2; omega
 obtain⟨q,x,v,o,s,d,A⟩:=PC j a.1 (fun n=>ilt n 0) (k+1) (by omega) l.1 0 [] a.1.1 a.1.2 p (by rw[Int.zero_add]; exact decide_eq_true (by omega));rw[d8] at x;have y:s<0:=of_decide_eq_true A;refine⟨q,x,v,o,?_,l.1,s,d,y⟩
 have g:q.any (DY L)=false:=by
  rw[eh]
  exact fun i hi=>by rw[o i hi]; simp
 cases q with
 |nil=>simp at v
 |cons i t =>
  have hi:=o i (by simp);simp only[DY,gK,decide_eq_false_iff_not] at hi;have F:L[i.toNat]?=some L[i.toNat]:=cX (by omega)
  have f:(L[i.toNat]?.getD (0,0,0)).1=l.1:=by
   unfold D0 at d
   by_cases h:(L[i.toNat]?.getD (0,0,0)).1=l.1
   ·exact h
   ·rw[if_neg h] at d; simp at d
  have r:mN L (i::t)=0:=by
   unfold mN;rw[if_neg (by omega),g];rfl
  unfold ŧ;rw[r,if_neg (by simp)];dsimp only;rw[f,d];unfold adw;dsimp only;rw[if_pos ⟨rfl,rfl,y⟩]
end
def abP {L:CK Lk} {p:Int->Int} (e:Pot L p):∀(l:CK Int) (u s:Int),(∀i∈l,0<=i/\i.toNat<L.length)->(D0 L u s l).2.2=true->p (D0 L u s l).1-p u<=(D0 L u s l).2.1-s
 |[],u,s,_,_=>by simp[D0]
 |i::t,u,s,hi,a=>by
  have k:=hi i (by simp);have d:L[i.toNat]?=some L[i.toNat]:=List.getElem?_eq_getElem k.2;have f:=List.mem_of_getElem? d;generalize L[i.toNat]=x at d f;unfold D0 at a ⊢;rw[d] at a ⊢;simp only[Option.getD_some] at a ⊢
  split at a
  ·rename_i g;rw[if_pos g];have o:=e x.1 x.2.1 x.2.2 f;have h2:=abP e t x.2.1 (s+x.2.2) (fun j n=>hi j (by simp[n])) a;rw[g] at o;omega
  ·cases a
section
variable {L:CK Lk} {N:Nat}
def akO {ρ:Type} (c0:CK (CK Int)) (a:CK Lk):@AB ρ c0 a=folM (fun n=>ilt n 0) c0 a:=rfl
def yQ (L:CK Lk) (N:Nat):CK (CK (CK Int)):=(List.range N).map fun(n:Nat)=>nh L N n N
def ad3 {L:CK Lk} {N n:Nat} (h:n<N):(yQ L N)[n]?=some (nh L N n N):=by
 unfold yQ;rw[List.getElem?_map,List.getElem?_range h];rfl
def Z9 {ρ:Type} (o:jo L N) (K:CK (CK (CK Int))->BY ρ) :
 Ê (fun(d:Int×CK (CK (CK Int))) f=>oS (Õ (List.replicate N ([]:v6))) (N:Int) L d.1 d.2 (fun l k=>f (l,k)) K) ((0:Int),(List.replicate N ([]:v6)))=K (yQ L N):=by
 have q:=o.n60;refine ê (List.replicate N ()) (fun i=>((List.range i).map fun(n:Nat)=>nh L N n N)++List.replicate (N-i) ([]:CK (CK Int))) _ (by simp) (fun i a hi ha p=>?_) (fun p=>?_)
 ·try dsimp only
  unfold oS;rw[List.length_replicate] at hi;rw[Î,List.length_replicate,Ñ (decide_eq_true (by omega)),akF o ⟨by omega,by omega⟩ (by omega),À]
  have g:(((List.range i).map fun(n:Nat)=>nh L N n N)++List.replicate (N-i) ([]:CK (CK Int))).length=N:=by simp; omega
  rw[show ç (((List.range i).map fun(n:Nat)=>nh L N n N)++List.replicate (N-i) ([]:CK (CK Int)))=(N:Int) by unfold ç; rw[g],ž (by omega) (by omega),Int.toNat_natCast]
  have j:(((List.range i).map fun(n:Nat)=>nh L N n N)++List.replicate (N-i) ([]:CK (CK Int)))[i]?=some []:=by
   rw[fg (by simp),hZ,if_pos (by simp; omega)]
  rw[Δ j,Ï (by omega) (by omega)];congr 2;rw[f7 _ _ (by simp),fE,fc]
  have e:N-i=(N-(i+1))+1:=by omega
  rw[e,fT];simp
 ·try dsimp only
  unfold oS;rw[Î,List.length_replicate,List.length_replicate,Í (decide_eq_false (by omega))];unfold yQ;simp
def WY {ρ:Type} (d:jo L N) {k:Nat} (G:k<N) (k0:Unit->BY ρ) (k1:Int×CK Int->BY ρ) (o:Unit->BY ρ) :
 Ê (fun(p:Int) f=>oR ((k:Int)+1) L (Õ L) (N:Int) L (yQ L N) p (fun q=>f q) k0 k1 o) (0:Int) =
  match L.find? (mV L N k) with|some l=>k1 (0,pw L (exL L N l.1) (fun n=>ilt n 0) (k+1) l.1 0 [])|none=>o ():=by
 have H:=d.n60;have E:=d.len;rw[Ma];refine(Χ L (mV L N k) (fun j=>match L[j.toNat]? with|some l=>k1 (0,pw L (exL L N l.1) (fun n=>ilt n 0) (k+1) l.1 0 [])|none=>o ()) (o ()) (fun i l hi t y=>?_) (fun y=>?_)).trans ?_
 ·try dsimp only
  unfold oR;have v:=List.mem_of_getElem? t;have a:=d.inr l v;have D:=d.most l v
  have r:((l.1.toNat:Nat):Int)=l.1:=by omega
  have x:(yQ L N)[l.1.toNat]?=some (nh L N l.1 N):=by rw[ad3 (by omega),r]
  have s:ç (yQ L N)=(N:Int):=by simp[ç,yQ]
  have g:=EW d a.1 k (by omega) l.2.1;rw[Ì hi,Æ t,s,ž a.1.1 a.1.2,Δ x,show((k:Int)+1-1)=(k:Int) by omega,Ï (by omega) (by omega),Æ (JJ (by omega)),xD a.2.1 (by rw[aa9]; omega)];unfold mV
  by_cases e:gv (exL L N l.1 k) l.2.1=Ŗ
  ·rw[Ñ (beq_iff_eq.2 e),È hi (by omega),if_neg (by simp[e])]
  ·have hb:=g e;rw[Í (beq_eq_false_iff_ne.2 e),Ï (by omega) (by omega)]
   by_cases h2:l.2.2+gv (exL L N l.1 k) l.2.1<0
   ·rw[Í (decide_eq_false (by omega)),Í (decide_eq_false (by omega)),ž a.1.1 a.1.2,Δ x,if_pos (by simp[e,h2]),akO,dl,t];have u:∀j,j<k+1->(nh L N l.1 N)[j]?=some (exL L N l.1 j):=fun j F=>JJ (by omega)
    have A:∀j,j<k+1->Lim 900000000000000000 (exL L N l.1 j)/\(exL L N l.1 j).length=N:=fun j F=>⟨fun w C=>by
     have:=EW d a.1 j (by omega) w C; omega,aa9 _ _⟩
    have:=amO d (fun n=>ilt n 0) (rest:=nh L N l.1 N) (R:=exL L N l.1) (k0:=k+1) (by omega) u A l.1 (fun z=>k1 (0,z));rw[show(((k+1:Nat):Int))=(k:Int)+1 by push_cast; rfl] at this;exact this
   ·rw[Ñ (decide_eq_true (by omega)),È hi (by omega),if_neg (by simp[e,h2])]
 ·try dsimp only
  unfold oR;rw[Ó]
 ·cases h:L.findIdx? (mV L N k) with
  |none=>rfl
  |some j=>dsimp only; rw[Int.toNat_natCast]
def ajC (d:jo L N) (i:j8 L N=false):∃(K:Nat) (l:Lk),K<N/\(∀k,k<K->∀x∈L,mV L N k x=false)/\L.find? (mV L N K)=some l/\pe ((N:Int),L)=some (pw L (exL L N l.1) (fun n=>ilt n 0) (K+1) l.1 0 [],0):=by
 have H:=d.n60;obtain⟨y,F,C,q,t⟩:=afs d i
 -- the first number of links
 have r:∃K,K<=y/\(∃l∈L,mV L N K l=true)/\∀k,k<K->∀x∈L,mV L N k x=false:=by
  have:∀n:Nat,(∀k,k<n->∀x∈L,mV L N k x=false)\/∃K,K<n/\(∃l∈L,mV L N K l=true)/\∀k,k<K->∀x∈L,mV L N k x=false:=by
   intro n
   induction n with
   |zero=>exact .inl fun k o=>by omega
   |succ n E =>
    rcases E with h|⟨K,u,h2⟩
    ·by_cases j:∃l∈L,mV L N n l=true
     ·exact .inr ⟨n,by omega,j,h⟩
     ·refine .inl fun k o x g=>?_;rcases gu (Nat.le_of_lt_succ o) with u|rfl
      ·exact h k u x g
      ·exact eG.2 fun e=>j ⟨x,g,e⟩
    ·exact .inr ⟨K,by omega,h2⟩
  rcases this (y+1) with h|⟨K,u,h2,G⟩
  ·have:=h y (by omega) C q;rw[t] at this; cases this
  ·exact⟨K,by omega,h2,G⟩
 obtain⟨K,I,⟨A,p,s⟩,a⟩:=r
 obtain⟨l,z⟩:∃l,L.find? (mV L N K)=some l:=by
  cases h:L.find? (mV L N K) with
  |none=>have:=ew.1 h A p; exact absurd s this
  |some l=>exact⟨l,rfl⟩
 refine⟨K,l,by omega,a,z,?_⟩;unfold pe OZ;rw[mW d,À,Í (by rfl),wF d.links d.n1 (by omega),À,if_neg (by simp[i]),Í (by rfl),okN (by omega),Int.toNat_natCast];refine(Z9 d _).trans ?_;refine ñ (fun v=>∃k:Nat,k<=K/\v=(k:Int)+1) (fun v=>(K+2)-v.toNat) ?_ ⟨0,by omega,rfl⟩;rintro v ⟨k,o,rfl⟩;rcases Nat.lt_or_eq_of_le o with h|rfl
 ·refine .inr ⟨((k+1:Nat):Int)+1,⟨k+1,h,rfl⟩,by omega,fun D=>?_⟩;unfold tU;refine(WY d (by omega) _ _ _).trans ?_
  have f:L.find? (mV L N k)=none:=ew.2 fun x j=>by rw[a k h x j]; simp
  rw[f];dsimp only;rw[Ï (by omega) (by omega)];congr 1
 ·refine .inl fun D=>?_;unfold tU;refine(WY d (by omega) _ _ _).trans ?_;rw[z]
end
def af9 (L:CK Lk) (N:Nat):CK (Int×Int):=(List.range N).map fun(n:Nat)=>(-(dst L N n 0),dst L N 0 n)
section
variable {L:CK Lk} {N:Nat}
def ad6 {n:Nat} (h:n<N):(af9 L N)[n]?=some (-(dst L N n 0),dst L N 0 n):=by
 unfold af9;rw[List.getElem?_map,List.getElem?_range h];rfl
def aln (g:jo L N) (o:abH L N) (k:j8 L N=true):wn ((N:Int),L)=some (af9 L N,0):=by
 have u:=g.n60;have q:=g.n1;unfold wn YK;rw[ale g (fun n p=>by simp at p) (by simp),À,if_pos k,Í (by rfl),ZI g.links g.n1 (by omega) k ⟨by omega,by omega⟩,À,okN (by omega),Int.toNat_natCast];have d:(kP L N 0).length=N:=ya 0;refine ê (List.replicate N ()) (fun i=>((List.range i).map fun(n:Nat)=>dst L N n 0)++List.replicate (N-i) (0:Int)) _ (by simp) (fun i a hi ha l=>?_) (fun l=>?_)
 ·try dsimp only
  unfold tT;rw[List.length_replicate] at hi;rw[Î,List.length_replicate,Ñ (decide_eq_true (by omega)),ZI g.links g.n1 (by omega) k ⟨by omega,by omega⟩,À,xD (by omega) (by rw[ya]; simp; omega)]
  have j:(((List.range i).map fun(n:Nat)=>dst L N n 0)++List.replicate (N-i) (0:Int)).length=N:=by simp; omega
  rw[show ç (((List.range i).map fun(n:Nat)=>dst L N n 0)++List.replicate (N-i) (0:Int))=(N:Int) by unfold ç; rw[j],ž (by omega) (by omega),Int.toNat_natCast]
  have f:(((List.range i).map fun(n:Nat)=>dst L N n 0)++List.replicate (N-i) (0:Int))[i]?=some 0:=by
   rw[fg (by simp),hZ,if_pos (by simp; omega)]
  rw[Δ f,Ï (by omega) (by omega)];congr 2;rw[f7 _ _ (by simp),fE,fc]
  have e:N-i=(N-(i+1))+1:=by omega
  rw[e,fT];simp[dst]
 ·try dsimp only
  unfold tT;rw[Î,List.length_replicate,List.length_replicate,Í (decide_eq_false (by omega))]
  have r:((List.range N).map fun(n:Nat)=>dst L N n 0)++List.replicate (N-N) (0:Int)=(List.range N).map fun(n:Nat)=>dst L N n 0:=by simp
  rw[r];refine ê (List.replicate N ()) (fun i=>(List.range i).map fun(n:Nat)=>(-(dst L N n 0),dst L N 0 n)) _ (by simp) (fun i a hi ha l=>?_) (fun l=>?_)
  ·try dsimp only
   unfold tS;rw[List.length_replicate] at hi
   have f:((List.range N).map fun(n:Nat)=>dst L N n 0)[i]?=some (dst L N i 0):=by
    rw[eW,gn hi]; rfl
   have hb:=alV g o k (s:=(i:Int)) (t:=0) ⟨by omega,by omega⟩ ⟨by omega,by omega⟩;rw[Î,d,Ñ (decide_eq_true (by omega)),show ç ((List.range N).map fun(n:Nat)=>dst L N n 0)=(N:Int) by simp[ç],ž (by omega) (by omega),dl,Δ f,Ï (by omega) (by omega),xD (by omega) (by rw[d]; simp; omega),à (Ð (by simp only[dC,fi,dH]; omega)),Ï (by omega) (by omega),Int.zero_sub];congr 2;rw[fE,fc];rfl
  ·try dsimp only
   unfold tS;rw[Î,d,List.length_replicate,Í (decide_eq_false (by omega))];rfl
end
abbrev nT (m:ł) (w:Way):Nat:=(Ò (trP m w)).length+1
abbrev sT (m:ł) (w:Way):CK Lk:=Ŕ (trP m w)
def DT (L:CK Lk) (N:Nat):CK Int:=((pe ((N:Int),L)).getD ([],0)).1
def Zy {L:CK Lk} {N:Nat} (f:jo L N) (a:j8 L N=false):pe ((N:Int),L)=some (DT L N,0)/\ŧ L (DT L N)=0/\(DT L N).length<=N:=by
 obtain⟨K,l,k,_,i,g⟩:=ajC f a;obtain⟨q,d,n,_,j,_⟩:=Zx f k (fL i) (fM i)
 have e:DT L N=q:=by unfold DT; rw[g,d]; rfl
 rw[e];exact⟨by rw[g,d],j,by omega⟩
section
variable {m:ł} {w:Way} {ρ:Type}
def abX (n:Nat):(((n:Int)+1,Ŕ (trP m w)):Sys)=(((n+1:Nat):Int),Ŕ (trP m w)):=by simp
def adU (m:ł):CK (CK Int)×Int:=if ī m≠0 then([],ī m) else if pI m then([],5) else((Ŋ m.2).map fun w=>DT (sT m w) (nT m w),0)
def alz (l:In m.1) (n:m.2.length<=1000):HS m=some (adU m):=by
 unfold HS Ye adU;rw[mS l n,À]
 by_cases e:ī m=0
 ·have h:=(Ľ m).1 e;have p:=sF h;have o:((((m.1.1.1,m.1.1.2),m.1.2.1,m.1.2.2.1,m.1.2.2.2.1,m.1.2.2.2.2.1,m.1.2.2.2.2.2),m.2):ł)=m:=rfl;rw[Í (by simp[ine,e]),if_neg (by simp[e]),Mz h,À];refine AH (Ŋ m.2) (fun i=>((Ŋ m.2).take i).map fun w=>DT (sT m w) (nT m w)) _ (fun i=>∀w∈(Ŋ m.2).take i,mR m w=false) rfl (fun w a=>by simp at a) (fun i x hi d f k=>?_) (fun f k=>?_)
  ·try dsimp only
   unfold tk;have j:=wD h (qO d);rw[Ì hi,Æ d,o,sH h (qO d),À,Qo h (qO d),À];dsimp only;rw[abX]
   cases g:mR m x with
   |true =>
    refine .inl ?_;rw[ae5 j.sys g,À];have:pI m=true:=dA.2 ⟨x,df d,g⟩;rw[this]; rfl
   |false =>
    refine .inr ⟨fun w a=>?_,?_⟩
    ·rw[take_succ d] at a;rcases dg.1 a with a|a
     ·exact f w a
     ·rw[dj.1 a]; exact g
    ·rw[(Zy j.sys g).1,À,Í (by rfl),à (Ð (by simp; omega)),È hi (by omega),take_succ d,fc]; rfl
  ·rw[fo] at f
   try dsimp only
   unfold tk
   have:pI m=false:=eh.2 fun w a=>by rw[show mR m w=false from f w a]; simp
   rw[Ó,fo,this]; rfl
 ·rw[Ñ (by simp[ine,e]),if_pos e]
def xW (m:ł) (a:CK (CK Int)):Bool:=(List.range (Ŋ m.2).length).all fun i=>match (Ŋ m.2)[i]?,a[i]? with|some w,some c=>decide (ŧ (sT m w) c=0)|_,_=>false
def nW (m:ł) (a:CK (CK Int)):Int:=if ī m≠0 then ī m else if a.length≠(Ŋ m.2).length then 8 else if xW m a then 0 else 8
def Iz (l:In m.1) (n:m.2.length<=1000) (a:CK (CK Int)):lm m a=some (nW m a):=by
 unfold lm CW nW;rw[mS l n,À]
 by_cases f:ī m=0
 ·have h:=(Ľ m).1 f;have p:=sF h;have o:((((m.1.1.1,m.1.1.2),m.1.2.1,m.1.2.2.1,m.1.2.2.2.1,m.1.2.2.2.2.1,m.1.2.2.2.2.2),m.2):ł)=m:=rfl;rw[Í (by simp[ine,f]),if_neg (by simp[f]),Mz h,À]
  by_cases j:a.length=(Ŋ m.2).length
  ·rw[Í (by simp[ine,Î]; omega),if_neg (by simp[j])];refine dY (ac6 (Ŋ m.2).length (fun i=>match (Ŋ m.2)[i]?,a[i]? with|some w,some c=>decide (ŧ (sT m w) c=0)|_,_=>false) (some 8) (some 0) (fun i hi k=>?_) (fun k=>?_)) ?_
   ·have e:(Ŋ m.2)[i]?=some (Ŋ m.2)[i]:=cX hi;have d:a[i]?=some a[i]:=cX (by omega)
    try dsimp only
    unfold ke;rw[Ì hi,Æ e,o,sH h (qO e),À,Qo h (qO e),À,Æ d];dsimp only;rw[abX,RX (wD h (qO e)).sys,À,e,d,õ,È hi (by omega)];dsimp only
    by_cases g:ŧ (sT m (Ŋ m.2)[i]) a[i]=0
    ·rw[if_neg (by simp[ine,g]),if_pos (by simpa using g)]
    ·rw[if_pos (by simp[ine,g]),if_neg (by simpa using g)]
   ·try dsimp only
    unfold ke;rw[Ó]
   ·unfold xW
    cases(List.range (Ŋ m.2).length).all fun i=>match (Ŋ m.2)[i]?,a[i]? with|some w,some c=>decide (ŧ (sT m w) c=0)|_,_=>false<;>rfl
  ·rw[Ñ (by simp[ine,Î]; omega),if_pos j]
 ·rw[Ñ (by simp[ine,f]),if_pos f]
def WhoP (m:ł) (w:Way) (x d:Int):Int×Int:=if Qi m w≠0 then(0,Qi m w) else if kI m.1 x d≠0 then(0,kI m.1 x d) else(ţ m.2 w x d,0)
def ang (f:In m.1) (j:m.2.length<=1000) (g:∀l∈w,l.length<=100000) (x d:Int):VP m w x d=some (WhoP m w x d):=by
 unfold VP ag5 WhoP;rw[aje f j g,À]
 by_cases a:Qi m w=0
 ·obtain⟨h,i⟩:=abC.1 a;rw[Í (by simp[ine,a]),if_neg (by simp[a]),Vz f.size.gauges,À]
  by_cases e:kI m.1 x d=0
  ·rw[Í (by simp[ine,e]),if_neg (by simp[e]),h.who i]; rfl
  ·rw[Ñ (by simp[ine,e]),if_pos e]
 ·rw[Ñ (by simp[ine,a]),if_pos a]
def TF (b:ø) (x:Int):Prop:=∃g,î b x=some g
def aaR {b:ø} {x d:Int}:kI b x d=0↔(0<=d/\d<=20000)/\TF b x:=by
 unfold kI TF;rw[<-Option.isSome_iff_exists]
 cases hd:yH d with
 |false =>
  simp only[fu,if_true];simp only[yH,inP,iq,decide_eq_false_iff_not] at hd;constructor
  ·intro e; cases e
  ·rintro⟨e,_⟩; omega
 |true =>
  simp only[yH,inP,cY,decide_eq_true_eq] at hd
  cases î b x<;>simp[hd]
def MOk.whoK (h:MOk m) (j:Ĵ m.2 w) {d x:Int} (i:TF m.1 x):TF m.1 (ţ m.2 w x d) :=
 Z6 (TF m.1) j (fun y f _ z a=>let ⟨g,e,_⟩:=(h.mix f).known z a; ⟨g,e⟩) i
def uI (b:ø) (n:Int×Int):(Int×Int)×Int:=if (qP b n).2≠0 then((0,0),(qP b n).2) else(ivR (qP b n).1 n,0)
def WN {b:ø} (h:Room b) {n:Int×Int} (e:(qP b n).2=0):Room (qP b n).1/\adV (qP b n).1 n:=by
 rcases af4 e with⟨a,h2⟩|⟨a,h2,_⟩
 ·rw[a];exact⟨h,(VG h.good).1 h2⟩
 ·rw[a];refine⟨⟨h2,?_,h.num⟩,ahq n h2⟩;obtain⟨f,z,d⟩:=(XO h.good).1 h.op;exact(XO h2).2 ⟨f,z,ahr.2 d⟩
def Pm {B:ø} (h:Room B) {n:Int×Int} (j:adV B n) (K:(Int×Int)×Int->BY ρ) :
 (Ä (sf B n) fun i=>Ä (jx B) fun g=>Ä (wn g.1) fun a=>ifb (ine a.2 (0:Int)) (K (((0:Int),(0:Int)),a.2)) (ï a.1 i.1 fun l=>K (l,(0:Int))))=K (ivR B n,0):=by
 have f:In B:=⟨h.good.size,h.num⟩;have hi:=(VG h.good).2 j;have o:=aaX B n;have d:=aln h.good.sys h.good.tied h.op;rw[Qr f,À,Qq,if_neg (by simp[(Ο _).2 h.good]),if_neg hi,ZR f,À,Wr,if_neg (by simp[(Ο _).2 h.good])];dsimp only;rw[show((((Ò B).length:Int)+1,Ŕ B):Sys)=((((Ò B).length+1:Nat):Int),Ŕ B) by simp,d,À,Í (by rfl)];obtain⟨k,e⟩:∃k:Nat,L7 B n.1 n.2=k:=⟨(L7 B n.1 n.2).toNat,by omega⟩;rw[e,Æ (ad6 (by omega))];unfold ivR ah7;rw[e]
def ahB {b:ø} (h:Room b) (n:Int×Int):BB b n=some (uI b n):=by
 have d:In b:=⟨h.good.size,h.num⟩;have a:=(Ο _).2 h.good;unfold BB SV uI;rw[Qr d,À]
 by_cases hi:L7 b n.1 n.2=0
 ·have f:(Qq b n).2=5:=by unfold Qq; rw[if_neg (by simp[a]),if_pos hi]
  rw[Ñ (by simp[ine,f]),anl d,À,anm,if_neg (by simp[a])]
  by_cases h2:ŏ (nI b n)=0
  ·have e:qP b n=(nI b n,0):=by unfold qP; rw[if_neg (by simp[hi]),if_neg (by simp[h2])]
   obtain⟨r1,r2⟩:=WN h (n:=n) (by rw[e]);rw[e] at r1 r2;rw[if_neg (by simp[h2]),Í (by rfl),Pm r1 r2,e,if_neg (by simp)]
  ·have e:qP b n=(ai6,ŏ (nI b n)):=by unfold qP; rw[if_neg (by simp[hi]),if_pos h2]
   rw[if_pos h2,Ñ (by simp[ine,h2]),e,if_pos h2]
 ·have f:(Qq b n).2=0:=by unfold Qq; rw[if_neg (by simp[a]),if_neg hi]
  have e:qP b n=(b,0):=by unfold qP; rw[if_pos hi]
  rw[Í (by simp[ine,f]),<-Qr d,Pm h ((VG h.good).1 hi),e,if_neg (by simp)]
def aa5 {α β:Type} {f:α->BY β}:∀{l:CK α} {i:Nat} {x:α} {e:β},l[i]?=some x->(∀w∈l.take i,f w=none)->f x=some e->l.findSome? f=some e
 |[],_,_,_,h,_,_=>by simp at h
 |y::l,0,x,e,h,_,a=>by simp at h; subst h; rw[gO,a]
 |y::l,i+1,x,e,h,d,a=>by
  rw[gO,d y (by simp)];exact aa5 (by simpa using h) (fun w g=>d w (by simp[g])) a
abbrev Fnd:=CK (Int×(Int×Int))
def aku (s t:Int×Int):Int×Int:=(min s.1 t.1,max s.2 t.2)
def ahV (m:ł) (label d:Int) (M:Fnd) (w:Way):Fnd :=
 Nh (k:=tI) (v:=Ç) (ţ m.2 w label d) (match pk (k:=tI) (v:=Ç) (ţ m.2 w label d) M with|some s=>aku (uI (trP m w) (ţ m.2 w label d,d)).1 s|none=>(uI (trP m w) (ţ m.2 w label d,d)).1) M
def vZ (m:ł) (label d:Int) (l:CK Way):Fnd:=l.foldl (ahV m label d) []
def Wv (m:ł) (label d:Int) (w:Way):Int:=(uI (trP m w) (ţ m.2 w label d,d)).2
def j6 (m:ł) (label d:Int):CK (Int×Int×Int)×Int :=
 if ī m≠0 then([],ī m) else if kI m.1 label d≠0 then([],kI m.1 label d) else if į m=[] then([],5) else
 match (į m).findSome? fun w=>Ff (Wv m label d w) with
 |some e=>([],e)
 |none=>(m.1.2.1.filterMap fun g=>(pk (k:=tI) (v:=Ç) g.1 (vZ m label d (į m))).map fun s=>(g.1,s),0)
def HG (a:w∈į m):Ĵ m.2 w/\mR m w=true:=by
 obtain⟨d,h2⟩:=dX.1 a;exact⟨yL.1 d,h2⟩
def HH (h:MOk m):(į m).length<=150:=dw (dP _ _) (sF h)
def agi (h:MOk m) (a:Ĵ m.2 w) (d:mR m w=true):Room (trP m w):=⟨wD h a,d,h.in_.num⟩
def ZZ (C:In m.1) (G:m.2.length<=1000) (label d:Int):we m label d=some (j6 m label d):=by
 unfold we SX j6;rw[mS C G,À]
 by_cases r:ī m=0
 ·have h:=(Ľ m).1 r;have K:=C.size.gauges;have J:=HH h;rw[Í (by simp[ine,r]),if_neg (by simp[r]),Vz K,À]
  by_cases t:kI m.1 label d=0
  ·rw[Í (by simp[ine,t]),if_neg (by simp[t]),aa2 h,À]
   by_cases a:į m=[]
   ·rw[Ñ (by simp[ieq,Î,a]),if_pos a]
   ·have:(į m).length≠0:=fun e=>a (dv.1 e);rw[Í (by simp[ieq,Î,a]),if_neg a];have key:∀(l:CK Way),(∀w∈l,Ff (Wv m label d w)=none)->l.findSome? (fun w=>Ff (Wv m label d w))=none:=fun l I=>List.findSome?_eq_none_iff.2 I;refine AH (į m) (fun i=>vZ m label d ((į m).take i)) _ (fun i=>∀w∈(į m).take i,Ff (Wv m label d w)=none) rfl (fun w f=>by simp at f) (fun i x hi o p F=>?_) (fun p F=>?_)
    ·obtain⟨u,E⟩:=HG (df o);have j:=agi h u E
     try dsimp only
     unfold pS;rw[Ì hi,Æ o,show((((m.1.1.1,m.1.1.2),m.1.2.1,m.1.2.2.1,m.1.2.2.2.1,m.1.2.2.2.2.1,m.1.2.2.2.2.2),m.2):ł)=m from rfl,h.who u,À,sH h u,À,ahB j,À]
     by_cases n:Wv m label d x=0
     ·refine .inr ⟨fun w f=>?_,?_⟩
      ·rw[take_succ o] at f;rcases dg.1 f with f|f
       ·exact p w f
       ·rw[dj.1 f,n]; rfl
      ·unfold Wv at n
       have z:vZ m label d ((į m).take (i+1))=ahV m label d (vZ m label d ((į m).take i)) x:=by rw[take_succ o,vZ,List.foldl_append]; rfl
       rw[Í (by simp[ine,n]),z];unfold ahV Qt
       cases pk (k:=tI) (v:=Ç) (ţ m.2 x label d) (vZ m label d ((į m).take i)) with
       |none=>dsimp only; rw[È hi (by omega)]
       |some s =>
        dsimp only;rw[È hi (by omega),Ps,aaW]; rfl
     ·refine .inl ?_
      have A:(į m).findSome? (fun w=>Ff (Wv m label d w))=some (Wv m label d x):=by
       exact aa5 o p (by simp[Ff,n])
      rw[A];unfold Wv at n ⊢;rw[Ñ (by simp[ine,n])]
    ·rw[fo] at p
     try dsimp only
     unfold pS;rw[Ó,key _ p,List.take_length];dsimp only;refine ê m.1.2.1 (fun i=>(m.1.2.1.take i).filterMap fun g=>(pk (k:=tI) (v:=Ç) g.1 (vZ m label d (į m))).map fun s=>(g.1,s)) _ rfl (fun i g hi D y=>?_) (fun y=>?_)
     ·try dsimp only
      unfold pR;have H:((m.1.2.1.take i).filterMap fun g=>(pk (k:=tI) (v:=Ç) g.1 (vZ m label d (į m))).map fun s=>(g.1,s)).length<=1000:=Nat.le_trans (List.length_filterMap_le _ _) (by rw[List.length_take]; omega);rw[Ì hi,Æ D,take_succ D,List.filterMap_append];unfold Qt
      cases q:pk (k:=tI) (v:=Ç) g.1 (vZ m label d (į m)) with
      |none=>simp only[List.filterMap_cons,q,Option.map_none,List.filterMap_nil,du]; rw[È hi (by omega)]
      |some s =>
       simp only[List.filterMap_cons,q,d9,List.filterMap_nil];rw[à (Ð (by rw[dH]; omega)),È hi (by omega)]
     ·try dsimp only
      unfold pR;rw[Ó,List.take_length]
  ·rw[Ñ (by simp[ine,t]),if_pos t]
 ·rw[Ñ (by simp[ine,r]),if_pos r]
end
def ahl {ρ α:Type} [DecidableEq α] {l m:CK α} (n:l.length=m.length) (K:Bool->BY ρ) {f:Int->(Int->BY ρ)->BY ρ}
 (h:∀(i:Nat) (a b:α),i<l.length->l[i]?=some a->m[i]?=some b->∀d,f i d=if a=b then d ((i:Int)+1) else K false) (k:∀d,f l.length d=K true):Ê f 0=K (decide (l=m)):=by
 refine dY (jt l (fun i a=>if m[i]?=some a then none else some false) K (K true) (fun i a hi ha d=>?_) k) ?_
 ·have j:m[i]?=some m[i]:=cX (by omega);rw[h i a _ hi ha j,j]
  by_cases g:a=m[i]
  ·simp[g]
  ·have:¬m[i]=a:=fun e=>g e.symm;simp[g,this]
 ·cases h:Ĝ (fun i a=>if m[i]?=some a then none else some false) 0 l with
  |none=>simp[W0 n h]
  |some b =>
   obtain⟨o,h2⟩:=WZ h;simp[o,h2]
def afw {a b:Way} (n:a.length<=1000000) (k:∀l∈a,l.length<=1000000):un a b=some (decide (a=b)):=by
 unfold un Kk;rw[Î,Î]
 by_cases d:a.length=b.length
 ·rw[Í (by simp[ine,d])];refine ahl d some (fun i x y hi f j g=>?_) (fun g=>?_)
  ·try dsimp only
   unfold mI;rw[Ì hi,Æ f,Æ j,Fc (k x (List.mem_of_getElem? f)),À,È hi (by omega),õ]
   by_cases h:x=y<;>simp[h]
  ·try dsimp only
   unfold mI;rw[Ó]
 ·rw[Ñ (by simp[ine]; omega)];have:a≠b:=fun e=>d (by rw[e]);simp[this]
def ais {L:CK Lk} {p:Int->Int} (d:Pot L p) (c:CK Int):ŧ L c≠0:=by
 unfold ŧ
 by_cases h2:mN L c=0
 case neg=>rw[if_pos h2]; exact h2
 rw[if_neg (by simp[h2])];have hi:=(aaZ h2).2
 cases c with
 |nil=>exact(by decide:(8:Int)≠0)
 |cons i t =>
  dsimp only;unfold adw
  split
  ·rename_i a;have:=abP d (i::t) (L[i.toNat]?.getD (0,0,0)).1 0 hi a.1;rw[a.2.1] at this;have:=a.2.2;omega
  ·decide
def air {m:ł} {w:Way} (h:MOk m) (d:Ĵ m.2 w) {c:CK Int} (g:ŧ (sT m w) c=0):mR m w=false:=by
 rw[eG];intro f;have a:=wD h d;have i:=a.sys.n60;obtain⟨p,e⟩:=(kQ a.sys.links (by omega)).1 f;exact ais e c g
def ags {m:ł} (h:MOk m) {a:CK (CK Int)} (f:xW m a=true):∀w∈Ŋ m.2,mR m w=false:=by
 intro w e;obtain⟨i,hi,rfl⟩:=dp.1 e;have:=dI.1 f i (fh.2 hi);rw[cX hi] at this
 cases d:a[i]? with
 |none=>rw[d] at this; cases this
 |some c =>
  rw[d] at this;exact air h (yL.1 e) (of_decide_eq_true this)
def Xc {m:ł} (h:MOk m) (e:pI m=false):xW m ((Ŋ m.2).map fun w=>DT (sT m w) (nT m w))=true:=by
 refine dI.2 fun i hi=>?_;rw[fh] at hi;have d:(Ŋ m.2)[i]?=some (Ŋ m.2)[i]:=cX hi;have a:(Ŋ m.2)[i]∈Ŋ m.2:=fq hi;rw[eW,d];have f:=eh.1 e _ a;exact decide_eq_true (Zy (wD h (yL.1 a)).sys (eG.2 f)).2.1
def exM (l:CK Cmp):ł:=(((0,2),[(1,0,1000,(-5,5),(1,10),1),(2,0,1000,(-50,50),(1,4),0),(3,0,1100,(-1,1),(0,1),0)],[(1,10)],[(1,(20,29),3)],(7,10,[1],[2],-20,1,100,200)::l,[]),[(12,[2,3])])
def ex8:Cmp:=(8,15,[2],[1],100,1,0,0)
def ex9:Cmp:=(9,15,[3],[],1100,0,0,0)
def ah0 {l:CK Cmp} (f:l.length<=10) (e:∀c∈l,c.2.2.1.length<=10/\c.2.2.2.1.length<=10):In (exM l).1:=by
 refine⟨⟨by simp[exM],by simp[exM],by simp[exM],by simp[exM]; omega,by simp[exM],fun c a=>?_⟩,fun g d=>?_⟩
 ·rcases dh.1 (show c∈(7,10,[1],[2],-20,1,100,200)::l from a) with rfl|a
  ·exact⟨by decide,by decide⟩
  ·have:=e c a; omega
 ·simp only[exM,dh,ik,or_false] at d
  rcases d with rfl|rfl|rfl<;>exact⟨by decide,by decide⟩
def w0:ī (exM [])=0/\ī (exM [ex8])=0/\ī (exM [ex8,ex9])=0:=by decide +kernel
def w1:Ŋ (exM []).2=[[[2,3]],[[3,2]]]:=by decide +kernel
def w2:į (exM [])=[[[2,3]],[[3,2]]]:=by decide +kernel
def w3:aaP (exM [ex8])=([[3,2]],0):=by decide +kernel
def w4:j6 (exM [ex8]) 2 15=([(3,1099,1101)],0):=by decide +kernel
def w5:anp (exM [ex8,ex9])=([8,9],0):=by decide +kernel
def w6:ajk (exM [ex8,ex9]) [7,8,9]=([8,9],0):=by decide +kernel
def w7:JX (exM [ex8,ex9]) 2=(false,0):=by decide +kernel
def w8:pI (exM [ex8,ex9])=false:=by decide +kernel
def w9:WhoP (exM [ex8,ex9]) [[3,2]] 2 13=(3,0):=by decide +kernel
def ad9:jS=some true:=by
 have d:In (exM []).1:=ah0 (by decide) (by simp);have e:In (exM [ex8]).1:=ah0 (by decide) (by decide);have a:In (exM [ex8,ex9]).1:=ah0 (by decide) (by decide)
 have n:∀l,(exM l).2.length<=1000:=fun l=>by simp[exM]
 have h0:=(Ľ _).1 w0.1;have h2:=(Ľ _).1 w0.2.2;have p:Ų []=some (exM []):=rfl;have o:Ų [((8:Int),(15:Int),[(2:Int)],[(1:Int)],(100:Int),(1:Int),(0:Int),(0:Int))]=some (exM [ex8]):=rfl;have k:Ų [((8:Int),(15:Int),[(2:Int)],[(1:Int)],(100:Int),(1:Int),(0:Int),(0:Int)),((9:Int),(15:Int),[(3:Int)],[],(1100:Int),(0:Int),(0:Int),(0:Int))]=some (exM [ex8,ex9]):=rfl
 have g:adU (exM [ex8,ex9])=((Ŋ (exM [ex8,ex9]).2).map (fun w=>DT (sT (exM [ex8,ex9]) w) (nT (exM [ex8,ex9]) w)),0):=by
  unfold adU; rw[if_neg (by simp[w0.2.2]),w8]; rfl
 have r:nW (exM [ex8,ex9]) ((Ŋ (exM [ex8,ex9]).2).map fun w=>DT (sT (exM [ex8,ex9]) w) (nT (exM [ex8,ex9]) w))=0:=by
  unfold nW;rw[if_neg (by simp[w0.2.2]),if_neg (by simp),Xc h2 w8]; rfl
 have q:∀c,nW (exM []) c=8:=fun c=>by
  unfold nW;rw[if_neg (by simp[w0.1])]
  split
  ·rfl
  ·rw[if_neg];intro i;have:=ags h0 i [[2,3]] (by rw[w1]; simp)
   have j:[[2,3]]∈į (exM []):=by rw[w2]; simp
   rw[(HG j).2] at this;cases this
 unfold jS Ek;rw[p,À,anh d (n _),À,if_neg (by simp[w0.1]),À,All_ok d (n _),À,if_neg (by simp[w0.1]),o,À,ajz e (n _),À,À,ZZ e (n _),À,k,À,ano a (n _),À,abI a (n _) (by simp),À,ZQ a (n _),À,w1,w2,w3,w4,w5,w6,w7];rw[alz a (n _),À,g,Í (by rfl),Í (by rfl),Í (by rfl),Í (by rfl),Í (by rfl),Í (by rfl),Í (by rfl),Í (by simp[ine,Î]),Í (by simp[ine,Î]),Í (by rfl)];rw[show ∀f:Way->BY Bool,ï [[[2,3]],[[3,2]]] (1:Int) f=f [[3,2]] from fun f=>rfl];dsimp only;rw[ang a (n _) (by decide),À,w9,Í (by rfl),Í (by rfl),Í (by rfl),Iz a (n _),À,r,Í (by rfl),À,Iz d (n _),À,q,Í (by rfl)];rw[afw (by decide) (by decide),À,Ñ (by rfl),Ñ (by simp[ieq,Î])];rw[show ∀f:Int×Int×Int->BY Bool,ï [((3:Int),(1099:Int),(1101:Int))] (0:Int) f=f (3,1099,1101) from fun f=>rfl];dsimp only;rw[Ñ (by rfl),Fc (by decide),À,Ñ (by rfl),À];rfl
end Go.Proofs.ZzM
end
