/- lemmas -/
import Derived.Test.YtenljaeklhlanaaGreatPlA
import Derived.Test.YtenljaeklhlanaaGreatMdTA
set_option linter.all false
noncomputable section
namespace Go.Proofs.ZzM
open Go Go.Am
def wI (n lo hi:Int):lm n lo hi=some (inP n lo hi):=by
 unfold lm ahr inP ige ile
 cases h:decide (lo<=n)<;>simp_all
def WR (n:Int):xX n=some (BW n):=by
 unfold xX acT;rw[wI]; rfl
def ym (s:Int×Int) (lo hi:Int):ka s lo hi=some (kp s lo hi):=by
 unfold ka Kw kp ile
 cases decide (lo<=s.1)<;>cases decide (s.1<=s.2)<;>rfl
def anM {l:CK Int} (f:l.length<=1000000) (x:Int):Mo l x=some (l.contains x):=by
 unfold Mo acS;refine Eq.trans (đ l (fun a=>a==x) (fun _=>some true) (some true) (some false) (fun _=>rfl) (fun i a hi ha d=>?_) (fun d=>?_)) ?_
 ·try dsimp only
  unfold xj;rw[Í hi,Æ ha,È hi (by omega),õ]
 ·try dsimp only
  unfold xj;rw[Ò]
 ·have:l.any (fun a=>a==x)=l.contains x:=by
   rw[eN,du,dJ];constructor
   ·rintro⟨a,ha,e⟩; rw[<-eq_of_beq e]; exact ha
   ·intro h; exact⟨x,h,by simp⟩
  rw[this]
  cases l.contains x<;>rfl
def aeY {a b:CK Int} {i:Nat} {x:Int} (h:a[i]?=some x):Ü (a.take (i+1)) b=Ü (a.take i) b++if b.contains x then[] else[x]:=by
 rw[take_succ h,Ü,Ü,fc];congr 1
 cases d:b.contains x<;>simp only[eP,d,dP,fJ,dq,if_false,if_true,d8]
def IU {a b:CK Int} (ha:a.length<=1000000) (hb:b.length<=1000000):jx a b=some (Ü a b):=by
 unfold jx YU;refine î a (fun i=>Ü (a.take i) b) _ rfl (fun i x hi d e=>?_) (fun e=>?_)
 ·try dsimp only
  unfold tW
  have f:(Ü (a.take i) b).length<=1000000:=by
   have:=rS (a.take i) b;rw[dl] at this;omega
  rw[Í hi,Æ d,anM hb,À,aeY d]
  cases b.contains x with
  |true=>rw[Ì (by rfl),È hi (by omega)]; simp
  |false=>rw[Ð (by rfl),Æ d,Ñ (by simp only[dS]; omega),Am.iff_true,È hi (by omega)]; simp
 ·try dsimp only
  unfold tW;rw[Ò,List.take_length]
def KU (a b:CK Int):Int:=(Ü a b).head?.getD 0
def J7 {a b:CK Int} (ha:a.length<=1000000) (hb:b.length<=1000000):qr a b=some (KU a b):=by
 unfold qr acQ KU;rw[IU ha hb,À,Ï]
 cases h:Ü a b with
 |nil=>rfl
 |cons x t =>
  rw[Ì (by simp[ieq]; omega)];exact Æ (i:=0) rfl _
def Cc {b:ø} (e:b.2.1.length<=1000000) (id:Int):ke b id=some (match b.2.1.findIdx? (fun g=>g.1==id) with|some j=>(j:Int)|none=>-1):=by
 unfold ke YV;refine Eq.trans (jw b.2.1 (fun g=>g.1==id) (fun z=>some z) (some (-1)) (fun i a hi ha d=>?_) (fun d=>?_)) ?_
 ·try dsimp only
  unfold tX;rw[Í hi,Æ ha,È hi (by omega),õ]
 ·try dsimp only
  unfold tX;rw[Ò]
 ·cases List.findIdx? (fun g:é=>g.1==id) b.2.1<;>rfl
def qL {b:ø} {id:Int}:(∃j g,b.2.1.findIdx? (fun g=>g.1==id)=some j/\b.2.1[j]?=some g/\ï b id=some g)\/(b.2.1.findIdx? (fun g=>g.1==id)=none/\ï b id=none):=by
 unfold ï;rw[Ml]
 cases h:b.2.1.findIdx? (fun g=>g.1==id) with
 |none=>exact .inr ⟨rfl,rfl⟩
 |some j =>
  obtain⟨a,_,_⟩:=dQ.1 h;exact .inl ⟨j,_,rfl,cW a,cW a⟩
def Ŋ (b:ø) (id day:Int):Int:=match ï b id with|some g=>if day<g.2.1 then 4 else 0|none=>5
def Bc {b:ø} (d:b.2.1.length<=1000000) (id day:Int):jE b id day=some (Ŋ b id day):=by
 unfold jE Tt Ŋ;rw[Cc d,À];rcases qL (b:=b) (id:=id) with⟨j,g,a,h2,e⟩|⟨a,h2⟩
 ·rw[a,e]
  try dsimp only
  rw[Ì (by simp[ilt]),Æ h2,õ]
  by_cases hd:day<g.2.1
  ·rw[if_pos (by simpa[ilt] using hd),if_pos hd]
  ·rw[if_neg (by simpa[ilt] using hd),if_neg hd]
 ·rw[a,h2];rfl
def wO {b:ø} (hi:b.2.1.Pairwise fun a b=>a.1<b.1) (id day:Int):Ŋ b id day=mE (ř b) id day:=by
 unfold Ŋ mE;rw[vn hi]
 cases ï b id<;>rfl
def MB {b:ø} (q:b.2.2.2.1.length<=1000000) (id day:Int):kd b id day=some (match Ř b id day with|some l=>(l,true)|none=>((0,(0,0),0),false)):=by
 unfold kd YT;refine HP b.2.2.2.1 (fun _=>((0:Int),(0:Int),(0:Int),(0:Int))) _ (fun i=>∀l∈b.2.2.2.1.take i,(l.1==id&&inP day l.2.1.1 l.2.1.2)=false) rfl (by simp) (fun i a hi ha g n=>?_) (fun g n=>?_)
 ·try dsimp only
  unfold tV;rw[Í hi,Æ ha]
  by_cases f:(a.1==id&&inP day a.2.1.1 a.2.1.2)=true
  ·refine .inl ?_;have d:=f;simp only[inP,cY,beq_iff_eq,decide_eq_true_eq] at d;rw[Ð (by simp[ieq,d.1]),Ð (by simp[ile,d.2.1]),Ð (by simp[ile,d.2.2])]
   have o:Ř b id day=some a:=by
    unfold Ř;obtain⟨k,rfl⟩:=List.getElem?_eq_some_iff.1 ha;rw[List.find?_eq_some_iff_getElem];refine⟨f,i,k,rfl,fun j r=>?_⟩;have:=g b.2.2.2.1[j] (List.mem_iff_getElem.2 ⟨j,by rw[List.length_take]; omega,by rw[List.getElem_take]⟩);simp[this]
   rw[o]
  ·refine .inr ⟨fun l e=>?_,?_⟩
   ·rw[take_succ ha,df,di] at e;rcases e with e|rfl
    ·exact g l e
    ·simpa using f
   ·have d:=f;simp only[inP,cY,beq_iff_eq,decide_eq_true_eq] at d
    by_cases h:a.1=id
    ·by_cases h2:a.2.1.1<=day
     ·rw[Ð (by simp[ieq,h]),Ð (by simp[ile,h2]),Ì (by simp[ile]; exact Int.lt_of_not_ge fun p=>d ⟨h,h2,p⟩),È hi (by omega)]
     ·rw[Ð (by simp[ieq,h]),Ì (by simp[ile]; omega),È hi (by omega)]
    ·rw[Ì (by simp[ieq,h]),È hi (by omega)]
 ·try dsimp only
  unfold tV;rw[Ò]
  have:Ř b id day=none:=by
   unfold Ř;rw[List.find?_eq_none];intro l e;have:=g l (by rw[List.take_length]; exact e);simp[this]
  rw[this]
def alS {b:ø} (f:b.2.2.1.length<=1000000) (id day:Int):Io b id day=some (KS b id day):=by
 unfold Io YN;refine Eq.trans (đ b.2.2.1 (fun u=>u.1==id&&u.2==day) (fun _=>some true) (some true) (some false) (fun _=>rfl) (fun i a hi ha e=>?_) (fun e=>?_)) ?_
 ·try dsimp only
  unfold tR;rw[Í hi,Æ ha,Æ ha,È hi (by omega)]
  cases d:(a.1==id) with
  |false=>have:ieq a.1 id=false:=d; simp[this]
  |true =>
   have:ieq a.1 id=true:=d;rw[this]
   cases h2:(a.2==day) with
   |false=>have:ieq a.2 day=false:=h2; simp[this]
   |true=>have:ieq a.2 day=true:=h2; simp[this]
 ·try dsimp only
  unfold tR;rw[Ò]
 ·unfold KS
  cases b.2.2.1.any _<;>rfl
def ajJ (a b:Nat):BO a b=some ((Nat.gcd a b:Nat):Int):=by
 unfold BO acX;refine è (fun x:Int×Int=>∃c d:Nat,x=((c:Int),(d:Int))/\Nat.gcd c d=Nat.gcd a b) (fun x=>x.2.toNat) ?_ ⟨a,b,rfl,rfl⟩;rintro x ⟨c,d,rfl,e⟩
 cases d with
 |zero =>
  refine .inl fun f=>?_;rw[Nat.gcd_zero_right] at e;unfold xm;simp[e,ine]
 |succ d =>
  refine .inr ⟨(((d+1:Nat):Int),((c % (d+1):Nat):Int)),⟨d+1,c % (d+1),rfl,?_⟩,?_,fun f=>?_⟩
  ·rw[<-e,iw c (d+1),Nat.gcd_rec (d+1) c,iw]
  ·have:=hZ c (g9 d);simp only[dm];omega
  ·unfold xm
   have g:ine ((d+1:Nat):Int) 0=true:=by simp[ine]; omega
   have h2:oy ((d+1:Nat):Int) 0=false:=by simp[oy]; omega
   simp only[g,Ð Ì h2];congr 1
def ajM {n:Int} (h : -9223372036854775807<=n/\n<=9223372036854775807):Iu n=some (n.natAbs:Int):=by
 unfold Iu acZ
 by_cases a:n<0
 ·rw[Ð (by simpa[ilt] using a),Î (by omega) (by omega)];congr 1;omega
 ·rw[Ì (by simpa[ilt] using a)];congr 1;omega
def ajF (r:Int×Int):BM r=some (Kj r):=by
 unfold BM Tz Kj
 by_cases d:1<=r.2
 ·rw[Ì (by simp[ilt]; omega)]
  by_cases h2:r.2<=2147483647
  ·rw[Ì (by simp[igt]; omega)]
   by_cases g:r.1 < -2147483647
   ·rw[Ð (by simp[ilt]; omega)]
    have:¬((r.1.natAbs:Int)<=2147483647):=by omega
    simp[this]
   ·rw[Ì (by simp[ilt]; omega)]
    by_cases f:2147483647<r.1
    ·rw[Ð (by simp[igt]; omega)]
     have:¬((r.1.natAbs:Int)<=2147483647):=by omega
     simp[this]
    ·rw[Ì (by simp[igt]; omega),ajM ⟨by omega,by omega⟩,À]
     have a:r.2=((r.2.natAbs:Nat):Int):=by omega
     have e:((r.1.natAbs:Int)<=2147483647):=by omega
     rw[a,ajJ,À,<-a];congr 1;rw[eN];simp only[ieq,beq_iff_eq,d,h2,e,decide_true,eI,decide_eq_true_eq];omega
  ·rw[Ð (by simp[igt]; omega)];simp[h2]
 ·rw[Ð (by simp[ilt]; omega)];simp[d]
def ajC (g:é):BJ g=some (rX g):=by
 unfold BJ Ts rX;rw[ajF,wI,wI,WR,wI,ym,wI];simp only[À]
 have e:igt g.2.2.2.2.1.2 100=!decide (g.2.2.2.2.1.2<=100):=by
  rw[eN]; simp[igt]
 rw[e]
 cases Kj g.2.2.2.2.1<;>cases inP g.2.2.2.2.1.1 (-1000) 1000<;>cases decide (g.2.2.2.2.1.2<=100)<;>cases inP g.1 1 1099511627776<;>cases BW g.2.1<;>cases inP g.2.2.1 1 1125899906842624<;>cases kp g.2.2.2.1 (-1073741824) 1073741824<;>rfl
def aaG {l:CK Int}:∀(m:CK Int) (j:Nat) (x:Bool),Ě (yE l) j m=some x->x=false:=by
 intro m
 induction m with
 |nil=>intro j x h; cases h
 |cons a m e =>
  intro j x h;unfold Ě at h
  cases d:yE l j a with
  |none=>rw[d] at h; exact e _ _ h
  |some y =>
   rw[d] at h;cases h;unfold yE at d
   split at d
   ·cases d; rfl
   ·split at d
    ·cases d; rfl
    ·cases d
def ad6 {l:CK Int} (g:l.length<=1000000):AQ l=some (uE l):=by
 unfold AQ YQ;refine Eq.trans (jC l (yE l) some (some (decide (l.length<=6))) (fun i a hi ha e=>?_) (fun e=>?_)) ?_
 ·try dsimp only
  unfold tT;rw[Í hi,Æ ha,wI,À];unfold yE
  cases inP a 1 1099511627776 with
  |false=>rfl
  |true =>
   simp only[dP,ç,dq,if_false];rcases fK i with h0|h0
   ·subst h0
    have:igt ((0:Nat):Int) 0=false:=by simp[igt]
    rw[Ì this,È hi (by omega)];simp[lZ]
   ·obtain⟨q,d⟩:=uZ hi h0
    have f:igt (i:Int) 0=true:=by simp[igt]; omega
    rw[Ð f,Æ ha,Qa h0 (by omega),HY h0 d];simp only[lZ,h0,decide_true,Bool.true_and,d,Option.any_some];unfold ile
    cases h2:decide (a<=q) with
    |true=>rfl
    |false =>
     rw[ç,È hi (by omega)];rfl
 ·try dsimp only
  unfold tT;rw[Ò,Ï];simp[ile];omega
 ·unfold uE
  cases h:Ě (yE l) 0 l with
  |none=>rfl
  |some x=>rw[aaG _ _ _ h]
def ajA {c:Cmp} (d:c.2.2.1.length<=1000000) (a:c.2.2.2.1.length<=1000000):BH c=some (Jf c):=by
 unfold BH Tp Jf;rw[ad6 d,ad6 a,wI,WR,wI,wI,ym];simp only[À]
 cases uE c.2.2.1<;>cases uE c.2.2.2.1<;>cases inP c.1 1 1099511627776<;>cases BW c.2.1<;>cases inP c.2.2.2.2.1 (-1125899906842624) 1125899906842624<;>cases inP c.2.2.2.2.2.1 0 1073741824<;>cases kp c.2.2.2.2.2.2 (-10000) 10000<;>rfl
def WY (b:ø) (u:Int×Int):Int:=if !BW u.2 then 1 else Ŋ b u.1 u.2
def ab2 {b:ø} (hi:b.2.1.Pairwise fun a b=>a.1<b.1) (u:Int×Int):WY b u=aar (ř b) u.1 u.2:=by
 unfold WY aar;rw[wO hi]
def JV (e:Int):BY Int:=if e=0 then none else some e
def JP {α:Type} (E:Nat->α->Int):∀(k:Nat) (l:CK α),Ě (fun i a=>JV (E i a)) k l=(l.mapIdx fun i a=>E (i+k) a).find? (fun e=>e != 0)
 |_,[]=>rfl
 |k,a::t=>by
  unfold Ě;rw[JP E (k+1) t,List.mapIdx_cons,List.find?_cons];unfold JV
  by_cases h:E k a=0
  ·simp only[h,if_true,dO];have:((0:Int) != 0)=false:=rfl;rw[this]
   have e:(fun(i:Nat) (a:α)=>E (i+(k+1)) a)=fun i a=>E (i+1+k) a:=by
    funext i a;congr 1;omega
   rw[e]
  ·simp only[h,if_false,dO]
   have:(E k a != 0)=true:=by simpa using h
   rw[this]
def PQ {α:Type} (E:Nat->α->Int) (l:CK α):Ě (fun i a=>JV (E i a)) 0 l=(l.mapIdx E).find? (fun e=>e != 0):=JP E 0 l
def PR {α:Type} (E:α->Int) (l:CK α):Ě (fun _ a=>JV (E a)) 0 l=(l.map E).find? (fun e=>e != 0):=by
 rw[JP (fun _ a=>E a) 0 l];congr 1
 exact iu (by simp) fun i d h2=>by simp
def alN {b:ø} (f:jz b):Il b=some (((b.2.2.1.map (WY b)).find? (fun e=>e != 0)).getD 0):=by
 have h:=f.gauges;have h2:=f.uses;unfold Il YI;refine Eq.trans (jC b.2.2.1 (fun _ u=>JV (WY b u)) some (some 0) (fun i a hi ha g=>?_) (fun g=>?_)) ?_
 ·try dsimp only
  unfold tK;rw[Í hi,Æ ha,WR,À];unfold WY JV
  cases BW a.2 with
  |false=>rfl
  |true =>
   rw[Ì (by rfl),Æ ha,Æ ha,Bc (b:=((b.1.1,b.1.2),b.2.1,b.2.2.1,b.2.2.2.1,b.2.2.2.2.1,b.2.2.2.2.2)) (by simp only; omega),À,È hi (by omega)];have e:Ŋ ((b.1.1,b.1.2),b.2.1,b.2.2.1,b.2.2.2.1,b.2.2.2.2.1,b.2.2.2.2.2) a.1 a.2=Ŋ b a.1 a.2:=rfl;rw[e]
   by_cases d:Ŋ b a.1 a.2=0
   ·rw[Ì (by simp[ine,d])]; simp[d]
   ·rw[Ð (by simp[ine,d])]; simp[d]
 ·try dsimp only
  unfold tK;rw[Ò]
 ·rw[PR]
  cases List.find? (fun e=>e != 0) (b.2.2.1.map (WY b))<;>rfl
def RY (b:ø) (i:Nat) (l:I0):Int :=
 if !kp l.2.1 0 20000 then 1 else if !inP l.2.2 0 1048576 then 1 else if Ŋ b l.1 l.2.1.1 != 0 then Ŋ b l.1 l.2.1.1 else
 if (b.2.2.2.1.take i).any (fun x=>x.1==l.1&&(decide (x.2.1.1<=l.2.1.2)&&decide (l.2.1.1<=x.2.1.2))) then 9 else
 if b.2.2.1.any (fun u=>u.1==l.1&&inP u.2 l.2.1.1 l.2.1.2) then 9 else 0
def ahL {b:ø} (hi:b.2.1.Pairwise fun a b=>a.1<b.1) (i:Nat) (l:I0):RY b i l=LL b (ř b) i l:=by
 unfold RY LL;rw[wO hi]
def ajB {b:ø} (y:jz b):BI b=some (((b.2.2.2.1.mapIdx (RY b)).find? (fun e=>e != 0)).getD 0):=by
 have D:=y.gauges;have h2:=y.uses;have C:=y.loans;unfold BI Tq;refine Eq.trans (jC b.2.2.2.1 (fun i l=>JV (RY b i l)) some (some 0) (fun i l hi z k=>?_) (fun k=>?_)) ?_
 ·try dsimp only
  unfold p9;rw[Í hi,Æ z,ym,À];unfold RY JV
  cases kp l.2.1 0 20000 with
  |false=>rfl
  |true =>
  rw[Ì (by rfl),wI,À]
  cases inP l.2.2 0 1048576 with
  |false=>rfl
  |true =>
  rw[Ì (by rfl),Bc (b:=((b.1.1,b.1.2),b.2.1,b.2.2.1,b.2.2.2.1,b.2.2.2.2.1,b.2.2.2.2.2)) (by simp only; omega),À];have e:Ŋ ((b.1.1,b.1.2),b.2.1,b.2.2.1,b.2.2.2.1,b.2.2.2.2.1,b.2.2.2.2.2) l.1 l.2.1.1=Ŋ b l.1 l.2.1.1:=rfl;rw[e]
  by_cases q:Ŋ b l.1 l.2.1.1=0
  ·rw[Ì (by simp[ine,q])]
   have p:(b.2.2.2.1.take i).length=i:=by rw[dl]; omega
   have f:Ê (fun(s:Int) n=>mR b.2.2.1 l.1 l.2.1.1 l.2.1.2 s (fun t=>n t) (fun r=>(some r:BY Int)) (fun _=>ck ((i:Int)+(1:Int)) fun v=>k v)) (0:Int)=if b.2.2.1.any (fun u=>u.1==l.1&&inP u.2 l.2.1.1 l.2.1.2) then some 9 else k ((i:Int)+1):=by
    refine đ b.2.2.1 _ (fun _=>some 9) (some 9) (k ((i:Int)+1)) (fun _=>rfl) (fun j a h ha d=>?_) (fun d=>?_)
    ·try dsimp only
     unfold mR;rw[Í h,Æ ha,Æ ha,wI,À,È h (by omega)]
     cases o:(a.1==l.1) with
     |false=>have:ieq a.1 l.1=false:=o; simp[this]
     |true =>
      have:ieq a.1 l.1=true:=o;rw[this]
      cases inP a.2 l.2.1.1 l.2.1.2<;>simp
    ·try dsimp only
     unfold mR;rw[Ò];dsimp only;rw[È hi (by omega)]
   try dsimp only
   rw[f];refine d9 (đ (b.2.2.2.1.take i) (fun x=>x.1==l.1&&(decide (x.2.1.1<=l.2.1.2)&&decide (l.2.1.1<=x.2.1.2))) (fun _=>some 9) (some 9) (if b.2.2.1.any (fun u=>u.1==l.1&&inP u.2 l.2.1.1 l.2.1.2) then some 9 else k ((i:Int)+1)) (fun _=>rfl) (fun j a h ha d=>?_) (fun d=>?_)) ?_
   ·try dsimp only
    unfold p8;rw[p] at h
    have g:b.2.2.2.1[j]?=some a:=by rwa [List.getElem?_take_of_lt h] at ha
    rw[Ð (show ilt (j:Int) (i:Int)=true by simp[ilt]; omega),Æ g,Æ g,Æ g,È h (by omega)]
    cases o:(a.1==l.1) with
    |false=>have:ieq a.1 l.1=false:=o; simp[this]
    |true =>
     have:ieq a.1 l.1=true:=o;rw[this]
     cases B:decide (a.2.1.1<=l.2.1.2)<;>cases A:decide (l.2.1.1<=a.2.1.2)<;>simp[ile,B,A,õ]<;>simp_all
   ·try dsimp only
    unfold p8;rw[p,Ì (show ilt (i:Int) (i:Int)=false by simp[ilt])]
   ·simp only[q]
    cases List.any (b.2.2.2.1.take i) _<;>cases b.2.2.1.any _<;>rfl
  ·rw[Ð (by simp[ine,q])]; simp[q]
 ·try dsimp only
  unfold p9;rw[Ò]
 ·rw[PQ (RY b)]
  cases(b.2.2.2.1.mapIdx (RY b)).find? (fun e=>e != 0)<;>rfl
def CL (b:ø) (c:Cmp):Int :=
 if (c.2.2.1++c.2.2.2.1).any (fun id=>Ŋ b id c.2.1==5) then 5 else
 if (c.2.2.1++c.2.2.2.1).any (fun id=>Ŋ b id c.2.1 != 0) then 4 else
 if (c.2.2.1++c.2.2.2.1).any (fun id=>(Ř b id c.2.1).isSome) then 9 else
 if 1<(Ü c.2.2.1 c.2.2.2.1).length then 1 else if 1<(Ü c.2.2.2.1 c.2.2.1).length then 1 else
 if (Ü c.2.2.1 c.2.2.2.1).length+(Ü c.2.2.2.1 c.2.2.1).length=0 then 1 else 0
def akq {b:ø} (hi:b.2.1.Pairwise fun a b=>a.1<b.1) (c:Cmp):CL b c=vc b (ř b) c:=by
 unfold CL vc;simp only[wO hi]
 by_cases d:(c.2.2.1++c.2.2.2.1).any (fun id=>mE (ř b) id c.2.1==5)=true
 ·rw[if_pos d,if_pos d]
 ·rw[if_neg d,if_neg d]
  have e:(c.2.2.1++c.2.2.2.1).any (fun id=>mE (ř b) id c.2.1 != 0)=(c.2.2.1++c.2.2.2.1).any (fun id=>mE (ř b) id c.2.1==4):=by
   rw[eN,du,du];constructor
   ·rintro⟨x,g,h⟩;refine⟨x,g,?_⟩;rcases Ep (ř b) x c.2.1 with f|f|f
    ·rw[f] at h; cases h
    ·rw[f]; rfl
    ·exact absurd (du.2 ⟨x,g,by rw[f]; rfl⟩) d
   ·rintro⟨x,g,h⟩;refine⟨x,g,?_⟩;rw[eq_of_beq h]; rfl
  rw[e]
def aaw {b:ø} {id d:Int}:(Ŋ b id d==5)=(b.2.1.findIdx? (fun g=>g.1==id)).isNone:=by
 unfold Ŋ;rcases qL (b:=b) (id:=id) with⟨j,g,a,h2,e⟩|⟨a,h2⟩
 ·rw[a,e]
  try dsimp only
  split<;>rfl
 ·rw[a,h2]; rfl
set_option maxHeartbeats 1000000 in
def aad {b:ø} (A:jz b) {c:Cmp} (H:c.2.2.1.length<=1000) (G:c.2.2.2.1.length<=1000):kJ b c=some (CL b c):=by
 have J:=A.gauges;have I:=A.loans;unfold kJ xg CL;rw[Ñ (by omega),Am.iff_true,List.nil_append,Ñ (by omega),Am.iff_true]
 have C:(c.2.2.1++c.2.2.2.1).length<=2000:=by rw[cZ]; omega
 generalize F:c.2.2.1++c.2.2.2.1=P at C
 have r:∀{i:Nat},i<P.length->((ile (0:Int) (i:Int))&&(ilt (i:Int) (ì P)))=true:=fun {i} hi=>by simp[ile,ilt,ì]; omega
 have p:Ê (fun(n:Int) h=>Ι b.1.1 b.1.2 b.2.1 b.2.2.1 b.2.2.2.1 b.2.2.2.2.1 b.2.2.2.2.2 c.2.1 P n (fun o=>h o) (fun l=>some l) (fun _=>Ã (jx c.2.2.1 c.2.2.2.1) fun f=>Ã (jx c.2.2.2.1 c.2.2.1) fun d=>ifb (igt (Ó f) (1:Int)) (some (1:Int)) (ifb (igt (Ó d) (1:Int)) (some (1:Int)) (ck ((Ó f)+(Ó d)) fun q=>ifb (ieq q (0:Int)) (some (1:Int)) (some (0:Int)))))) (0:Int) =
  some (if P.any (fun id=>(Ř b id c.2.1).isSome) then 9 else if 1<(Ü c.2.2.1 c.2.2.2.1).length then 1 else if 1<(Ü c.2.2.2.1 c.2.2.1).length then 1 else if (Ü c.2.2.1 c.2.2.2.1).length+(Ü c.2.2.2.1 c.2.2.1).length=0 then 1 else 0):=by
  refine d9 (đ P (fun id=>(Ř b id c.2.1).isSome) (fun _=>some 9) (some 9) (some (if 1<(Ü c.2.2.1 c.2.2.2.1).length then 1 else if 1<(Ü c.2.2.2.1 c.2.2.1).length then 1 else if (Ü c.2.2.1 c.2.2.2.1).length+(Ü c.2.2.2.1 c.2.2.1).length=0 then 1 else 0)) (fun _=>rfl) (fun i a hi ha s=>?_) (fun s=>?_)) ?_
  ·try dsimp only
   unfold Ι;rw[Í hi,á (r hi),ă ha,MB (b:=((b.1.1,b.1.2),b.2.1,b.2.2.1,b.2.2.2.1,b.2.2.2.2.1,b.2.2.2.2.2)) (by simp only; omega),À,È hi (by omega)];have e:Ř ((b.1.1,b.1.2),b.2.1,b.2.2.1,b.2.2.2.1,b.2.2.2.2.1,b.2.2.2.2.2) a c.2.1=Ř b a c.2.1:=rfl;rw[e]
   cases Ř b a c.2.1<;>rfl
  ·try dsimp only
   unfold Ι;rw[Ò];dsimp only;have E:=rS c.2.2.1 c.2.2.2.1;have D:=rS c.2.2.2.1 c.2.2.1;rw[IU (by omega) (by omega),À,IU (by omega) (by omega),À];simp only[Ï]
   by_cases z:1<(Ü c.2.2.1 c.2.2.2.1).length
   ·rw[Ð (by simp[igt]; omega),if_pos z]
   ·rw[Ì (by simp[igt]; omega),if_neg z]
    by_cases y:1<(Ü c.2.2.2.1 c.2.2.1).length
    ·rw[Ð (by simp[igt]; omega),if_pos y]
    ·rw[Ì (by simp[igt]; omega),if_neg y,Î (by omega) (by omega)]
     by_cases x:(Ü c.2.2.1 c.2.2.2.1).length+(Ü c.2.2.2.1 c.2.2.1).length=0
     ·rw[Ð (by simp[ieq]; omega),if_pos x]
     ·rw[Ì (by simp[ieq]; omega),if_neg x]
  ·cases P.any _<;>rfl
 have k:Ê (fun(u:Int) t=>jv b.1.1 b.1.2 b.2.1 b.2.2.1 b.2.2.2.1 b.2.2.2.2.1 b.2.2.2.2.2 c.2.1 P u (fun v=>t v) (fun B=>some B) (fun _=>Ê (fun(n:Int) h=>Ι b.1.1 b.1.2 b.2.1 b.2.2.1 b.2.2.2.1 b.2.2.2.2.1 b.2.2.2.2.2 c.2.1 P n (fun o=>h o) (fun l=>some l) (fun _=>Ã (jx c.2.2.1 c.2.2.2.1) fun f=>Ã (jx c.2.2.2.1 c.2.2.1) fun d=>ifb (igt (Ó f) (1:Int)) (some (1:Int)) (ifb (igt (Ó d) (1:Int)) (some (1:Int)) (ck ((Ó f)+(Ó d)) fun q=>ifb (ieq q (0:Int)) (some (1:Int)) (some (0:Int)))))) (0:Int))) (0:Int) =
  some (if P.any (fun id=>Ŋ b id c.2.1 != 0) then 4 else if P.any (fun id=>(Ř b id c.2.1).isSome) then 9 else if 1<(Ü c.2.2.1 c.2.2.2.1).length then 1 else if 1<(Ü c.2.2.2.1 c.2.2.1).length then 1 else if (Ü c.2.2.1 c.2.2.2.1).length+(Ü c.2.2.2.1 c.2.2.1).length=0 then 1 else 0):=by
  rw[p];refine d9 (đ P (fun id=>Ŋ b id c.2.1 != 0) (fun _=>some 4) (some 4) (some (if P.any (fun id=>(Ř b id c.2.1).isSome) then 9 else if 1<(Ü c.2.2.1 c.2.2.2.1).length then 1 else if 1<(Ü c.2.2.2.1 c.2.2.1).length then 1 else if (Ü c.2.2.1 c.2.2.2.1).length+(Ü c.2.2.2.1 c.2.2.1).length=0 then 1 else 0)) (fun _=>rfl) (fun i a hi ha s=>?_) (fun s=>?_)) ?_
  ·try dsimp only
   unfold jv;rw[Í hi,á (r hi),ă ha,Bc (b:=((b.1.1,b.1.2),b.2.1,b.2.2.1,b.2.2.2.1,b.2.2.2.2.1,b.2.2.2.2.2)) (by simp only; omega),À,È hi (by omega)];have e:Ŋ ((b.1.1,b.1.2),b.2.1,b.2.2.1,b.2.2.2.1,b.2.2.2.2.1,b.2.2.2.2.2) a c.2.1=Ŋ b a c.2.1:=rfl;rw[e,õ]
  ·try dsimp only
   unfold jv;rw[Ò]
  ·cases P.any (fun id=>Ŋ b id c.2.1 != 0)<;>rfl
 rw[k];refine d9 (đ P (fun id=>Ŋ b id c.2.1==5) (fun _=>some 5) (some 5) (some (if P.any (fun id=>Ŋ b id c.2.1 != 0) then 4 else if P.any (fun id=>(Ř b id c.2.1).isSome) then 9 else if 1<(Ü c.2.2.1 c.2.2.2.1).length then 1 else if 1<(Ü c.2.2.2.1 c.2.2.1).length then 1 else if (Ü c.2.2.1 c.2.2.2.1).length+(Ü c.2.2.2.1 c.2.2.1).length=0 then 1 else 0)) (fun _=>rfl) (fun i a hi ha s=>?_) (fun s=>?_)) ?_
 ·try dsimp only
  unfold lP;rw[Í hi,á (r hi),ă ha,Cc (b:=((b.1.1,b.1.2),b.2.1,b.2.2.1,b.2.2.2.1,b.2.2.2.2.1,b.2.2.2.2.2)) (by simp only; omega),À,È hi (by omega),aaw]
  try dsimp only
  cases List.findIdx? (fun g:é=>g.1==a) b.2.1 with
  |none=>rfl
  |some j =>
   have:ilt (j:Int) 0=false:=by simp[ilt]
   rw[Ì this]; rfl
 ·try dsimp only
  unfold lP;rw[Ò]
 ·cases P.any (fun id=>Ŋ b id c.2.1==5)<;>rfl
structure Pre (b:ø):Prop where
 size:jz b
 gauge:∀g∈b.2.1,rX g=true
 cmp:∀c∈b.2.2.2.2.1,BW c.2.1=true/\(Ü c.2.2.1 c.2.2.2.1).length<=1/\(Ü c.2.2.2.1 c.2.2.1).length<=1
 look:∀n∈b.2.2.2.2.2,BW n.2=true
def X9 {c:Cmp} (h:Jf c=true):BW c.2.1=true:=by
 have:=((ų c).1 h).2.1;simp[BW,inP,this.1,this.2]
def ţ.pre {b:ø} (h:ţ b):Pre b :=
 ⟨h.size,h.gauge,fun c a=>⟨X9 (h.nums a),(h.lefts a).1,(h.lefts a).2.1⟩,fun n d=>(by have:=(WZ h (h.looks n d)).1; simp[BW,inP,this.1,this.2])⟩
def U5 {a b:CK Int} (h:(Ü a b).length<=1) {id:Int} (h0:id≠0):KU a b=id↔id∈a/\id∉b:=by
 rw[<-lz];unfold KU
 cases d:Ü a b with
 |nil =>
  simp only[List.head?_nil,Option.getD_none,ip,iff_false];exact fun e=>h0 e.symm
 |cons x t =>
  have:t=[]:=by
   rw[d] at h;simp only[dh] at h;exact dE.1 (by omega)
  subst this;simp only[List.head?_cons,fU,di];exact eq_comm
def LU (b:ø) (g:é) (d:Int):Bool :=
 g.2.1==d||b.2.2.2.2.1.any (fun c=>c.2.1==d&&(KU c.2.2.1 c.2.2.2.1==g.1||KU c.2.2.2.1 c.2.2.1==g.1))||b.2.2.2.2.2.any (fun n=>n.1==g.1&&n.2==d)
def alR {b:ø} (p:jz b) (g:é) (d:Int):Im b g d=some (LU b g d):=by
 have f:=p.compares;have h2:=p.looks;unfold Im YM LU
 cases q:(g.2.1==d) with
 |true =>
  have:ieq g.2.1 d=true:=q;rw[Ð this];simp
 |false =>
  have:ieq g.2.1 d=false:=q;rw[Ì this]
  have e:Ê (fun(k:Int) h=>oV d b.2.2.2.2.2 g.1 k (fun l=>h l) (fun j=>some j) (fun _=>some false)) (0:Int)=some (b.2.2.2.2.2.any (fun n=>n.1==g.1&&n.2==d)):=by
   refine d9 (đ b.2.2.2.2.2 (fun n=>n.1==g.1&&n.2==d) (fun _=>some true) (some true) (some false) (fun _=>rfl) (fun i a hi ha o=>?_) (fun o=>?_)) ?_
   ·try dsimp only
    unfold oV;rw[Í hi,Æ ha,Æ ha,È hi (by omega)]
    cases f:(a.1==g.1) with
    |false=>have:ieq a.1 g.1=false:=f; simp[this]
    |true =>
     have:ieq a.1 g.1=true:=f;rw[this]
     cases h2:(a.2==d) with
     |false=>have:ieq a.2 d=false:=h2; simp[this]
     |true=>have:ieq a.2 d=true:=h2; simp[this]
   ·try dsimp only
    unfold oV;rw[Ò]
   ·cases b.2.2.2.2.2.any _<;>rfl
  rw[e];refine d9 (đ b.2.2.2.2.1 (fun c=>c.2.1==d&&(KU c.2.2.1 c.2.2.2.1==g.1||KU c.2.2.2.1 c.2.2.1==g.1)) (fun _=>some true) (some true) (some (b.2.2.2.2.2.any (fun n=>n.1==g.1&&n.2==d))) (fun _=>rfl) (fun i a hi ha o=>?_) (fun o=>?_)) ?_
  ·have s:=p.piles a (de ha)
   try dsimp only
   unfold tQ;rw[Í hi,Æ ha,J7 (by omega) (by omega),J7 (by omega) (by omega),È hi (by omega)];simp only[À]
   cases f:(a.2.1==d) with
   |false=>have:ieq a.2.1 d=false:=f; simp[this]
   |true =>
    have:ieq a.2.1 d=true:=f;rw[this]
    cases h2:(KU a.2.2.1 a.2.2.2.1==g.1) with
    |true=>have:ieq (KU a.2.2.1 a.2.2.2.1) g.1=true:=h2; simp[this]
    |false =>
     have:ieq (KU a.2.2.1 a.2.2.2.1) g.1=false:=h2;rw[this]
     cases r:(KU a.2.2.2.1 a.2.2.1==g.1) with
     |true=>have:ieq (KU a.2.2.2.1 a.2.2.1) g.1=true:=r; simp[this]
     |false=>have:ieq (KU a.2.2.2.1 a.2.2.1) g.1=false:=r; simp[this]
  ·try dsimp only
   unfold tQ;rw[Ò]
  ·cases b.2.2.2.2.1.any _<;>rfl
def ajt {b:ø} (h:Pre b) {g:é} (n:g∈b.2.1) {d:Int}:LU b g d=true↔d∈Ý b g:=by
 have a:g.1≠0:=by
  have:=((wo g).1 (h.gauge g n)).2.2.2.1;omega
 rw[Ž];unfold LU;simp only[Bool.or_eq_true,List.any_eq_true,Bool.and_eq_true,beq_iff_eq,or_assoc];refine or_congr eq_comm (or_congr ?_ Iff.rfl);constructor
 ·rintro⟨c,f,e,i⟩;obtain⟨_,k,j⟩:=h.cmp c f;refine⟨c,f,?_,e⟩;rw[U5 k a,U5 j a] at i;intro l;rw[eN,dJ,dJ] at l;rcases i with⟨x,y⟩|⟨x,y⟩
  ·exact y (l.1 x)
  ·exact y (l.2 x)
 ·rintro⟨c,f,i,e⟩;obtain⟨_,k,j⟩:=h.cmp c f;refine⟨c,f,e,?_⟩;rw[U5 k a,U5 j a]
  by_cases ha:g.1∈c.2.2.1
  ·by_cases hb:g.1∈c.2.2.2.1
   ·exact absurd (by rw[eN,dJ,dJ]; exact⟨fun _=>hb,fun _=>ha⟩) i
   ·exact .inl ⟨ha,hb⟩
  ·by_cases hb:g.1∈c.2.2.2.1
   ·exact .inr ⟨hb,ha⟩
   ·exact absurd (by rw[eN,dJ,dJ]; exact⟨fun x=>absurd x ha,fun x=>absurd x hb⟩) i
def nx (v:Int) (D:CK Int):Int:=D.foldl (fun m d=>if v<d then min m d else m) 20001
def ag4 (v:Int) (D:CK Int) (d:Int):nx v (D++[d])=if v<d then min (nx v D) d else nx v D:=by
 unfold nx;rw[List.foldl_append];rfl
def U6 (v:Int):∀D:CK Int,nx v D<=20001/\(∀d∈D,v<d->nx v D<=d)/\(nx v D=20001\/(nx v D∈D/\v<nx v D)):=by
 suffices H:∀(n:Nat) (D:CK Int),D.length=n->nx v D<=20001/\(∀d∈D,v<d->nx v D<=d)/\(nx v D=20001\/(nx v D∈D/\v<nx v D)) from fun D=>H _ D rfl
 intro n
 induction n with
 |zero =>
  intro D k;rw[dE.1 k];exact⟨dT _,by simp,.inl rfl⟩
 |succ n j =>
  intro i f
  obtain⟨D,d,rfl⟩:∃D d,i=D++[d]:=by
   rcases List.eq_nil_or_concat i with rfl|⟨L,b,rfl⟩
   ·simp at f
   ·exact⟨L,b,by simp⟩
  obtain⟨l,h2,a⟩:=j D (by simpa using f);rw[ag4]
  by_cases hd:v<d
  ·rw[if_pos hd];refine⟨by omega,fun x e g=>?_,?_⟩
   ·rcases df.1 e with e|e
    ·have:=h2 x e g; omega
    ·rw[di] at e; omega
   ·rcases Int.le_total (nx v D) d with h|h
    ·rw[Int.min_eq_left h];rcases a with a|a
     ·exact .inl a
     ·exact .inr ⟨by simp[a.1],a.2⟩
    ·rw[Int.min_eq_right h];exact .inr ⟨by simp,hd⟩
  ·rw[if_neg hd];refine⟨l,fun x e g=>?_,?_⟩
   ·rcases df.1 e with e|e
    ·exact h2 x e g
    ·rw[di] at e; omega
   ·rcases a with a|a
    ·exact .inl a
    ·exact .inr ⟨by simp[a.1],a.2⟩
def am0 {D:CK Int} (o:D.length<=1000000) (v:Int) (K:Int->BY (CK (Int×Int))) :
 Ê (fun(d:Int×Int) e=>mS v D d.1 d.2 (fun g f=>e (g,f)) K) ((20001:Int),(0:Int))=K (nx v D):=by
 refine è (fun x:Int×Int=>∃k:Nat,k<=D.length/\x=(nx v (D.take k),(k:Int))) (fun x=>D.length-x.2.toNat) ?_ ⟨0,by omega,rfl⟩;rintro x ⟨k,n,rfl⟩;rcases dk k D.length with a|l
 ·refine .inr ⟨(nx v (D.take (k+1)),((k+1:Nat):Int)),⟨k+1,a,rfl⟩,by simp only[Int.toNat_natCast]; omega,fun i=>?_⟩;have ha:D[k]?=some D[k]:=List.getElem?_eq_getElem a;unfold mS;have j:ì D=((D.length:Nat):Int):=rfl;rw[Í a,j,Ş a,ă ha,take_succ ha,ag4]
  by_cases h:v<D[k]
  ·rw[Ð (by simpa[igt] using h),Ş a,ă ha,È a (by omega),if_pos h,VX];simp
  ·rw[Ì (by simpa[igt] using h),È a (by omega),if_neg h];simp
 ·have:k=D.length:=by omega
  subst this;refine .inl fun i=>?_;unfold mS;rw[Ò,List.take_length]
def afL (b:ø) (g:é) (D:CK Int) (v:Int):CK Int:=(Xl D).filter fun d=>decide (v<d)&&LU b g d
def Qx {b:ø} {g:é} {D:CK Int} (n:∀d∈D,d<=20000) (v:Int):afL b g D v=if nx v D<20001 then(if LU b g (nx v D) then nx v D::afL b g D (nx v D) else afL b g D (nx v D)) else[]:=by
 obtain⟨o,h2,f⟩:=U6 v D;refine abP ((Ed D).sublist gO) ?_ fun x=>?_
 ·split
  ·split
   ·rw[dI];refine⟨fun a ha=>?_,(Ed D).sublist gO⟩;have:=(dK.1 ha).2;simp at this;omega
   ·exact(Ed D).sublist gO
  ·exact List.Pairwise.nil
 ·have i:∀v x,x∈afL b g D v↔x∈D/\v<x/\LU b g x=true:=by
   intro v x;unfold afL;rw[List.mem_filter,wP];simp
  rw[i]
  split
  ·rename_i k
   have j:nx v D∈D/\v<nx v D:=by
    rcases f with f|f
    ·omega
    ·exact f
   split
   ·rename_i ha;rw[dg,i];constructor
    ·rintro⟨a,c,e⟩;have:=h2 x a c;rcases Int.lt_or_eq_of_le this with h|h
     ·exact .inr ⟨a,h,e⟩
     ·exact .inl h.symm
    ·rintro(rfl|⟨a,c,e⟩)
     ·exact⟨j.1,j.2,ha⟩
     ·exact⟨a,by omega,e⟩
   ·rename_i ha;rw[i];constructor
    ·rintro⟨a,c,e⟩;have:=h2 x a c;rcases Int.lt_or_eq_of_le this with h|h
     ·exact⟨a,h,e⟩
     ·rw[<-h] at e; exact absurd e ha
    ·rintro⟨a,c,e⟩;exact⟨a,by omega,e⟩
  ·rename_i l;constructor
   ·rintro⟨a,c,e⟩;have:=h2 x a c;have:=n x a;omega
   ·intro h; cases h
def alG {b:ø} {g:é} {D:CK Int} (v:Int):(afL b g D v).length<=D.length :=
 dr (dW _ _) (FC D)
set_option maxHeartbeats 1000000 in
def ak9 {b:ø} (f:jz b) {i:Nat} {g:é} (s:b.2.1[i]?=some g) {D:CK Int} (A:D.length<=1000000) (l:∀d∈D,d<=20000) {out:CK (Int×Int)} (E:out.length+D.length<=1000000000) (K:CK (Int×Int)->BY (CK (Int×Int))) :
 Ê (fun(j:Int×CK (Int×Int)) k=>mT (i:Int) b.1.1 b.1.2 b.2.1 b.2.2.1 b.2.2.2.1 b.2.2.2.2.1 b.2.2.2.2.2 D j.1 j.2 (fun q p=>k (q,p)) K) ((-1:Int),out)=K (out++(afL b g D (-1)).map fun d=>((g.1,d):Int×Int)):=by
 refine è (fun x:Int×CK (Int×Int)=>x.2++(afL b g D x.1).map (fun d=>((g.1,d):Int×Int))=out++(afL b g D (-1)).map fun d=>((g.1,d):Int×Int)) (fun x=>(20001-x.1).toNat) ?_ rfl;rintro⟨v,o⟩ h;simp only at h
 by_cases r:v<20001
 ·obtain⟨F,h2,n⟩:=U6 v D
  have z:v<nx v D:=by
   rcases n with n|n
   ·omega
   ·exact n.2
  refine .inr ⟨(nx v D,if nx v D<20001/\LU b g (nx v D)=true then o++[(g.1,nx v D)] else o),?_,by simp only; omega,fun t=>?_⟩
  ·rw[<-h];simp only;rw[Qx l v]
   by_cases ha:nx v D<20001
   ·rw[if_pos ha]
    cases u:LU b g (nx v D) with
    |true=>rw[if_pos ⟨ha,rfl⟩,if_pos rfl]; simp
    |false=>rw[if_neg (by simp),if_neg (by simp)]
   ·rw[if_neg (by omega),if_neg ha]
    have:afL b g D (nx v D)=[]:=by
     have e:=Qx (b:=b) (g:=g) l (nx v D);rw[e,if_neg];obtain⟨C,B,a⟩:=U6 (nx v D) D;rcases a with a|a
     ·omega
     ·have:=l _ a.1; omega
    rw[this]
  ·unfold mT;rw[Ð (by simpa[ilt] using r)];refine Eq.trans (am0 A v _) ?_;dsimp only
   by_cases ha:nx v D<20001
   ·rw[Ð (by simpa[ilt] using ha),Æ s,alR (b:=((b.1.1,b.1.2),b.2.1,b.2.2.1,b.2.2.2.1,b.2.2.2.2.1,b.2.2.2.2.2)) ⟨f.gauges,f.uses,f.loans,f.compares,f.looks,f.piles⟩,À];have e:LU ((b.1.1,b.1.2),b.2.1,b.2.2.1,b.2.2.2.1,b.2.2.2.2.1,b.2.2.2.2.2) g (nx v D)=LU b g (nx v D):=rfl;rw[e]
    cases u:LU b g (nx v D) with
    |true =>
     have y:o.length<=1000000000:=by
      have:=congrArg List.length h;simp only[cZ,dD] at this;have:=alG (b:=b) (g:=g) (D:=D) (-1);omega
     rw[Ð rfl,Æ s,Ñ (by simp only[dS]; omega),Am.iff_true,if_pos ⟨ha,rfl⟩]
    |false=>rw[Ì rfl,if_neg (by simp)]
   ·rw[Ì (by simpa[ilt] using ha),if_neg (by omega)]
 ·refine .inl fun t=>?_;unfold mT;rw[Ì (by simpa[ilt] using r)]
  have:afL b g D v=[]:=by
   rw[Qx l,if_neg];obtain⟨C,B,a⟩:=U6 v D;rcases a with a|a
   ·omega
   ·have:=l _ a.1; omega
  rw[this] at h;simp only[fo,dv] at h;rw[h]
def Ba (b:ø):CK Int:=b.2.1.map (fun g=>g.2.1)++b.2.2.2.2.1.map (fun c=>c.2.1)++b.2.2.2.2.2.map fun n=>n.2
def abR {b:ø} (a:jz b):(Ba b).length<=3000:=by
 have e:=a.gauges; have h2:=a.compares; have d:=a.looks;simp only[Ba,cZ,dD];omega
def Pre.days {b:ø} (h:Pre b):∀d∈Ba b,0<=d/\d<=20000:=by
 intro d hd;simp only[Ba,df,dz] at hd;rcases hd with(⟨g,e,rfl⟩|⟨c,f,rfl⟩)|⟨n,a,rfl⟩
 ·have:=((wo g).1 (h.gauge g e)).2.2.2.2.1;omega
 ·have:=(h.cmp c f).1;simp only[BW,inP,cY,decide_eq_true_eq] at this;exact this
 ·have:=h.look n a;simp only[BW,inP,cY,decide_eq_true_eq] at this;exact this
def ajw {b:ø} (h:Pre b) {g:é} (f:g∈b.2.1):afL b g (Ba b) (-1)=Ý b g:=by
 refine abP ((Ed _).sublist List.filter_sublist) (si b g) fun x=>?_;unfold afL;rw[List.mem_filter,wP,Bool.and_eq_true,ajt h f,decide_eq_true_eq];constructor
 ·exact fun a=>a.2.2
 ·intro a
  have d:x∈Ba b:=by
   simp only[Ba,df,dz];rcases Ž.1 a with e|⟨c,j,_,e⟩|⟨n,i,_,e⟩
   ·exact .inl (.inl ⟨g,f,e.symm⟩)
   ·exact .inl (.inr ⟨c,j,e⟩)
   ·exact .inr ⟨n,i,e⟩
  have:=h.days x d;exact⟨d,by omega,a⟩
def Vd {α:Type} (f:α->Int) (l:CK α) (s:CK Int) (i:Nat) {a:α} (ha:l[i]?=some a):s++(l.take (i+1)).map f=(s++(l.take i).map f)++[f a]:=by
 rw[take_succ ha,fk,dj]; rfl
def IR {b:ø} (h:Pre b):kK b=some (Ô b):=by
 have o:=h.size.gauges; have h2:=h.size.compares; have l:=h.size.looks;have k:=abR h.size;unfold kK Tu;refine î b.2.1 (fun i=>(b.2.1.take i).map (fun g=>g.2.1)) _ rfl (fun i a hi ha e=>?_) (fun e=>?_)
 ·try dsimp only
  unfold qg;have:=Vd (fun g:é=>g.2.1) b.2.1 [] i ha;simp only[List.nil_append] at this;rw[Í hi,Æ ha,Ñ (by simp only[List.length_map,List.length_take,List.length_singleton]; omega),Am.iff_true,È hi (by omega),this]
 ·try dsimp only
  unfold qg;rw[Ò,List.take_length];dsimp only;refine î b.2.2.2.2.1 (fun i=>b.2.1.map (fun g=>g.2.1)++(b.2.2.2.2.1.take i).map (fun c=>c.2.1)) _ (by simp) (fun i a hi ha e=>?_) (fun e=>?_)
  ·try dsimp only
   unfold qf;rw[Í hi,Æ ha,Ñ (by simp only[List.length_append,List.length_map,List.length_take,List.length_singleton]; omega),Am.iff_true,È hi (by omega),Vd (fun c:Cmp=>c.2.1) b.2.2.2.2.1 _ i ha]
  ·try dsimp only
   unfold qf;rw[Ò,List.take_length];dsimp only;refine î b.2.2.2.2.2 (fun i=>b.2.1.map (fun g=>g.2.1)++b.2.2.2.2.1.map (fun c=>c.2.1)++(b.2.2.2.2.2.take i).map (fun n=>n.2)) _ (by simp) (fun i a hi ha e=>?_) (fun e=>?_)
   ·try dsimp only
    unfold qe;rw[Í hi,Æ ha,Ñ (by simp only[List.length_append,List.length_map,List.length_take,List.length_singleton]; omega),Am.iff_true,È hi (by omega),Vd (fun n:Int×Int=>n.2) b.2.2.2.2.2 _ i ha]
   ·try dsimp only
    unfold qe;rw[Ò,List.take_length];dsimp only;rw[show b.2.1.map (fun g=>g.2.1)++b.2.2.2.2.1.map (fun c=>c.2.1)++b.2.2.2.2.2.map (fun n=>n.2)=Ba b from rfl];refine î b.2.1 (fun i=>(b.2.1.take i).flatMap fun g=>(Ý b g).map fun d=>((g.1,d):Int×Int)) _ rfl (fun i g hi f e=>?_) (fun e=>?_)
    ·try dsimp only
     unfold qd;rw[Í hi]
     have j:((b.2.1.take i).flatMap fun g=>(Ý b g).map fun d=>((g.1,d):Int×Int)).length<=2001000:=by
      have:=xN (fun g:é=>(Ý b g).map fun d=>((g.1,d):Int×Int)) 2001 (fun g=>by rw[dD]; exact IB h.size g) (b.2.1.take i);rw[dl] at this;have:min i b.2.1.length*2001<=1000*2001:=dC _ (by omega);omega
     refine d9 (ak9 h.size f (by omega) (fun d hd=>(h.days d hd).2) (by omega) _) ?_;rw[È hi (by omega),ajw h (de f),take_succ f,eQ];simp
    ·try dsimp only
     unfold qd;rw[Ò,List.take_length];rfl
def aiF {k:Int×Int} (d:0<k.2) (m n:Int):0<amm (F3 k m) (F3 k n)↔k.1*n<k.1*m:=by
 obtain⟨g,q,_,p,o⟩:=Bi (n:=k.1*m) d;obtain⟨h,h0,_,l,h2⟩:=Bi (n:=k.1*n) d
 have key:(F3 k n).1*(F3 k m).2<(F3 k m).1*(F3 k n).2↔k.1*n<k.1*m:=by
  have i:(F3 k n).1*(F3 k m).2*((g:Int)*h)=k.1*n*k.2:=by
   show(pv (k.1*n) k.2).1*(pv (k.1*m) k.2).2*((g:Int)*h)=k.1*n*k.2
   calc _=((pv (k.1*n) k.2).1*h)*((pv (k.1*m) k.2).2*g):=by ac_rfl
    _=_:=by rw[<-l,<-o]
  have f:(F3 k m).1*(F3 k n).2*((g:Int)*h)=k.1*m*k.2:=by
   show(pv (k.1*m) k.2).1*(pv (k.1*n) k.2).2*((g:Int)*h)=k.1*m*k.2
   calc _=((pv (k.1*m) k.2).1*g)*((pv (k.1*n) k.2).2*h):=by ac_rfl
    _=_:=by rw[<-p,<-h2]
  have j:0<(g:Int)*h:=Int.mul_pos (by omega) (by omega);constructor
  ·intro a;have:=Int.mul_lt_mul_of_pos_right a j;rw[i,f] at this;exact Int.lt_of_mul_lt_mul_right this (by omega)
  ·intro a;have:=Int.mul_lt_mul_of_pos_right a d;rw[<-i,<-f] at this;exact Int.lt_of_mul_lt_mul_right this (by omega)
 rw[<-key];unfold amm
 by_cases e:F3 k m=F3 k n
 ·rw[if_pos e,e];omega
 ·rw[if_neg e]
  split
  ·omega
  ·split<;>omega
def aex {k:Int×Int} (d:0<k.2) {heat:Int×Int} (e:heat.1<=heat.2):UZ k heat=if k.1<0 then(F3 k heat.2,F3 k heat.1) else(F3 k heat.1,F3 k heat.2):=by
 unfold UZ
 by_cases a:k.1<0
 ·rw[if_pos a]
  by_cases f:heat.1=heat.2
  ·rw[f]
   split<;>rfl
  ·rw[if_pos ((aiF d _ _).2 (Int.mul_lt_mul_of_neg_left (by omega) a))]
 ·rw[if_neg a,if_neg (fun h=>by
   have g:=(aiF d _ _).1 h;have h2:=Int.mul_le_mul_of_nonneg_left e (show 0<=k.1 by omega)
   omega)]
def Uv {n d:Int} (hd:0<d) (k:n.natAbs<=2147483647) (f:d<=2147483647):sd n d=some (pv n d,0):=by
 obtain⟨g,h0,o,p,h2⟩:=Bi (n:=n) hd;have s:=(lH _).1 (UH hd k f)
 have z:oy d 0=false:=by simp[oy]; omega
 have h:oy (g:Int) 0=false:=by simp[oy]; omega
 unfold sd OX
 by_cases a:n=0
 ·subst a
  have e:pv 0 d=(0,1):=by
   unfold pv
   have:(Nat.gcd (0:Int).natAbs d.natAbs:Int)=d:=by simp; omega
   rw[this,Int.ediv_self (by omega)];simp
  rw[Ì (by rfl),Ì z,Î (by simp) (by simp),Ì z,Int.tdiv_self (by omega),Î (by omega) (by omega),Int.zero_tdiv,e];rfl
 ·rw[Ð (by simpa[ine] using a),Ì z];have a0:(Int.tmod n d).natAbs=n.natAbs % d.natAbs:=ix n d;have l:=hZ n.natAbs (show 0<d.natAbs by omega);rw[ajM ⟨by omega,by omega⟩,À]
  have r:d=((d.natAbs:Nat):Int):=by omega
  have q:BO ((Int.tmod n d).natAbs:Int) d=some (g:Int):=by
   have:=ajJ (Int.tmod n d).natAbs d.natAbs;rw[<-r] at this;rw[this,a0,o];congr 2;rw[iw n.natAbs,Nat.gcd_rec d.natAbs n.natAbs]
  rw[q,À,Ì h]
  have j:Int.tdiv n (g:Int)=(pv n d).1:=by
   conv=>lhs; rw[p]
   exact gN _ (by omega)
  have i:Int.tdiv d (g:Int)=(pv n d).2:=by
   conv=>lhs; rw[h2]
   exact gN _ (by omega)
  rw[j,i,Î (by omega) (by omega),Ì h,Î (by omega) (by omega),Ì (by simp[igt]; omega),Ì (by simp[ilt]; omega),Ì (by simp[igt]; omega)]
def anL {x y:Int×Int} (d:sH x 1000 100) (a:sH y 1000 100):Mp x y=some (subP x y,0):=by
 obtain⟨j,g,b3⟩:=I3 d a;have i:=oh d.num (show -100<=y.2/\y.2<=100 from⟨by have:=a.pos; omega,a.den⟩);have h2:=oh a.num (show -100<=x.2/\x.2<=100 from⟨by have:=d.pos; omega,d.den⟩);have h:=a.num;unfold Mp acU Wg acV Wh acY;rw[Î (by omega) (by omega),À];dsimp only
 have e:(0-y.1)*x.2 = -(y.1*x.2):=by rw[Int.zero_sub,Int.neg_mul]
 rw[Î (by omega) (by omega),e,Î (by omega) (by omega),Î (by omega) (by omega),Î (by omega) (by omega)]
 have f:x.1*y.2 + -(y.1*x.2)=x.1*y.2-y.1*x.2:=by omega
 rw[f,Uv g (by omega) (by omega),À,À];rfl
def ajI {k:Int×Int} (a:sH k 200000 10000) {n:Int} (d : -10000<=n/\n<=10000):xY (n,1) k=some (F3 k n,0):=by
 have b:=Ji a d;have p:=a.pos;have q:=a.den;unfold xY acW;have e:n*k.1=k.1*n:=Int.mul_comm _ _;dsimp only;rw[e,Int.one_mul,Î (by omega) (by omega),Î (by omega) (by omega),Uv (by omega) (by omega) (by omega),À];rfl
def ajH {k:Int×Int} (d:sH k 200000 10000) {heat:Int×Int} (e:kp heat (-10000) 10000=true):BN ((heat.1,1),(heat.2,1)) k=some (UZ k heat,0):=by
 simp only[kp,Bool.and_eq_true,decide_eq_true_eq] at e;have f:=d.pos;rw[aex (by omega) e.2.1];unfold BN TA Iq YY;dsimp only;rw[ajI d ⟨by omega,by omega⟩,ajI d ⟨by omega,by omega⟩]
 by_cases a:k.1<0
 ·rw[Ð (by simpa[ilt] using a),if_pos a];rfl
 ·rw[Ì (by simpa[ilt] using a),if_neg a];rfl
def ajD {r:Int×Int} (h:Kj r=true):BP r=some (r.1 / r.2):=by
 have:=(lH r).1 h;have e:=V9 (n:=r.1) (d:=r.2) (by omega) (by omega);unfold wz Pg at e;unfold BP TC P0 YX;rw[e];rfl
def alQ {r:Int×Int} (h:Kj r=true):Ir r=some (Sf r):=by
 have d:=(lH r).1 h;unfold Ir Y4 abm aht
 have z:oy r.2 0=false:=by simp[oy]; omega
 have t:=Int.mul_tdiv_add_tmod r.1 r.2
 have i : -4000000000<=Int.tdiv r.1 r.2/\Int.tdiv r.1 r.2<=4000000000:=by
  have:=Int.natAbs_tdiv_le_natAbs r.1 r.2;omega
 have g : -r.2<Int.tmod r.1 r.2/\Int.tmod r.1 r.2<r.2:=by
  have f:=ix r.1 r.2;have e:=hZ r.1.natAbs (show 0<r.2.natAbs by omega);omega
 rw[Ì z,Î (by omega) (by omega),Ì z,õ];unfold Sf
 by_cases a:0<Int.tmod r.1 r.2
 ·rw[if_pos (by simpa[igt] using a),Î (by omega) (by omega),À];congr 1
  have : -r.1 / r.2 = -(Int.tdiv r.1 r.2)-1:=by
   refine(gA (by omega)).2 ⟨?_,?_⟩
   ·rw[Int.sub_mul,Int.neg_mul,f5 (Int.tdiv r.1 r.2)]; omega
   ·rw[Int.sub_mul,Int.neg_mul,f5 (Int.tdiv r.1 r.2)]; omega
  omega
 ·rw[if_neg (by simpa[igt] using a),À];congr 1
  have : -r.1 / r.2 = -(Int.tdiv r.1 r.2):=by
   refine(gA (by omega)).2 ⟨?_,?_⟩
   ·rw[Int.neg_mul,f5 (Int.tdiv r.1 r.2)]; omega
   ·rw[Int.neg_mul,f5 (Int.tdiv r.1 r.2)]; omega
  omega
def anV (b:ø) (g d:Int):Bool×Int:=if Qv b g [d]≠0 then(false,Qv b g [d]) else((Ř b g d).isSome,0)
def anU {b:ø} (h:In b) (g d:Int):BU b g d=some (anV b g d):=by
 have a:=h.size.loans;unfold BU adb anV;rw[ajv h g (by simp),À]
 by_cases ha:Qv b g [d]=0
 ·rw[Ì (by simp[ine,ha]),ajr (by omega),À,if_neg (by simpa using ha)]
  cases Ř b g d<;>rfl
 ·rw[Ð (by simp[ine,ha]),if_pos ha]
section
variable {ρ:Type}
def Bu {α σ:Type} (l:CK α) (g:Nat->σ) (r:BY ρ) {f:σ×Int->(σ×Int->BY ρ)->BY ρ} {k:σ} (P:Nat->Prop) (h0:g 0=k) (t:P 0)
 (h:∀(i:Nat) (a:α),i<l.length->l[i]?=some a->P i->∀d,f (g i,i) d=r\/(P (i+1)/\f (g i,i) d=d (g (i+1),(i:Int)+1)))
 (p:P l.length->∀d,f (g l.length,l.length) d=r):Ê f (k,0)=r:=by
 subst h0;refine vZ (F:=fun _=>r) (fun x=>∃i:Nat,i<=l.length/\x=(g i,(i:Int))/\P i) (fun x=>l.length-x.2.toNat) (fun x o d q=>?_) ⟨0,dZ _,rfl,t⟩;obtain⟨i,hi,rfl,n⟩:=o;rcases dk i l.length with e|s
 ·rcases h i _ e (cW e) n d with j|⟨j,h2⟩
  ·exact j
  ·rw[h2,q _ ⟨i+1,e,by simp,j⟩ (by simp; omega)]
 ·have:i=l.length:=by omega
  subst this;exact p n d
def VL {l:CK Int} {f:Int->(Int->BY ρ)->BY ρ} {K k1:BY ρ} (h:∀(i:Nat) (a b:Int),l[i]?=some a->l[i+1]?=some b->∀d,f ((i:Int)+1) d=if b<=a then K else d ((i:Int)+1+1))
 (t:∀n:Nat,l.length<=n->∀d,f n d=k1):Ê f 1=if l.Pairwise (·<·) then k1 else K:=by
 have hb:=IL (fun x:Int=>x) l;refine è (fun x=>∃i:Nat,x=(i:Int)+1/\∀j a,j<=i->l[j]?=some a->lZ (fun x=>x) l j a=false) (fun x=>l.length-x.toNat) ?_ ⟨0,rfl,fun j a k _=>?_⟩
 ·rintro x ⟨i,rfl,hi⟩;rcases dk (i+1) l.length with p|q
  ·have ha:l[i]?=some l[i]:=cW (by omega);have o:l[i+1]?=some l[i+1]:=cW p
   by_cases e:l[i+1]<=l[i]
   ·refine .inl fun d=>?_;rw[h i _ _ ha o,if_pos e,if_neg];intro s;have:=hb.2 s (i+1) _ o;simp[lZ,ha,e] at this
   ·refine .inr ⟨(i:Int)+1+1,⟨i+1,by simp,fun j a k g=>?_⟩,by omega,fun d=>by rw[h i _ _ ha o,if_neg e]⟩;rcases dk i j with r|r
    ·have:j=i+1:=by omega
     subst this;rw[o] at g; cases g;simp[lZ,ha]; omega
    ·exact hi j a r g
  ·refine .inl fun d=>?_;have:=t (i+1) q d;simp only[Int.natCast_add,Int.cast_ofNat_Int] at this;rw[this,if_pos];refine hb.1 fun j a k=>hi j a ?_ k;have:=(dc.1 k).1;omega
 ·have:j=0:=by omega
  subst this; simp[lZ]
end
def mixE (b:ø) (l:CK Mx) (i:Nat) (x:Mx):Int :=
 if !(inP x.1 0 19999&&inP x.2.length 2 5) then 1 else
 if ¬x.2.Pairwise (·<·) then 1 else
 if x.2.any (fun g=>(ï b g).isNone) then 5 else
 if x.2.any (fun g=>Ŋ b g x.1 != 0) then 4 else
 if lZ (fun y=>y.1) l i x then 6 else
 if x.2.any (fun g=>(Ř b g x.1).isSome||(Ř b g (x.1+1)).isSome) then 9 else 0
def IY:Nat->Nat
 |0=>1
 |n+1=>IY n*(n+1)
def nk:CK Mx->Nat
 |[]=>1
 |x::r=>IY x.2.length*nk r
def Bj:∀{l:CK Mx} {i:Nat} {x:Mx},l[i]?=some x->nk (l.take (i+1))=nk (l.take i)*IY x.2.length
 |[],_,_,h=>by simp at h
 |y::l,0,x,h=>by simp at h; subst h; simp[nk]
 |y::l,i+1,x,h=>by
  simp only[fw] at h;simp only[gn,nk,Bj h,Nat.mul_assoc]
def PZ:∀{n:Nat},n<=5->IY n<=120
 |0,_|1,_|2,_|3,_|4,_|5,_=>by decide
 |n+6,h=>by omega
def UK:∀{l:CK Mx} {n:Nat},l.length<=n->(∀x∈l,x.2.length<=5)->nk l<=120 ^ n
 |[],n,_,_=>Nat.one_le_pow _ _ (by decide)
 |x::l,0,h,_=>by simp at h
 |x::l,n+1,h,a=>by
  have e:=UK (l:=l) (n:=n) (by simpa using h) fun y d=>a y (dL _ d);have h2:=PZ (a x (by simp));rw[nk,gh,gW];exact fH e h2
def Nr (b:ø) (l:CK Mx):BY Int:=Ě (fun i x=>JV (mixE b l i x)) 0 l
def ī (m:Ĭ):Int :=
 if Ţ m.1≠0 then Ţ m.1 else if 4<m.2.length then 2 else match Nr m.1 m.2 with
 |some e=>e
 |none=>if 150<nk m.2 then 2 else 0
def Nx (l:CK é):CK (Int×Int):=l.foldl (fun m g=>Tb (k:=tI) (v:=tI) g.1 g.2.1 m) []
def Tc (x y n:Int):∀m:CK (Int×Int),sR (k:=tI) (v:=tI) x (Tb (k:=tI) (v:=tI) y n m)=if x=y then some n else sR (k:=tI) (v:=tI) x m
 |[]=>by
  unfold Tb sR kF sR
  by_cases h:x=y<;>simp[h]
 |e::m=>by
  unfold Tb
  by_cases h:y=e.1
  ·have:kF tI y e.1=true:=by simp[kF,h]
   rw[this];simp only;unfold sR
   by_cases a:x=y
   ·subst a; simp[kF]
   ·have:kF tI x y=false:=by simp[kF,a]
    have h2:kF tI x e.1=false:=by simp[kF,<-h,a]
    rw[this,if_neg a];simp only[h2]
  ·have:kF tI y e.1=false:=by simp[kF,h]
   rw[this];simp only;unfold sR
   by_cases a:x=e.1
   ·subst a;rw[if_neg (fun e=>h e.symm)];simp[kF]
   ·have h2:kF tI x e.1=false:=by simp[kF,a]
    rw[h2];exact Tc x y n m
def aeG (x:Int) (l:CK é):sR (k:=tI) (v:=tI) x (Nx l)=(l.reverse.find? fun g=>g.1==x).map fun g=>g.2.1:=by
 have key:∀r:CK é,sR (k:=tI) (v:=tI) x (Nx r.reverse)=(r.find? fun g=>g.1==x).map fun g=>g.2.1:=by
  intro r
  induction r with
  |nil=>rfl
  |cons g r a =>
   rw[List.reverse_cons,Nx,List.foldl_append];simp only[gy,List.foldl_nil];rw[Tc,f6]
   by_cases h:x=g.1
   ·subst h; simp
   ·have:(g.1==x)=false:=by simp; exact fun e=>h e.symm
    rw[if_neg h,this];exact a
 have:=key l.reverse
 rwa [List.reverse_reverse] at this
def ahf {b:ø} (h:b.2.1.Pairwise fun a b=>a.1<b.1) (x:Int):sR (k:=tI) (v:=tI) x (Nx b.2.1)=(ï b x).map fun g=>g.2.1:=by
 rw[aeG,KL h]; rfl
def Zt {ρ:Type} {b:ø} (h:b.2.1.Pairwise fun a b=>a.1<b.1) (x:Int) (f:Int->BY ρ) (g:BY ρ):QH (k:=tI) (v:=tI) x (Nx b.2.1) f g=match ï b x with|some y=>f y.2.1|none=>g:=by
 unfold QH;rw[ahf h]
 cases ï b x<;>rfl
section
variable {ρ:Type} {b:ø}
def mix_L0 {l:CK Int} (j:l.length<=1000) (k0:Int->BY ρ) (k1:Unit->BY ρ):Ê (fun(v:Int) g=>oF l v (fun u=>g u) k0 k1) 1=if l.Pairwise (·<·) then k1 () else k0 1:=by
 refine VL (fun i a c ha d f=>?_) (fun n h f=>?_)
 ·have hi:=(List.getElem?_eq_some_iff.1 d).1;unfold oF
  have e:((i:Int)+1)=((i+1:Nat):Int):=by omega
  rw[e,Í hi,Æ d,Î (by omega) (by omega),<-e,Int.add_sub_cancel,Æ ha,õ,Î (by omega) (by omega)];simp
 ·unfold oF;rw[Ì (by simp[ilt,Ï]; omega)]
def mix_L1 (f:b.2.1.length<=1000) (k0:CK (Int×Int)->BY ρ):Ê (fun(v:Int×CK (Int×Int)) e=>oE b.2.1 (Ó b.2.1) v.1 v.2 (fun u v=>e (u,v)) k0) ((0:Int),[])=k0 (Nx b.2.1):=by
 refine î b.2.1 (fun i=>Nx (b.2.1.take i)) _ rfl (fun i g hi a d=>?_) (fun d=>?_)
 ·try dsimp only
  unfold oE;rw[Í hi,Æ a,È hi (by omega)];congr 2;rw[take_succ a,Nx,Nx,List.foldl_append];rfl
 ·try dsimp only
  unfold oE;rw[Ò,List.take_length]
def mix_L2 (hi:b.2.1.Pairwise fun a b=>a.1<b.1) {l:CK Int} (h:l.length<=1000) (X Y Z:BY ρ):Ê (fun(v:Int) f=>oD l (Ó l) (Nx b.2.1) v (fun u=>f u) (fun z=>ifb (ige z (0:Int)) X Y) (fun _=>Z)) 0=if l.any (fun g=>(ï b g).isNone) then X else Z:=by
 refine đ l _ (fun z=>ifb (ige z (0:Int)) X Y) X Z (fun j=>Ð (by simp[ige]) _ _) (fun i a d ha e=>?_) (fun e=>?_)
 ·unfold oD;rw[Í d,Æ ha,Zt hi,È d (by omega)]
  cases ï b a<;>rfl
 ·unfold oD;rw[Ò]
def mix_L3 (hi:b.2.1.Pairwise fun a b=>a.1<b.1) {l:CK Int} (p:l.length<=1000) (n:∀x∈l,∃g,ï b x=some g) (d:Int) (X Y Z:BY ρ):Ê (fun(v:Int) k=>md l (Ó l) d (Nx b.2.1) v (fun u=>k u) (fun z=>ifb (ige z (0:Int)) X Y) (fun _=>Z)) 0=if l.any (fun g=>Ŋ b g d != 0) then X else Z:=by
 refine đ l _ (fun z=>ifb (ige z (0:Int)) X Y) X Z (fun j=>Ð (by simp[ige]) _ _) (fun i a e ha f=>?_) (fun f=>?_)
 ·unfold md;rw[Í e,Æ ha,Zt hi,È e (by omega)];obtain⟨g,o⟩:=n a (List.mem_of_getElem? ha);unfold Ŋ;rw[o];dsimp only;rw[õ]
  by_cases h:d<g.2.1<;>simp[ilt,h]
 ·unfold md;rw[Ò]
def mix_L4 (h:ţ b) {l:CK Int} (s:l.length<=1000) (q:∀x∈l,∃g,ï b x=some g) {d:Int} (hd:0<=d/\d<20000) (X Y Z:BY ρ):Ê (fun(v:Int) p=>ŋ l (Ó l) b.1.1 b.1.2 b.2.1 b.2.2.1 b.2.2.2.1 b.2.2.2.2.1 b.2.2.2.2.2 d v (fun u=>p u) (fun z=>ifb (ige z (0:Int)) X Y) (fun _=>Z)) 0=if l.any (fun g=>(Ř b g d).isSome||(Ř b g (d+1)).isSome) then X else Z:=by
 refine đ l _ (fun z=>ifb (ige z (0:Int)) X Y) X Z (fun j=>Ð (by simp[ige]) _ _) (fun i a f ha o=>?_) (fun o=>?_)
 ·unfold ŋ;obtain⟨g,k⟩:=q a (List.mem_of_getElem? ha)
  have n:∀e,0<=e->e<=20000->BU ((b.1.1,b.1.2),b.2.1,b.2.2.1,b.2.2.2.1,b.2.2.2.2.1,b.2.2.2.2.2) a e=some ((Ř b a e).isSome,0):=fun e h0 r=>by
   rw[show(((b.1.1,b.1.2),b.2.1,b.2.2.1,b.2.2.2.1,b.2.2.2.2.1,b.2.2.2.2.2):ø)=b from rfl,anU ⟨h.size,fun g k=>by have:=(h.gaugeR k).2.1; unfold I64; omega⟩]
   have:Qv b a [e]=0:=by
    unfold Qv;rw[if_neg (by simp[(Μ b).2 h]),if_neg (by simp[BW,inP,h0,r]),vn h.ids,k]; rfl
   unfold anV;rw[if_neg (by simp[this])]
  rw[Í f,Æ ha,n d hd.1 (by omega),À,Î (by omega) (by omega),n (d+1) (by omega) (by omega),À,È f (by omega)];dsimp only
  cases(Ř b a d).isSome<;>cases(Ř b a (d+1)).isSome<;>rfl
 ·unfold ŋ;rw[Ò]
end
def akM {b:ø} (h:ţ b) {l:CK Mx} {i:Nat} {x:Mx} (o:l[i]?=some x) (q:i<=1000):Ic b l i=some (mixE b l i x):=by
 unfold Ic NR mixE;rw[Æ o]
 by_cases d:inP x.1 0 19999=true/\inP (x.2.length:Int) 2 5=true
 ·obtain⟨d,h2⟩:=d;rw[if_neg (by simp[d,h2])];simp only[inP,cY,decide_eq_true_eq] at d h2
  have k:x.2.length<=1000:=by omega
  rw[Ì (by simp[ilt]; omega),Ì (by simp[ige]; omega),Ì (by simp[ilt,Ï]; omega),Ì (by simp[igt,Ï]; omega),mix_L0 k]
  by_cases f:x.2.Pairwise (·<·)
  ·rw[if_pos f,if_neg (by simpa using f)]
   try dsimp only
   rw[mix_L1 (by have:=h.nG; omega),mix_L2 h.ids k]
   by_cases a:(x.2.any fun g=>(ï b g).isNone)=true
   ·rw[if_pos a,if_pos a]
   ·have p:∀y∈x.2,∃g,ï b y=some g:=fun y j=>by
     simp only[du,not_exists,not_and,Option.isNone_iff_eq_none] at a;exact Option.ne_none_iff_exists'.1 (a y j)
    rw[if_neg a,if_neg a,mix_L3 h.ids k p]
    by_cases n:(x.2.any fun g=>Ŋ b g x.1 != 0)=true
    ·rw[if_pos n,if_pos n]
    ·rw[if_neg n,if_neg n,mix_L4 h k p (by omega)]
     cases i with
     |zero =>
      rw[Ì (by simp[igt]),if_neg (show ¬lZ (fun y:Mx=>y.1) l 0 x=true by simp[lZ])]
      split<;>rfl
     |succ i =>
      obtain⟨hi,_⟩:=dc.1 o;have j:l[i]?=some l[i]:=cW (by omega)
      have e:((i+1:Nat):Int)-1=i:=by omega
      rw[Ð (by simp[igt]),Î (by omega) (by omega),e,Æ j,õ];unfold lZ;simp only[Nat.add_sub_cancel,j,Option.any_some,Nat.succ_pos,decide_true,Bool.true_and,ile,decide_eq_true_eq]
      split
      ·rfl
      ·split<;>rfl
  ·rw[if_neg f,if_pos f]
 ·rw[if_pos (by simp only[eR]; cases h2:inP x.1 0 19999<;>cases f:inP (x.2.length:Int) 2 5<;>simp_all)]
  simp only[inP,cY,decide_eq_true_eq,not_and,Int.not_le] at d;simp only[õ,ilt,ige,igt,Ï,decide_eq_true_eq]
  split
  ·rfl
  split
  ·rfl
  split
  ·rfl
  rw[if_pos (by have:=d (by omega); omega)]
def Vc {b:ø} {l:CK Mx} {i:Nat} {x:Mx} (h:mixE b l i x=0):x.2.length<=5:=by
 unfold mixE at h
 split at h
 ·cases h
 ·rename_i a;simp[inP] at a;omega
def ak1 {n v:Nat} (j:n<=5) (g:v<=1000000000) {ρ:Type} (k0:Int->BY ρ):Ê (fun(u:Int×Int) f=>oG (ahd n) u.1 u.2 (fun a b=>f (a,b)) k0) ((v:Int),(0:Int))=k0 ((v*IY n:Nat):Int):=by
 refine Bu (List.range n) (fun i=>((v*IY i:Nat):Int)) _ (fun _=>True) (by simp[IY]) trivial (fun i a hi ha _ d=>.inr ⟨trivial,?_⟩) (fun _ d=>?_)
 ·rw[fi] at hi
  try dsimp only
  unfold oG;have h:=PZ (n:=i) (by omega);have hb:v*IY i<=1000000000*120:=Nat.mul_le_mul g h;have h2:v*IY i*(i+1)<=1000000000*120*6:=Nat.mul_le_mul hb (by omega)
  have e:((v*IY i:Nat):Int)*((i:Int)+1)=((v*IY i*(i+1):Nat):Int):=by simp
  rw[amg hi,Î (by omega) (by omega),e,Î (by omega) (by omega),Î (by omega) (by omega),IY,Nat.mul_assoc]
 ·rw[fi]
  try dsimp only
  unfold oG;rw[Ò]
def F4 {b:ø} {l:CK Mx} {i:Nat} {x:Mx} (g:l[i]?=some x) (n:∀j y,j<i->l[j]?=some y->mixE b l j y=0) (p:mixE b l i x≠0):Nr b l=some (mixE b l i x):=by
 have key:∀(m:CK Mx) (k:Nat),l.drop k=m->k<=i->Ě (fun i x=>JV (mixE b l i x)) k m=some (mixE b l i x):=by
  intro m
  induction m with
  |nil =>
   intro k d f;have:=List.drop_eq_nil_iff.1 d;have:=(dc.1 g).1;omega
  |cons y m h =>
   intro k d f
   have e:l[k]?=some y:=by
    have:(l.drop k)[0]?=some y:=by rw[d]; rfl
    simpa using this
   rw[Ě];rcases dk k i with a|o
   ·rw[n k y a e];simp only[JV,if_true];refine h (k+1) ?_ a;rw[<-List.tail_drop,d]; rfl
   ·have:k=i:=by omega
    subst this;rw[g] at e; cases e;simp[JV,p]
 exact key l 0 rfl (dZ _)
def Em {b:ø} {l:CK Mx} (d:∀j y,l[j]?=some y->mixE b l j y=0):Nr b l=none:=by
 rw[Nr,Ż];intro j y a;rw[dO,d j y a]; rfl
def m9 {m:Ĭ} (k:In m.1) (u:m.2.length<=1000):Ω m=some (ī m):=by
 unfold Ω Yy ī;rw[Ce k.size k.num,À]
 by_cases g:Ţ m.1=0
 ·have r:=(Μ _).1 g;rw[Ì (by simp[ine,g]),if_neg (by simp[g])]
  by_cases p:4<m.2.length
  ·rw[Ð (by simp[igt,Ï]; omega),if_pos p]
  ·rw[Ì (by simp[igt,Ï]; omega),if_neg p];refine Bu m.2 (fun i=>((nk (m.2.take i):Nat):Int)) _ (fun i=>∀j y,j<i->m.2[j]?=some y->mixE m.1 m.2 j y=0) (by simp[nk]) (fun j y h _=>by omega) (fun i x hi d e q=>?_) (fun e q=>?_)
   ·try dsimp only
    unfold tv;rw[Í hi,Æ d,show(((m.1.1.1,m.1.1.2),m.1.2.1,m.1.2.2.1,m.1.2.2.2.1,m.1.2.2.2.2.1,m.1.2.2.2.2.2):ø)=m.1 from rfl,akM r d (by omega),À]
    by_cases f:mixE m.1 m.2 i x=0
    ·rw[Ì (by simp[ine,f])]
     have t:∀y∈m.2.take i,y.2.length<=5:=fun y a=>by
      obtain⟨j,o,rfl⟩:=dp.1 a;rw[dl] at o;rw[fh];exact Vc (e j _ (by omega) (cW (by omega)))
     have hb:=UK (l:=m.2.take i) (n:=4) (by rw[dl]; omega) t
     have s:(120:Nat) ^ 4=207360000:=by decide
     refine .inr ⟨fun j y o a=>?_,?_⟩
     ·rcases dk j i with h|h
      ·exact e j y h a
      ·have:j=i:=by omega
       subst this;rw[d] at a; cases a;exact f
     ·rw[ak1 (Vc f) (by omega),È hi (by omega),Bj d]
    ·refine .inl ?_;rw[Ð (by simp[ine,f]),F4 d e f]
   ·try dsimp only
    unfold tv;rw[Ò,Em fun j y a=>e j y (List.getElem?_eq_some_iff.1 a).1 a,List.take_length];dsimp only;rw[õ];simp only[igt,decide_eq_true_eq]
    by_cases h:150<nk m.2
    ·rw[if_pos (by omega),if_pos h]
    ·rw[if_neg (by omega),if_neg h]
 ·rw[Ð (by simp[ine,g]),if_pos g]
def Xo {α:Type} [DecidableEq α] {l m:CK α} (f:l.length=m.length) (h:Ě (fun i a=>if m[i]?=some a then none else some false) 0 l=none):l=m:=by
 have:=Ż.1 h;refine iu f fun i g h2=>?_;have d:=this i l[i] (cW g);rw[dO] at d
 split at d
 ·rename_i e;rw[cW h2] at e;exact(Option.some.inj e).symm
 ·cases d
def Xn {α:Type} [DecidableEq α] {l m:CK α} {b:Bool} (h:Ě (fun i a=>if m[i]?=some a then none else some false) 0 l=some b):b=false/\l≠m:=by
 constructor
 ·have:∀(k:Nat) (x:CK α) (b:Bool),Ě (fun i a=>if m[i]?=some a then none else some false) k x=some b->b=false:=by
   intro k x
   induction x generalizing k with
   |nil=>intro b h; cases h
   |cons a t f =>
    intro b h;unfold Ě at h
    split at h
    ·rename_i c d
     split at d
     ·cases d
     ·cases d; cases h; rfl
    ·exact f _ _ h
  exact this _ _ _ h
 ·intro e;subst e;rw[Ż.2 fun j a ha=>by rw[dO,if_pos ha]] at h;cases h
def Fl {l m:CK Int} (k:l.length<=1000000):Ĩ l m=some (decide (l=m)):=by
 unfold Ĩ G8;rw[Ï,Ï]
 by_cases d:l.length=m.length
 ·rw[Ì (by simp[ine,d])];refine d9 (jC l (fun i a=>if m[i]?=some a then none else some false) some (some true) (fun i a hi ha g=>?_) (fun g=>?_)) ?_
  ·try dsimp only
   unfold lQ;have f:m[i]?=some m[i]:=List.getElem?_eq_getElem (by omega);rw[Í hi,Æ ha,Æ f,È hi (by omega),f,õ]
   by_cases h:a=m[i]
   ·simp[ine,h]
   ·have h':¬m[i]=a:=fun e=>h e.symm;simp[ine,h,h']
  ·try dsimp only
   unfold lQ;rw[Ò]
  ·cases h:Ě (fun i a=>if m[i]?=some a then none else some false) 0 l with
   |none=>simp[Xo d h]
   |some b =>
    obtain⟨j,h2⟩:=Xn h;simp[j,h2]
 ·rw[Ð (by simp[ine]; omega)];have:l≠m:=fun e=>d (by rw[e]);simp[this]
structure MixOk (b:ø) (x:Mx):Prop where
 day:0<=x.1/\x.1<20000
 len:2<=x.2.length/\x.2.length<=5
 asc:x.2.Pairwise (·<·)
 known:∀l∈x.2,∃g,ï b l=some g/\g.2.1<=x.1
 home:∀l∈x.2,Ř b l x.1=none/\Ř b l (x.1+1)=none
def Ye {b:ø} {l:CK Mx} {i:Nat} {x:Mx} (h:mixE b l i x=0):MixOk b x/\lZ (fun y=>y.1) l i x=false:=by
 unfold mixE at h
 split at h
 ·cases h
 rename_i n
 split at h
 ·cases h
 rename_i h2
 split at h
 ·cases h
 rename_i j
 split at h
 ·cases h
 rename_i f
 split at h
 ·cases h
 rename_i k
 split at h
 ·cases h
 rename_i e;simp only[inP,Bool.not_eq_true',Bool.and_eq_false_iff,not_or,Bool.not_eq_false,decide_eq_false_iff_not,Int.not_le,Bool.and_eq_true,decide_eq_true_eq] at n;simp only[List.any_eq_true,not_exists,not_and,Option.isNone_iff_eq_none] at j;simp only[List.any_eq_true,not_exists,not_and,bne_iff_ne,ne_eq,Decidable.not_not] at f;simp only[List.any_eq_true,not_exists,not_and,Bool.or_eq_true,not_or,Option.isSome_iff_ne_none,ne_eq,Decidable.not_not] at e;refine⟨⟨by omega,by omega,Decidable.not_not.1 h2,fun y a=>?_,e⟩,by simpa using k⟩;obtain⟨g,d⟩:=Option.ne_none_iff_exists'.1 (j y a);refine⟨g,d,?_⟩;have:=f y a;unfold Ŋ at this;rw[d] at this;dsimp only at this
 split at this
 ·cases this
 ·omega
structure MOk (m:Ĭ):Prop where
 good:ţ m.1
 n4:m.2.length<=4
 mixE:∀i x,m.2[i]?=some x->mixE m.1 m.2 i x=0
 prod:nk m.2<=150
def Ł (m:Ĭ):ī m=0↔MOk m:=by
 unfold ī;constructor
 ·intro h
  split at h
  ·rename_i f; exact absurd h f
  rename_i f
  split at h
  ·cases h
  rename_i h2
  cases a:Nr m.1 m.2 with
  |some e =>
   rw[a] at h;dsimp only at h;rw[Nr] at a
   have key:∀(l:CK Mx) (k:Nat) (e:Int),Ě (fun i x=>JV (mixE m.1 m.2 i x)) k l=some e->e≠0:=by
    intro l
    induction l with
    |nil=>intro k e h; cases h
    |cons y l g =>
     intro k e h;rw[Ě] at h
     by_cases d:mixE m.1 m.2 k y=0
     ·rw[d] at h;exact g (k+1) e h
     ·simp only[JV,if_neg d,Option.some.injEq] at h;rw[<-h]; exact d
   exact absurd h (key _ _ _ a)
  |none =>
   rw[a] at h;dsimp only at h
   split at h
   ·cases h
   rename_i n;refine⟨(Μ _).1 (Decidable.not_not.1 f),by omega,fun i x j=>?_,by omega⟩;have:=(Ż.1 a) i x j;rw[Nat.zero_add] at this;unfold JV at this
   split at this
   ·assumption
   ·cases this
 ·intro h;rw[if_neg (by simp[(Μ _).2 h.good]),if_neg (by have:=h.n4; omega),Em h.mixE];dsimp only;rw[if_neg (by have:=h.prod; omega)]
section
variable {m:Ĭ}
def MOk.mix (h:MOk m) {x:Mx} (a:x∈m.2):MixOk m.1 x:=by
 obtain⟨i,hi,rfl⟩:=dp.1 a;exact(Ye (h.mixE i _ (cW hi))).1
def MOk.days (h:MOk m):m.2.Pairwise fun a b=>a.1<b.1:=(IL (fun y:Mx=>y.1) m.2).1 fun i x d=>(Ye (h.mixE i x d)).2
def MOk.len5 (h:MOk m):∀x∈m.2,x.2.length<=5:=fun x a=>(h.mix a).len.2
def MOk.in_ (h:MOk m):In m.1:=⟨h.good.size,fun g a=>by have:=(h.good.gaugeR a).2.1; unfold I64; omega⟩
end
def acq {l:CK Int} {i:Nat} (hi:i<l.length):(l[i]::(l.take i++l.drop (i+1))).Perm l:=by
 have h:l=l.take i++l[i]::l.drop (i+1):=by rw[<-dV hi,eA]
 exact List.Perm.trans (List.perm_middle.symm) (by rw[<-h])
def L7:∀{n:Nat} {l x:CK Int},l.length=n->(x∈vl n l↔x.Perm l)
 |0,l,x,h=>by
  have:l=[]:=dE.1 h;subst this;simp[vl]
 |n+1,l,x,h=>by
  rw[vl,if_neg (by omega)];simp only[dB,fg,dz];constructor
  ·rintro⟨i,hi,y,d,rfl⟩;have d:=(L7 (n:=n) (by simp; omega)).1 d;rw[ej,cW hi];exact(d.cons _).trans (acq hi)
  ·intro e
   cases x with
   |nil=>have:=e.length_eq; simp at this; omega
   |cons a x =>
    have ha:a∈l:=e.subset (by simp);obtain⟨i,hi,rfl⟩:=dp.1 ha;refine⟨i,hi,x,(L7 (n:=n) (by simp; omega)).2 ?_,by rw[ej,cW hi]; rfl⟩;exact List.Perm.cons_inv (e.trans (acq hi).symm)
def Wa {α β:Type} (f:α->CK β) (n:Nat):∀l:CK α,(∀a∈l,(f a).length=n)->(l.flatMap f).length=l.length*n
 |[],_=>by simp
 |a::l,h=>by
  rw[dA,cZ,h a (by simp),Wa f n l fun b hb=>h b (dL _ hb),dh,Nat.succ_mul]; omega
def FX:∀{n:Nat} {l:CK Int},l.length=n->(vl n l).length=IY n
 |0,_,_=>rfl
 |n+1,l,h=>by
  rw[vl,if_neg (by omega),Wa _ (IY n) _ fun i hi=>by rw[dD]; exact FX (by simp at hi ⊢; omega),fi,IY,h,gW]
def wD:∀{ms:CK Mx} {w:Way},w∈χ ms↔į ms w
 |[],[]=>by simp[χ,į]
 |[],_::_=>by simp[χ,į]
 |m::ms,[]=>by simp[χ,į]
 |m::ms,l::ls=>by
  simp only[χ,dB,dz,į];constructor
  ·rintro⟨x,d,y,a,e⟩;cases e;exact⟨(L7 rfl).1 d,wD.1 a⟩
  ·intro⟨f,h2⟩;exact⟨l,(L7 rfl).2 f,ls,wD.2 h2,rfl⟩
def IC:∀ms:CK Mx,(χ ms).length=nk ms
 |[]=>rfl
 |m::ms=>by rw[χ,Wa _ (nk ms) _ fun x _=>by rw[dD,IC],FX rfl,nk]
def Ŏ (ms:CK Mx):CK Way:=ĺ (uT ms) (χ ms)
def ae2 {α:Type} {k a:α->Int} {x:α} {l:CK α} (f:k x=a x) (h:∀y∈l,k y=a y):VW k x l=VW a x l:=by
 induction l with
 |nil=>rfl
 |cons y l d =>
  unfold VW;rw[f,h y (by simp),d fun z e=>h z (List.mem_cons_of_mem _ e)]
def PC {α:Type} {k a:α->Int}:∀{l:CK α},(∀y∈l,k y=a y)->ĺ k l=ĺ a l
 |[],_=>rfl
 |x::l,h=>by
  have e:=PC fun y d=>h y (dL x d);show VW k x (ĺ k l)=VW a x (ĺ a l);rw[e];exact ae2 (h x (by simp)) fun y d=>h y (dL _ ((Œ (key:=a) l).mem.1 d))
def uU {ms:CK Mx} {w:Way}:w∈Ŏ ms↔į ms w:=by
 rw[Ŏ,(Œ (χ ms)).mem,wD]
def af7 (ms:CK Mx):(Ŏ ms).length=nk ms:=by rw[Ŏ,(Œ (χ ms)).length,IC]
section
variable {m:Ĭ} {ρ:Type}
def MOk.wgt (h:MOk m) {w:Way} (d:į m.2 w):Ļ m w=some (uT m.2 w) :=
 af6 d (by have:=h.n4; omega) fun x a=>by have:=h.len5 x a; omega
def Mk {α:Type} {f:CK α->α->(CK α->BY ρ)->BY ρ} (h:∀v y a,v.length<=1000000->f v y a=a (v++[y])):∀{xs:CK α} {v:CK α} {K:CK α->BY ρ},v.length+xs.length<=1000000->AO f xs v K=K (v++xs)
 |[],v,K,_=>by simp[AO]
 |x::xs,v,K,d=>by
  simp only[dh] at d;rw[AO,h v x _ (by omega),Mk h (by simp; omega)]; simp
def aiB (h:MOk m):nV m.2=some (χ m.2):=by
 unfold nV;rw[á];simp only[Bool.and_eq_true,decide_eq_true_eq,List.all_eq_true];exact⟨by have:=h.n4; omega,fun x a=>by have:=h.len5 x a; omega⟩
def My (h:MOk m):(χ m.2).length<=150:=by rw[IC]; exact h.prod
def Xe (h:MOk m):ļ (χ m.2) (Ó (χ m.2)) m=some (Ŏ m.2,m):=by
 have h2:∀w∈χ m.2,Ļ m w=some (uT m.2 w):=fun w a=>h.wgt (wD.1 a)
 have d:∀w∈χ m.2,Ę m w=uT m.2 w:=fun w a=>by unfold Ę; rw[h2 w a]; rfl
 rw[Ï,agm (fun w a=>by rw[h2 w a,d w a]) (by have:=My h; omega),PC d]; rfl
def MI (h:MOk m):uw m=some (Ŏ m.2):=by
 unfold uw Vg;have e:=My h;rw[aiB h,À,Mk (fun v y a d=>by unfold Es; rw[á (Ñ (by simp; omega))]) (by simp; omega),List.nil_append,Xe h];rfl
def anJ (d:In m.1) (e:m.2.length<=1000):Mm m=some (if ī m≠0 then([],ī m) else(Ŏ m.2,0)):=by
 unfold Mm acL;rw[m9 d e,À]
 by_cases a:ī m=0
 ·rw[Ì (by simp[ine,a]),if_neg (by simp[a]),MI ((Ł m).1 a)]; rfl
 ·rw[Ð (by simp[ine,a]),if_pos a]
end
def ade {ρ:Type} (n:Nat) (p:Nat->Bool) (g j:BY ρ) {f:Int->(Int->BY ρ)->BY ρ} (h:∀i:Nat,i<n->∀d,f i d=if p i then d ((i:Int)+1) else g) (k:∀d,f n d=j):Ê f 0=if (List.range n).all p then j else g:=by
 have:=đ (List.range n) (fun i=>!p i) (fun _=>g) g j (f:=f) (fun _=>rfl) (fun i a hi ha d=>by
  obtain⟨_,rfl⟩:=dc.1 ha;rw[fi] at hi;rw[h i hi d,List.getElem_range]
  cases p i<;>rfl) (fun d=>by rw[fi]; exact k d)
 rw[this]
 have e:(List.range n).any (fun i=>!p i)=!(List.range n).all p:=by rw[List.all_eq_not_any_not]; simp
 rw[e]
 cases(List.range n).all p<;>rfl
def ut:CK Mx->Way->Bool
 |[],[]=>true
 |m::ms,l::ls=>decide (lC l=m.2)&&ut ms ls
 |_,_=>false
def TX:∀{ms:CK Mx} {w:Way},(∀x∈ms,x.2.Pairwise (·<·))->(ut ms w=true↔į ms w)
 |[],[],_=>by simp[ut,į]
 |[],_::_,_=>by simp[ut,į]
 |_::_,[],_=>by simp[ut,į]
 |m::ms,l::ls,h=>by
  rw[ut,į,cY,decide_eq_true_eq,TX fun x d=>h x (dL _ d)];have f:=h m (by simp);refine and_congr ⟨fun e=>by rw[<-e]; exact(ĵ l).symm,fun e=>?_⟩ Iff.rfl;exact g8 (fun a b _ _ g h2=>Int.le_antisymm g h2) (Φ l) (f.imp fun h=>Int.le_of_lt h) ((ĵ l).trans e)
def ahX {ms:CK Mx} {w:Way} (a:w.length=ms.length):ut ms w=(List.range ms.length).all fun i=>match ms[i]?,w[i]? with|some m,some l=>decide (lC l=m.2)|_,_=>false:=by
 induction ms generalizing w with
 |nil =>
  have:w=[]:=dE.1 a;subst this; rfl
 |cons m ms d =>
  cases w with
  |nil=>simp at a
  |cons l w =>
   rw[ut,d (by simpa using a),dh,List.range_succ_eq_map,fC,List.all_map];rfl
def row_eq {l m:CK Int} (d:l.length=m.length) (o:m.length<=5):(l.getD 0 0=m.getD 0 0/\l.getD 1 0=m.getD 1 0/\l.getD 2 0=m.getD 2 0/\l.getD 3 0=m.getD 3 0/\l.getD 4 0=m.getD 4 0)↔l=m:=by
 constructor
 ·intro⟨h0,n,h2,j,g⟩;refine iu d fun i hi a=>?_
  have e:∀k:Nat,l.getD k 0=m.getD k 0->k=i->l[i]=m[i]:=fun k f e=>by
   subst e;simpa[ej,cW hi,cW a] using f
  have:i=0\/i=1\/i=2\/i=3\/i=4:=by omega
  rcases this with h|h|h|h|h
  ·exact e 0 h0 h.symm
  ·exact e 1 n h.symm
  ·exact e 2 h2 h.symm
  ·exact e 3 j h.symm
  ·exact e 4 g h.symm
 ·rintro rfl; simp
def akL {m:Ĭ} (h:MOk m) {w:Way} (n:∀l∈w,l.length<=100000):Ib m w=some (ut m.2 w):=by
 unfold Ib NK;have D:=h.n4
 by_cases p:w.length=m.2.length
 ·rw[Ì (by simp[ine,Ï]; omega),ahX p];have r:∀i,i<m.2.length->∃x l,m.2[i]?=some x/\w[i]?=some l:=fun i hi=>⟨_,_,cW hi,cW (by omega)⟩;refine d9 (ade m.2.length (fun i=>match m.2[i]?,w[i]? with|some m,some l=>decide (lC l=m.2)|_,_=>false) (some false) (some true) (fun i hi k=>?_) (fun k=>?_)) ?_
  ·obtain⟨x,l,j,a⟩:=r i hi
   try dsimp only
   unfold tf;have g:=h.len5 x (List.mem_of_getElem? j);have s:=n l (List.mem_of_getElem? a);rw[Í (by omega),Æ a,Æ j,j,a];dsimp only
   by_cases d:l.length=x.2.length
   ·rw[Ì (by simp[ine,Ï]; omega)];unfold Bw;rw[á (Ñ (by omega)),À,Mk (fun v y k C=>by unfold zE; rw[á (Ñ (by simp; omega))]) (by simp; omega),List.nil_append,á (Ñ (by omega))];unfold Ia;rw[À,À,UA];have o:=row_eq (l:=lC l) (m:=x.2) (by rw[(ĵ l).length_eq]; exact d) g
    by_cases f:lC l=x.2
    ·obtain⟨B,A,z,u,t⟩:=o.2 f;rw[B,A,z,u,t,Ì (by simp[oy]),Î (by omega) (by omega),if_pos (by simpa using f)]
    ·rw[Ð,if_neg (by simpa using f)]
     cases hb:(!((oy ((lC l).getD 0 0) (x.2.getD 0 0))&&((oy ((lC l).getD 1 0) (x.2.getD 1 0))&&((oy ((lC l).getD 2 0) (x.2.getD 2 0))&&((oy ((lC l).getD 3 0) (x.2.getD 3 0))&&((oy ((lC l).getD 4 0) (x.2.getD 4 0))&&true)))))) with
     |true=>rfl
     |false =>
      refine absurd (o.1 ?_) f;simpa[oy] using hb
   ·rw[Ð (by simp[ine,Ï]; omega),if_neg];intro e;simp only[decide_eq_true_eq] at e;have:=(ĵ l).length_eq;rw[e] at this;exact d this.symm
  ·try dsimp only
   unfold tf;rw[Ì (by simp[ilt,Ï]; omega)]
  ·cases(List.range m.2.length).all (fun i=>match m.2[i]?,w[i]? with|some m,some l=>decide (lC l=m.2)|_,_=>false)<;>rfl
 ·rw[Ð (by simp[ine,Ï]; omega)];congr 1
  symm
  clear n
  have key:∀{ms:CK Mx} {w:Way},w.length≠ms.length->ut ms w=false:=by
   intro ms
   induction ms with
   |nil=>intro w h; cases w with|nil=>exact absurd rfl h|cons _ _=>rfl
   |cons x ms q =>
    intro w h
    cases w with
    |nil=>rfl
    |cons l w=>rw[ut,q (by simpa using h),Bool.and_false]
  exact key p
def Qw (m:Ĭ) (w:Way):Int:=if ī m≠0 then ī m else if ut m.2 w then 0 else 1
def aju {m:Ĭ} (e:In m.1) (f:m.2.length<=1000) {w:Way} (d:∀l∈w,l.length<=100000):If m w=some (Qw m w):=by
 unfold If Yv Qw;rw[m9 e f,À]
 by_cases a:ī m=0
 ·rw[Ì (by simp[ine,a]),if_neg (by simp[a]),akL ((Ł m).1 a) d,À]
  cases ut m.2 w<;>rfl
 ·rw[Ð (by simp[ine,a]),if_pos a]
def abN {m:Ĭ} {w:Way}:Qw m w=0↔MOk m/\į m.2 w:=by
 unfold Qw
 by_cases a:ī m=0
 ·have h:=(Ł m).1 a;rw[if_neg (by simp[a])];have:=TX (w:=w) fun x d=>(h.mix d).asc
  cases hi:ut m.2 w with
  |true=>simp[this.1 hi,h]
  |false =>
   exact⟨fun e=>absurd (show(1:Int)=0 from e) (by decide),fun e=>absurd (this.2 e.2) (by simp[hi])⟩
 ·rw[if_pos a];exact⟨fun e=>absurd e a,fun⟨e,_⟩=>absurd ((Ł m).2 e) a⟩
section
variable {ρ:Type}
def mV {α β:Type} (l:CK α) (g:α->β) (K:CK β->BY ρ) {f:Int×CK β->(Int×CK β->BY ρ)->BY ρ}
 (h:∀(i:Nat) (a:α),i<l.length->l[i]?=some a->∀(v:CK β) d,v.length=i->f (i,v) d=d ((i:Int)+1,v++[g a])) (e:∀(v:CK β) d,f (l.length,v) d=K v):Ê f (0,[])=K (l.map g):=by
 refine î l (fun i=>(l.take i).map g) _ rfl (fun i a hi ha d=>?_) (fun d=>?_)
 ·rw[h i a hi ha _ d (by simp; omega),take_succ ha,fk]; rfl
 ·rw[e,fF]
end
def nl (m:Ĭ) (w:Way) (d:Int) (l:CK Int):CK Int:=lC (l.map fun x=>iS m.2 w x d)
def aap (m:Ĭ) (w:Way) (c:Cmp):Cmp:=(c.1,c.2.1,nl m w c.2.1 c.2.2.1,nl m w c.2.1 c.2.2.2.1,c.2.2.2.2)
def trP (m:Ĭ) (w:Way):ø :=
 (m.1.1,m.1.2.1,m.1.2.2.1.map (fun u=>(iS m.2 w u.1 u.2,u.2)),m.1.2.2.2.1.map (fun l=>(iS m.2 w l.1 l.2.1.1,l.2)),m.1.2.2.2.2.1.map (aap m w),m.1.2.2.2.2.2.map (fun n=>(iS m.2 w n.1 n.2,n.2)))
section
variable {ρ:Type} {m:Ĭ} {w:Way}
def MOk.who (h:MOk m) (e:į m.2 w) (x d:Int):uQ m w x d=some (iS m.2 w x d) :=
 who_ok e (by have:=h.n4; omega) (fun y a=>by have:=h.len5 y a; omega) x d
def tr_L0 (h:MOk m) (f:į m.2 w) (k0:CK (Int×Int)->BY ρ):Ê (fun(v:Int×CK (Int×Int)) e=>lM m w m.1.2.2.1 (Ó m.1.2.2.1) v.1 v.2 (fun a b=>e (a,b)) k0) ((0:Int),[])=k0 (m.1.2.2.1.map fun u=>(iS m.2 w u.1 u.2,u.2)):=by
 have j:=h.good.nU
 refine mV m.1.2.2.1 (fun u:Int×Int=>((iS m.2 w u.1 u.2,u.2):Int×Int)) k0 (fun i a hi ha v d g=>?_) (fun v d=>?_)<;>(try dsimp only)<;>unfold lM
 ·rw[Í hi,Æ ha,h.who f,À,á (Ñ (by simp; omega)),È hi (by omega)]
 ·rw[Ò]
def tr_L1 (h:MOk m) (f:į m.2 w) (k0:CK I0->BY ρ):Ê (fun(v:Int×CK I0) e=>lL m w m.1.2.2.2.1 (Ó m.1.2.2.2.1) v.1 v.2 (fun a b=>e (a,b)) k0) ((0:Int),[])=k0 (m.1.2.2.2.1.map fun l=>(iS m.2 w l.1 l.2.1.1,l.2)):=by
 have j:=h.good.nL
 refine mV m.1.2.2.2.1 (fun l:I0=>((iS m.2 w l.1 l.2.1.1,l.2):I0)) k0 (fun i a hi ha v d g=>?_) (fun v d=>?_)<;>(try dsimp only)<;>unfold lL
 ·rw[Í hi,Æ ha,h.who f,À,á (Ñ (by simp; omega)),È hi (by omega)]
 ·rw[Ò]
def Fx (h:MOk m) (f:į m.2 w) (d:Int) {l:CK Int} (j:l.length<=1000):j8 l d m w=some (nl m w d l):=by
 unfold j8 zA;rw[mV l (fun x:Int=>(iS m.2 w x d:Int)) (fun z=>à (ã z.length) (some (yT z))) (fun i a hi ha v e g=>?_) (fun v e=>?_),á (Ñ (by simp; omega)),UA]; rfl
 ·try dsimp only
  unfold jK;rw[Í hi,Æ ha,h.who f,À,á (Ñ (by simp; omega)),È hi (by omega)]
 ·try dsimp only
  unfold jK;rw[Ò]
def tr_L2 (h:MOk m) (d:į m.2 w) (k0:CK Cmp->BY ρ):Ê (fun(v:Int×CK Cmp) j=>lK m w m.1.2.2.2.2.1 (Ó m.1.2.2.2.2.1) v.1 v.2 (fun a b=>j (a,b)) k0) ((0:Int),[])=k0 (m.1.2.2.2.2.1.map (aap m w)):=by
 have l:=h.good.nC
 refine mV m.1.2.2.2.2.1 (aap m w) k0 (fun i a hi ha v g k=>?_) (fun v g=>?_)<;>(try dsimp only)<;>unfold lK
 ·obtain⟨f,e⟩:=h.good.size.piles a (de ha);rw[Í hi,Æ ha,Fx h d _ f,À,Fx h d _ e,À,á (Ñ (by simp; omega)),È hi (by omega)];rfl
 ·rw[Ò]
def tr_L3 (h:MOk m) (f:į m.2 w) (k0:CK (Int×Int)->BY ρ):Ê (fun(v:Int×CK (Int×Int)) e=>lJ m w m.1.2.2.2.2.2 (Ó m.1.2.2.2.2.2) v.1 v.2 (fun a b=>e (a,b)) k0) ((0:Int),[])=k0 (m.1.2.2.2.2.2.map fun n=>(iS m.2 w n.1 n.2,n.2)):=by
 have j:=h.good.nK
 refine mV m.1.2.2.2.2.2 (fun n:Int×Int=>((iS m.2 w n.1 n.2,n.2):Int×Int)) k0 (fun i a hi ha v d g=>?_) (fun v d=>?_)<;>(try dsimp only)<;>unfold lJ
 ·rw[Í hi,Æ ha,h.who f,À,á (Ñ (by simp; omega)),È hi (by omega)]
 ·rw[Ò]
def sK (h:MOk m) (a:į m.2 w):jm m w=some (trP m w):=by
 have d:=h.good.nG;unfold jm wV trP;rw[á (Ñ (by omega)),tr_L0 h a,tr_L1 h a,tr_L2 h a,tr_L3 h a]
end
def VZ {l:CK Int} {x:Int} (h:x∈l):∃k,l.findIdx? (·==x)=some k/\l[k]?=some x:=by
 cases a:l.findIdx? (·==x) with
 |none =>
  have:=eE.1 a x h;simp at this
 |some k =>
  obtain⟨d,e,_⟩:=dQ.1 a;exact⟨k,rfl,by rw[cW d]; simpa using e⟩
def Mi {l:CK Int} {x:Int} (h:x∉l):l.findIdx? (·==x)=none:=by
 rw[eE];intro y a;simp only[beq_eq_false_iff_ne];exact fun e=>h (e▸a)
def idx_at {l:CK Int} (d:l.Nodup) {k:Nat} {x:Int} (h:l[k]?=some x):l.findIdx? (·==x)=some k:=by
 obtain⟨j,e,a⟩:=VZ (de h);obtain⟨i,g⟩:=dc.1 h;obtain⟨h2,f⟩:=dc.1 a;rw[e,(List.getElem_inj d).1 (f.trans g.symm)]
def ab9 {d d0:Int} {l k:CK Int} (g:l.Nodup) (n:k.Nodup) (f:l.Perm k) (x:Int):stp d (d0,k) l (stp d (d0,l) k x)=x:=by
 unfold stp
 by_cases hd:d0<d
 ·simp only[if_pos hd]
  by_cases a:x∈k
  ·obtain⟨i,j,h2⟩:=VZ a;rw[j];dsimp only
   have hi:i<l.length:=by rw[f.length_eq]; exact(dc.1 h2).1
   have e:l[i]?=some (l.getD i 0):=by rw[ej,cW hi]; rfl
   rw[idx_at g e];dsimp only;rw[List.getD_eq_getElem?_getD,h2]; rfl
  ·rw[Mi a];dsimp only;rw[Mi fun h=>a (f.subset h)]
 ·simp only[if_neg hd]
def agh {d:Int} {m:Mx} {l:CK Int} (e:l.Perm m.2) (x:Int):stp d m l x=x\/(m.1<d/\x∈m.2/\stp d m l x∈m.2):=by
 unfold stp
 by_cases hd:m.1<d
 ·simp only[if_pos hd]
  by_cases a:x∈l
  ·obtain⟨i,f,h2⟩:=VZ a;rw[f];dsimp only
   have hi:i<m.2.length:=by rw[<-e.length_eq]; exact(dc.1 h2).1
   exact .inr ⟨hd,e.subset a,by rw[ej,cW hi]; exact fE hi⟩
  ·rw[Mi a];exact .inl rfl
 ·simp only[if_neg hd];exact .inl trivial
def amf:CK Mx->Way->Int->Int->Int
 |m::ms,l::ls,x,d=>amf ms ls (stp d (m.1,l) m.2 x) d
 |_,_,x,_=>x
def ajx {l:CK Int} (h:l.Pairwise (·<·)):l.Nodup:=h.imp fun h=>Int.ne_of_lt h
def af1:∀{ms:CK Mx} {w:Way},į ms w->(∀x∈ms,x.2.Nodup)->∀x d,iS ms w (amf ms w x d) d=x
 |[],[],_,_,x,d=>rfl
 |m::ms,l::ls,h,a,x,d=>by
  rw[amf,iS,af1 h.2 fun y e=>a y (dL _ e)];exact ab9 (d0:=m.1) (h.1.nodup_iff.2 (a m (by simp))) (a m (by simp)) h.1 x
def aa9:∀{ms:CK Mx} {w:Way},į ms w->(∀x∈ms,x.2.Nodup)->∀x d,amf ms w (iS ms w x d) d=x
 |[],[],_,_,x,d=>rfl
 |m::ms,l::ls,h,a,x,d=>by
  rw[amf,iS];have:=ab9 (d:=d) (d0:=m.1) (l:=m.2) (k:=l) (a m (by simp)) (h.1.nodup_iff.2 (a m (by simp))) h.1.symm (iS ms ls x d);rw[show stp d (m.1,l) m.2 (stp d m l (iS ms ls x d))=_ from this];exact aa9 h.2 (fun y e=>a y (dL _ e)) x d
def af2:∀{ms:CK Mx} {w:Way} (Q:Int->Prop) {d:Int},į ms w->(∀m∈ms,m.1<d->∀x∈m.2,Q x)->∀{x:Int},Q x->Q (iS ms w x d)
 |[],[],Q,d,_,_,x,a=>a
 |m::ms,l::ls,Q,d,h,f,x,a=>by
  have:=af2 (x:=x) Q h.2 (fun y g=>f y (dL _ g)) a;rw[iS];rcases agh (d:=d) h.1 (iS ms ls x d) with e|⟨j,_,i⟩
  ·rw[e]; exact this
  ·exact f m (by simp) j _ i
def LV:∀{ms:CK Mx} {w:Way} {d:Int},į ms w->∀{x:Int},(∀m∈ms,m.1<d->x∉m.2)->iS ms w x d=x
 |[],[],d,_,x,_=>rfl
 |m::ms,l::ls,d,h,x,a=>by
  rw[iS,LV h.2 fun y f=>a y (dL _ f)];rcases agh (d:=d) h.1 x with e|⟨i,g,_⟩
  ·exact e
  ·exact absurd g (a m (by simp) i)
def WV:∀{ms:CK Mx} {w:Way} {d e:Int},į ms w->ms.Pairwise (fun a b=>a.1<b.1)->d<=e->∀{x:Int},(∀m∈ms,d<=m.1->m.1<e->x∉m.2)->iS ms w x e=iS ms w x d
 |[],[],d,e,_,_,_,x,_=>rfl
 |m::ms,l::ls,d,e,h,j,p,x,k=>by
  rw[dI] at j;rcases gD m.1 d with n|o
  ·rw[iS,iS,WV h.2 j.2 p fun y g=>k y (dL _ g)]
   have q:∀y,stp e m l y=stp d m l y:=fun y=>by unfold stp; rw[if_pos n,if_pos (by omega)]
   exact q _
  ·have q:iS (m::ms) (l::ls) x e=x:=LV h fun y g i=>by
    rcases dg.1 g with rfl|f
    ·exact k y (by simp) o i
    ·exact k y g (by have:=j.1 y f; omega) i
   have s:iS (m::ms) (l::ls) x d=x:=LV h fun y g r=>by
    rcases dg.1 g with rfl|f
    ·omega
    ·have:=j.1 y f; omega
   rw[q,s]
def F8 {b:ø} (hi:b.2.1.Pairwise fun a b=>a.1<b.1) {id day:Int}:mE (ř b) id day=0↔∃g,ï b id=some g/\g.2.1<=day:=by
 rw[<-wO hi];unfold Ŋ
 cases ï b id with
 |none=>simp
 |some g =>
  dsimp only
  by_cases h:day<g.2.1
  ·rw[if_pos h]; simp; omega
  ·rw[if_neg h]; simp; omega
def Ft {b:ø} (hi:b.2.1.Pairwise fun a b=>a.1<b.1) {id day:Int}:aar (ř b) id day=0↔BW day=true/\∃g,ï b id=some g/\g.2.1<=day:=by
 unfold aar
 cases BW day with
 |false=>simp
 |true=>simp[F8 hi]
def Zq {b:ø} (hi:b.2.1.Pairwise fun a b=>a.1<b.1) {i:Nat} {l:I0}:LL b (ř b) i l=0↔kp l.2.1 0 20000=true/\inP l.2.2 0 1048576=true/\(∃g,ï b l.1=some g/\g.2.1<=l.2.1.1) /\
 (∀x∈b.2.2.2.1.take i,x.1=l.1->¬(x.2.1.1<=l.2.1.2/\l.2.1.1<=x.2.1.2))/\∀u∈b.2.2.1,u.1=l.1->inP u.2 l.2.1.1 l.2.1.2=false:=by
 unfold LL;rw[<-F8 hi]
 cases kp l.2.1 0 20000 with
 |false=>simp
 |true =>
  cases inP l.2.2 0 1048576 with
  |false=>simp
  |true =>
   by_cases h:mE (ř b) l.1 l.2.1.1=0
   ·simp only[h,dP,dq,if_false,bne_self_eq_false,true_and]
    split
    ·rename_i d;simp only[du,cY,beq_iff_eq,decide_eq_true_eq] at d;obtain⟨x,f,n,k⟩:=d;exact⟨fun e=>absurd e (by decide),fun e=>absurd k (e.1 x f n)⟩
    ·rename_i d;simp only[du,cY,beq_iff_eq,decide_eq_true_eq,not_exists,not_and] at d
     split
     ·rename_i h2;simp only[du,cY,beq_iff_eq] at h2;obtain⟨u,j,n,k⟩:=h2;exact⟨fun e=>absurd e (by decide),fun e=>by have:=e.2 u j n; rw[k] at this; cases this⟩
     ·rename_i h2;simp only[du,cY,beq_iff_eq,not_exists,not_and] at h2;exact⟨fun _=>⟨fun x f e ⟨p,q⟩=>d x f e p q,fun u j e=>by simpa using h2 u j e⟩,fun _=>rfl⟩
   ·simp[h]
def SE {b:ø} (hi:b.2.1.Pairwise fun a b=>a.1<b.1) {c:Cmp}:vc b (ř b) c=0↔(∀x∈c.2.2.1++c.2.2.2.1,(∃g,ï b x=some g/\g.2.1<=c.2.1)/\Ř b x c.2.1=none) /\
 (Ü c.2.2.1 c.2.2.2.1).length<=1/\(Ü c.2.2.2.1 c.2.2.1).length<=1/\(Ü c.2.2.1 c.2.2.2.1).length+(Ü c.2.2.2.1 c.2.2.1).length≠0:=by
 unfold vc;constructor
 ·intro h
  split at h
  ·cases h
  rename_i f
  split at h
  ·cases h
  rename_i h2
  split at h
  ·cases h
  rename_i i
  split at h
  ·cases h
  split at h
  ·cases h
  split at h
  ·cases h
  simp only[du,not_exists,not_and,beq_iff_eq] at f h2;simp only[du,not_exists,not_and,Option.isSome_iff_ne_none,ne_eq,Decidable.not_not] at i;refine⟨fun x d=>⟨(F8 hi).1 ?_,i x d⟩,by omega,by omega,by omega⟩;rcases Ep (ř b) x c.2.1 with e|e|e
  ·exact e
  ·exact absurd e (h2 x d)
  ·exact absurd e (f x d)
 ·intro⟨f,h2,i,k⟩;have j:∀x∈c.2.2.1++c.2.2.2.1,mE (ř b) x c.2.1=0:=fun x d=>(F8 hi).2 (f x d).1;rw[if_neg,if_neg,if_neg,if_neg (by omega),if_neg (by omega),if_neg k]
  ·simp only[du,not_exists,not_and,Option.isSome_iff_ne_none,ne_eq,Decidable.not_not];exact fun x d=>(f x d).2
  ·simp only[du,not_exists,not_and,beq_iff_eq]
   exact fun x d e=>by rw[j x d] at e; cases e
  ·simp only[du,not_exists,not_and,beq_iff_eq]
   exact fun x d e=>by rw[j x d] at e; cases e
def J5 {b:ø} {x d:Int}:Ř b x d=none↔∀l∈b.2.2.2.1,l.1=x->inP d l.2.1.1 l.2.1.2=false:=by
 unfold Ř;rw[List.find?_eq_none];simp
def yZ {m:Ĭ} {w:Way} {d:Int} {l:CK Int} {y:Int}:y∈nl m w d l↔∃x∈l,iS m.2 w x d=y:=by
 unfold nl;rw[(ĵ _).mem_iff,List.mem_map]
section
variable {m:Ĭ} {w:Way}
def MOk.nd (h:MOk m):∀x∈m.2,x.2.Nodup:=fun x a=>ajx (h.mix a).asc
def MOk.inj (h:MOk m) (a:į m.2 w) {d x y:Int} (e:iS m.2 w x d=iS m.2 w y d):x=y:=by
 rw[<-aa9 a h.nd x d,e,aa9 a h.nd]
def MOk.whoG (h:MOk m) (i:į m.2 w) {d x:Int} (f:∃g,ï m.1 x=some g/\g.2.1<=d):∃g,ï m.1 (iS m.2 w x d)=some g/\g.2.1<=d :=
 af2 (fun y=>∃g,ï m.1 y=some g/\g.2.1<=d) i (fun y e hd z a=>by
  obtain⟨g,j,h2⟩:=(h.mix e).known z a
  exact⟨g,j,by omega⟩) f
def MOk.made (h:MOk m) (f:į m.2 w) {x:Int} {g:é} (i:ï m.1 x=some g):iS m.2 w x g.2.1=x :=
 LV f fun y d hd e=>by
  obtain⟨g',a,h2⟩:=(h.mix d).known x e;rw[i] at a; cases a;omega
def MOk.loan (h:MOk m) (f:į m.2 w) {l:I0} (g:l∈m.1.2.2.2.1) {d:Int} (hd:inP d l.2.1.1 l.2.1.2=true):iS m.2 w l.1 d=iS m.2 w l.1 l.2.1.1:=by
 simp only[inP,cY,decide_eq_true_eq] at hd;refine WV f h.days hd.1 fun y a i h2 e=>?_;have:=(J5.1 ((h.mix a).home _ e).1) l g rfl;simp only[inP,Bool.and_eq_false_iff,decide_eq_false_iff_not] at this;omega
def ahU (h:MOk m) (f:į m.2 w) (d:Int) (A B:CK Int):(Ü (nl m w d A) (nl m w d B)).Perm ((Ü A B).map fun x=>iS m.2 w x d):=by
 unfold Ü;refine((ĵ _).filter _).trans ?_;rw[List.filter_map];refine List.Perm.of_eq ?_;congr 1;refine List.filter_congr fun x g=>?_;simp only[Function.comp];congr 1;rw[Bool.eq_iff_iff,List.contains_iff_mem,List.contains_iff_mem,yZ];exact⟨fun⟨y,a,e⟩=>h.inj f e▸a,fun a=>⟨x,a,rfl⟩⟩
def acn (h:MOk m) (i:į m.2 w) {d:Int} {l:CK Int} (n:uE l=true) (p:∀x∈l,∃g,ï m.1 x=some g/\g.2.1<=d):uE (nl m w d l)=true:=by
 obtain⟨u,h2,r⟩:=(y0 l).1 n;refine(y0 _).2 ⟨fun y j=>?_,?_,by unfold nl; rw[(ĵ _).length_eq,List.length_map]; exact r⟩
 ·obtain⟨x,k,rfl⟩:=yZ.1 j;obtain⟨g,q,_⟩:=h.whoG i (p x k);obtain⟨t,s⟩:=iZ q;have:=(h.good.gaugeR t).2.2.2.1;rw[<-s]; exact this
 ·have f:(nl m w d l).Nodup:=by
   unfold nl;rw[(ĵ _).nodup_iff];exact List.pairwise_map.2 (h2.imp fun o e=>by have:=h.inj i e; omega)
  exact((Φ _).and f).imp fun⟨a,b⟩=>Int.lt_iff_le_and_ne.2 ⟨a,b⟩
def amy (h:MOk m) (f:į m.2 w) {x d:Int} (ha:Ř m.1 x d=none):Ř (trP m w) (iS m.2 w x d) d=none:=by
 rw[J5];intro i a e;obtain⟨l,g,rfl⟩:=dz.1 a
 cases hd:inP d l.2.1.1 l.2.1.2 with
 |false=>rfl
 |true =>
  rw[<-h.loan f g hd] at e;have:=J5.1 ha l g (h.inj f e);rw[hd] at this; cases this
def Nk {b:ø} (hi:b.2.1.Pairwise fun a b=>a.1<b.1):(Ô b).Nodup:=by
 unfold Ô List.Nodup;rw[List.pairwise_flatMap];refine⟨fun g _=>List.pairwise_map.2 ((si b g).imp fun h e=>by cases e; omega),hi.imp fun j x i y f e=>?_⟩;obtain⟨d,_,rfl⟩:=List.mem_map.1 i;obtain⟨k,_,rfl⟩:=List.mem_map.1 f;simp only[Prod.mk.injEq] at e;omega
def zk {b:ø} {x d:Int}:(x,d)∈Ô b↔∃g∈b.2.1,g.1=x/\d∈Ý b g:=by
 unfold Ô;simp only[List.mem_flatMap,List.mem_map];constructor
 ·rintro⟨g,a,f,hd,e⟩;cases e;exact⟨g,a,rfl,hd⟩
 ·rintro⟨g,a,rfl,hd⟩;exact⟨g,a,d,hd,rfl⟩
def BX (h:MOk m) (f:į m.2 w) {d:Int} {A:CK Int} {x:Int}:(nl m w d A).contains (iS m.2 w x d)=A.contains x:=by
 rw[eN,dJ,dJ,yZ];exact⟨fun⟨y,a,e⟩=>h.inj f e▸a,fun a=>⟨x,a,rfl⟩⟩
def amx (h:MOk m) (e:į m.2 w) {x d:Int} (o:(x,d)∈Ô m.1):(iS m.2 w x d,d)∈Ô (trP m w):=by
 obtain⟨g,l,rfl,hd⟩:=zk.1 o;have a:=rY h.good.ids l;obtain⟨g',k,_⟩:=h.whoG e (x:=g.1) (d:=d) ⟨g,a,(h.good.day l hd).1⟩;obtain⟨q,j⟩:=iZ k;refine zk.2 ⟨g',q,j,Ž.2 ?_⟩;rcases Ž.1 hd with rfl|⟨c,p,i,rfl⟩|⟨n,f,i,rfl⟩
 ·rw[h.made e a,a] at k;cases k;exact .inl rfl
 ·refine .inr (.inl ⟨aap m w c,dz.2 ⟨c,p,rfl⟩,?_,rfl⟩);rw[j];show(nl m w c.2.1 c.2.2.1).contains _≠(nl m w c.2.1 c.2.2.2.1).contains _;rw[BX h e,BX h e];exact i
 ·exact .inr (.inr ⟨_,dz.2 ⟨n,f,rfl⟩,by rw[j,i],rfl⟩)
def Xa (h:MOk m) (j:į m.2 w) {y d:Int} (s:(y,d)∈Ô (trP m w)):∃x,iS m.2 w x d=y/\(x,d)∈Ô m.1:=by
 obtain⟨g,k,rfl,hd⟩:=zk.1 s;have k:g∈m.1.2.1:=k;have o:=rY h.good.ids k;have q:iS m.2 w (amf m.2 w g.1 d) d=g.1:=af1 j h.nd _ _
 have fin:∀x,iS m.2 w x d=g.1->(∃g',ï m.1 x=some g')->(∀g':é,g'.1=x->d∈Ý m.1 g')->∃x,iS m.2 w x d=g.1/\(x,d)∈Ô m.1:=fun x e ⟨g',A⟩ z=>by
  obtain⟨v,a⟩:=iZ A;exact⟨x,e,zk.2 ⟨g',v,a,z g' a⟩⟩
 rcases Ž.1 hd with e|⟨c',p,a,f⟩|⟨B,l,a,f⟩
 ·subst e;exact⟨g.1,h.made j o,zk.2 ⟨g,k,rfl,oz g⟩⟩
 ·obtain⟨c,r,rfl⟩:=dz.1 p;have f:c.2.1=d:=f;subst f;have a:(nl m w c.2.1 c.2.2.1).contains g.1≠(nl m w c.2.1 c.2.2.2.1).contains g.1:=a;rw[<-q,BX h j,BX h j] at a;refine fin _ q ?_ fun g' e=>Ž.2 (.inr (.inl ⟨c,r,by rw[e]; exact a,rfl⟩))
  have:amf m.2 w g.1 c.2.1∈c.2.2.1++c.2.2.2.1:=by
   rw[df,<-dJ,<-dJ]
   cases t:c.2.2.1.contains (amf m.2 w g.1 c.2.1) with
   |true=>exact .inl rfl
   |false =>
    rw[t] at a;exact .inr (by simpa using a)
  obtain⟨⟨g',e,_⟩,_⟩:=h.good.pile r this;exact⟨g',e⟩
 ·obtain⟨n,i,rfl⟩:=dz.1 l;have f:n.2=d:=f;have a:iS m.2 w n.1 n.2=g.1:=a;subst f;obtain⟨_,g',e,_⟩:=(Ft h.good.ids).1 (h.good.looks n i);exact fin n.1 a ⟨g',e⟩ fun u e=>Ž.2 (.inr (.inr ⟨n,i,e.symm,rfl⟩))
def akx (m:Ĭ) (w:Way) (n:Int×Int):Int×Int:=(iS m.2 w n.1 n.2,n.2)
def al3 (h:MOk m):(trP m w).2.1.Pairwise fun a b=>a.1<b.1:=h.good.ids
def tr_len (h:MOk m) (g:į m.2 w):(Ô (trP m w)).length=(Ô m.1).length:=by
 have p:(Ô (trP m w)).length<=((Ô m.1).map (akx m w)).length:=gw (Nk (al3 h)) fun n k=>by
  obtain⟨x,e,f⟩:=Xa (y:=n.1) (d:=n.2) h g k;exact dz.2 ⟨(x,n.2),f,Prod.ext e rfl⟩
 have h2:((Ô m.1).map (akx m w)).length<=(Ô (trP m w)).length:=by
  have j:((Ô m.1).map (akx m w)).Nodup:=by
   refine List.pairwise_map.2 ((Nk h.good.ids).imp ?_);intro a b i e;unfold akx at e;simp only[Prod.mk.injEq] at e;obtain⟨o,l⟩:=e;rw[l] at o;exact i (Prod.ext (h.inj g o) l)
  refine gw j fun n k=>?_;obtain⟨⟨x,d⟩,f,rfl⟩:=dz.1 k;exact amx h g f
 rw[dD] at p h2;omega
def qR (h:MOk m) (j:į m.2 w):ţ (trP m w):=by
 have a:=h.good;have f:=al3 (w:=w) h;have X:ř (trP m w)=ř m.1:=rfl;have Z:∀x,ï (trP m w) x=ï m.1 x:=fun _=>rfl;have o:=tr_len h j;refine⟨a.film,a.nG,by simpa[trP] using a.nU,by simpa[trP] using a.nL,by simpa[trP] using a.nC,by simpa[trP] using a.nK,a.gauge,f,?_,?_,?_,?_,by rw[o]; exact a.nodes,by rw[o]; simpa[trP] using a.links⟩
 ·intro u' q;obtain⟨u,F,rfl⟩:=dz.1 q;obtain⟨C,B⟩:=(Ft a.ids).1 (a.uses u F);exact(Ft f).2 ⟨C,h.whoG j B⟩
 ·intro i O I
  obtain⟨l,P,rfl⟩:∃l,m.1.2.2.2.1[i]?=some l/\(iS m.2 w l.1 l.2.1.1,l.2)=O:=by
   have:(m.1.2.2.2.1.map (fun l:I0=>(iS m.2 w l.1 l.2.1.1,l.2)))[i]?=some O:=I;rw[eW] at this
   cases d:m.1.2.2.2.1[i]? with
   |none=>rw[d] at this; cases this
   |some l=>rw[d] at this; exact⟨l,rfl,by simpa using this⟩
  have r:=de P;obtain⟨C,B,e3,e4,e5⟩:=(Zq a.ids).1 (a.loans i l P);refine(Zq f).2 ⟨C,B,h.whoG j e3,fun R k ex z=>?_,fun u' q M=>?_⟩
  ·have k:R∈(m.1.2.2.2.1.map (fun l:I0=>(iS m.2 w l.1 l.2.1.1,l.2))).take i:=k;rw[<-List.map_take] at k;obtain⟨x,d,rfl⟩:=List.mem_map.1 k;have t:=List.mem_of_mem_take d;have s1:=(wd a t).1;have s2:=(wd a r).1;dsimp only at ex z
   have d1:inP (max x.2.1.1 l.2.1.1) x.2.1.1 x.2.1.2=true:=by simp[inP]; omega
   have d2:inP (max x.2.1.1 l.2.1.1) l.2.1.1 l.2.1.2=true:=by simp[inP]; omega
   rw[<-h.loan j t d1,<-h.loan j r d2] at ex;exact e4 x d (h.inj j ex) z
  ·obtain⟨u,F,rfl⟩:=List.mem_map.1 q;dsimp only at M ⊢
   cases hd:inP u.2 l.2.1.1 l.2.1.2 with
   |false=>rfl
   |true =>
    rw[<-h.loan j r hd] at M;have:=e5 u F (h.inj j M);rw[hd] at this; cases this
 ·intro i c' K
  obtain⟨c,Q,rfl⟩:∃c,m.1.2.2.2.2.1[i]?=some c/\aap m w c=c':=by
   have:(m.1.2.2.2.2.1.map (aap m w))[i]?=some c':=K;rw[eW] at this
   cases d:m.1.2.2.2.2.1[i]? with
   |none=>rw[d] at this; cases this
   |some l=>rw[d] at this; exact⟨l,rfl,by simpa using this⟩
  have s:=de Q;obtain⟨n1,V,U,n4,T,n6,S⟩:=(ų c).1 (a.nums s);have v:=(SE a.ids).1 (a.pilesOf s);have J:∀x∈c.2.2.1++c.2.2.2.1,∃g,ï m.1 x=some g/\g.2.1<=c.2.1:=fun x d=>(v.1 x d).1;have A:Jf (aap m w c)=true:=(ų _).2 ⟨n1,V,U,n4,T,acn h j n6 fun x d=>J x (dU _ d),acn h j S fun x d=>J x (dR _ d)⟩;have E:=(ahU h j c.2.1 c.2.2.1 c.2.2.2.1).length_eq;have D:=(ahU h j c.2.1 c.2.2.2.1 c.2.2.1).length_eq;rw[dD] at E D
  have G:vc (trP m w) (ř (trP m w)) (aap m w c)=0:=by
   refine(SE f).2 ⟨fun y p=>?_,?_,?_,?_⟩
   ·have p:y∈nl m w c.2.1 c.2.2.1++nl m w c.2.1 c.2.2.2.1:=p
    obtain⟨x,d,rfl⟩:∃x∈c.2.2.1++c.2.2.2.1,iS m.2 w x c.2.1=y:=by
     rcases df.1 p with p|p
     ·obtain⟨x,d,e⟩:=yZ.1 p;exact⟨x,dU _ d,e⟩
     ·obtain⟨x,d,e⟩:=yZ.1 p;exact⟨x,dR _ d,e⟩
    exact⟨h.whoG j (J x d),amy h j (v.1 x d).2⟩
   ·show(Ü (nl m w c.2.1 c.2.2.1) (nl m w c.2.1 c.2.2.2.1)).length<=1;rw[E]; exact v.2.1
   ·show(Ü (nl m w c.2.1 c.2.2.2.1) (nl m w c.2.1 c.2.2.1)).length<=1;rw[D]; exact v.2.2.1
   ·show(Ü (nl m w c.2.1 c.2.2.1) (nl m w c.2.1 c.2.2.2.1)).length+(Ü (nl m w c.2.1 c.2.2.2.1) (nl m w c.2.1 c.2.2.1)).length≠0;rw[E,D]; exact v.2.2.2
  have h0:=a.compares i c Q;unfold kM at h0 ⊢;rw[a.nums s] at h0;rw[A,G]
  have W:((trP m w).2.2.2.2.1.take i).any (fun x=>x.1==(aap m w c).1)=(m.1.2.2.2.2.1.take i).any fun x=>x.1==c.1:=by
   show((m.1.2.2.2.2.1.map (aap m w)).take i).any _=_;rw[<-List.map_take,List.any_map]; rfl
  rw[W];simp only[dP,dq,if_false] at h0 ⊢
  split at h0
  ·cases h0
  ·rename_i h1; rw[if_neg h1]
 ·intro n' H;obtain⟨n,Y,rfl⟩:=dz.1 H;obtain⟨C,B⟩:=(Ft a.ids).1 (a.looks n Y);exact(Ft f).2 ⟨C,h.whoG j B⟩
end
section
variable {L:CK Lk} {N:Nat}
def WS (h:km L N):ow ((N:Int),L)=some (la L N,0):=by
 have h2:=h.n60;unfold ow DE;rw[nh h,À];dsimp only;rw[Ì (by rfl),wN h.links h.n1 (by omega),À]
 cases la L N<;>rfl
end
def abU (x y:CK Int):CK Int×CK Int×Int:=if !uE x then([],[],1) else if !uE y then([],[],1) else(Ü x y,Ü y x,0)
def ajU {x y:CK Int} (d:x.length<=100000) (a:y.length<=100000):qM x y=some (abU x y):=by
 unfold qM TS abU;rw[HT (by omega),À]
 cases uE x with
 |false=>rfl
 |true =>
  rw[HT (by omega),À]
  cases uE y with
  |false=>rfl
  |true =>
   rw[AK (by omega) (by omega),À,AK (by omega) (by omega),À];rfl
def less (b:ø) (ids:CK Int):ø:=(b.1,b.2.1,b.2.2.1,b.2.2.2.1,b.2.2.2.2.1.filter (fun c=>!ids.contains c.1),b.2.2.2.2.2)
section
variable {b:ø} {ids:CK Int}
def ţ.distinct (h:ţ b):b.2.2.2.2.1.Pairwise fun a c=>a.1≠c.1:=by
 rw[List.pairwise_iff_getElem];intro i j hi f g k;have e:=h.compares j _ (List.getElem?_eq_getElem f);unfold kM at e
 have d:(b.2.2.2.2.1.take j).any (fun x=>x.1==b.2.2.2.2.1[j].1)=true:=by
  rw[du];exact⟨b.2.2.2.2.1[i],dp.2 ⟨i,by rw[dl]; omega,by rw[fh]⟩,by simp[k]⟩
 rw[d] at e
 (repeat' split at e)<;>first|omega|simp_all
def aic {α β:Type} (f g:α->CK β):∀l:CK α,(∀a∈l,(f a).length<=(g a).length)->(l.flatMap f).length<=(l.flatMap g).length
 |[],_=>cX _
 |a::l,h=>by
  rw[dA,dA,cZ,cZ];have:=h a (by simp);have:=aic f g l fun c d=>h c (by simp[d]);omega
def lt_len:∀{x y:CK Int},x.Pairwise (·<·)->(∀a∈x,a∈y)->x.length<=y.length:=by
 intro x y d h;exact(gw (d.imp fun h=>by omega) h)
def ţ.less (h:ţ b) (ids:CK Int):ţ (less b ids):=by
 have l:∀c∈(ZzM.less b ids).2.2.2.2.1,c∈b.2.2.2.2.1:=fun c o=>(dK.1 o).1;have p:(ZzM.less b ids).2.2.2.2.1.length<=b.2.2.2.2.1.length:=dW _ _
 have n:∀g,(Ý (ZzM.less b ids) g).length<=(Ý b g).length:=fun g=>lt_len (si _ g) fun d hd=>by
  rcases Ž.1 hd with e|⟨c,o,y,h2⟩|B
  ·exact Ž.2 (.inl e)
  ·exact Ž.2 (.inr (.inl ⟨c,l c o,y,h2⟩))
  ·exact Ž.2 (.inr (.inr B))
 have f:(Ô (ZzM.less b ids)).length<=(Ô b).length:=aic _ _ _ fun g _=>by rw[dD,dD]; exact n g
 have F:=h.nodes;have G:=h.nC;refine⟨h.film,h.nG,h.nU,h.nL,Nat.le_trans p h.nC,h.nK,h.gauge,h.ids,h.uses,h.loans,fun i c o=>?_,h.looks,Nat.le_trans f F,by omega⟩;have v:=l c (List.mem_of_getElem? o);obtain⟨j,D,t⟩:=List.mem_iff_getElem.1 v;have s:=h.compares j c (by rw[List.getElem?_eq_getElem D,t]);unfold kM at s ⊢
 split at s
 ·omega
 rename_i y
 split at s
 ·omega
 rw[if_neg y,if_neg ?_]
 ·exact s
 ·intro r;obtain⟨x,A,E⟩:=du.1 r;obtain⟨k,C,q⟩:=dp.1 A;rw[dl] at C;rw[fh] at q;obtain⟨hi,u⟩:=dc.1 o;have z:=dM.1 ((h.distinct.sublist gO:(ZzM.less b ids).2.2.2.2.1.Pairwise fun a c=>a.1≠c.1)) k i (by omega) hi (by omega);rw[q,u] at z;exact z (eq_of_beq E)
end
abbrev zC:Cmp:=((0:Int),(0:Int),[],[],(0:Int),(0:Int),(0:Int),(0:Int))
section
variable {ρ α:Type}
def ais (a:α) (K:CK α->BY ρ) (z:Int×CK α):BY ρ :=
 à ((ile (0:Int) z.1)&&(ile z.1 (ì z.2))) (à ((ile (0:Int) z.1)&&(ile z.1 (ì (List.take (Int.toNat z.1) z.2++List.replicate (List.length z.2-(Int.toNat z.1)) a++List.drop ((Int.toNat z.1)+(List.length z.2-(Int.toNat z.1))) z.2))))
  (K (List.take (Int.toNat z.1) (List.drop 0 (List.take (Int.toNat z.1) z.2++List.replicate (List.length z.2-(Int.toNat z.1)) a++List.drop ((Int.toNat z.1)+(List.length z.2-(Int.toNat z.1))) z.2)))))
def abr (a:α) (K:CK α->BY ρ) {i:Nat} {s:CK α} (h:i<=s.length):ais a K ((i:Int),s)=K (s.take i):=by
 unfold ais
 have e:((ile (0:Int) (i:Int))&&(ile (i:Int) (ì s)))=true:=by simp[ile,ì]; omega
 dsimp only;rw[á e]
 have d:((ile (0:Int) (i:Int))&&(ile (i:Int) (ì (List.take (Int.toNat (i:Int)) s++List.replicate (List.length s-(Int.toNat (i:Int))) a++List.drop ((Int.toNat (i:Int))+(List.length s-(Int.toNat (i:Int)))) s))))=true:=by
  simp[ile,ì]; omega
 rw[á d,dm,ic,dj,fR (by simp; omega),List.take_take,Nat.min_self]
def afe (p:α->Bool) {a:CK α} {F:Int->Int->CK α->(Int->Int->CK α->BY ρ)->BY ρ} {k0:Int×CK α->BY ρ} {K:CK α->BY ρ}
 (J:∀(i j:Nat) (s:CK α) (x:α),s.length=a.length->i<j->j<s.length->s[j]?=some x->x∈a->∀d,F i j s d=if p x then d ((i:Int)+1) ((j:Int)+1) (s.set i x) else d i ((j:Int)+1) s)
 (M:∀(i:Nat) (s:CK α) d,i<=s.length->s.length=a.length->F i s.length s d=k0 ((i:Int),s)) (G:∀(i:Nat) (s:CK α),i<=s.length->k0 ((i:Int),s)=K (s.take i))
 {z:Nat} (D:z<a.length) (E:∀x∈a.take z,p x=true) (I:∀c,a[z]?=some c->p c=false) :
 Ê (fun(v:Int×Int×CK α) C=>F v.1 v.2.1 v.2.2 (fun x y w=>C (x,y,w))) ((z:Int),((z:Int)+1),a)=K (a.filter p):=by
 refine è (fun x:Int×Int×CK α=>∃i j:Nat,x.1=i/\x.2.1=j/\i<j/\j<=a.length/\x.2.2.length=a.length/\x.2.2.take i=(a.take j).filter p/\x.2.2.drop j=a.drop j) (fun x=>a.length-x.2.1.toNat) ?_
  ⟨z,z+1,rfl,by simp,by omega,by omega,rfl,?_,rfl⟩
 ·rintro⟨P,O,s⟩ ⟨i,j,B,h2,t,H,g,l,hd⟩;simp only at B h2 g l hd;subst B h2;rcases dk j a.length with n|n
  ·refine .inr ?_
   have o:s[j]?=some a[j]:=by
    have A:(s.drop j)[0]?=(a.drop j)[0]?:=by rw[hd]
    rw[eS,eS] at A;simpa[cW n] using A
   have f:(a.take (j+1)).filter p=(a.take j).filter p++if p a[j] then[a[j]] else[]:=by
    rw[take_succ (cW n),fc];congr 1
    cases h:p a[j]<;>simp[h]
   have k:s.drop (j+1)=a.drop (j+1):=by
    have:=congrArg (List.drop 1) hd;simpa[gb,Nat.add_comm] using this
   have u:=J i j s a[j] g t (by omega) o (fE n)
   cases h:p a[j] with
   |false =>
    refine⟨(i,(j:Int)+1,s),⟨i,j+1,rfl,by simp,by omega,by omega,g,?_,k⟩,by simp; omega,fun d=>by dsimp only; rw[u,h]; rfl⟩;rw[f,h]; simpa using l
   |true =>
    have r:i<s.length:=by omega
    refine⟨((i:Int)+1,(j:Int)+1,s.set i a[j]),⟨i+1,j+1,by simp,by simp,by omega,by omega,by simpa using g,?_,?_⟩,by simp; omega,fun d=>by dsimp only; rw[u,h]; rfl⟩
    ·show List.take (i+1) (s.set i a[j])=_;rw[f,h,List.take_add_one,ik,List.take_set_of_le (cX i),l];simp[r]
    ·show List.drop (j+1) (s.set i a[j])=_;rw[List.drop_set_of_lt (by omega)];exact k
  ·refine .inl fun d=>?_
   have q:j=s.length:=by omega
   try dsimp only
   rw[q,M i s _ (by omega) g,G i s (by omega),l,dY (by omega)]
 ·show List.take z a=(a.take (z+1)).filter p;have e:a[z]?=some a[z]:=cW D;rw[take_succ e,fc,gR.2 E];simp[I _ e]
def abq (p:α->Bool) {a:CK α} {o:Int->(Int->BY ρ)->BY ρ} {F:Int->Int->CK α->(Int->Int->CK α->BY ρ)->BY ρ} {k0:Int×CK α->BY ρ} {K:CK α->BY ρ} {kf:Int->BY ρ} {kend:BY ρ}
 (D:∀(i:Nat) (x:α),i<a.length->a[i]?=some x->∀d,o i d=if !p x then kf i else d ((i:Int)+1)) (n:∀d,o a.length d=kend) (e:kend=K a)
 (k:∀z:Nat,z<a.length->kf z=Ê (fun(v:Int×Int×CK α) t=>F v.1 v.2.1 v.2.2 (fun x y w=>t (x,y,w))) ((z:Int),((z:Int)+1),a))
 (B:∀(i j:Nat) (s:CK α) (x:α),s.length=a.length->i<j->j<s.length->s[j]?=some x->x∈a->∀d,F i j s d=if p x then d ((i:Int)+1) ((j:Int)+1) (s.set i x) else d i ((j:Int)+1) s)
 (C:∀(i:Nat) (s:CK α) d,i<=s.length->s.length=a.length->F i s.length s d=k0 ((i:Int),s)) (u:∀(i:Nat) (s:CK α),i<=s.length->k0 ((i:Int),s)=K (s.take i)):Ê o 0=K (a.filter p):=by
 rw[jw a (fun x=>!p x) kf kend D n]
 cases q:a.findIdx? (fun x=>!p x) with
 |none =>
  dsimp only;rw[e,List.filter_eq_self.2];intro x g;have:=List.findIdx?_eq_none_iff.1 q x g;simpa using this
 |some z =>
  obtain⟨f,l,h⟩:=List.findIdx?_eq_some_iff_getElem.1 q;dsimp only;rw[k z f];refine afe p B C u f (fun x g=>?_) (fun c r=>?_)
  ·obtain⟨j,A,rfl⟩:=dp.1 g;rw[dl] at A;rw[fh];have:=h j (by omega);simpa using this
  ·rw[cW f] at r;cases r;simpa using l
end
def mr (m:Ĭ) (w:Way):Bool:=la (Υ (trP m w)) ((Ô (trP m w)).length+1)
def uO (m:Ĭ):CK Way:=(Ŏ m.2).filter (mr m)
def T9 (m:Ĭ):Way×Bool:=match (Ŏ m.2).find? (mr m) with|some w=>(w,true)|none=>([],false)
section
variable {m:Ĭ} {w:Way} {ρ:Type}
def In_tr (h:MOk m) (a:į m.2 w):In (trP m w):=⟨(qR h a).size,h.in_.num⟩
def QC (h:MOk m) (a:į m.2 w):jG (trP m w)=some ((((Ô (trP m w)).length:Int)+1,Υ (trP m w)),L2 (trP m w),0):=by
 rw[aaa (In_tr h a),WQ,if_neg (by simp[(Μ _).2 (qR h a)])]
def yd (h:MOk m) (a:į m.2 w):Χ m w=some (mr m w):=by
 unfold Χ Kr;rw[sK h a,À,QC h a,À];have:=WS (qR h a).sys;simp only[Int.natCast_add,Int.cast_ofNat_Int] at this;rw[this]; rfl
def qQ {i:Nat} (hi:(Ŏ m.2)[i]?=some w):į m.2 w:=uU.1 (de hi)
def sI (h:MOk m):(Ŏ m.2).length<=150:=by rw[af7]; exact h.prod
def ah7 (h:MOk m):Ie m=some (uO m):=by
 unfold Ie Vk;have G:=My h;have C:=sI h;have t:((((m.1.1.1,m.1.1.2),m.1.2.1,m.1.2.2.1,m.1.2.2.2.1,m.1.2.2.2.2.1,m.1.2.2.2.2.2),m.2):Ĭ)=m:=rfl;rw[aiB h,À,Mk (fun v y e E=>by unfold EC; rw[á (Ñ (by simp; omega))]) (by simp; omega),List.nil_append,Xe h,À]
 refine abq (a:=Ŏ m.2) (mr m) (K:=fun l=>some l) (k0:=ais [] fun l=>some l) (kf:=fun n=>ifb (ieq n (-1:Int)) (some (Ŏ m.2)) (ck (n+(1:Int)) fun u=>Ê (fun(d:Int×Int×CK Way) f=>nJ m.1.1.1 m.1.1.2 m.1.2.1 m.1.2.2.1 m.1.2.2.2.1 m.1.2.2.2.2.1 m.1.2.2.2.2.2 m.2 d.1 d.2.1 d.2.2 (fun q p o=>f (q,p,o)) (ais [] fun l=>some l)) (n,u,Ŏ m.2)))
  (F:=fun a b c e=>nJ m.1.1.1 m.1.1.2 m.1.2.1 m.1.2.2.1 m.1.2.2.2.1 m.1.2.2.2.2.1 m.1.2.2.2.2.2 m.2 a b c e (ais [] fun l=>some l)) (kend:=some (Ŏ m.2)) (fun i x hi g e=>?_) (fun e=>?_) rfl (fun z A=>?_) (fun i j s x B D k g r e=>?_) (fun i s e hi B=>?_) (fun i s hi=>abr _ _ hi)
 ·try dsimp only
  unfold wX;rw[Í hi,Ş hi,ă g,t,yd h (qQ g),À,È hi (by omega),õ];rfl
 ·try dsimp only
  unfold wX;rw[Ò]
 ·rw[Ì (by simp[ieq]),È A (by omega)]
 ·try dsimp only
  unfold nJ;rw[Í k,show ì s=((s.length:Nat):Int) from rfl,Ş k,ă g,t,yd h (uU.1 r),À];cases mr m x
  ·simp only[fJ,dP,ç,dq,if_false];rw[È k (by omega)]
  ·simp only[fJ,dP,kG,if_true];rw[Ş (by omega),ă (cW (by omega)),È (show i<s.length by omega) (by omega),È k (by omega),dm]
 ·try dsimp only
  unfold nJ;rw[Ò]
def uB (h:MOk m):û m=some (T9 m):=by
 unfold û Gs;have g:=sI h;have f:((((m.1.1.1,m.1.1.2),m.1.2.1,m.1.2.2.1,m.1.2.2.2.1,m.1.2.2.2.2.1,m.1.2.2.2.2.2),m.2):Ĭ)=m:=rfl;rw[MI h,À];refine Eq.trans (jC (Ŏ m.2) (fun _ w=>if mr m w then some (w,true) else none) (fun z=>some (z.1,z.2)) (some ([],false)) (fun i x hi a d=>?_) (fun d=>?_)) ?_
 ·try dsimp only
  unfold lN;rw[Í hi,Æ a,f,yd h (qQ a),À,È hi (by omega),õ]
  cases mr m x<;>rfl
 ·try dsimp only
  unfold lN;rw[Ò]
 ·rw[KK,T9]
  have key:∀l:CK Way,l.findSome? (fun w=>if mr m w then some (w,true) else none)=(l.find? (mr m)).map fun w=>(w,true):=by
   intro l
   induction l with
   |nil=>rfl
   |cons x l e =>
    rw[gP,f6]
    cases h:mr m x with
    |true=>rfl
    |false=>exact e
  rw[key]
  cases(Ŏ m.2).find? (mr m)<;>rfl
def Ğ (m:Ĭ):Bool:=(Ŏ m.2).any (mr m)
def sa (m:Ĭ):(T9 m).2=Ğ m:=by
 unfold T9 Ğ
 cases h:(Ŏ m.2).find? (mr m) with
 |none =>
  symm
  rw[eh]
  exact fun x a=>by simpa using(eo.1 h) x a
 |some w =>
  symm
  rw[du];exact⟨w,fM h,fP h⟩
def All_ok (d:In m.1) (e:m.2.length<=1000):We m=some (if ī m≠0 then([],ī m) else(uO m,0)):=by
 unfold We ahn;rw[m9 d e,À]
 by_cases a:ī m=0
 ·rw[Ì (by simp[ine,a]),if_neg (by simp[a]),ah7 ((Ł m).1 a)]; rfl
 ·rw[Ð (by simp[ine,a]),if_pos a]
def aa8 (m:Ĭ):Way×Int:=if ī m≠0 then([],ī m) else if Ğ m then((T9 m).1,0) else([],5)
def ajP (d:In m.1) (e:m.2.length<=1000):Ih m=some (aa8 m):=by
 unfold Ih Yx aa8;rw[m9 d e,À]
 by_cases a:ī m=0
 ·rw[Ì (by simp[ine,a]),if_neg (by simp[a]),uB ((Ł m).1 a),À,sa]
  cases Ğ m<;>rfl
 ·rw[Ð (by simp[ine,a]),if_pos a]
def adA (m:Ĭ) (p:Cmp->Bool):Ĭ:=((m.1.1,m.1.2.1,m.1.2.2.1,m.1.2.2.2.1,m.1.2.2.2.2.1.filter p,m.1.2.2.2.2.2),m.2)
def Ħ (m:Ĭ) (ids:CK Int):Ĭ:=adA m fun c=>ids.contains c.1
def U4 (A:m.1.2.2.2.2.1.length<=1000) {ids:CK Int} (hi:ids.length<=1000000):xP m ids=some (Ħ m ids):=by
 unfold xP Vh;rw[á (Ñ (by omega))]
 refine abq (a:=m.1.2.2.2.2.1) (fun c=>ids.contains c.1) (K:=fun l=>some ((m.1.1,m.1.2.1,m.1.2.2.1,m.1.2.2.2.1,l,m.1.2.2.2.2.2),m.2)) (k0:=ais zC fun l=>some ((m.1.1,m.1.2.1,m.1.2.2.1,m.1.2.2.2.1,l,m.1.2.2.2.2.2),m.2))
  (kf:=fun k=>ifb (ieq k (-1:Int)) (some m) (ck (k+(1:Int)) fun r=>Ê (fun(d:Int×Int×CK Cmp) g=>nI ids d.1 d.2.1 d.2.2 (fun p o n=>g (p,o,n)) (ais zC fun l=>some ((m.1.1,m.1.2.1,m.1.2.2.1,m.1.2.2.2.1,l,m.1.2.2.2.2.2),m.2))) (k,r,m.1.2.2.2.2.1)))
  (F:=fun a b c f=>nI ids a b c f (ais zC fun l=>some ((m.1.1,m.1.2.1,m.1.2.2.1,m.1.2.2.2.1,l,m.1.2.2.2.2.2),m.2))) (kend:=some m) (fun i x e q f=>?_) (fun f=>?_) rfl (fun z t=>?_) (fun i j s x v y h q u f=>?_) (fun i s f hi v=>?_) (fun i s hi=>abr _ _ hi)
 ·try dsimp only
  unfold wW;rw[Í e,Ş e,ă q,Š hi,À,È e (by omega),õ];rfl
 ·try dsimp only
  unfold wW;rw[Ò]
 ·rw[Ì (by simp[ieq]),È t (by omega)]
 ·try dsimp only
  unfold nI;rw[Í h,show ì s=((s.length:Nat):Int) from rfl,Ş h,ă q,Š hi,À];cases ids.contains x.1
  ·simp only[fJ,dP,ç,dq,if_false];rw[È h (by omega)]
  ·simp only[fJ,dP,kG,if_true];rw[Ş (by omega),ă (cW (by omega)),È (show i<s.length by omega) (by omega),È h (by omega),dm]
 ·try dsimp only
  unfold nI;rw[Ò]
end
section
variable {b:ø}
def Md (h:ţ b) (g:é) {f t u:Int} (d:f<=t) (h2:t<=u):jk b g f u=jk b g f t+jk b g t u:=by
 obtain⟨n,rfl⟩:∃n:Nat,u=t+n:=⟨(u-t).toNat,by omega⟩;clear h2
 induction n with
 |zero=>simp[AH]
 |succ n a =>
  have e:t+((n+1:Nat):Int)=(t+n)+1:=by omega
  rw[e,Pw h g (show f<=t+(n:Int) by omega),Pw h g (show t<=t+(n:Int) by omega),a];omega
def E4 (h:ţ b) {g:é} (a:g∈b.2.1) {f t:Int} (d:0<=f):0<=jk b g f t:=(jZ h a d).1
def iV (b:ø) (id d:Int):Int:=match jb (Ô b) id d with|some j=>(j:Int)+1|none=>0
def sQ (h:ţ b) {i:Nat} {g:é} (e:b.2.1[i]?=some g) {k:Nat} {d:Int} (a:(Ý b g)[k]?=some d):iV b g.1 d=(off b i:Int)+k+1:=by
 unfold iV;rw[U8 h e a];simp only;omega
structure wJ (b:ø) (p:Int->Int) (g:é):Prop where
 hi:p (iV b g.1 g.2.1)<=p 0+(g.2.2.1+g.2.2.2.1.2)
 lo:p 0+(g.2.2.1+g.2.2.2.1.1)<=p (iV b g.1 g.2.1)
 down:∀d e,d∈Ý b g->e∈Ý b g->d<=e->p (iV b g.1 e)<=p (iV b g.1 d)
 loss:∀d e,d∈Ý b g->e∈Ý b g->d<=e->p (iV b g.1 d)<=p (iV b g.1 e)+jk b g d e
def H4 (h:ţ b) {i:Nat} {g:é} (j:b.2.1[i]?=some g) {p:Int->Int}:(∀l∈ö b g,p l.2.1<=p l.1+l.2.2)↔wJ b p g:=by
 have B:=de j;obtain⟨O,z⟩:=P7 h B
 have h0:iV b g.1 g.2.1=(off b i:Int)+1:=by
  have:=sQ h j (k:=0) (d:=g.2.1) (by rw[z]; rfl);rw[this];omega
 constructor
 ·intro q;have M:=q _ ((Ņ h j).2 (.inl rfl));have K:=q _ ((Ņ h j).2 (.inr (.inl rfl)));simp only at M K
  have step:∀(k:Nat) (d e:Int),(Ý b g)[k]?=some d->(Ý b g)[k+1]?=some e->p (iV b g.1 e)<=p (iV b g.1 d)/\p (iV b g.1 d)<=p (iV b g.1 e)+jk b g d e:=by
   intro k d e hd a;have r:=q _ ((Ņ h j).2 (.inr (.inr ⟨k,d,e,hd,a,.inl rfl⟩)));have o:=q _ ((Ņ h j).2 (.inr (.inr ⟨k,d,e,hd,a,.inr rfl⟩)));simp only at r o;rw[sQ h j hd,sQ h j a]
   have v:(off b i:Int)+((k+1:Nat):Int)+1=(off b i:Int)+k+2:=by omega
   rw[v];exact⟨by omega,o⟩
  have pair:∀(n k:Nat) (d e:Int),(Ý b g)[k]?=some d->(Ý b g)[k+n]?=some e->p (iV b g.1 e)<=p (iV b g.1 d)/\p (iV b g.1 d)<=p (iV b g.1 e)+jk b g d e:=by
   intro n
   induction n with
   |zero =>
    intro k d e hd a;rw[gE,hd] at a;cases a;rw[AH g (dT _)];omega
   |succ n I =>
    intro k d e hd a;have t:=(dc.1 a).1;have s:(Ý b g)[k+n]?=some ((Ý b g)[k+n]'(by omega)):=cW (by omega);obtain⟨r,o⟩:=I k d _ hd s;obtain⟨a3,y⟩:=step (k+n) _ e s a
    have H:d<=(Ý b g)[k+n]'(by omega):=by
     obtain⟨A,u⟩:=dc.1 hd;rcases fK n with rfl|P
     ·rw[<-u]; exact Int.le_of_eq (by congr 1)
     ·have:=(dM.1 (si b g)) k (k+n) A (by omega) (by omega);rw[u] at this; omega
    have G:(Ý b g)[k+n]'(by omega)<=e:=by
     obtain⟨D,E⟩:=dc.1 a;have:=(dM.1 (si b g)) (k+n) (k+(n+1)) (by omega) D (by omega);rw[E] at this; omega
    have:=Md h g H G;omega
  have any:∀d e,d∈Ý b g->e∈Ý b g->d<=e->p (iV b g.1 e)<=p (iV b g.1 d)/\p (iV b g.1 d)<=p (iV b g.1 e)+jk b g d e:=by
   intro d e hd a f;obtain⟨k,F,rfl⟩:=dp.1 hd;obtain⟨m,s,rfl⟩:=dp.1 a
   have J:k<=m:=by
    rcases dk m k with t|C
    ·have:=(dM.1 (si b g)) m k s F t; omega
    ·exact C
   exact pair (m-k) k _ _ (cW F) (by rw[show k+(m-k)=m by omega]; exact cW s)
  exact⟨by rw[h0]; omega,by rw[h0]; omega,fun d e hd a f=>(any d e hd a f).1,fun d e hd a f=>(any d e hd a f).2⟩
 ·intro x l q;rcases(Ņ h j).1 q with rfl|rfl|⟨k,d,e,hd,a,rfl|rfl⟩
  ·have:=x.hi; rw[h0] at this; simp only; omega
  ·have:=x.lo; rw[h0] at this; simp only; omega
  ·have f:d<=e:=by
    obtain⟨r,o⟩:=dc.1 hd;obtain⟨a3,y⟩:=dc.1 a;have:=(dM.1 (si b g)) k (k+1) r a3 (by omega);rw[o,y] at this; omega
   have:=x.down d e (de hd) (de a) f;rw[sQ h j hd,sQ h j a] at this
   have v:(off b i:Int)+((k+1:Nat):Int)+1=(off b i:Int)+k+2:=by omega
   rw[v] at this;simp only;omega
  ·have f:d<=e:=by
    obtain⟨r,o⟩:=dc.1 hd;obtain⟨a3,y⟩:=dc.1 a;have:=(dM.1 (si b g)) k (k+1) r a3 (by omega);rw[o,y] at this; omega
   have:=x.loss d e (de hd) (de a) f;rw[sQ h j hd,sQ h j a] at this
   have v:(off b i:Int)+((k+1:Nat):Int)+1=(off b i:Int)+k+2:=by omega
   rw[v] at this;simp only;exact this
def agJ (h:ţ b) {p:Int->Int}:Pot (Υ b) p↔(∀g∈b.2.1,wJ b p g)/\∀c∈b.2.2.2.2.1,p (cx b c)<=p (cy b c)+(sl b c).2/\p (cy b c)+(sl b c).1<=p (cx b c):=by
 constructor
 ·intro f;refine⟨fun g j=>?_,fun c e=>?_⟩
  ·obtain⟨i,hi,rfl⟩:=dp.1 j;exact(H4 h (cW hi)).1 fun l a=>f l.1 l.2.1 l.2.2 (qI.2 (.inl ⟨i,_,cW hi,a⟩))
  ·have n:=f _ _ _ (qI.2 (.inr ⟨c,e,.inl rfl⟩));have o:=f _ _ _ (qI.2 (.inr ⟨c,e,.inr rfl⟩));omega
 ·rintro⟨j,e⟩ u v m a;rcases qI.1 a with⟨i,g,d,a⟩|⟨c,k,a⟩
  ·exact(H4 h d).2 (j g (de d)) (u,v,m) a
  ·obtain⟨n,o⟩:=e c k;rcases a with a|a
   ·obtain⟨rfl,rfl,rfl⟩:u=cy b c/\v=cx b c/\m=(sl b c).2:=by simpa using a
    exact n
   ·obtain⟨rfl,rfl,rfl⟩:u=cx b c/\v=cy b c/\m = -(sl b c).1:=by simpa using a
    omega
end
def amc:CK Int->Int
 |[]=>0
 |[a]=>a
 |a::b::t=>max a (amc (b::t))
def Yg:∀{l:CK Int},l≠[]->(∀a∈l,a<=amc l)/\amc l∈l
 |[],h=>absurd rfl h
 |[a],_=>⟨fun x d=>by rw[di] at d; rw[d]; exact dT _,by simp[amc]⟩
 |a::b::t,_=>by
  obtain⟨f,h2⟩:=Yg (l:=b::t) (by simp);have e:amc (a::b::t)=max a (amc (b::t)):=rfl;rw[e];constructor
  ·intro x d;rcases dg.1 d with rfl|d
   ·omega
   ·have:=f x d; omega
  ·rcases Int.le_total a (amc (b::t)) with h|h
   ·rw[Int.max_eq_right h]; exact dL _ h2
   ·rw[Int.max_eq_left h]; exact List.mem_cons_self
section
variable {b:ø}
def agH (b:ø) (f:Int->Int->Int) (z:Int) (v:Int):Int:=if v=0 then z else match (Ô b)[(v-1).toNat]? with|some n=>f n.1 n.2|none=>0
def M4 (f:Int->Int->Int) (z:Int):agH b f z 0=z:=by unfold agH; rw[if_pos rfl]
def Xv (h:ţ b) (f:Int->Int->Int) (z:Int) {g:é} (n:g∈b.2.1) {d:Int} (hd:d∈Ý b g):agH b f z (iV b g.1 d)=f g.1 d:=by
 obtain⟨i,hi,rfl⟩:=List.mem_iff_getElem.1 n;obtain⟨k,l,rfl⟩:=List.mem_iff_getElem.1 hd;have a:=List.getElem?_eq_getElem hi;have j:=List.getElem?_eq_getElem l;rw[sQ h a j];unfold agH
 have e:((off b i:Int)+k+1-1).toNat=off b i+k:=by omega
 rw[if_neg (by omega),e,L8 a j]
def Z1 (b:ø) (l:CK Int) (d:Int):Int:=match l with|[]=>0|x::_=>iV b x d
def adY (l:CK Int) (d:Int):atP (Ô b) l d=Z1 b l d:=by
 unfold atP Z1 iV
 cases l<;>rfl
def aiv (c:Cmp):cx b c=Z1 b (Ü c.2.2.1 c.2.2.2.1) c.2.1:=adY _ _
def aiu (c:Cmp):cy b c=Z1 b (Ü c.2.2.2.1 c.2.2.1) c.2.1:=adY _ _
def adj (h:ţ b) {c:Cmp} (l:c∈b.2.2.2.2.1) {x:Int} (f:x∈Ü c.2.2.1 c.2.2.2.1\/x∈Ü c.2.2.2.1 c.2.2.1):∃g∈b.2.1,g.1=x/\c.2.1∈Ý b g:=by
 have d:(x∈c.2.2.1/\x∉c.2.2.2.1)\/(x∈c.2.2.2.1/\x∉c.2.2.1):=by
  rcases f with f|f
  ·exact .inl (lz.1 f)
  ·exact .inr (lz.1 f)
 have n:x∈c.2.2.1++c.2.2.2.1:=by rw[df]; exact d.imp (·.1) (·.1)
 obtain⟨⟨g,o,_⟩,_⟩:=h.pile l n;obtain⟨j,i⟩:=iZ o;refine⟨g,j,i,Ž.2 (.inr (.inl ⟨c,l,?_,rfl⟩))⟩;rw[i];intro k;rw[eN,dJ,dJ] at k;rcases d with⟨a,e⟩|⟨a,e⟩
 ·exact e (k.1 a)
 ·exact e (k.2 a)
def fill (b:ø) (p:Int->Int) (g:é) (d:Int):Int:=amc ((Ý b g).map fun e=>if d<=e then p (iV b g.1 e) else p (iV b g.1 e)-jk b g e d)
def PW {p:Int->Int} {g:é} (d:Int):(∀e∈Ý b g,(if d<=e then p (iV b g.1 e) else p (iV b g.1 e)-jk b g e d)<=fill b p g d)/\∃e∈Ý b g,fill b p g d=if d<=e then p (iV b g.1 e) else p (iV b g.1 e)-jk b g e d:=by
 have a:((Ý b g).map fun e=>if d<=e then p (iV b g.1 e) else p (iV b g.1 e)-jk b g e d)≠[]:=by
  intro h;have:=List.map_eq_nil_iff.1 h;have h2:=oz (b:=b) g;rw[this] at h2;cases h2
 obtain⟨j,h2⟩:=Yg a;refine⟨fun e f=>j _ (dz.2 ⟨e,f,rfl⟩),?_⟩;obtain⟨e,f,i⟩:=dz.1 h2;exact⟨e,f,i.symm⟩
def ady (h:ţ b) {p:Int->Int} {g:é} (l:g∈b.2.1) (f:wJ b p g) {d:Int} (hd:d∈Ý b g):fill b p g d=p (iV b g.1 d):=by
 obtain⟨k,e,i,h2⟩:=PW (b:=b) (p:=p) (g:=g) d;have j:=k d hd;rw[if_pos (dT _)] at j
 have n:fill b p g d<=p (iV b g.1 d):=by
  rw[h2]
  split
  ·rename_i a;exact f.down d e hd i a
  ·rename_i a;have:=f.loss e d i hd (by omega);omega
 omega
def ZJ (h:ţ b) {p:Int->Int} {g:é} (a:g∈b.2.1) (C:wJ b p g) {d e:Int} (h0:g.2.1<=d) (j:d<=e):fill b p g e<=fill b p g d/\fill b p g d<=fill b p g e+jk b g d e:=by
 obtain⟨z,x,n,v⟩:=PW (b:=b) (p:=p) (g:=g) d;obtain⟨s,y,l,r⟩:=PW (b:=b) (p:=p) (g:=g) e;have A:=(h.gaugeR a).2.2.2.2.1;have B:=E4 h a (f:=d) (t:=e) (by omega);have D:=h.day a n;have o:=h.day a l;constructor
 ·have q:=z y l;rw[r]
  by_cases i:e<=y
  ·rw[if_pos i];rw[if_pos (by omega)] at q;exact q
  ·rw[if_neg i]
   by_cases k:d<=y
   ·rw[if_pos k] at q;have:=E4 h a (f:=y) (t:=e) o.2.1;omega
   ·rw[if_neg k] at q;have:=Md h g (f:=y) (t:=d) (u:=e) (by omega) j;omega
 ·have q:=s x n;rw[v]
  by_cases i:d<=x
  ·rw[if_pos i]
   by_cases k:e<=x
   ·rw[if_pos k] at q;omega
   ·rw[if_neg k] at q;have:=Md h g (f:=d) (t:=x) (u:=e) i (by omega);have:=E4 h a (f:=d) (t:=x) (by omega);omega
  ·rw[if_neg i];rw[if_neg (by omega)] at q;have:=Md h g (f:=x) (t:=d) (u:=e) (by omega) j;omega
end
section
variable {b:ø} {c:Cmp}
def afH {a:ø} (h':ţ a) {l:CK Int} {day:Int} (f:Int->Int->Int) (z:Int) (d:∀x∈l,∃g∈a.2.1,g.1=x/\day∈Ý a g):agH a f z (Z1 a l day)=match l with|[]=>z|x::_=>f x day:=by
 unfold Z1
 cases l with
 |nil=>exact M4 f z
 |cons x t =>
  obtain⟨g,e,rfl,hd⟩:=d x (by simp);exact Xv h' f z e hd
end
section
variable {L:CK Lk} {N:Nat}
def Wl.app {u v:Int} {vs:CK Int} {d:Int} (i:Wl L (fun x=>x=u) vs v d) {a:CK Int} {w e:Int} (h2:Wl L (fun x=>x=v) a w e):∃xs,Wl L (fun x=>x=u) xs w (d+e):=by
 induction h2 with
 |nil h=>subst h; exact⟨vs,by rw[gJ]; exact i⟩
 |step j g f =>
  obtain⟨xs,hi⟩:=f;have:=Wl.step hi g;rw[Int.add_assoc] at this;exact⟨_,this⟩
def dst (L:CK Lk) (N:Nat) (s t:Int):Int:=gv (A7 L N s) t
def aio (h:km L N) (g:abS L N) (n:la L N=true) {s t:Int} (a:0<=s/\s<N) (f:0<=t/\t<N):dst L N s t<=9007199254740992:=by
 have h2:=h.n60;obtain⟨p,l⟩:=(mB h.links (by omega)).1 n;obtain⟨vs,d,k,hd⟩:=g.from' s a.1 a.2;obtain⟨o,e,j,q⟩:=g.to t f.1 f.2;obtain⟨xs,i⟩:=Wl.app k j;have:=(Ff h.links (by omega) l a).low t xs _ (al9.2 i);unfold dst;omega
def dst_ne (h:km L N) (d:abS L N) (f:la L N=true) {s t:Int} (e:0<=s/\s<N) (a:0<=t/\t<N):dst L N s t≠Ť:=by
 have:=aio h d f e a;unfold Ť;omega
def ain (h:km L N) (j:abS L N) (k:la L N=true) {s t:Int} (d:0<=s/\s<N) (a:0<=t/\t<N) {p:Int->Int} (e:Pot L p):p t-p s<=dst L N s t:=by
 have h2:=h.n60;obtain⟨vs,g⟩:=(Ff h.links (by omega) e d).att t a.1 a.2 (dst_ne h j k d a);obtain⟨u,i,f⟩:=(al9.1 g).pot e;subst i;exact f
def aim (h:km L N) (f:abS L N) (a:la L N=true) {x y:Int} (e:0<=x/\x<N) (d:0<=y/\y<N) : -(dst L N x y)<=dst L N y x:=by
 have h2:=h.n60;obtain⟨p,g⟩:=(mB h.links (by omega)).1 a;have j:=ain h f a e d g;have i:=ain h f a d e g;omega
def dst_bd (h:km L N) (d:abS L N) (f:la L N=true) {s t:Int} (e:0<=s/\s<N) (a:0<=t/\t<N) : -9007199254740992<=dst L N s t/\dst L N s t<=9007199254740992:=by
 have i:=aio h d f e a;have g:=aio h d f a e;have a3:=aim h d f a e;omega
end
def ags (f:Int->Int->Int) (z:Int) (l:CK Int) (d:Int):Int:=match l with|[]=>z|x::_=>f x d
def afd (f:Int->Int->Int) (z:Int) (c:Cmp):Int:=ags f z (Ü c.2.2.1 c.2.2.2.1) c.2.1-ags f z (Ü c.2.2.2.1 c.2.2.1) c.2.1
structure anR (b:ø) (f:Int->Int->Int) (z:Int) (g:é):Prop where
 hi:f g.1 g.2.1<=z+(g.2.2.1+g.2.2.2.1.2)
 lo:z+(g.2.2.1+g.2.2.2.1.1)<=f g.1 g.2.1
 down:∀d e,g.2.1<=d->d<=e->f g.1 e<=f g.1 d
 loss:∀d e,g.2.1<=d->d<=e->f g.1 d<=f g.1 e+jk b g d e
structure anQ (b:ø) (f:Int->Int->Int) (z:Int):Prop where
 gauge:∀g∈b.2.1,anR b f z g
 cmp:∀c∈b.2.2.2.2.1,(sl b c).1<=afd f z c/\afd f z c<=(sl b c).2
def aih {b:ø} (h:ţ b) {p:Int->Int} (l:∀g∈b.2.1,wJ b p g):∃f:Int->Int->Int,(∀g∈b.2.1,anR b f (p 0) g)/\∀g∈b.2.1,∀d∈Ý b g,f g.1 d=p (iV b g.1 d):=by
 let f:Int->Int->Int:=fun id d=>match ï b id with|some g=>fill b p g d|none=>0
 have i:∀g∈b.2.1,∀d,f g.1 d=fill b p g d:=fun g a d=>by
  show(match ï b g.1 with|some g=>fill b p g d|none=>0)=_;rw[rY h.ids a]
 refine⟨f,fun g a=>?_,fun g a d hd=>by rw[i g a]; exact ady h a (l g a) hd⟩;have k:=l g a
 have n:f g.1 g.2.1=p (iV b g.1 g.2.1):=by rw[i g a]; exact ady h a k (oz g)
 refine⟨by rw[n]; exact k.hi,by rw[n]; exact k.lo,fun d e h0 j=>?_,fun d e h0 j=>?_⟩
 ·rw[i g a,i g a];exact(ZJ h a k h0 j).1
 ·rw[i g a,i g a];exact(ZJ h a k h0 j).2
def Xh {b:ø} {f:Int->Int->Int} {p:Int->Int} (h:∀g∈b.2.1,∀d∈Ý b g,f g.1 d=p (iV b g.1 d)) {l:CK Int} {day:Int} (i:∀x∈l,∃g∈b.2.1,g.1=x/\day∈Ý b g):p (Z1 b l day)=ags f (p 0) l day:=by
 cases l with
 |nil=>rfl
 |cons x t =>
  obtain⟨g,e,rfl,a⟩:=i x (by simp);exact(h g e day a).symm
def air {b:ø} {f:Int->Int->Int} {p:Int->Int} (e:∀g∈b.2.1,∀d∈Ý b g,f g.1 d=p (iV b g.1 d)) {c:Cmp}
 (h:∀x,x∈Ü c.2.2.1 c.2.2.2.1\/x∈Ü c.2.2.2.1 c.2.2.1->∃g∈b.2.1,g.1=x/\c.2.1∈Ý b g):p (cx b c)-p (cy b c)=afd f (p 0) c:=by
 unfold afd;rw[aiv,aiu,Xh e (fun x a=>h x (.inl a)),Xh e (fun x a=>h x (.inr a))]
def SD {b:ø} (h:ţ b) (f:Int->Int->Int) (z:Int) {l:CK Int} {day:Int} (a:∀x∈l,∃g∈b.2.1,g.1=x/\day∈Ý b g):agH b f z (Z1 b l day)=ags f z l day:=by
 rw[afH h f z a];unfold ags
 cases l<;>rfl
def agG {b:ø} (h:ţ b) {f:Int->Int->Int} {z:Int} {c:Cmp} (d:∀x,x∈Ü c.2.2.1 c.2.2.2.1\/x∈Ü c.2.2.2.1 c.2.2.1->∃g∈b.2.1,g.1=x/\c.2.1∈Ý b g):agH b f z (cx b c)-agH b f z (cy b c)=afd f z c:=by
 unfold afd;rw[aiv,aiu,SD h f z (fun x a=>d x (.inl a)),SD h f z (fun x a=>d x (.inr a))]
def aev {b:ø} (h:ţ b) {f:Int->Int->Int} {z:Int} {g:é} (j:g∈b.2.1) (i:anR b f z g):wJ b (agH b f z) g:=by
 have q:∀d∈Ý b g,agH b f z (iV b g.1 d)=f g.1 d:=fun d hd=>Xv h f z j hd;have l:=q g.2.1 (oz g);refine⟨?_,?_,fun d e hd k a=>?_,fun d e hd k a=>?_⟩
 ·rw[l,M4]; exact i.hi
 ·rw[l,M4]; exact i.lo
 ·rw[q d hd,q e k]; exact i.down d e (h.day j hd).1 a
 ·rw[q d hd,q e k]; exact i.loss d e (h.day j hd).1 a
section
variable {b:ø} {c:Cmp}
def akp (h:ţ b) {p:Int->Int} (j:Pot (Υ b) p):∃f,anQ b f (p 0)/\∀g∈b.2.1,∀d∈Ý b g,f g.1 d=p (iV b g.1 d):=by
 obtain⟨k,n⟩:=(agJ h).1 j;obtain⟨f,l,e⟩:=aih h k;refine⟨f,⟨l,fun c a=>?_⟩,e⟩;have:=air e (c:=c) (fun x i=>adj h a i);have:=n c a;omega
def akS (h:ţ b) {f:Int->Int->Int} {z:Int} (a:anQ b f z):Pot (Υ b) (agH b f z):=by
 refine(agJ h).2 ⟨fun g d=>aev h d (a.gauge g d),fun c e=>?_⟩;have:=agG (f:=f) (z:=z) h (c:=c) (fun x i=>adj h e i);have:=a.cmp c e;omega
def FY (h:ţ b):la (Υ b) ((Ô b).length+1)=true↔∃f z,anQ b f z:=by
 have:=h.sys.n60;rw[mB h.sys.links (by omega)];constructor
 ·rintro⟨p,a⟩;obtain⟨f,e,_⟩:=akp h a;exact⟨f,_,e⟩
 ·rintro⟨f,z,d⟩;exact⟨_,akS h d⟩
end
def ak0 {m:Ĭ} (h:ţ m.1) (p:Cmp->Bool):(adA m p).1=less m.1 ((m.1.2.2.2.2.1.filter fun c=>!p c).map fun c=>c.1):=by
 unfold adA less;dsimp only;congr 5;refine List.filter_congr fun c k=>?_;rw[Bool.eq_iff_iff,Bool.not_eq_true',Bool.eq_false_iff,ne_eq,List.contains_iff_mem,List.mem_map];constructor
 ·rintro d ⟨c',f,e⟩;obtain⟨n,h2⟩:=dK.1 f
  have:c'=c:=by
   obtain⟨i,hi,rfl⟩:=dp.1 n;obtain⟨j,g,rfl⟩:=dp.1 k;have hd:=dM.1 h.distinct;rcases Nat.lt_trichotomy i j with a|a|a
   ·exact absurd e (hd i j hi g a)
   ·subst a; rfl
   ·exact absurd e.symm (hd j i g hi a)
  rw[this,d] at h2;cases h2
 ·intro l
  cases d:p c with
  |true=>rfl
  |false=>exact absurd ⟨c,dK.2 ⟨k,by simp[d]⟩,rfl⟩ l
def MOk.few {m:Ĭ} (h:MOk m) (p:Cmp->Bool):MOk (adA m p):=by
 refine⟨?_,h.n4,h.mixE,h.prod⟩;rw[ak0 h.good];exact h.good.less _
def akR {b h:ø} (r:h.1=b.1) (h2:h.2.1=b.2.1) (q:h.2.2.1=b.2.2.1) (p:h.2.2.2.1=b.2.2.2.1) (o:∀c∈h.2.2.2.2.1,c∈b.2.2.2.2.1) {f:Int->Int->Int} {z:Int} (i:anQ b f z):anQ h f z:=by
 have k:∀g d e,jk h g d e=jk b g d e:=fun g d e=>by unfold jk i7; rw[q,p]
 have j:∀c,sl h c=sl b c:=fun c=>by
  unfold sl pn ο rateK ř;rw[r,h2]
 refine⟨fun g l=>?_,fun c n=>by rw[j]; exact i.cmp c (o c n)⟩;have:=i.gauge g (by rw[<-h2]; exact l);exact⟨this.hi,this.lo,this.down,fun d e a b=>by rw[k]; exact this.loss d e a b⟩
def ak2 {m a:Ĭ} {w:Way} (h:MOk m) (h':MOk a) (g:į m.2 w) (q:a.1.1=m.1.1) (p:a.1.2.1=m.1.2.1) (o:a.1.2.2.1=m.1.2.2.1) (n:a.1.2.2.2.1=m.1.2.2.2.1) (l:∀c∈a.1.2.2.2.2.1,c∈m.1.2.2.2.2.1) (d:a.2=m.2)
 (j:mr m w=true):mr a w=true:=by
 have e:į a.2 w:=d▸g;obtain⟨f,z,i⟩:=(FY (qR h g)).1 j;refine(FY (qR h' e)).2 ⟨f,z,akR ?_ ?_ ?_ ?_ ?_ i⟩
 ·exact q
 ·exact p
 ·show a.1.2.2.1.map _=m.1.2.2.1.map _;rw[o,d]
 ·show a.1.2.2.2.1.map _=m.1.2.2.2.1.map _;rw[n,d]
 ·intro c k;obtain⟨c0,h0,rfl⟩:=dz.1 (show c∈a.1.2.2.2.2.1.map (aap a w) from k)
  have:aap a w c0=aap m w c0:=by unfold aap nl; rw[d]
  rw[this];exact dz.2 ⟨c0,l c0 h0,rfl⟩
def aj9 {m:Ĭ} (h:MOk m) {p q:Cmp->Bool} (a:∀c∈m.1.2.2.2.2.1,p c=true->q c=true) (e:Ğ (adA m q)=true):Ğ (adA m p)=true:=by
 unfold Ğ at e ⊢;obtain⟨w,d,g⟩:=List.any_eq_true.1 e;refine List.any_eq_true.2 ⟨w,d,?_⟩
 exact ak2 (h.few q) (h.few p) (uU.1 d) rfl rfl rfl rfl (fun c i=>by
  obtain⟨f,h2⟩:=dK.1 (show c∈m.1.2.2.2.2.1.filter p from i)
  exact dK.2 ⟨f,a c f h2⟩) rfl g
section
variable {m:Ĭ} {ρ:Type}
def D2 (h:MOk m) (ids:CK Int):û (Ħ m ids)=some (T9 (Ħ m ids)):=uB (h.few _)
def Cd (m:Ĭ) (ids:CK Int):Bool×Int:=if ī m≠0 then(false,ī m) else(Ğ (Ħ m ids),0)
def aaj (d:In m.1) (e:m.2.length<=1000) {ids:CK Int} (hi:ids.length<=1000000):qp m ids=some (Cd m ids):=by
 unfold qp GC Cd;rw[m9 d e,À]
 by_cases a:ī m=0
 ·have h:=(Ł m).1 a;rw[Ì (by simp[ine,a]),if_neg (by simp[a]),U4 d.size.compares hi,À,D2 h ids,À,sa]
 ·rw[Ð (by simp[ine,a]),if_pos a]
def wi (b:ø) (id d:Int):Int:=if !BW d then 1 else if (ï b id).isNone then 5 else 0
def VQ (o:m.1.2.1.length<=1000) (id d:Int):wq m id d=some (wi m.1 id d):=by
 unfold wq Yt wi
 by_cases h:BW d=true
 ·have h':=h;simp only[BW,inP,cY,decide_eq_true_eq] at h';rw[h,Ì (by simp[ilt]; omega),Ì (by simp[igt]; omega),if_neg (by simp)];refine d9 (đ m.1.2.1 (fun g=>g.1==id) (fun z=>ifb (!(ige z (0:Int))) (some 5) (some 0)) (some 0) (some 5) (fun j=>Ì (by simp[ige]) _ _) (fun i a hi ha k=>?_) (fun k=>?_)) ?_
  ·try dsimp only
   unfold td;rw[Í hi,Æ ha,È hi (by omega),õ]
  ·try dsimp only
   unfold td;rw[Ò]
  ·unfold ï
   cases f:m.1.2.1.find? (fun g=>g.1==id) with
   |none =>
    rw[if_neg]
    ·rfl
    rw[du];rintro⟨g,n,e⟩;exact absurd e (by simpa using(eo.1 f) g n)
   |some g =>
    rw[if_pos]
    ·rfl
    have l:=fP f;exact du.2 ⟨g,fM f,l⟩
 ·have h':=h;simp only[BW,inP,cY,decide_eq_true_eq,not_and,Int.not_le] at h';rw[if_pos (by simp[h])];rw[õ,õ];simp only[ilt,igt,decide_eq_true_eq]
  split
  ·rfl
  ·rw[if_pos (by have:=h' (by omega); omega)]
def pP (label:Int) (c:Cmp):Bool:=(Ü c.2.2.1 c.2.2.2.1).contains label||(Ü c.2.2.2.1 c.2.2.1).contains label
def mi (m:Ĭ) (label:Int):Bool×Int:=if ī m≠0 then(false,ī m) else if wi m.1 label 0≠0 then(false,wi m.1 label 0) else(!Ğ (adA m (pP label)),0)
def KR (r:In m.1) (M:m.2.length<=1000) (label:Int):mY m label=some (mi m label):=by
 unfold mY wY mi;rw[m9 r M,À]
 by_cases g:ī m=0
 ·have h:=(Ł m).1 g;have V:=h.good.nC;rw[Ì (by simp[ine,g]),if_neg (by simp[g]),VQ r.size.gauges,À]
  by_cases t:wi m.1 label 0=0
  ·rw[Ì (by simp[ine,t]),if_neg (by simp[t]),á (Ñ (by omega))]
   have f:∀c∈m.1.2.2.2.2.1,qM c.2.2.1 c.2.2.2.1=some (Ü c.2.2.1 c.2.2.2.1,Ü c.2.2.2.1 c.2.2.1,0)/\(Ü c.2.2.1 c.2.2.2.1).length<=1000000/\(Ü c.2.2.2.1 c.2.2.1).length<=1000000:=fun c g=>by
    obtain⟨S,R⟩:=h.good.size.piles c g;have e:=(ų c).1 (h.good.nums g);have U:=rS c.2.2.1 c.2.2.2.1;have T:=rS c.2.2.2.1 c.2.2.1;refine⟨?_,by omega,by omega⟩;rw[ajU (by omega) (by omega),abU,e.2.2.2.2.2.1,e.2.2.2.2.2.2]; rfl
   have Q:∀l,l=m.1.2.2.2.2.1.filter (pP label)->Ã (û ((m.1.1,m.1.2.1,m.1.2.2.1,m.1.2.2.2.1,l,m.1.2.2.2.2.2),m.2)) (fun d=>some ((!d.2),(0:Int)))=some (!Ğ (adA m (pP label)),0):=fun l O=>by
    subst O;have:=uB (h.few (pP label));unfold adA at this ⊢;rw[this,À,sa]
   refine d9 (abq (a:=m.1.2.2.2.2.1) (pP label) (K:=fun l=>Ã (û ((m.1.1,m.1.2.1,m.1.2.2.1,m.1.2.2.2.1,l,m.1.2.2.2.2.2),m.2)) fun d=>some ((!d.2),(0:Int))) (k0:=ais zC fun l=>Ã (û ((m.1.1,m.1.2.1,m.1.2.2.1,m.1.2.2.2.1,l,m.1.2.2.2.2.2),m.2)) fun d=>some ((!d.2),(0:Int)))
    (kf:=fun v=>ifb (ieq v (-1:Int)) (Ã (û m) fun n=>some ((!n.2),(0:Int))) (ck (v+(1:Int)) fun C=>Ê (fun(k:Int×Int×CK Cmp) p=>Δ label k.1 k.2.1 k.2.2 (fun B A y=>p (B,A,y)) (ais zC fun l=>Ã (û ((m.1.1,m.1.2.1,m.1.2.2.1,m.1.2.2.2.1,l,m.1.2.2.2.2.2),m.2)) fun d=>some ((!d.2),(0:Int)))) (v,C,m.1.2.2.2.2.1)))
    (F:=fun a b c o=>Δ label a b c o (ais zC fun l=>Ã (û ((m.1.1,m.1.2.1,m.1.2.2.1,m.1.2.2.2.1,l,m.1.2.2.2.2.2),m.2)) fun d=>some ((!d.2),(0:Int)))) (kend:=Ã (û m) fun n=>some ((!n.2),(0:Int))) (fun i x hi q o=>?_) (fun o=>?_) rfl (fun z J=>?_) (fun i j s x r P u q D o=>?_) (fun i s o hi r=>?_) (fun i s hi=>abr _ _ hi)) (Q _ rfl)
   ·try dsimp only
    unfold lO;obtain⟨I,H,G⟩:=f x (List.mem_of_getElem? q);rw[Í hi,Ş hi,ă q,I,À,Š H,À,Š G,À];unfold pP
    cases(Ü x.2.2.1 x.2.2.2.1).contains label<;>cases(Ü x.2.2.2.1 x.2.2.1).contains label<;>simp only[kG,ç,dP,fJ,Bool.or_true,Bool.or_false,if_true,dq,if_false]<;>first|rfl|rw[È hi (by omega)]
   ·try dsimp only
    unfold lO;rw[Ò]
   ·rw[Ì (by simp[ieq]),È J (by omega)]
   ·try dsimp only
    unfold Δ;obtain⟨I,H,G⟩:=f x D;have E:s[i]?=some s[i]:=List.getElem?_eq_getElem (by omega);rw[Í u,show ì s=((s.length:Nat):Int) from rfl,Ş u,ă q,I,À,Š H,À,Š G,À];unfold pP
    cases(Ü x.2.2.1 x.2.2.2.1).contains label<;>cases(Ü x.2.2.2.1 x.2.2.1).contains label<;>simp only[kG,ç,dP,fJ,Bool.or_true,Bool.or_false,if_true,dq,if_false]<;>first|rw[È u (by omega)]|rw[Ş (by omega),ă E,È (show i<s.length by omega) (by omega),È u (by omega),dm]
   ·try dsimp only
    unfold Δ;rw[Ò]
  ·rw[Ð (by simp[ine,t]),if_pos t]
 ·rw[Ð (by simp[ine,g]),if_pos g]
def xJ (m:Ĭ):CK Int:=m.1.2.2.2.2.1.map fun c=>c.1
def JY (m:Ĭ):Nat->CK Int->CK Int
 |0,l=>l
 |i+1,l=>JY m i (if Ğ (Ħ m (l.take i++l.drop (i+1))) then l else l.take i++l.drop (i+1))
def aak (m:Ĭ):CK Int×Int:=if ī m≠0 then([],ī m) else if Ğ m then([],5) else(JY m (xJ m).length (xJ m),0)
def ajS (y:In m.1) (z:m.2.length<=1000):Ii m=some (aak m):=by
 unfold Ii acM aak;rw[m9 y z,À]
 by_cases j:ī m=0
 ·have h:=(Ł m).1 j;have E:=h.good.nC;have A:((((m.1.1.1,m.1.1.2),m.1.2.1,m.1.2.2.1,m.1.2.2.2.1,m.1.2.2.2.2.1,m.1.2.2.2.2.2),m.2):Ĭ)=m:=rfl;rw[Ì (by simp[ine,j]),if_neg (by simp[j]),uB h,À,sa]
  cases Ğ m with
  |true=>rfl
  |false =>
   simp only[ç,dq,if_false]
   have D:(xJ m).length=m.1.2.2.2.2.1.length:=by unfold xJ; simp
   refine d9 (mV m.1.2.2.2.2.1 (fun c=>c.1) (fun r=>ck ((Ó r)-(1:Int)) fun n6=>Ê (fun(e:CK Int×Int) f=>rj m.1.1.1 m.1.1.2 m.1.2.1 m.1.2.2.1 m.1.2.2.2.1 m.1.2.2.2.2.1 m.1.2.2.2.2.2 m.2 e.1 e.2 (fun o n=>f (o,n)) (fun k=>some (k,(0:Int)))) (r,n6)) (fun i a hi ha v p C=>?_) (fun v p=>?_)) ?_
   ·try dsimp only
    unfold wZ;rw[Í hi,Æ ha,á (Ñ (by simp; omega)),È hi (by omega)]
   ·try dsimp only
    unfold wZ;rw[Ò]
   ·show(ck ((Ó (xJ m))-(1:Int)) fun n6=>Ê _ (xJ m,n6))=_;rw[Ï,Î (by omega) (by omega)];refine è (fun x:CK Int×Int=>∃i:Nat,x.2=(i:Int)-1/\i<=x.1.length/\x.1.length<=40/\JY m i x.1=JY m (xJ m).length (xJ m)) (fun x=>(x.2+1).toNat) ?_ ⟨_,rfl,Nat.le_refl _,by dsimp only; omega,rfl⟩;rintro⟨l,B⟩ ⟨i,t,q,g,d⟩;simp only at t q g d;subst t
    cases i with
    |zero =>
     refine .inl fun p=>?_
     try dsimp only
     unfold rj;rw[Ì (by simp[ige]),<-d]; rfl
    |succ i =>
     have u:((i+1:Nat):Int)-1=i:=by omega
     have s:(l.take i++l.drop (i+1)).length=l.length-1:=by simp; omega
     rw[JY] at d;refine .inr ⟨(if Ğ (Ħ m (l.take i++l.drop (i+1))) then l else l.take i++l.drop (i+1),(i:Int)-1),⟨i,rfl,?_,?_,d⟩,by simp only[u]; omega,fun p=>?_⟩
     ·dsimp only; split<;>omega
     ·dsimp only; split<;>omega
     ·try dsimp only
      unfold rj;rw[u,Ð (by simp[ige]),á (by simp[ile,ì]; omega),Î (by omega) (by omega),á (by simp[ile,ì]; omega),Int.toNat_natCast,show Int.toNat ((i:Int)+1)=i+1 by omega,QG (by simp; omega) (by simp; omega),À,A,U4 (by omega) (by omega),À,D2 h,À,sa,õ,Î (by omega) (by omega),Î (by omega) (by omega)]
      cases Ğ (Ħ m (l.take i++l.drop (i+1)))<;>rfl
 ·rw[Ð (by simp[ine,j]),if_pos j]
end
def ß:CK Int->Nat->CK Int
 |[],_=>[]
 |x::l,s=>if s % 2=1 then x::ß l (s / 2) else ß l (s / 2)
def Qc:∀{l:CK Int} {s i:Nat} {x:Int},l[i]?=some x->ß (l.take (i+1)) s=ß (l.take i) s++if s / 2 ^ i % 2=1 then[x] else[]
 |[],_,_,_,h=>by simp at h
 |y::l,s,0,x,h=>by
  simp at h; subst h;simp[ß]
 |y::l,s,i+1,x,h=>by
  simp only[fw] at h;have:=Qc (s:=s / 2) h;simp only[gn,ß,this,Nat.pow_succ',<-Nat.div_div_eq_div_mul]
  split<;>rfl
def oa:∀(l:CK Int) (s:Nat),(ß l s).length<=l.length
 |[],_=>cX _
 |x::l,s=>by
  have:=oa l (s / 2);unfold ß
  split<;>simp only[dh]<;>omega
def bit_i {s i:Nat} (e:s<9223372036854775808) (hi:i<=60):ieq (anH .i64 (iX .i64 (s:Int) (i:Int)) (1:Int)) (1:Int)=decide (s / 2 ^ i % 2=1):=by
 have d:iX .i64 (s:Int) (i:Int)=((s / 2 ^ i:Nat):Int):=by
  unfold iX;have:IntKind.i64.bits=64:=rfl;rw[this,Int.toNat_natCast,Nat.min_eq_left (by omega),Int.fdiv_eq_ediv_of_nonneg _ (Int.le_of_lt (Int.pow_pos (by decide)))];push_cast; rfl
 rw[d];unfold anH ajZ
 have hb:(BitVec.ofInt 64 ((s / 2 ^ i:Nat):Int) &&& BitVec.ofInt 64 1).toNat=s / 2 ^ i % 2:=by
  rw[BitVec.toNat_and,gM,show BitVec.ofInt 64 1=1#64 from rfl,BitVec.toNat_ofNat];rw[show(1#64).toNat=1 from rfl,Nat.and_one_is_mod,Nat.mod_mod_of_dvd _ (by decide)]
 show ieq (IntKind.i64.wrap ((BitVec.ofInt 64 ((s / 2 ^ i:Nat):Int) &&& BitVec.ofInt 64 1).toNat:Int)) 1=_;have a:s / 2 ^ i % 2<2:=Nat.mod_lt _ (by decide);rw[hb];generalize s / 2 ^ i % 2=q at a;rw[af0 (by omega)];unfold ieq;rw[Bool.eq_iff_iff,beq_iff_eq,decide_eq_true_eq];omega
def agf (s x:Nat):Bool:=s &&& x==s
def sub_i {s x:Nat} (d:s<9223372036854775808) (f:x<9223372036854775808):ieq (J6 .i64 (s:Int) (x:Int)) (0:Int)=agf s x:=by
 unfold J6 ajZ;show ieq (IntKind.i64.wrap ((BitVec.ofInt 64 (s:Int) &&& ~~~ BitVec.ofInt 64 (x:Int)).toNat:Int)) 0=_
 have e:(BitVec.ofInt 64 (s:Int) &&& ~~~ BitVec.ofInt 64 (x:Int)).toNat<9223372036854775808:=by
  rw[BitVec.toNat_and];refine Nat.lt_of_le_of_lt Nat.and_le_left ?_;rw[gM,BitVec.toNat_ofNat,gd (by omega)]; exact d
 rw[af0 e];unfold ieq agf;rw[Bool.eq_iff_iff,beq_iff_eq,beq_iff_eq]
 have h2:(((BitVec.ofInt 64 (s:Int) &&& ~~~ BitVec.ofInt 64 (x:Int)).toNat:Nat):Int)=0↔∀i,i<64->s.testBit i=true->x.testBit i=true:=by
  rw[Int.natCast_eq_zero,<-BitVec.toNat_zero (w:=64),BitVec.toNat_inj];constructor
  ·intro h i hi a;have:=congrArg (fun b:BitVec 64=>b.getLsbD i) h;simp only[BitVec.getLsbD_and,BitVec.getLsbD_not,gM,BitVec.getLsbD_ofNat,BitVec.getLsbD_zero,hi,decide_true,eI,a] at this;simpa using this
  ·intro h;apply BitVec.eq_of_getLsbD_eq;intro i hi;simp only[BitVec.getLsbD_and,BitVec.getLsbD_not,gM,BitVec.getLsbD_ofNat,BitVec.getLsbD_zero,hi,decide_true,eI]
   cases a:s.testBit i with
   |false=>simp
   |true=>rw[h i hi a]; simp
 rw[h2];constructor
 ·intro h;refine Nat.eq_of_testBit_eq fun i=>?_;rw[Nat.testBit_and]
  cases a:s.testBit i with
  |false=>rfl
  |true =>
   rcases dk i 64 with hi|hi
   ·rw[h i hi a]; rfl
   ·have:s<2 ^ i:=dw d (dr (by decide) (Nat.pow_le_pow_right (by decide) hi));rw[Nat.testBit_lt_two_pow this] at a; cases a
 ·intro h i _ a;rw[<-h,Nat.testBit_and,cY] at a;exact a.2
def aj6 {s x:Nat} (h:agf s x=true):(s % 2=1->x % 2=1)/\agf (s / 2) (x / 2)=true:=by
 unfold agf at h ⊢;rw[beq_iff_eq] at h ⊢;constructor
 ·intro d
  have a:(s &&& x) % 2=1:=by rw[h]; exact d
  exact(Nat.and_mod_two_eq_one.1 a).2
 ·rw[<-Nat.and_div_two,h]
def Un:∀{l:CK Int} {s x:Nat},agf s x=true->∀y∈ß l s,y∈ß l x
 |[],_,_,_,_,h=>by cases h
 |a::l,s,x,h,y,d=>by
  obtain⟨g,h2⟩:=aj6 h;unfold ß at d ⊢;have e:=Un (l:=l) h2 y
  by_cases f:s % 2=1
  ·rw[if_pos f] at d;rw[if_pos (g f)];rcases dg.1 d with rfl|d
   ·simp
   ·exact dL _ (e d)
  ·rw[if_neg f] at d
   split
   ·exact dL _ (e d)
   ·exact e d
def Fo:CK Int->CK Int->Int
 |[],[]=>0
 |[],_=>-1
 |_,[]=>1
 |x::l,y::m=>if x<y then -1 else if y<x then 1 else Fo l m
def Fz (m:Ĭ) (ids:CK Int) (st:CK Int×Nat×CK Nat) (s:Nat):CK Int×Nat×CK Nat :=
 if st.1.length<(ß ids s).length\/((ß ids s).length=st.1.length/\0<=Fo (ß ids s) st.1) then st else
 if st.2.2.any (agf s) then st else if Ğ (Ħ m (ß ids s)) then(st.1,st.2.1,st.2.2++[s]) else(ß ids s,s,st.2.2)
def jM (m:Ĭ) (ids:CK Int) (n:Nat):CK Int×Nat×CK Nat:=(List.range n).foldl (Fz m ids) (ids,2 ^ ids.length-1,[])
def θ (m:Ĭ) (ids:CK Int):CK Int×Int :=
 if ī m≠0 then([],ī m) else if 8<ids.length then([],2) else if !ids.all (fun i=>(xJ m).contains i) then([],5) else if ¬ids.Pairwise (·<·) then([],6) else
 if Ğ (Ħ m (ß ids (2 ^ ids.length-1))) then([],5) else(ß ids (jM m ids (2 ^ ids.length-1)).2.1,0)
section
variable {m:Ĭ} {ρ:Type}
def IF {l:CK Int} (g:l.length<=60) {s:Nat} (e:s<9223372036854775808):jD l (s:Int)=some (ß l s):=by
 unfold jD Tj;refine î l (fun i=>ß (l.take i) s) _ rfl (fun i x hi a d=>?_) (fun d=>?_)
 ·try dsimp only
  unfold pW;have f:=oa (l.take i) s
  have:(l.take i).length=i:=by rw[dl]; omega
  rw[Í hi,Æ a,á (by simp[ile]),bit_i e (by omega),õ,Qc a]
  by_cases h:s / 2 ^ i % 2=1
  ·rw[if_pos (by simpa using h),if_pos h,á (Ñ (by simp; omega)),È hi (by omega)]
  ·rw[if_neg (by simpa using h),if_neg h,È hi (by omega),dv]
 ·try dsimp only
  unfold pW;rw[Ò,List.take_length]
def aki (o:m.1.2.2.2.2.1.length<=1000) {ids:CK Int} (hi:ids.length<=1000) (K:Int->BY ρ) (Z:BY ρ):Ê (fun(v:Int) g=>iI ids (Ó ids) m.1.2.2.2.2.1 v (fun u=>g u) K (fun _=>Z)) 0=if ids.all (fun i=>(xJ m).contains i) then Z else K 5:=by
 have:=đ ids (fun i=>!(xJ m).contains i) (fun _=>K 5) (K 5) Z (f:=fun v g=>iI ids (Ó ids) m.1.2.2.2.2.1 v (fun u=>g u) K (fun _=>Z)) (fun _=>rfl) (fun i x a l e=>?_) (fun e=>?_)
 ·rw[this,List.all_eq_not_any_not]
  cases ids.any (fun i=>!(xJ m).contains i)<;>rfl
 ·try dsimp only
  unfold iI;rw[Í a,Æ l];refine Eq.trans (đ m.1.2.2.2.2.1 (fun c=>c.1==x) (fun k=>ifb (!(ige k (0:Int))) (K (5:Int)) (ck ((i:Int)+(1:Int)) fun n6=>e n6)) (e ((i:Int)+1)) (K 5) (fun j=>by rw[Ì (by simp[ige]),È a (by omega)]) (fun j c h n d=>?_) (fun d=>?_)) ?_
  ·try dsimp only
   unfold mJ;rw[Í h,Æ n,È h (by omega),õ]
  ·try dsimp only
   unfold mJ;rw[Ò]
  ·have:(xJ m).contains x=m.1.2.2.2.2.1.any fun c=>c.1==x:=by
    unfold xJ;rw[Bool.eq_iff_iff,List.contains_iff_mem,List.mem_map,List.any_eq_true];simp
   rw[this]
   cases m.1.2.2.2.2.1.any (fun c=>c.1==x)<;>rfl
 ·try dsimp only
  unfold iI;rw[Ò]
def akh {l:CK Int} (j:l.length<=1000) (k0:Int->BY ρ) (k1:Unit->BY ρ):Ê (fun(v:Int) g=>jP l v (fun u=>g u) k0 k1) 1=if l.Pairwise (·<·) then k1 () else k0 6:=by
 refine VL (fun i a c ha d f=>?_) (fun n h f=>?_)
 ·have hi:=(List.getElem?_eq_some_iff.1 d).1;unfold jP
  have e:((i:Int)+1)=((i+1:Nat):Int):=by omega
  rw[e,Í hi,Æ d,Î (by omega) (by omega),<-e,Int.add_sub_cancel,Æ ha,õ,Î (by omega) (by omega)];simp
 ·unfold jP;rw[Ì (by simp[ilt,Ï]; omega)]
def Iz (h:MOk m) (ids:CK Int) {w:Way} (a:į m.2 w):Χ (Ħ m ids) w=some (mr (Ħ m ids) w):=yd (h.few _) a
def akg (h:MOk m) {ids:CK Int} (hi:ids.length<=60) {s:Nat} (g:s<9223372036854775808) (X Z:BY ρ):Ê (fun(v:Int) f=>jO (Ŏ m.2) (Ó (Ŏ m.2)) m.1.1.1 m.1.1.2 m.1.2.1 m.1.2.2.1 m.1.2.2.2.1 m.1.2.2.2.2.1 m.1.2.2.2.2.2 m.2 ids (s:Int) v (fun u=>f u) (fun z=>ifb z.2 X Z) (fun _=>Z)) 0=if Ğ (Ħ m (ß ids s)) then X else Z:=by
 have j:((((m.1.1.1,m.1.1.2),m.1.2.1,m.1.2.2.1,m.1.2.2.2.1,m.1.2.2.2.2.1,m.1.2.2.2.2.2),m.2):Ĭ)=m:=rfl;have k:=sI h;have l:=oa ids s;refine đ (Ŏ m.2) (mr (Ħ m (ß ids s))) (fun _=>X) X Z (fun _=>rfl) (fun i x a d e=>?_) (fun e=>?_)
 ·try dsimp only
  unfold jO;rw[Í a,Æ d,IF hi g,À,j,U4 h.good.size.compares (by omega),À,Iz h _ (qQ d),À,È a (by omega),õ,Bool.not_not];rfl
 ·try dsimp only
  unfold jO;rw[Ò]
def akd (h:MOk m) {ids:CK Int} (hi:ids.length<=60) {s:Nat} (n:s<9223372036854775808) {op:CK Int} (r:op.length<=1000) (k0 k1:CK Int->BY ρ):Ê (fun(v:Int×CK Int) l=>ś (s:Int) (Ŏ m.2) (Ó (Ŏ m.2)) ids m.1.1.1 m.1.1.2 m.1.2.1 m.1.2.2.1 m.1.2.2.2.1 m.1.2.2.2.2.1 m.1.2.2.2.2.2 m.2 v.1 v.2 (fun a b=>l (a,b)) k0 k1) ((0:Int),op)=if Ğ (Ħ m (ß ids s)) then k0 (op++[(s:Int)]) else k1 op:=by
 have o:((((m.1.1.1,m.1.1.2),m.1.2.1,m.1.2.2.1,m.1.2.2.2.1,m.1.2.2.2.2.1,m.1.2.2.2.2.2),m.2):Ĭ)=m:=rfl;have p:=sI h;have q:=oa ids s;refine HP (Ŏ m.2) (fun _=>op) _ (fun i=>∀w∈(Ŏ m.2).take i,mr (Ħ m (ß ids s)) w=false) rfl (fun w d=>by simp at d) (fun i x f g j k=>?_) (fun j k=>?_)
 ·try dsimp only
  unfold ś;rw[Í f,Æ g,IF hi n,À,o,U4 h.good.size.compares (by omega),À,Iz h _ (qQ g),À,È f (by omega),á (Ñ (by simp; omega)),õ,Bool.not_not]
  cases e:mr (Ħ m (ß ids s)) x with
  |true =>
   refine .inl ?_;have:Ğ (Ħ m (ß ids s))=true:=du.2 ⟨x,de g,e⟩;rw[this]; rfl
  |false =>
   refine .inr ⟨fun w d=>?_,rfl⟩;rw[take_succ g] at d;rcases df.1 d with d|d
   ·exact j w d
   ·rw[di.1 d]; exact e
 ·rw[fF] at j
  try dsimp only
  unfold ś
  have:Ğ (Ħ m (ß ids s))=false:=eh.2 fun w d=>by rw[show mr (Ħ m (ß ids s)) w=false from j w d]; simp
  rw[Ò,this]; rfl
def ake {s:Nat} (j:s<9223372036854775808) {op:CK Nat} (k:op.length<=1000) (e:∀x∈op,x<9223372036854775808) (X Z:BY ρ):Ê (fun(v:Int) h=>Ŝ (s:Int) (Ó (op.map fun(x:Nat)=>(x:Int))) (op.map fun(x:Nat)=>(x:Int)) v (fun u=>h u) (fun _=>X) (fun _=>Z)) 0=if op.any (agf s) then X else Z:=by
 refine đ op (agf s) (fun _=>X) X Z (fun _=>rfl) (fun i x hi f g=>?_) (fun g=>?_)
 ·try dsimp only
  unfold Ŝ
  have d:(op.map fun(x:Nat)=>(x:Int))[i]?=some (x:Int):=by rw[eW,f]; rfl
  have a:i<(op.map fun(x:Nat)=>(x:Int)).length:=by simpa using hi
  rw[Í a,Ş a,ă d,sub_i j (e x (de f)),È hi (by omega),õ]
 ·try dsimp only
  unfold Ŝ;rw[Ï,Ì (by simp[ilt])]
def am7 {l m:CK Int} (h:l.length=m.length) (d:∀(i:Nat) (x y:Int),l[i]?=some x->m[i]?=some y->x=y):Fo l m=0:=by
 induction l generalizing m with
 |nil=>cases m with|nil=>rfl|cons _ _=>cases h
 |cons x l f =>
  cases m with
  |nil=>cases h
  |cons y m =>
   have e:=d 0 x y rfl rfl;subst e;rw[Fo,if_neg (by omega),if_neg (by omega)];exact f (by simpa using h) fun i a b ha hb=>d (i+1) a b ha hb
def lex_at {l m:CK Int} {i:Nat} {x y:Int} (f:l[i]?=some x) (d:m[i]?=some y) (g:∀(j:Nat) (a b:Int),j<i->l[j]?=some a->m[j]?=some b->a=b) (k:x≠y):Fo l m=if x<y then -1 else 1:=by
 induction l generalizing m i with
 |nil=>simp at f
 |cons a l h =>
  cases m with
  |nil=>simp at d
  |cons b m =>
   cases i with
   |zero =>
    simp at f d; subst f d;rw[Fo]
    split
    ·rfl
    ·rw[if_pos (by omega)]
   |succ i =>
    have e:=g 0 a b (by omega) rfl rfl;subst e;rw[Fo,if_neg (by omega),if_neg (by omega)];exact h (by simpa using f) (by simpa using d) fun j a b n ha hb=>g (j+1) a b (by omega) ha hb
def akf {l k:CK Int} (h:k.length=l.length) (B:l.length<=1000) (X Y:BY ρ):Ê (fun(v:Int) o=>ŷ l k (Ó k) v (fun u=>o u) (fun z=>ifb (ige z (0:Int)) X Y) (fun _=>X)) 0=if 0<=Fo k l then X else Y:=by
 have:=è (r:=if 0<=Fo k l then X else Y) (f:=fun v o=>ŷ l k (Ó k) v (fun u=>o u) (fun z=>ifb (ige z (0:Int)) X Y) (fun _=>X)) (x:=(0:Int)) (fun x=>∃i:Nat,x=i/\i<=k.length/\∀(j:Nat) (a b:Int),j<i->k[j]?=some a->l[j]?=some b->a=b) (fun x=>k.length-x.toNat) ?_ ⟨0,rfl,dZ _,fun j a b y=>by omega⟩
 ·exact this
 ·rintro x ⟨i,rfl,hi,s⟩;rcases dk i k.length with e|A
  ·have q:k[i]?=some k[i]:=cW e;have p:l[i]?=some l[i]:=cW (by omega)
   have t:∀g,ŷ l k (Ó k) (i:Int) g (fun z=>ifb (ige z (0:Int)) X Y) (fun _=>X)=if k[i]=l[i] then g ((i:Int)+1) else if k[i]<l[i] then Y else X:=fun g=>by
    unfold ŷ;rw[Í e,Æ q,Ì (by simp[ige,Ï]; omega),Æ p,aiE,À,È e (by omega)]
    by_cases d:k[i]<l[i]
    ·rw[if_pos d,if_neg (by omega),if_pos d]; rfl
    ·rw[if_neg d]
     by_cases h2:l[i]<k[i]
     ·rw[if_pos h2,if_neg (by omega),if_neg d]; rfl
     ·rw[if_neg h2,if_pos (by omega)]; rfl
   by_cases n:k[i]=l[i]
   ·refine .inr ⟨(i:Int)+1,⟨i+1,by simp,e,fun j a b y ha hb=>?_⟩,by omega,fun g=>by rw[t,if_pos n]⟩;rcases dk j i with d|d
    ·exact s j a b d ha hb
    ·have:j=i:=by omega
     subst this;rw[q] at ha; rw[p] at hb;cases ha; cases hb;exact n
   ·refine .inl fun g=>?_;rw[t,if_neg n,lex_at q p s n]
    by_cases d:k[i]<l[i]
    ·rw[if_pos d,if_pos d]; rfl
    ·rw[if_neg d,if_neg d]; rfl
  ·refine .inl fun g=>?_
   have:i=k.length:=by omega
   subst this;unfold ŷ;rw[Ò,am7 h fun j a b ha hb=>s j a b (List.getElem?_eq_some_iff.1 ha).1 ha hb];rfl
abbrev stI (st:CK Int×Nat×CK Nat) (n:Nat):CK Int×Int×Int×CK Int:=(st.1,(st.2.1:Int),(n:Int),st.2.2.map fun(x:Nat)=>(x:Int))
def ael (h:MOk m) {ids:CK Int} (hi:ids.length<=8) {n N:Nat} (H:n<N) (I:N<=256) {st:CK Int×Nat×CK Nat} (J:st.1.length<=8) (G:st.2.2.length<=n) (C:∀x∈st.2.2,x<n) (i:CK Int->Int->Int->CK Int->BY ρ) (k0:Int×CK Int->BY ρ) :
 Ÿ (Ŏ m.2) (N:Int) ids m.1.1.1 m.1.1.2 m.1.2.1 m.1.2.2.1 m.1.2.2.2.1 m.1.2.2.2.2.1 m.1.2.2.2.2.2 m.2 (stI st n).1 (stI st n).2.1 (stI st n).2.2.1 (stI st n).2.2.2 i k0=i (stI (Fz m ids st n) (n+1)).1 (stI (Fz m ids st n) (n+1)).2.1 (stI (Fz m ids st n) (n+1)).2.2.1 (stI (Fz m ids st n) (n+1)).2.2.2:=by
 have F:=oa ids n;dsimp only;unfold Ÿ
 have o:∀x∈st.2.2,x<9223372036854775808:=fun x E=>by have:=C x E; omega
 have D:(st.2.2.map fun(x:Nat)=>(x:Int)).length<=1000:=by rw[dD]; omega
 have p:∀f:Int->BY ρ,ck ((n:Int)+(1:Int)) f=f ((n+1:Nat):Int):=fun f=>by rw[Î (by omega) (by omega)]; simp
 rw[Ð (by simp[ilt]; omega),IF (by omega) (by omega),À];unfold Fz
 by_cases e:st.1.length<(ß ids n).length
 ·rw[Ð (by simp[igt,Ï]; omega),if_pos (.inl e),p]
 ·rw[Ì (by simp[igt,Ï]; omega)]
  have d:∀K K2:BY ρ,Ê (fun(t:Int) k=>Ŝ (n:Int) (Ó (st.2.2.map fun(x:Nat)=>(x:Int))) (st.2.2.map fun(x:Nat)=>(x:Int)) t (fun u=>k u) (fun _=>ck ((n:Int)+(1:Int)) fun B=>i st.1 (st.2.1:Int) B (st.2.2.map fun(x:Nat)=>(x:Int))) (fun _=>Ê (fun(j:Int×CK Int) l=>ś (n:Int) (Ŏ m.2) (Ó (Ŏ m.2)) ids m.1.1.1 m.1.1.2 m.1.2.1 m.1.2.2.1 m.1.2.2.2.1 m.1.2.2.2.2.1 m.1.2.2.2.2.2 m.2 j.1 j.2 (fun y v=>l (y,v)) (fun s=>ck ((n:Int)+(1:Int)) fun A=>i st.1 (st.2.1:Int) A s) (fun r=>ck ((n:Int)+(1:Int)) fun z=>i (ß ids n) (n:Int) z r)) ((0:Int),st.2.2.map fun(x:Nat)=>(x:Int)))) (0:Int) =
   (fun q=>i (stI q (n+1)).1 (stI q (n+1)).2.1 (stI q (n+1)).2.2.1 (stI q (n+1)).2.2.2) (if st.2.2.any (agf n) then st else if Ğ (Ħ m (ß ids n)) then(st.1,st.2.1,st.2.2++[n]) else(ß ids n,n,st.2.2)):=fun _ _=>by
   rw[akd h (by omega) (by omega) D,ake (by omega) (by omega) o,p,p,p]
   cases st.2.2.any (agf n) with
   |true=>rfl
   |false =>
    cases Ğ (Ħ m (ß ids n)) with
    |true=>simp
    |false=>rfl
  by_cases g:(ß ids n).length=st.1.length
  ·rw[Ð (by simp[ieq,Ï]; omega),d none none,Ì (show ilt (Ó (ß ids n)) (Ó st.1)=false by simp[ilt,Ï]; omega),akf g (by omega),p]
   by_cases a:0<=Fo (ß ids n) st.1
   ·rw[if_pos a,if_pos (.inr ⟨g,a⟩)]
   ·rw[if_neg a,if_neg (show ¬(st.1.length<(ß ids n).length\/((ß ids n).length=st.1.length/\0<=Fo (ß ids n) st.1)) from fun h=>h.elim e fun h=>a h.2)]
  ·rw[Ì (by simp[ieq,Ï]; omega),d none none,if_neg (show ¬(st.1.length<(ß ids n).length\/((ß ids n).length=st.1.length/\0<=Fo (ß ids n) st.1)) from fun h=>h.elim e fun h=>g h.1)]
def aj7 {ids:CK Int} {n:Nat} {st:CK Int×Nat×CK Nat} (hi:ids.length<=8) (e:st.1.length<=8) (h2:st.2.2.length<=n) (d:∀x∈st.2.2,x<n):(Fz m ids st n).1.length<=8/\(Fz m ids st n).2.2.length<=n+1/\∀x∈(Fz m ids st n).2.2,x<n+1:=by
 have f:=oa ids n;unfold Fz
 split
 ·exact⟨e,by omega,fun x a=>by have:=d x a; omega⟩
 split
 ·exact⟨e,by omega,fun x a=>by have:=d x a; omega⟩
 split
 ·refine⟨e,by simp; omega,fun x a=>?_⟩;rcases df.1 a with a|a
  ·have:=d x a; omega
  ·rw[di.1 a]; omega
 ·exact⟨by dsimp only; omega,by dsimp only; omega,fun x a=>by have:=d x a; omega⟩
def ace {ids:CK Int} (hi:ids.length<=8):∀n,(jM m ids n).1.length<=8/\(jM m ids n).2.2.length<=n/\∀x∈(jM m ids n).2.2,x<n
 |0=>⟨hi,cX _,fun x a=>by cases a⟩
 |n+1=>by
  obtain⟨e,h2,d⟩:=ace hi n;have:=aj7 (m:=m) hi e h2 d;unfold jM at this ⊢;rw[List.range_succ,List.foldl_append];exact this
def pow8 {n:Nat} (h:n<=8):1<=2 ^ n/\2 ^ n<=256:=⟨Nat.one_le_pow _ _ (by decide),Nat.pow_le_pow_right (by decide) h⟩
def adw {ids:CK Int} (hi:ids.length<=8):∀n,n<=256->(jM m ids n).2.1<=256
 |0,_=>by have:=(pow8 hi).2; show 2 ^ ids.length-1<=256; omega
 |n+1,d=>by
  have a:=adw hi n (by omega);unfold jM at a ⊢;rw[List.range_succ,List.foldl_append];show(Fz m ids _ n).2.1<=256;unfold Fz
  split
  ·exact a
  split
  ·exact a
  split
  ·exact a
  ·dsimp only; omega
def QD (C:In m.1) (E:m.2.length<=1000) {ids:CK Int} (F:ids.length<=1000000):po m ids=some (θ m ids):=by
 unfold po zL θ;rw[m9 C E,À]
 by_cases l:ī m=0
 ·have h:=(Ł m).1 l;rw[Ì (by simp[ine,l]),if_neg (by simp[l])]
  by_cases y:8<ids.length
  ·rw[Ð (by simp[igt,Ï]; omega),if_pos y]
  ·have hi:ids.length<=8:=by omega
   obtain⟨K,J⟩:=pow8 hi;rw[Ì (by simp[igt,Ï]; omega),if_neg y,aki h.good.size.compares (by omega)]
   cases ids.all (fun i=>(xJ m).contains i) with
   |false=>rfl
   |true =>
    rw[if_pos rfl,if_neg (by simp),akh (by omega)]
    by_cases o:ids.Pairwise (·<·)
    ·have u:al4 .i64 (1:Int) (Ó ids)=((2 ^ ids.length:Nat):Int):=by
      unfold al4;rw[Ï,Int.toNat_natCast,Nat.min_eq_left (by show ids.length<=64; omega),Int.one_mul,show((2:Int) ^ ids.length)=((2 ^ ids.length:Nat):Int) by simp,af0 (by omega)]
     have I:((2 ^ ids.length:Nat):Int)-1=((2 ^ ids.length-1:Nat):Int):=by omega
     rw[if_pos o,if_neg (by simpa using o),MI h,À,á (by simp[ile,Ï]),u,Î (by omega) (by omega),I]
     have loop:Ê (fun(e:CK Int×Int×Int×CK Int) j=>Ÿ (Ŏ m.2) ((2 ^ ids.length-1:Nat):Int) ids m.1.1.1 m.1.1.2 m.1.2.1 m.1.2.2.1 m.1.2.2.2.1 m.1.2.2.2.2.1 m.1.2.2.2.2.2 m.2 e.1 e.2.1 e.2.2.1 e.2.2.2 (fun t r q p=>j (t,r,q,p)) (fun f=>Ã (jD ids f.1) fun g=>some (g,(0:Int)))) (ids,((2 ^ ids.length-1:Nat):Int),(0:Int),[])=some (ß ids (jM m ids (2 ^ ids.length-1)).2.1,0):=by
      refine è (fun x=>∃n:Nat,n<=2 ^ ids.length-1/\x=stI (jM m ids n) n) (fun x=>2 ^ ids.length-1-x.2.2.1.toNat) ?_ ⟨0,dZ _,rfl⟩;rintro x ⟨n,D,rfl⟩;obtain⟨B,A,z⟩:=ace (m:=m) hi n;rcases dk n (2 ^ ids.length-1) with k|G
      ·refine .inr ⟨stI (jM m ids (n+1)) (n+1),⟨n+1,k,rfl⟩,by dsimp only; omega,fun v=>?_⟩;have:=ael h hi k (by omega) B A z (fun a b c d=>v (a,b,c,d)) (fun f=>Ã (jD ids f.1) fun g=>some (g,(0:Int)));rw[this];unfold jM;rw[List.range_succ,List.foldl_append]; rfl
      ·have:n=2 ^ ids.length-1:=by omega
       subst this;refine .inl fun v=>?_;have M:=adw (m:=m) hi (2 ^ ids.length-1) (by omega);dsimp only;unfold Ÿ;rw[Ì (by simp[ilt])];dsimp only;rw[IF (by omega) (by omega)]; rfl
     have H:=akg h (ids:=ids) (by omega) (s:=2 ^ ids.length-1) (by omega) (some ([],(5:Int))) (some (ß ids (jM m ids (2 ^ ids.length-1)).2.1,0));rw[loop,H]
     split<;>rfl
    ·rw[if_neg o,if_pos o]
 ·rw[Ð (by simp[ine,l]),if_pos l]
end
def T4 (b:ø) (x d:Int):Int:=match jb (Ô b) x d with|some j=>(j:Int)+1|none=>0
def QE (b:ø) (n:Int×Int):Int×Int:=if Ţ b≠0 then(0,Ţ b) else if T4 b n.1 n.2=0 then(0,5) else(T4 b n.1 n.2,0)
def QF {b:ø} (h:In b) (n:Int×Int):sh b n=some (QE b n):=by
 have e:=Jg h.size;unfold sh Zn QE;rw[Ce h.size h.num,À]
 by_cases a:Ţ b=0
 ·rw[Ì (by simp[ine,a]),if_neg (show ¬(Ţ b≠0) from fun h=>h a),U7 h.size,À,show ú (Ô b) n=ú (Ô b) (n.1,n.2) from rfl,aag (by omega),À];unfold T4
  cases d:jb (Ô b) n.1 n.2 with
  |none=>rfl
  |some j =>
   have:=(l8 d).1;simp only;rw[Ì (by simp[ilt]),Î (by omega) (by omega),if_neg (by omega)]
 ·rw[Ð (by simp[ine,a]),if_pos a]
def uM (b:ø) (n:Int×Int):ø:=(b.1,b.2.1,b.2.2.1,b.2.2.2.1,b.2.2.2.2.1,b.2.2.2.2.2++[n])
def ahG {b:ø} (h:ţ b) (n:Int×Int):jz (uM b n):=by
 have a:=h.size;have:=h.nK;exact⟨a.gauges,a.uses,a.loans,a.compares,by simp[uM]; omega,a.piles⟩
def anO (b:ø) (n:Int×Int):ø×Int:=if Ţ b≠0 then(alB,Ţ b) else if Ţ (uM b n)≠0 then(alB,Ţ (uM b n)) else(uM b n,0)
def anN {b:ø} (h:In b) (n:Int×Int):Mu b n=some (anO b n):=by
 have e:=h.size;have s:=e.gauges; have h2:=e.uses; have r:=e.loans; have q:=e.compares; have p:=e.looks;unfold Mu ada anO;rw[Ce e h.num,À]
 by_cases f:Ţ b=0
 ·have k:=(Μ b).1 f;rw[Ì (by simp[ine,f]),Ñ (by omega),Am.iff_true,Ñ (by omega),Am.iff_true,Ñ (by omega),Am.iff_true,Ñ (by omega),Am.iff_true,Ñ (by omega),Am.iff_true,if_neg (show ¬(Ţ b≠0) from fun h=>h f)];refine î b.2.2.2.2.1 (fun _=>b.2.2.2.2.1) _ rfl (fun i d hi hd j=>?_) (fun j=>?_)
  ·dsimp only;unfold xE;obtain⟨o,l⟩:=e.piles d (List.mem_of_getElem? hd)
   have g:b.2.2.2.2.1.set i d=b.2.2.2.2.1:=by
    obtain⟨h,rfl⟩:=dc.1 hd;exact List.set_getElem_self h
   rw[Í hi,Ş hi,ă hd,Ñ (by omega),Am.iff_true,Ñ (by omega),Am.iff_true,Ş hi,ă hd,dm];rw[show(d.1,d.2.1,d.2.2.1,d.2.2.2)=d from rfl,g,Ş hi,ž hd,È hi (by omega)];rw[show(d.1,d.2.1,d.2.2.1,d.2.2.2.1,d.2.2.2.2)=d from rfl,g]
  ·try dsimp only
   unfold xE;rw[Ò];dsimp only;rw[Ñ (by simp only[List.length_singleton]; omega),Am.iff_true];rw[show ζ (b.1,b.2.1,b.2.2.1,b.2.2.2.1,b.2.2.2.2.1,b.2.2.2.2.2++[n])=ζ (uM b n) from rfl,Ce (ahG k n) h.num,À]
   by_cases a:Ţ (uM b n)=0
   ·rw[Ì (by simp[ine,a]),if_neg (show ¬(Ţ (uM b n)≠0) from fun h=>h a)];rfl
   ·rw[Ð (by simp[ine,a]),if_pos a];rfl
 ·rw[Ð (by simp[ine,f]),if_pos f];rfl
def Cf (b:ø) (n:Int×Int):ø×Int:=if T4 b n.1 n.2≠0 then(b,0) else if Ţ (uM b n)≠0 then(alB,Ţ (uM b n)) else(uM b n,0)
structure Room (B:ø):Prop where
 good:ţ B
 op:la (Υ B) ((Ô B).length+1)=true
 num:∀g∈B.2.1,I64 g.2.2.2.2.1.1
def ana (B:ø) (n:Int×Int):0<=T4 B n.1 n.2/\T4 B n.1 n.2<((Ô B).length+1:Nat):=by
 unfold T4
 cases h:jb (Ô B) n.1 n.2 with
 |none=>dsimp only; omega
 |some j=>have:=(l8 h).1; dsimp only; omega
def dstR (B:ø) (s t:Int):Int:=dst (Υ B) ((Ô B).length+1) s t
def ivR (B:ø) (n:Int×Int):Int×Int:=(-(dstR B (T4 B n.1 n.2) 0),dstR B 0 (T4 B n.1 n.2))
def T3 {ρ α:Type} {l:CK α} {i:Int} (h0:0<=i) {a:α} (h:l[i.toNat]?=some a) (f:α->BY ρ):ð l i f=f a:=by
 obtain⟨n,rfl⟩:=Int.eq_ofNat_of_zero_le h0;exact Æ (by simpa using h) f
def kg (x:CK Int) (y:CK Int) (l:Lk):CK Int:=if gv x l.2.1=Ť then y else y.set l.1.toNat (min (gv y l.1) (l.2.2+gv x l.2.1))
def Uh (L:CK Lk) (N:Nat) (x:CK Int):CK Int:=L.foldl (kg x) (List.replicate N Ť)
def exL (L:CK Lk) (N:Nat) (to:Int):Nat->CK Int
 |0=>(List.replicate N Ť).set to.toNat 0
 |k+1=>Uh L N (exL L N to k)
def ny (L:CK Lk) (N:Nat) (to:Int) (most:Nat):CK (CK Int):=(List.range (most+1)).map (exL L N to)
section
variable {L:CK Lk} {N:Nat}
def JT (x y:CK Int) (l:Lk):(kg x y l).length=y.length:=by unfold kg; split<;>simp
def JU (x:CK Int):∀(M:CK Lk) (y:CK Int),(M.foldl (kg x) y).length=y.length
 |[],y=>rfl
 |l::M,y=>by rw[gy,JU x M,JT]
def afa (x:CK Int):(Uh L N x).length=N:=by unfold Uh; rw[JU]; simp
def abn (to:Int) (k:Nat):(exL L N to k).length=N:=by
 cases k with
 |zero=>simp[exL]
 |succ k=>exact afa _
def Lim (B:Int) (x:CK Int):Prop:=∀v:Int,gv x v≠Ť->-B<=gv x v/\gv x v<=B
def gv_out {x:CK Int} {v:Int} (h:¬v.toNat<x.length):gv x v=0:=by
 unfold gv;rw[List.getElem?_eq_none (by omega)];rfl
def Px {B:Int} (d:0<=B):Lim B (List.replicate N Ť):=by
 intro v a
 by_cases h:v.toNat<N
 ·exfalso; apply a;unfold gv;rw[List.getElem?_replicate,if_pos h];rfl
 ·rw[gv_out (by simpa using h)]; omega
def ahR {B:Int} {y:CK Int} (f:Lim B y) {u:Int} (i:0<=u) (g:u.toNat<y.length) {a:Int} (ha:a≠Ť->-B<=a/\a<=B):Lim B (y.set u.toNat a):=by
 intro v d
 by_cases h:v.toNat=u.toNat
 ·have:gv (y.set u.toNat a) v=a:=by
   unfold gv;rw[h,List.getElem?_set_self g];rfl
  rw[this] at d ⊢;exact ha d
 ·have:gv (y.set u.toNat a) v=gv y v:=by
   unfold gv;rw[List.getElem?_set_ne (fun e=>h e.symm)]
  rw[this] at d ⊢;exact f v d
def adf (e:km L N) {B:Int} (n:0<=B) (i:B<=1000000000000000000) {x y:CK Int} (g:Lim B x) (a:Lim (B+4503599627370496) y) (k:y.length=N) {l:Lk} (d:l∈L):Lim (B+4503599627370496) (kg x y l):=by
 unfold kg
 split
 ·exact a
 ·rename_i h;have j:=e.inr l d;have h2:=e.most l d;have o:=g _ h;refine ahR a j.1.1 (by omega) fun ha=>?_
  by_cases f:gv y l.1=Ť
  ·rw[f] at ha ⊢
   have:min Ť (l.2.2+gv x l.2.1)=l.2.2+gv x l.2.1:=by unfold Ť; omega
   rw[this]; omega
  ·have:=a _ f;omega
def adg (g:km L N) {B:Int} (i:0<=B) (a:B<=1000000000000000000) {x:CK Int} (e:Lim B x):∀(M:CK Lk),(∀l∈M,l∈L)->∀y:CK Int,y.length=N->Lim (B+4503599627370496) y->Lim (B+4503599627370496) (M.foldl (kg x) y)
 |[],_,y,_,d=>d
 |l::M,h,y,f,d=>by
  rw[gy];exact adg g i a e M (fun m j=>h m (by simp[j])) _ (by rw[JT,f]) (adf g i a e d f (h l (by simp)))
def E6 (d:km L N) {to:Int} (a:0<=to/\to<N):∀k:Nat,k<=200->Lim (k*4503599627370496) (exL L N to k)
 |0,_=>by
  unfold exL;exact ahR (Px (by omega)) a.1 (by simp; omega) (fun _=>by omega)
 |k+1,f=>by
  have:=adg d (B:=k*4503599627370496) (by omega) (by omega) (E6 d a k (by omega)) L (fun _ h=>h) (List.replicate N Ť) (by simp) (Px (by omega));unfold exL Uh
  have e:(((k+1:Nat):Int)*4503599627370496)=(k:Int)*4503599627370496+4503599627370496:=by push_cast; omega
  rw[e];exact this
def ZI {ρ:Type} (n:N<=1000) (K:CK Int->BY ρ) {f:Int×CK Int->(Int×CK Int->BY ρ)->BY ρ}
 (k:∀(v:Int×CK Int) j,f v j=Br (N:Int) v.1 v.2 (fun g e=>j (g,e)) K):Ê f ((0:Int),List.replicate N (0:Int))=K (List.replicate N Ť):=by
 refine î (List.replicate N (0:Int)) (fun i=>List.replicate i Ť++List.replicate (N-i) (0:Int)) _ (by simp) (fun i a hi ha l=>?_) (fun l=>?_)
 ·rw[k];dsimp only;unfold Br;rw[List.length_replicate] at hi
  have d:(List.replicate i Ť++List.replicate (N-i) (0:Int)).length=N:=by simp; omega
  have h:ilt (i:Int) (N:Int)=true:=decide_eq_true (by omega);rw[Ð h,show ì (List.replicate i Ť++List.replicate (N-i) (0:Int))=(N:Int) by unfold ì; rw[d],ź (by omega) (by omega),lf (by rw[d]; omega),Î (by omega) (by omega)];congr 2;rw[Int.toNat_natCast];rw[List.set_append_right _ _ (by simp),List.length_replicate,Nat.sub_self];rw[show N-i=(N-(i+1))+1 by omega,List.replicate_succ,List.set_cons_zero,List.replicate_succ'];simp
 ·rw[k];dsimp only;unfold Br;rw[List.length_replicate];have h:ilt (N:Int) (N:Int)=false:=decide_eq_false (by omega);rw[Ì h];simp
def okN (a:N<=1000) {ρ:Type} (x:BY ρ):à ((ile (0:Int) (N:Int))&&(ã (Int.toNat (N:Int)))) x=x:=by
 rw[á];rw[dm,Ñ (by omega),Bool.and_true];exact decide_eq_true (by omega)
def ahQ {ρ:Type} (n:km L N) {B:Int} (u:0<=B) (t:B<=1000000000000000000) {x:CK Int} (r:Lim B x) (q:x.length=N) (K:CK Int->BY ρ) :
 Ê (fun(e:pc) f=>Hk x L (Ó L) e.1 e.2 (fun j h=>f (j,h)) K) ((0:Int),List.replicate N Ť)=K (Uh L N x):=by
 have s:=n.len;refine î L (fun i=>(L.take i).foldl (kg x) (List.replicate N Ť)) _ rfl (fun i l hi k p=>?_) (fun p=>?_)
 ·try dsimp only
  unfold Hk;have o:=List.mem_of_getElem? k;have d:=n.inr l o;have h2:=n.most l o;rw[Í hi,Æ k,xI d.2.1 (by omega),take_succ k,List.foldl_append,È hi (by omega)]
  have a:((L.take i).foldl (kg x) (List.replicate N Ť)).length=N:=by rw[JU]; simp
  generalize (L.take i).foldl (kg x) (List.replicate N Ť)=y at a ⊢
  by_cases g:gv x l.2.1=Ť
  ·rw[Ì (by rw[g]; rfl)];simp only[List.foldl_cons,List.foldl_nil];unfold kg;rw[if_pos g]
  ·have v:=r _ g;rw[Ð (bne_iff_ne.2 g),show ì y=(N:Int) by unfold ì; rw[a],ź d.1.1 d.1.2,lf (by omega),xI d.2.1 (by omega),Î (by omega) (by omega),ź d.1.1 d.1.2,lf (by omega),È hi (by omega)];simp only[List.foldl_cons,List.foldl_nil];unfold kg;rw[if_neg g,VX]
 ·try dsimp only
  unfold Hk;rw[Ò,List.take_length];rfl
def ak4 {ρ:Type}:@VD ρ=@Br ρ:=rfl
def JR (to:Int) (m:Nat):(ny L N to m).length=m+1:=by simp[ny]
def JS {to:Int} {m k:Nat} (a:k<=m):(ny L N to m)[k]?=some (exL L N to k):=by
 unfold ny;rw[List.getElem?_map,List.getElem?_range (by omega)];rfl
def ak3 (e:km L N) {to:Int} (d:0<=to/\to<N) {most:Nat} (k:most<=100):Iv ((N:Int),L) to (most:Int)=some (ny L N to most):=by
 have l:=e.n60
 unfold Iv Y5
 dsimp only;rw[okN (by omega),Int.toNat_natCast];refine(ZI (by omega) _ (fun v h=>by rw[Ï,List.length_replicate])).trans ?_;rw[show ì (List.replicate N Ť)=(N:Int) by simp[ì],ź d.1 d.2,lf (by simp; omega)];refine î (List.replicate most ()) (fun i=>ny L N to i) _ (by simp[ny,exL]) (fun i a hi ha g=>?_) (fun g=>?_)
 ·try dsimp only
  unfold Mb;rw[List.length_replicate] at hi;have f:ilt (i:Int) (most:Int)=true:=decide_eq_true (by omega);rw[Ð f,Ï,JR]
  have j:(((i+1:Nat):Int)-1)=(i:Int):=by omega
  rw[j,Î (by omega) (by omega),show ì (ny L N to i)=((i+1:Nat):Int) by unfold ì; rw[JR],ź (by omega) (by omega),Int.toNat_natCast,ž (JS (Nat.le_refl i)),okN (by omega),Int.toNat_natCast];rw[ak4];refine(ZI (by omega) _ (fun v h=>by rw[Ï,List.length_replicate])).trans ?_;refine(ahQ e (B:=i*4503599627370496) (by omega) (by omega) (E6 e d i (by omega)) (abn _ _) _).trans ?_;rw[á (Ñ (by simp only[JR,List.length_singleton]; omega)),Î (by omega) (by omega)];congr 2;unfold ny;rw[List.range_succ (n:=i+1),List.map_append];rfl
 ·try dsimp only
  unfold Mb;rw[List.length_replicate];have f:ilt (most:Int) (most:Int)=false:=decide_eq_false (by omega);rw[Ì f]
def Va (L:CK Lk) (x:CK Int) (good:Int->Bool) (u a:Int):BY Nat:=L.findIdx? fun l=>l.1==u&&(decide (gv x l.2.1≠Ť)&&good (a+l.2.2+gv x l.2.1))
def pH (L:CK Lk) (rest:Nat->CK Int) (good:Int->Bool):Nat->Int->Int->CK Int->CK Int
 |0,_,_,out=>out
 |k+1,u,sum,out=>match Va L (rest k) good u sum with
  |some i=>pH L rest good k (L[i]?.getD (0,0,0)).2.1 (sum+(L[i]?.getD (0,0,0)).2.2) (out++[(i:Int)])
  |none=>pH L rest good k u sum out
def folL {ρ:Type} (good:Int->Bool) (c0:Int) (r:CK (CK Int)) (v:CK Lk) (u:Int) (e:Int) (v1:Int) (v2:Int) (a:CK Int) (n:Int->Int->Int->CK Int->BY ρ) (k0:Int×Int×CK Int->BY ρ):BY ρ :=
 ifb (ilt v2 u) (ð v v2 fun d=>ifb (ieq d.1 e) (ck (c0-(1:Int)) fun s=>ð r s fun t=>ð t d.2.1 fun q=>ifb (ine q (1152921504606846976:Int)) (ck (v1+d.2.2) fun l=>ck (c0-(1:Int)) fun k=>ð r k fun p=>ð p d.2.1 fun o=>ck (l+o) fun j=>ifb (good j) (à (ã ((List.length a)+(List.length ([v2])))) (ck (v1+d.2.2) fun i=>k0 (d.2.1,i,(a++([v2]))))) (ck (v2+(1:Int)) fun h=>n e v1 h a)) (ck (v2+(1:Int)) fun g=>n e v1 g a)) (ck (v2+(1:Int)) fun f=>n e v1 f a)) (k0 (e,v1,a))
def anh {ρ:Type} (D:km L N) (good:Int->Bool) {rest:CK (CK Int)} {k:Nat} {x:CK Int} (s:rest[k]?=some x) (S:k<=100) (G:Lim 1000000000000000000 x) (J:x.length=N) {u e:Int} (Q : -1000000000000000000<=e/\e<=1000000000000000000) {out:CK Int} (R:out.length<=1000)
 (K:Int×Int×CK Int->BY ρ):Ê (fun(v:Int×Int×Int×CK Int) I=>folL good ((k+1:Nat):Int) rest L (Ó L) v.1 v.2.1 v.2.2.1 v.2.2.2 (fun a b c d=>I (a,b,c,d)) K) (u,e,(0:Int),out) =
  match Va L x good u e with|some i=>K ((L[i]?.getD (0,0,0)).2.1,e+(L[i]?.getD (0,0,0)).2.2,out++[(i:Int)])|none=>K (u,e,out):=by
 have M:=D.len;refine è (fun v=>∃i:Nat,i<=L.length/\v=(u,e,(i:Int),out)/\∀j l,j<i->L[j]?=some l->(l.1==u&&(decide (gv x l.2.1≠Ť)&&good (e+l.2.2+gv x l.2.1)))=false) (fun v=>L.length-v.2.2.1.toNat) ?_ ⟨0,by omega,rfl,fun j l h=>by omega⟩;rintro v ⟨i,hi,rfl,C⟩
 have H:(((k+1:Nat):Int)-1)=(k:Int):=by omega
 rcases dk i L.length with h2|h2
 ·have f:L[i]?=some L[i]:=cW h2;generalize L[i]=l at f;have p:=de f;have t:=D.inr l p;have U:=D.most l p
  have n:(l.1==u&&(decide (gv x l.2.1≠Ť)&&good (e+l.2.2+gv x l.2.1)))=false->∃y,(∃i:Nat,i<=L.length/\y=(u,e,(i:Int),out)/\∀j l,j<i->L[j]?=some l->(l.1==u&&(decide (gv x l.2.1≠Ť)&&good (e+l.2.2+gv x l.2.1)))=false)/\(L.length-y.2.2.1.toNat<L.length-((u,e,(i:Int),out):Int×Int×Int×CK Int).2.2.1.toNat)/\y=(u,e,(i:Int)+1,out):=fun g =>
   ⟨_,⟨i+1,h2,by rw[show((i+1:Nat):Int)=(i:Int)+1 by push_cast; rfl],fun j m q p=>by
    rcases gX.1 q with h|rfl
    ·exact C j m h p
    ·rw[f] at p; cases p; exact g⟩,by simp; omega,rfl⟩
  by_cases g:(l.1==u&&(decide (gv x l.2.1≠Ť)&&good (e+l.2.2+gv x l.2.1)))=true
  ·refine .inl fun F=>?_
   have o:Va L x good u e=some i:=by
    unfold Va;rw[List.findIdx?_eq_some_iff_getElem];obtain⟨T,rfl⟩:=List.getElem?_eq_some_iff.1 f;exact⟨h2,g,fun j q=>by have:=C j _ q (List.getElem?_eq_getElem (by omega)); rw[this]; simp⟩
   rw[o];simp only[Bool.and_eq_true,beq_iff_eq,decide_eq_true_eq] at g;have O:=G _ g.2.1;dsimp only;unfold folL
   rw[Í h2,Æ f,Ð (by simp[g.1]),H,Î (by omega) (by omega),Æ s,xI t.2.1 (by omega),Ð (bne_iff_ne.2 g.2.1),Î (by omega) (by omega),Î (by omega) (by omega),Æ s,xI t.2.1 (by omega),Î (by omega) (by omega),Ð g.2.2,
    á (Ñ (by simp; omega)),Î (by omega) (by omega),f]
   rfl
  ·have r:=Bool.not_eq_true _▸g;obtain⟨y,B,A,rfl⟩:=n r;refine .inr ⟨_,B,A,fun F=>?_⟩;dsimp only;unfold folL;rw[Í h2,Æ f,È h2 (by omega)]
   by_cases E:l.1=u
   ·rw[Ð (by simp[E]),H,Î (by omega) (by omega),Æ s,xI t.2.1 (by omega)]
    by_cases z:gv x l.2.1=Ť
    ·rw[Ì (by rw[z]; rfl)]
    ·have O:=G _ z
     have P:good (e+l.2.2+gv x l.2.1)=false:=by simpa[E,z] using r
     rw[Ð (bne_iff_ne.2 z),Î (by omega) (by omega),Î (by omega) (by omega),Æ s,xI t.2.1 (by omega),Î (by omega) (by omega),Ì P]
   ·rw[Ì (by simpa using E)]
 ·refine .inl fun F=>?_
  obtain rfl:i=L.length:=by omega
  have o:Va L x good u e=none:=by
   unfold Va;rw[List.findIdx?_eq_none_iff];intro l f;obtain⟨j,q,rfl⟩:=List.mem_iff_getElem.1 f;exact C j _ q (List.getElem?_eq_getElem q)
  rw[o];dsimp only;unfold folL;rw[Ò]
def folM {ρ:Type} (good:Int->Bool) (c0:CK (CK Int)) (l:CK Lk) (n:Int) (v1:Int) (v2:Int) (k:CK Int) (o:Int->Int->Int->CK Int->BY ρ) (k0:CK Int->BY ρ):BY ρ :=
 ifb (igt v1 (0:Int)) (Ê (fun(a:Int×Int×Int×CK Int) e=>folL good v1 c0 l (Ó l) a.1 a.2.1 a.2.2.1 a.2.2.2 (fun i h g f=>e (i,h,g,f)) (fun d=>ck (v1-(1:Int)) fun j=>o d.1 j d.2.1 d.2.2)) (n,v2,(0:Int),k)) (k0 k)
def ang {ρ:Type} (q:km L N) (good:Int->Bool) {rest:CK (CK Int)} {R:Nat->CK Int} {k0:Nat} (h:k0<=100) (t:∀k,k<k0->rest[k]?=some (R k)) (s:∀k,k<k0->Lim 900000000000000000 (R k)/\(R k).length=N) (u:Int) (K:CK Int->BY ρ) :
 Ê (fun(v:Int×Int×Int×CK Int) l=>folM good rest L v.1 v.2.1 v.2.2.1 v.2.2.2 (fun a b c d=>l (a,b,c,d)) K) (u,(k0:Int),(0:Int),[])=K (pH L R good k0 u 0 []):=by
 have key:=vZ (f:=fun(v:Int×Int×Int×CK Int) l=>folM good rest L v.1 v.2.1 v.2.2.1 v.2.2.2 (fun a b c d=>l (a,b,c,d)) K) (F:=fun v=>K (pH L R good v.2.1.toNat v.1 v.2.2.1 v.2.2.2))
  (fun v=>∃k:Nat,v.2.1=k/\k<=k0/\(-(((k0-k:Nat):Int)*4503599627370496)<=v.2.2.1/\v.2.2.1<=((k0-k:Nat):Int)*4503599627370496)/\v.2.2.2.length<=k0-k) (fun v=>v.2.1.toNat) (fun v n A h=>?_) (x:=(u,(k0:Int),0,[])) ⟨k0,rfl,cX _,by simp,by simp⟩
 ·rw[key]; simp
 ·obtain⟨u,B,j,out⟩:=v;obtain⟨k,e,D,h2,z⟩:=n;dsimp only at e h2 z h ⊢;subst e;rw[Int.toNat_natCast] at h ⊢;unfold folM
  cases k with
  |zero =>
   rw[Ì (by rfl)];rfl
  |succ k =>
   rw[Ð (decide_eq_true (by omega))];have p:=s k (by omega)
   have g:Lim 1000000000000000000 (R k):=fun v n=>by have:=p.1 v n; omega
   refine(anh q good (t k (by omega)) (by omega) g p.2 (by omega) (by omega) _).trans ?_;unfold pH
   have r:(((k+1:Nat):Int)-1)=(k:Int):=by omega
   cases o:Va L (R k) good u j with
   |none =>
    dsimp only;rw[r,Î (by omega) (by omega),h _ ⟨k,rfl,by omega,by dsimp only; omega,by dsimp only; omega⟩ (by simp)];simp
   |some i =>
    have hi:i<L.length:=by
     unfold Va at o;exact(List.findIdx?_eq_some_iff_getElem.1 o).1
    have y:L[i]?=some L[i]:=List.getElem?_eq_getElem hi;have C:=q.most L[i] (List.getElem_mem _);dsimp only;rw[y];simp only[Option.getD_some];rw[r,Î (by omega) (by omega),h _ ⟨k,rfl,by omega,by dsimp only; omega,by simp; omega⟩ (by simp)];simp
end
def D9 (L:CK Lk):Int->Int->CK Int->Int×Int×Bool
 |u,s,[]=>(u,s,true)
 |u,s,i::t=>if (L[i.toNat]?.getD (0,0,0)).1=u then D9 L (L[i.toNat]?.getD (0,0,0)).2.1 (s+(L[i.toNat]?.getD (0,0,0)).2.2) t else(0,0,false)
def D7 (L:CK Lk) (i:Int):Bool:=decide (i<0)||decide ((L.length:Int)<=i)
def mW (L:CK Lk) (l:CK Int):Int:=if 80<l.length then 2 else if l.any (D7 L) then 1 else 0
def adH (u:Int) (w:Int×Int×Bool):Int:=if w.2.2=true/\w.1=u/\w.2.1<0 then 0 else 8
def ť (L:CK Lk) (l:CK Int):Int :=
 if mW L l≠0 then mW L l else match l with
 |[]=>8
 |i::_=>adH (L[i.toNat]?.getD (0,0,0)).1 (D9 L (L[i.toNat]?.getD (0,0,0)).1 0 l)
section
variable {L:CK Lk} {N:Nat}
def ae4 (N:Int) (f:L.length<=1000) (l:CK Int):xZ (N,L) l=some (mW L l):=by
 unfold xZ OY mW;dsimp only;rw[Ï]
 by_cases h:80<l.length
 ·rw[Ð (decide_eq_true (by omega)),if_pos h]
 ·rw[Ì (decide_eq_false (by omega)),if_neg h,<-Ï l];refine(đ l (D7 L) (fun z=>ifb (ige z 0) (some 1) (some 0)) (some 1) (some 0) (fun j=>by rw[show ige (j:Int) 0=true from decide_eq_true (by omega)]; rfl) (fun i a hi ha e=>?_) (fun e=>?_)).trans ?_
  ·try dsimp only
   unfold ot D7;rw[Í hi,Æ ha,È hi (by omega),Ï,õ,õ]
   by_cases d:a<0
   ·simp[ilt,d]
   ·by_cases h2:(L.length:Int)<=a
    ·simp[ilt,ige,d,h2]
    ·simp[ilt,ige,d,h2]
  ·try dsimp only
   unfold ot;rw[Ò]
  ·cases l.any (D7 L)<;>rfl
def abg {l:CK Int} (h:mW L l=0):l.length<=80/\∀i∈l,0<=i/\i.toNat<L.length:=by
 unfold mW at h
 split at h
 ·omega
 ·rename_i a
  split at h
  ·omega
  ·rename_i h2;refine⟨by omega,fun i hi=>?_⟩;have:=eh.1 (eM.2 h2) i hi;simp[D7] at this;omega
def amw (C:km L N) (u:Int) {l:CK Int} (h:mW L l=0):Mq ((N:Int),L) u l=some (D9 L u 0 l):=by
 obtain⟨E,hi⟩:=abg h;unfold Mq ac0;dsimp only
 have:=vZ (f:=fun(p:Int×Int×Int) g=>xn l (Ó l) L p.1 p.2.1 p.2.2 (fun u8 z q=>g (u8,z,q)) (fun o=>some (o.1,o.2.1,o.2.2)) (fun y=>some (y.1,y.2,true)))
  (F:=fun v=>some (D9 L v.1 v.2.1 (l.drop v.2.2.toNat))) (fun v=>∃i:Nat,v.2.2=i/\i<=l.length/\(-(i*4503599627370496)<=v.2.1/\v.2.1<=i*4503599627370496)) (fun v=>l.length-v.2.2.toNat) (fun v A D t=>?_) (x:=(u,(0:Int),(0:Int))) ⟨0,rfl,by omega,by simp⟩
 ·exact this
 ·obtain⟨w,s,n⟩:=v;obtain⟨i,e,G,h2⟩:=A;dsimp only at e h2 t ⊢;subst e;rw[Int.toNat_natCast] at t ⊢;unfold xn;rcases Nat.lt_or_ge i l.length with d|d
  ·have ha:l[i]?=some l[i]:=List.getElem?_eq_getElem d;have hd:l.drop i=l[i]::l.drop (i+1):=List.drop_eq_getElem_cons d;rw[hd];have r:=hi l[i] (List.getElem_mem _);generalize l[i]=a at ha r;have j:L[a.toNat]?=some L[a.toNat]:=List.getElem?_eq_getElem r.2;have B:=C.most _ (List.mem_of_getElem? j);generalize L[a.toNat]=x at j B;rw[Í d,Æ ha,T3 r.1 j];unfold D9;rw[j];simp only[Option.getD_some]
   by_cases k:x.1=w
   ·rw[Ì (by rw[k]; exact bne_self_eq_false' _),if_pos k,Î (by omega) (by omega),È d (by omega),t _ ⟨i+1,by push_cast; rfl,d,by dsimp only; push_cast; omega⟩ (by simp; omega)];simp
   ·rw[Ð (bne_iff_ne.2 k),if_neg k]
  ·obtain rfl:i=l.length:=by omega
   rw[Ò,List.drop_length];rfl
def ah3 {ρ α:Type} (x:α) (t:CK α) (f:α->BY ρ):ð (x::t) (0:Int) f=f x:=rfl
def Sl (f:km L N) (l:CK Int):ox ((N:Int),L) l=some (ť L l):=by
 have k:=f.len;unfold ox DQ ť;rw[nh f,À,Ì (by rfl),ae4 _ (by omega),À]
 by_cases h:mW L l=0
 ·rw[Ì (by rw[h]; rfl),if_neg (by simp[h])]
  cases l with
  |nil=>rw[Ï]; rfl
  |cons i t =>
   have g:=(abg h).2 i (by simp);have d:L[i.toNat]?=some L[i.toNat]:=List.getElem?_eq_getElem g.2;generalize L[i.toNat]=x at d;rw[Ï,Ì (beq_eq_false_iff_ne.2 (by simp; omega)),ah3,T3 g.1 d,amw f x.1 h,À];dsimp only;rw[d];dsimp only[Option.getD_some];generalize D9 L x.1 0 (i::t)=w;obtain⟨e,a,ok⟩:=w;unfold adH;dsimp only
   cases ok with
   |false=>rw[Ð (by rfl),if_neg (by simp)]
   |true =>
    rw[Ì (by rfl)]
    by_cases h2:e=x.1
    ·rw[Ì (by rw[h2]; exact bne_self_eq_false' _)]
     by_cases j:a<0
     ·rw[Ì (decide_eq_false (by omega)),if_pos ⟨rfl,h2,j⟩]
     ·rw[Ð (decide_eq_true (by omega)),if_neg (fun h=>j h.2.2)]
    ·rw[Ð (bne_iff_ne.2 h2),if_neg (fun h=>h2 h.2.1)]
 ·rw[Ð (bne_iff_ne.2 h),if_pos h]
end
def afk {L:CK Lk} {N:Nat} (h:km L N) (a:la L N=true):pq ((N:Int),L)=some ([],5):=by
 have d:=h.n60;unfold pq Pa;rw[nh h,À,Ì (by rfl),wN h.links h.n1 (by omega),À,if_pos a];rfl
def ad8 (b:ø) (n:Int×Int):Prop:=∃g∈b.2.1,g.1=n.1/\n.2∈Ý b g
def VY {b:ø} (h:ţ b) {n:Int×Int}:T4 b n.1 n.2≠0↔ad8 b n:=by
 unfold T4;constructor
 ·intro a
  cases l:jb (Ô b) n.1 n.2 with
  |none=>rw[l] at a; simp at a
  |some j =>
   have o:=List.mem_of_getElem? (l8 l).2;unfold Ô at o;obtain⟨g,f,hd⟩:=List.mem_flatMap.1 o;obtain⟨d,hd,e⟩:=List.mem_map.1 hd;simp only[Prod.mk.injEq] at e;obtain⟨r,rfl⟩:=e;exact⟨g,f,r,hd⟩
 ·rintro⟨g,f,e,hd⟩;obtain⟨i,hi,rfl⟩:=List.mem_iff_getElem.1 f;obtain⟨k,p,q⟩:=List.mem_iff_getElem.1 hd;rw[<-e,U8 h (List.getElem?_eq_getElem hi) (by rw[List.getElem?_eq_getElem p,q])];dsimp only;omega
def ahH {b:ø} (n:Int×Int) (h':ţ (uM b n)):ad8 (uM b n) n:=by
 have a:=h'.looks n (by simp[uM]);unfold aar at a
 split at a
 ·omega
 obtain⟨g,f,_⟩:=Jj h' a;obtain⟨d,e⟩:=iZ f;refine⟨g,d,e,?_⟩;unfold Ý;rw[wP];unfold ZN uM;simp only[List.mem_append,List.mem_map,List.mem_filter];exact .inr ⟨n,⟨.inr (by simp),by simp[e]⟩,rfl⟩
def agk {b:ø} {n:Int×Int} (e:(Cf b n).2=0):(Cf b n=(b,0)/\T4 b n.1 n.2≠0)\/(Cf b n=(uM b n,0)/\ţ (uM b n)/\T4 b n.1 n.2=0):=by
 unfold Cf at e ⊢
 split
 ·rename_i h; exact .inl ⟨rfl,h⟩
 ·rename_i a;rw[if_neg a] at e
  split
  ·rename_i h2; rw[if_pos h2] at e; exact absurd e h2
  ·rename_i h2; exact .inr ⟨rfl,(Μ _).1 (by simpa using h2),by simpa using a⟩
def ahI {b:ø} {n:Int×Int} {f:Int->Int->Int} {z:Int}:anQ (uM b n) f z↔anQ b f z :=
 ⟨fun h=>⟨fun g a=>by have:=h.gauge g a; exact⟨this.hi,this.lo,this.down,this.loss⟩,h.cmp⟩,fun h=>⟨fun g a=>by have:=h.gauge g a; exact⟨this.hi,this.lo,this.down,this.loss⟩,h.cmp⟩⟩
inductive Wk (L:List Lk) (to:Int):Nat->Int->Int->Prop
 |nil:Wk L to 0 to 0
 |step {k:Nat} {v w m d:Int}:(v,w,m)∈L->Wk L to k w d->Wk L to (k+1) v (m+d)
section
variable {L:CK Lk} {N:Nat}
def Wk.snoc {u v m:Int} (g:(u,v,m)∈L):∀{k:Nat} {s d:Int},Wk L u k s d->Wk L v (k+1) s (d+m):=by
 intro k s d h
 induction h with
 |nil =>
  have:=Wk.step g (Wk.nil (L:=L) (to:=v))
  have e:m+0=0+m:=by omega
  rw[e] at this;exact this
 | @step k a w f d i h2 ih =>
  have:=Wk.step i ih
  have e:f+(d+m)=f+d+m:=by omega
  rw[e] at this;exact this
def Wk.bd (a:km L N) {t:Int} {k:Nat} {s d:Int} (h:Wk L t k s d) : -(k*4503599627370496)<=d/\d<=k*4503599627370496:=by
 induction h with
 |nil=>omega
 | @step k v w m d e h2 ih =>
  have:=a.most _ e;dsimp only at this;push_cast;omega
def abh {v:Int} (h0:0<=v) (a:v<N):gv (List.replicate N Ť) v=Ť:=by
 unfold gv;rw[List.getElem?_replicate,if_pos (by omega)];rfl
def akF {B:Int} (d:B<=1100000000000000000) {x:CK Int} (a:Lim B x) (v:Int):gv x v<=Ť:=by
 by_cases h:gv x v=Ť
 ·omega
 ·have:=a v h; unfold Ť; omega
def H9 (k:km L N) {B:Int} (r:0<=B) (f:B<=1000000000000000000) {x:CK Int} (o:Lim B x) {v:Int} (h0:0<=v) (D:v<N) :
 ∀(M:CK Lk),(∀l∈M,l∈L)->∀y:CK Int,y.length=N->Lim (B+4503599627370496) y ->
  gv (M.foldl (kg x) y) v<=gv y v/\(∀w m,(v,w,m)∈M->gv x w≠Ť->gv (M.foldl (kg x) y) v<=m+gv x w) /\
  (gv (M.foldl (kg x) y) v=gv y v\/∃w m,(v,w,m)∈M/\gv x w≠Ť/\gv (M.foldl (kg x) y) v=m+gv x w)
 |[],_,y,_,_=>⟨dT _,fun _ _ h=>by simp at h,.inl rfl⟩
 |l::M,q,y,p,n=>by
  rw[gy];have d:=q l (by simp);obtain⟨E,z,u⟩:=H9 k r f o h0 D M (fun m j=>q m (by simp[j])) (kg x y l) (by rw[JT,p]) (adf k r f o n p d);have C:=k.inr l d;have A:=akF (by omega) n
  -- the element behind one link
  have key:gv (kg x y l) v<=gv y v/\(l.1=v->gv x l.2.1≠Ť->gv (kg x y l) v<=l.2.2+gv x l.2.1)/\(gv (kg x y l) v=gv y v\/(l.1=v/\gv x l.2.1≠Ť/\gv (kg x y l) v=l.2.2+gv x l.2.1)):=by
   unfold kg
   by_cases i:gv x l.2.1=Ť
   ·rw[if_pos i];exact⟨dT _,fun _ h=>absurd i h,.inl rfl⟩
   ·rw[if_neg i,pN C.1.1 h0 (by omega)]
    by_cases g:v=l.1
    ·rw[if_pos g,g];refine⟨by omega,fun _ _=>by omega,?_⟩
     by_cases F:gv y l.1<=l.2.2+gv x l.2.1
     ·exact .inl (by omega)
     ·exact .inr ⟨rfl,i,by omega⟩
    ·rw[if_neg g];exact⟨dT _,fun h=>absurd h.symm g,.inl rfl⟩
  obtain⟨k1,t,s⟩:=key;refine⟨by omega,fun w m j a=>?_,?_⟩
  ·rcases dg.1 j with h|h
   ·subst h;have:=t rfl a;dsimp only at this;omega
   ·exact z w m h a
  ·rcases u with h|⟨w,m,h,a,e⟩
   ·rcases s with h'|⟨h',a,e⟩
    ·exact .inl (h.trans h')
    ·refine .inr ⟨l.2.1,l.2.2,?_,a,h.trans e⟩;rw[<-h']; simp
   ·exact .inr ⟨w,m,by simp[h],a,e⟩
def Wm (f:km L N) {to:Int} (l:0<=to/\to<N):∀k:Nat,k<=200->∀v:Int,0<=v->v<N ->
 (gv (exL L N to k) v≠Ť->Wk L to k v (gv (exL L N to k) v))/\∀d,Wk L to k v d->gv (exL L N to k) v<=d/\gv (exL L N to k) v≠Ť
 |0,_,v,h0,i=>by
  unfold exL;rw[pN l.1 h0 (by simp; omega)]
  by_cases j:v=to
  ·subst j;rw[if_pos rfl];refine⟨fun _=>.nil,fun d hd=>?_⟩;cases hd;exact⟨dT _,by decide⟩
  ·rw[if_neg j,abh h0 i];refine⟨fun h=>absurd rfl h,fun d hd=>?_⟩;cases hd;exact absurd rfl j
 |k+1,C,v,h0,i=>by
  have g:=E6 f l k (by omega);obtain⟨z,q,p⟩:=H9 f (B:=k*4503599627370496) (by omega) (by omega) g h0 i L (fun _ h=>h) (List.replicate N Ť) (by simp) (Px (by omega));have n:=Wm f l k (by omega);unfold exL Uh;refine⟨fun s=>?_,fun d hd=>?_⟩
  ·rcases p with h|⟨w,m,h,r,e⟩
   ·rw[abh h0 i] at h; exact absurd h s
   ·rw[e];have a:=(f.inr _ h).2;exact .step h ((n w a.1 a.2).1 r)
  ·have hb:=Wk.bd f hd
   cases hd with
   | @step x u w m d h h2 =>
    have a:=(f.inr _ h).2;obtain⟨y,o⟩:=(n w a.1 a.2).2 d h2;have:=q w m h o;refine⟨by omega,?_⟩
    have A:(m+d)<=1000000000000000000:=by push_cast at hb; omega
    intro t;rw[t] at this;unfold Ť at this;omega
def ak5 (g:km L N) {to:Int} (j:0<=to/\to<N) {k:Nat} (l:k+1<=200) {u:Int} (d:0<=u/\u<N) (f:gv (exL L N to (k+1)) u≠Ť) :
 ∃w m,(u,w,m)∈L/\gv (exL L N to k) w≠Ť/\gv (exL L N to (k+1)) u=m+gv (exL L N to k) w:=by
 have a:=E6 g j k (by omega);obtain⟨_,_,i⟩:=H9 g (B:=k*4503599627370496) (by omega) (by omega) a d.1 d.2 L (fun _ h=>h) (List.replicate N Ť) (by simp) (Px (by omega));have e:exL L N to (k+1)=L.foldl (kg (exL L N to k)) (List.replicate N Ť):=rfl;rw[e] at f ⊢;rcases i with h|h
 ·rw[abh d.1 d.2] at h; exact absurd h f
 ·exact h
def PN (n:km L N) {to:Int} (h:0<=to/\to<N) (good:Int->Bool):∀(k:Nat),k<=200->∀(u a:Int) (out:CK Int),0<=u->u<N->gv (exL L N to k) u≠Ť->good (a+gv (exL L N to k) u)=true ->
 ∃q,pH L (exL L N to) good k u a out=out++q/\q.length=k/\(∀i∈q,D7 L i=false)/\∃s,D9 L u a q=(to,s,true)/\good s=true
 |0,_,u,a,out,h0,t,r,f=>by
  have J:u=to:=by
   have g:=((Wm n h 0 (by omega) u h0 t).1 r);generalize gv (exL L N to 0) u=y at g;cases g;rfl
  subst J
  have e:gv (exL L N u 0) u=0:=by
   unfold exL;rw[pN h.1 h0 (by simp; omega),if_pos rfl]
  rw[e,gJ] at f;exact⟨[],by simp[pH],rfl,by simp,a,rfl,f⟩
 |k+1,M,u,a,out,h0,t,r,f=>by
  obtain⟨w,m,K,g,e⟩:=ak5 n h M ⟨h0,t⟩ r;unfold pH Va
  cases z:L.findIdx? (fun l=>l.1==u&&(decide (gv (exL L N to k) l.2.1≠Ť)&&good (a+l.2.2+gv (exL L N to k) l.2.1))) with
  |none =>
   have:=eE.1 z (u,w,m) K;rw[e,<-Int.add_assoc] at f;simp[g,f] at this
  |some i =>
   obtain⟨hi,o,_⟩:=List.findIdx?_eq_some_iff_getElem.1 z;have d:L[i]?=some L[i]:=List.getElem?_eq_getElem hi;have A:=List.mem_of_getElem? d;generalize L[i]=x at o d A;simp only[Bool.and_eq_true,beq_iff_eq,decide_eq_true_eq] at o;obtain⟨I,H,G⟩:=o;have v:=(n.inr x A).2;obtain⟨q,F,E,D,s,C,B⟩:=PN n h good k (by omega) x.2.1 (a+x.2.2) (out++[(i:Int)]) v.1 v.2 H G;dsimp only;rw[d];simp only[Option.getD_some];refine⟨(i:Int)::q,by rw[F]; simp,by simp[E],fun j p=>?_,s,?_,B⟩
   ·rcases dg.1 p with rfl|p
    ·simp[D7]; omega
    ·exact D j p
   ·unfold D9;rw[Int.toNat_natCast,d];simp only[Option.getD_some];rw[if_pos I];exact C
def akI {P:Int->Prop} {B:Int} (h:∃d,P d) (f:∀d,P d->B<=d):∃d,P d/\∀e,P e->d<=e:=by
 obtain⟨d0,h0⟩:=h
 have:∀(n:Nat) (d:Int),P d->(d-B).toNat<=n->∃d,P d/\∀e,P e->d<=e:=by
  intro n
  induction n with
  |zero=>intro d hd j; exact⟨d,hd,fun e a=>by have:=f e a; have:=f d hd; omega⟩
  |succ n i =>
   intro d hd j
   by_cases g:∃e,P e/\e<d
   ·obtain⟨e,a,k⟩:=g;exact i e a (by have:=f e a; omega)
   ·exact⟨d,hd,fun e a=>by
     rcases gD e d with q|q
     ·exact absurd ⟨e,a,q⟩ g
     ·exact q⟩
 exact this _ d0 h0 (cX _)
def Wl.cutK {S:Int->Prop} {vs:CK Int} {u d:Int} (h:Wl L S vs u d):∀x∈u::vs,∃a g k f,Wl L S a x g/\(x::a) <:+ (u::vs)/\Wk L u k x f/\d=g+f/\k<=vs.length:=by
 induction h with
 | @nil v l =>
  intro x e;simp at e;subst e;exact⟨[],0,0,0,.nil l,List.suffix_refl _,.nil,by omega,by simp⟩
 | @step vs u v m d j i ih =>
  intro x e;rcases dg.1 e with rfl|e
  ·exact⟨u::vs,d+m,0,0,.step j i,List.suffix_refl _,.nil,by omega,by simp⟩
  ·obtain⟨a,g,k,f,p,o,n,r,q⟩:=ih x e;exact⟨a,g,k+1,f+m,p,o.trans (List.suffix_cons _ _),n.snoc i,by omega,by simp; omega⟩
def aeD (n:km L N) (x:la L N=false):∃(k:Nat) (v d:Int),1<=k/\k<=N/\(0<=v/\v<N)/\Wk L v k v d/\d<0:=by
 have R:=n.n60;apply Classical.byContradiction;intro D
 have y:∀{k:Nat} {v d:Int},1<=k->k<=N->(0<=v/\v<N)->Wk L v k v d->0<=d:=fun {k v d} s h2 F E=>by
  rcases gD d 0 with q|q
  ·exact absurd ⟨k,v,d,s,h2,F,E,q⟩ D
  ·exact q
 have r:∀l∈L,-4503599627370496<=l.2.2:=fun l p=>(n.most l p).1
 let P:Int->Int->Prop:=fun v d=>∃vs,Wl L (fun u=>0<=u/\u<N) vs v d/\(v::vs).Nodup
 have h:∀v:Int,0<=v/\v<N->∃d,P v d/\∀e,P v e->d<=e:=fun v f=>akI (B:=-(60*4503599627370496)) ⟨0,[],.nil f,by simp⟩ (by
  rintro d ⟨vs,s,h2⟩;have Q:=s.lowM r;have O:=s.short n.inr (fun w i=>i) h2
  have:((vs.length:Nat):Int)*4503599627370496<=60*4503599627370496:=by omega
  omega)
 have z:la L N=true:=by
  refine(mB n.links (by omega)).2 ⟨fun v=>if f:0<=v/\v<(N:Int) then Classical.choose (h v f) else 0,fun u v m p=>?_⟩;have g:=n.inr _ p;dsimp only at g;obtain⟨⟨vs,i,j⟩,C⟩:=Classical.choose_spec (h u g.1);obtain⟨_,o⟩:=Classical.choose_spec (h v g.2);have K:(if f:0<=u/\u<(N:Int) then Classical.choose (h u f) else 0)=Classical.choose (h u g.1):=dif_pos g.1;have J:(if f:0<=v/\v<(N:Int) then Classical.choose (h v f) else 0)=Classical.choose (h v g.2):=dif_pos g.2;dsimp only;rw[K,J];generalize Classical.choose (h u g.1)=a at *;generalize Classical.choose (h v g.2)=b at *
  by_cases f:v∈u::vs
  ·obtain⟨t,M,k,U,I,H,G,T,S⟩:=i.cutK v f;have A:=i.short n.inr (fun w i=>i) j;have:=y (by omega) (by omega) g.2 (G.snoc p);have:=o M ⟨t,I,j.sublist H.sublist⟩;omega
  ·have:=o (a+m) ⟨u::vs,i.step p,fB.2 ⟨f,j⟩⟩;omega
 rw[x] at z;cases z
def ng (L:CK Lk) (N:Nat) (k:Nat) (l:Lk):Bool:=decide (gv (exL L N l.1 k) l.2.1≠Ť)&&decide (l.2.2+gv (exL L N l.1 k) l.2.1<0)
def afK (a:km L N) (e:la L N=false):∃k,k<N/\∃l∈L,ng L N k l=true:=by
 have o:=a.n60;obtain⟨k,v,d,q,h2,j,i,p⟩:=aeD a e
 cases i with
 |nil=>omega
 | @step k v w m d g h =>
  have f:=a.inr _ g;obtain⟨r,n⟩:=(Wm a j k (by omega) w f.2.1 f.2.2).2 d h;refine⟨k,by omega,(v,w,m),g,?_⟩;simp only[ng,cY,decide_eq_true_eq];exact⟨n,by omega⟩
def ZT (j:km L N) {k:Nat} (E:k<N) {l:Lk} (z:l∈L) (hb:ng L N k l=true) :
 ∃q,pH L (exL L N l.1) (fun n=>ilt n 0) (k+1) l.1 0 []=q/\q.length=k+1/\(∀i∈q,D7 L i=false)/\ť L q=0/\∃u s,D9 L u 0 q=(u,s,true)/\s<0:=by
 have D:=j.n60;have a:=j.inr _ z;simp only[ng,cY,decide_eq_true_eq] at hb;have e:=E6 j a.1 k (by omega);obtain⟨_,C,_⟩:=H9 j (B:=k*4503599627370496) (by omega) (by omega) e a.1.1 a.1.2 L (fun _ h=>h) (List.replicate N Ť) (by simp) (Px (by omega));have h2:gv (exL L N l.1 (k+1)) l.1<=l.2.2+gv (exL L N l.1 k) l.2.1:=C l.2.1 l.2.2 z hb.1
 have p:gv (exL L N l.1 (k+1)) l.1≠Ť:=fun h=>by rw[h] at h2; unfold Ť at h2; omega
 obtain⟨q,x,v,o,s,d,A⟩:=PN j a.1 (fun n=>ilt n 0) (k+1) (by omega) l.1 0 [] a.1.1 a.1.2 p (by rw[Int.zero_add]; exact decide_eq_true (by omega));rw[dH] at x;have y:s<0:=of_decide_eq_true A;refine⟨q,x,v,o,?_,l.1,s,d,y⟩
 have g:q.any (D7 L)=false:=by
  rw[eh]
  exact fun i hi=>by rw[o i hi]; simp
 cases q with
 |nil=>simp at v
 |cons i t =>
  have hi:=o i (by simp);simp only[D7,gK,decide_eq_false_iff_not] at hi;have F:L[i.toNat]?=some L[i.toNat]:=cW (by omega)
  have f:(L[i.toNat]?.getD (0,0,0)).1=l.1:=by
   unfold D9 at d
   by_cases h:(L[i.toNat]?.getD (0,0,0)).1=l.1
   ·exact h
   ·rw[if_neg h] at d; simp at d
  have r:mW L (i::t)=0:=by
   unfold mW;rw[if_neg (by omega),g];rfl
  unfold ť;rw[r,if_neg (by simp)];dsimp only;rw[f,d];unfold adH;dsimp only;rw[if_pos ⟨rfl,rfl,y⟩]
end
def ab0 {L:CK Lk} {p:Int->Int} (e:Pot L p):∀(l:CK Int) (u s:Int),(∀i∈l,0<=i/\i.toNat<L.length)->(D9 L u s l).2.2=true->p (D9 L u s l).1-p u<=(D9 L u s l).2.1-s
 |[],u,s,_,_=>by simp[D9]
 |i::t,u,s,hi,a=>by
  have h:=hi i (by simp);have d:L[i.toNat]?=some L[i.toNat]:=List.getElem?_eq_getElem h.2;have f:=List.mem_of_getElem? d;generalize L[i.toNat]=x at d f;unfold D9 at a ⊢;rw[d] at a ⊢;simp only[Option.getD_some] at a ⊢
  split at a
  ·rename_i g;rw[if_pos g];have n:=e x.1 x.2.1 x.2.2 f;have h2:=ab0 e t x.2.1 (s+x.2.2) (fun j k=>hi j (by simp[k])) a;rw[g] at n;omega
  ·cases a
section
variable {L:CK Lk} {N:Nat}
def ale {ρ:Type} (c0:CK (CK Int)) (a:CK Lk):@AC ρ c0 a=folM (fun n=>ilt n 0) c0 a:=rfl
def yS (L:CK Lk) (N:Nat):CK (CK (CK Int)):=(List.range N).map fun(n:Nat)=>ny L N n N
def aeg {L:CK Lk} {N n:Nat} (h:n<N):(yS L N)[n]?=some (ny L N n N):=by
 unfold yS;rw[List.getElem?_map,List.getElem?_range h];rfl
def aat {ρ:Type} (l:km L N) (K:CK (CK (CK Int))->BY ρ) :
 Ê (fun(d:Int×CK (CK (CK Int))) f=>oZ (Ó (List.replicate N ([]:u7))) (N:Int) L d.1 d.2 (fun k j=>f (k,j)) K) ((0:Int),(List.replicate N ([]:u7)))=K (yS L N):=by
 have p:=l.n60;refine î (List.replicate N ()) (fun i=>((List.range i).map fun(n:Nat)=>ny L N n N)++List.replicate (N-i) ([]:CK (CK Int))) _ (by simp) (fun i a hi ha o=>?_) (fun o=>?_)
 ·try dsimp only
  unfold oZ;rw[List.length_replicate] at hi;rw[Ï,List.length_replicate,Ð (decide_eq_true (by omega)),ak3 l ⟨by omega,by omega⟩ (by omega),À]
  have g:(((List.range i).map fun(n:Nat)=>ny L N n N)++List.replicate (N-i) ([]:CK (CK Int))).length=N:=by simp; omega
  rw[show ì (((List.range i).map fun(n:Nat)=>ny L N n N)++List.replicate (N-i) ([]:CK (CK Int)))=(N:Int) by unfold ì; rw[g],ź (by omega) (by omega),Int.toNat_natCast]
  have h:(((List.range i).map fun(n:Nat)=>ny L N n N)++List.replicate (N-i) ([]:CK (CK Int)))[i]?=some []:=by
   rw[f8 (by simp),ig,if_pos (by simp; omega)]
  rw[ž h,Î (by omega) (by omega)];congr 2;rw[gH _ _ (by simp),fA,fk]
  have e:N-i=(N-(i+1))+1:=by omega
  rw[e,gq];simp
 ·try dsimp only
  unfold oZ;rw[Ï,List.length_replicate,List.length_replicate,Ì (decide_eq_false (by omega))];unfold yS;simp
def Xm {ρ:Type} (d:km L N) {k:Nat} (F:k<N) (k0:Unit->BY ρ) (k1:Int×CK Int->BY ρ) (o:Unit->BY ρ) :
 Ê (fun(p:Int) f=>oY ((k:Int)+1) L (Ó L) (N:Int) L (yS L N) p (fun q=>f q) k0 k1 o) (0:Int) =
  match L.find? (ng L N k) with|some l=>k1 (0,pH L (exL L N l.1) (fun n=>ilt n 0) (k+1) l.1 0 [])|none=>o ():=by
 have G:=d.n60;have D:=d.len;rw[Ml];refine(jw L (ng L N k) (fun j=>match L[j.toNat]? with|some l=>k1 (0,pH L (exL L N l.1) (fun n=>ilt n 0) (k+1) l.1 0 [])|none=>o ()) (o ()) (fun i l hi t y=>?_) (fun y=>?_)).trans ?_
 ·try dsimp only
  unfold oY;have v:=List.mem_of_getElem? t;have a:=d.inr l v;have C:=d.most l v
  have r:((l.1.toNat:Nat):Int)=l.1:=by omega
  have x:(yS L N)[l.1.toNat]?=some (ny L N l.1 N):=by rw[aeg (by omega),r]
  have s:ì (yS L N)=(N:Int):=by simp[ì,yS]
  have g:=E6 d a.1 k (by omega) l.2.1;rw[Í hi,Æ t,s,ź a.1.1 a.1.2,ž x,show((k:Int)+1-1)=(k:Int) by omega,Î (by omega) (by omega),Æ (JS (by omega)),xI a.2.1 (by rw[abn]; omega)];unfold ng
  by_cases e:gv (exL L N l.1 k) l.2.1=Ť
  ·rw[Ð (beq_iff_eq.2 e),È hi (by omega),if_neg (by simp[e])]
  ·have hb:=g e;rw[Ì (beq_eq_false_iff_ne.2 e),Î (by omega) (by omega)]
   by_cases h2:l.2.2+gv (exL L N l.1 k) l.2.1<0
   ·rw[Ì (decide_eq_false (by omega)),Ì (decide_eq_false (by omega)),ź a.1.1 a.1.2,ž x,if_pos (by simp[e,h2]),ale,dm,t];have u:∀j,j<k+1->(ny L N l.1 N)[j]?=some (exL L N l.1 j):=fun j E=>JS (by omega)
    have A:∀j,j<k+1->Lim 900000000000000000 (exL L N l.1 j)/\(exL L N l.1 j).length=N:=fun j E=>⟨fun w B=>by
     have:=E6 d a.1 j (by omega) w B; omega,abn _ _⟩
    have:=ang d (fun n=>ilt n 0) (rest:=ny L N l.1 N) (R:=exL L N l.1) (k0:=k+1) (by omega) u A l.1 (fun z=>k1 (0,z));rw[show(((k+1:Nat):Int))=(k:Int)+1 by push_cast; rfl] at this;exact this
   ·rw[Ð (decide_eq_true (by omega)),È hi (by omega),if_neg (by simp[e,h2])]
 ·try dsimp only
  unfold oY;rw[Ò]
 ·cases h:L.findIdx? (ng L N k) with
  |none=>rfl
  |some j=>dsimp only; rw[Int.toNat_natCast]
def ajV (d:km L N) (i:la L N=false):∃(K:Nat) (l:Lk),K<N/\(∀k,k<K->∀x∈L,ng L N k x=false)/\L.find? (ng L N K)=some l/\pq ((N:Int),L)=some (pH L (exL L N l.1) (fun n=>ilt n 0) (K+1) l.1 0 [],0):=by
 have G:=d.n60;obtain⟨y,E,B,q,t⟩:=afK d i
 -- the first number of links
 have r:∃K,K<=y/\(∃l∈L,ng L N K l=true)/\∀k,k<K->∀x∈L,ng L N k x=false:=by
  have:∀n:Nat,(∀k,k<n->∀x∈L,ng L N k x=false)\/∃K,K<n/\(∃l∈L,ng L N K l=true)/\∀k,k<K->∀x∈L,ng L N k x=false:=by
   intro n
   induction n with
   |zero=>exact .inl fun k o=>by omega
   |succ n D =>
    rcases D with h|⟨K,u,h2⟩
    ·by_cases j:∃l∈L,ng L N n l=true
     ·exact .inr ⟨n,by omega,j,h⟩
     ·refine .inl fun k o x g=>?_;rcases gz (Nat.le_of_lt_succ o) with u|rfl
      ·exact h k u x g
      ·exact eM.2 fun e=>j ⟨x,g,e⟩
    ·exact .inr ⟨K,by omega,h2⟩
  rcases this (y+1) with h|⟨K,u,h2,F⟩
  ·have:=h y (by omega) B q;rw[t] at this; cases this
  ·exact⟨K,by omega,h2,F⟩
 obtain⟨K,H,⟨A,p,s⟩,a⟩:=r
 obtain⟨l,z⟩:∃l,L.find? (ng L N K)=some l:=by
  cases h:L.find? (ng L N K) with
  |none=>have:=eo.1 h A p; exact absurd s this
  |some l=>exact⟨l,rfl⟩
 refine⟨K,l,by omega,a,z,?_⟩;unfold pq Pa;rw[nh d,À,Ì (by rfl),wN d.links d.n1 (by omega),À,if_neg (by simp[i]),Ì (by rfl),okN (by omega),Int.toNat_natCast];refine(aat d _).trans ?_;refine è (fun v=>∃k:Nat,k<=K/\v=(k:Int)+1) (fun v=>(K+2)-v.toNat) ?_ ⟨0,by omega,rfl⟩;rintro v ⟨k,o,rfl⟩;rcases Nat.lt_or_eq_of_le o with h|rfl
 ·refine .inr ⟨((k+1:Nat):Int)+1,⟨k+1,h,rfl⟩,by omega,fun C=>?_⟩;unfold t8;refine(Xm d (by omega) _ _ _).trans ?_
  have f:L.find? (ng L N k)=none:=eo.2 fun x j=>by rw[a k h x j]; simp
  rw[f];dsimp only;rw[Î (by omega) (by omega)];congr 1
 ·refine .inl fun C=>?_;unfold t8;refine(Xm d (by omega) _ _ _).trans ?_;rw[z]
end
def agp (L:CK Lk) (N:Nat):CK (Int×Int):=(List.range N).map fun(n:Nat)=>(-(dst L N n 0),dst L N 0 n)
section
variable {L:CK Lk} {N:Nat}
def aek {n:Nat} (h:n<N):(agp L N)[n]?=some (-(dst L N n 0),dst L N 0 n):=by
 unfold agp;rw[List.getElem?_map,List.getElem?_range h];rfl
def alM (g:km L N) (l:abS L N) (j:la L N=true):wy ((N:Int),L)=some (agp L N,0):=by
 have r:=g.n60;have p:=g.n1;unfold wy Y7;rw[alF g (fun n o=>by simp at o) (by simp),À,if_pos j,Ì (by rfl),Z2 g.links g.n1 (by omega) j ⟨by omega,by omega⟩,À,okN (by omega),Int.toNat_natCast];have d:(A7 L N 0).length=N:=Qu 0;refine î (List.replicate N ()) (fun i=>((List.range i).map fun(n:Nat)=>dst L N n 0)++List.replicate (N-i) (0:Int)) _ (by simp) (fun i a hi ha k=>?_) (fun k=>?_)
 ·try dsimp only
  unfold t7;rw[List.length_replicate] at hi;rw[Ï,List.length_replicate,Ð (decide_eq_true (by omega)),Z2 g.links g.n1 (by omega) j ⟨by omega,by omega⟩,À,xI (by omega) (by rw[Qu]; simp; omega)]
  have h:(((List.range i).map fun(n:Nat)=>dst L N n 0)++List.replicate (N-i) (0:Int)).length=N:=by simp; omega
  rw[show ì (((List.range i).map fun(n:Nat)=>dst L N n 0)++List.replicate (N-i) (0:Int))=(N:Int) by unfold ì; rw[h],ź (by omega) (by omega),Int.toNat_natCast]
  have f:(((List.range i).map fun(n:Nat)=>dst L N n 0)++List.replicate (N-i) (0:Int))[i]?=some 0:=by
   rw[f8 (by simp),ig,if_pos (by simp; omega)]
  rw[ž f,Î (by omega) (by omega)];congr 2;rw[gH _ _ (by simp),fA,fk]
  have e:N-i=(N-(i+1))+1:=by omega
  rw[e,gq];simp[dst]
 ·try dsimp only
  unfold t7;rw[Ï,List.length_replicate,List.length_replicate,Ì (decide_eq_false (by omega))]
  have q:((List.range N).map fun(n:Nat)=>dst L N n 0)++List.replicate (N-N) (0:Int)=(List.range N).map fun(n:Nat)=>dst L N n 0:=by simp
  rw[q];refine î (List.replicate N ()) (fun i=>(List.range i).map fun(n:Nat)=>(-(dst L N n 0),dst L N 0 n)) _ (by simp) (fun i a hi ha k=>?_) (fun k=>?_)
  ·try dsimp only
   unfold tZ;rw[List.length_replicate] at hi
   have f:((List.range N).map fun(n:Nat)=>dst L N n 0)[i]?=some (dst L N i 0):=by
    rw[eW,gk hi]; rfl
   have hb:=dst_bd g l j (s:=(i:Int)) (t:=0) ⟨by omega,by omega⟩ ⟨by omega,by omega⟩;rw[Ï,d,Ð (decide_eq_true (by omega)),show ì ((List.range N).map fun(n:Nat)=>dst L N n 0)=(N:Int) by simp[ì],ź (by omega) (by omega),dm,ž f,Î (by omega) (by omega),xI (by omega) (by rw[d]; simp; omega),á (Ñ (by simp only[dD,fi,dS]; omega)),Î (by omega) (by omega),Int.zero_sub];congr 2;rw[fA,fk];rfl
  ·try dsimp only
   unfold tZ;rw[Ï,d,List.length_replicate,Ì (decide_eq_false (by omega))];rfl
end
abbrev nT (m:Ĭ) (w:Way):Nat:=(Ô (trP m w)).length+1
abbrev sT (m:Ĭ) (w:Way):CK Lk:=Υ (trP m w)
def D4 (L:CK Lk) (N:Nat):CK Int:=((pq ((N:Int),L)).getD ([],0)).1
def ZU {L:CK Lk} {N:Nat} (f:km L N) (a:la L N=false):pq ((N:Int),L)=some (D4 L N,0)/\ť L (D4 L N)=0/\(D4 L N).length<=N:=by
 obtain⟨K,l,j,_,h,g⟩:=ajV f a;obtain⟨q,d,k,_,i,_⟩:=ZT f j (fM h) (fP h)
 have e:D4 L N=q:=by unfold D4; rw[g,d]; rfl
 rw[e];exact⟨by rw[g,d],i,by omega⟩
section
variable {m:Ĭ} {w:Way} {ρ:Type}
def ab8 (n:Nat):(((n:Int)+1,Υ (trP m w)):Sys)=(((n+1:Nat):Int),Υ (trP m w)):=by simp
def ad7 (m:Ĭ):CK (CK Int)×Int:=if ī m≠0 then([],ī m) else if Ğ m then([],5) else((Ŏ m.2).map fun w=>D4 (sT m w) (nT m w),0)
def alW (l:In m.1) (n:m.2.length<=1000):Ig m=some (ad7 m):=by
 unfold Ig Yw ad7;rw[m9 l n,À]
 by_cases e:ī m=0
 ·have h:=(Ł m).1 e;have p:=sI h;have o:((((m.1.1.1,m.1.1.2),m.1.2.1,m.1.2.2.1,m.1.2.2.2.1,m.1.2.2.2.2.1,m.1.2.2.2.2.2),m.2):Ĭ)=m:=rfl;rw[Ì (by simp[ine,e]),if_neg (by simp[e]),MI h,À];refine HP (Ŏ m.2) (fun i=>((Ŏ m.2).take i).map fun w=>D4 (sT m w) (nT m w)) _ (fun i=>∀w∈(Ŏ m.2).take i,mr m w=false) rfl (fun w a=>by simp at a) (fun i x hi d f k=>?_) (fun f k=>?_)
  ·try dsimp only
   unfold tr;have j:=qR h (qQ d);rw[Í hi,Æ d,o,sK h (qQ d),À,QC h (qQ d),À];dsimp only;rw[ab8]
   cases g:mr m x with
   |true =>
    refine .inl ?_;rw[afk j.sys g,À];have:Ğ m=true:=du.2 ⟨x,de d,g⟩;rw[this]; rfl
   |false =>
    refine .inr ⟨fun w a=>?_,?_⟩
    ·rw[take_succ d] at a;rcases df.1 a with a|a
     ·exact f w a
     ·rw[di.1 a]; exact g
    ·rw[(ZU j.sys g).1,À,Ì (by rfl),á (Ñ (by simp; omega)),È hi (by omega),take_succ d,fk]; rfl
  ·rw[fF] at f
   try dsimp only
   unfold tr
   have:Ğ m=false:=eh.2 fun w a=>by rw[show mr m w=false from f w a]; simp
   rw[Ò,fF,this]; rfl
 ·rw[Ð (by simp[ine,e]),if_pos e]
def yf (m:Ĭ) (a:CK (CK Int)):Bool:=(List.range (Ŏ m.2).length).all fun i=>match (Ŏ m.2)[i]?,a[i]? with|some w,some c=>decide (ť (sT m w) c=0)|_,_=>false
def od (m:Ĭ) (a:CK (CK Int)):Int:=if ī m≠0 then ī m else if a.length≠(Ŏ m.2).length then 8 else if yf m a then 0 else 8
def IW (l:In m.1) (n:m.2.length<=1000) (a:CK (CK Int)):lD m a=some (od m a):=by
 unfold lD C5 od;rw[m9 l n,À]
 by_cases f:ī m=0
 ·have h:=(Ł m).1 f;have p:=sI h;have o:((((m.1.1.1,m.1.1.2),m.1.2.1,m.1.2.2.1,m.1.2.2.2.1,m.1.2.2.2.2.1,m.1.2.2.2.2.2),m.2):Ĭ)=m:=rfl;rw[Ì (by simp[ine,f]),if_neg (by simp[f]),MI h,À]
  by_cases j:a.length=(Ŏ m.2).length
  ·rw[Ì (by simp[ine,Ï]; omega),if_neg (by simp[j])];refine d9 (ade (Ŏ m.2).length (fun i=>match (Ŏ m.2)[i]?,a[i]? with|some w,some c=>decide (ť (sT m w) c=0)|_,_=>false) (some 8) (some 0) (fun i hi k=>?_) (fun k=>?_)) ?_
   ·have e:(Ŏ m.2)[i]?=some (Ŏ m.2)[i]:=cW hi;have d:a[i]?=some a[i]:=cW (by omega)
    try dsimp only
    unfold ks;rw[Í hi,Æ e,o,sK h (qQ e),À,QC h (qQ e),À,Æ d];dsimp only;rw[ab8,Sl (qR h (qQ e)).sys,À,e,d,õ,È hi (by omega)];dsimp only
    by_cases g:ť (sT m (Ŏ m.2)[i]) a[i]=0
    ·rw[if_neg (by simp[ine,g]),if_pos (by simpa using g)]
    ·rw[if_pos (by simp[ine,g]),if_neg (by simpa using g)]
   ·try dsimp only
    unfold ks;rw[Ò]
   ·unfold yf
    cases(List.range (Ŏ m.2).length).all fun i=>match (Ŏ m.2)[i]?,a[i]? with|some w,some c=>decide (ť (sT m w) c=0)|_,_=>false<;>rfl
  ·rw[Ð (by simp[ine,Ï]; omega),if_pos j]
 ·rw[Ð (by simp[ine,f]),if_pos f]
def WhoP (m:Ĭ) (w:Way) (x d:Int):Int×Int:=if Qw m w≠0 then(0,Qw m w) else if wi m.1 x d≠0 then(0,wi m.1 x d) else(iS m.2 w x d,0)
def anI (f:In m.1) (j:m.2.length<=1000) (g:∀l∈w,l.length<=100000) (x d:Int):Wd m w x d=some (WhoP m w x d):=by
 unfold Wd ahl WhoP;rw[aju f j g,À]
 by_cases a:Qw m w=0
 ·obtain⟨h,i⟩:=abN.1 a;rw[Ì (by simp[ine,a]),if_neg (by simp[a]),VQ f.size.gauges,À]
  by_cases e:wi m.1 x d=0
  ·rw[Ì (by simp[ine,e]),if_neg (by simp[e]),h.who i]; rfl
  ·rw[Ð (by simp[ine,e]),if_pos e]
 ·rw[Ð (by simp[ine,a]),if_pos a]
def Pz (b:ø) (n:Int×Int):(Int×Int)×Int:=if (Cf b n).2≠0 then((0,0),(Cf b n).2) else(ivR (Cf b n).1 n,0)
def agj {b:ø} (h:Room b) {n:Int×Int} (e:(Cf b n).2=0):Room (Cf b n).1/\ad8 (Cf b n).1 n:=by
 rcases agk e with⟨a,h2⟩|⟨a,h2,_⟩
 ·rw[a];exact⟨h,(VY h.good).1 h2⟩
 ·rw[a];refine⟨⟨h2,?_,h.num⟩,ahH n h2⟩;obtain⟨f,z,d⟩:=(FY h.good).1 h.op;exact(FY h2).2 ⟨f,z,ahI.2 d⟩
def Py {B:ø} (h:Room B) {n:Int×Int} (j:ad8 B n) (K:(Int×Int)×Int->BY ρ) :
 (Ã (sh B n) fun i=>Ã (jG B) fun g=>Ã (wy g.1) fun a=>ifb (ine a.2 (0:Int)) (K (((0:Int),(0:Int)),a.2)) (ð a.1 i.1 fun l=>K (l,(0:Int))))=K (ivR B n,0):=by
 have f:In B:=⟨h.good.size,h.num⟩;have hi:=(VY h.good).2 j;have o:=ana B n;have d:=alM h.good.sys h.good.tied h.op;rw[QF f,À,QE,if_neg (by simp[(Μ _).2 h.good]),if_neg hi,aaa f,À,WQ,if_neg (by simp[(Μ _).2 h.good])];dsimp only;rw[show((((Ô B).length:Int)+1,Υ B):Sys)=((((Ô B).length+1:Nat):Int),Υ B) by simp,d,À,Ì (by rfl)];obtain⟨k,e⟩:∃k:Nat,T4 B n.1 n.2=k:=⟨(T4 B n.1 n.2).toNat,by omega⟩;rw[e,Æ (aek (by omega))];unfold ivR dstR;rw[e]
def ahS {b:ø} (h:Room b) (n:Int×Int):BC b n=some (Pz b n):=by
 have d:In b:=⟨h.good.size,h.num⟩;have a:=(Μ _).2 h.good;unfold BC Ti Pz;rw[QF d,À]
 by_cases hi:T4 b n.1 n.2=0
 ·have f:(QE b n).2=5:=by unfold QE; rw[if_neg (by simp[a]),if_pos hi]
  rw[Ð (by simp[ine,f]),anN d,À,anO,if_neg (by simp[a])]
  by_cases h2:Ţ (uM b n)=0
  ·have e:Cf b n=(uM b n,0):=by unfold Cf; rw[if_neg (by simp[hi]),if_neg (by simp[h2])]
   obtain⟨r1,r2⟩:=agj h (n:=n) (by rw[e]);rw[e] at r1 r2;rw[if_neg (by simp[h2]),Ì (by rfl),Py r1 r2,e,if_neg (by simp)]
  ·have e:Cf b n=(alB,Ţ (uM b n)):=by unfold Cf; rw[if_neg (by simp[hi]),if_pos h2]
   rw[if_pos h2,Ð (by simp[ine,h2]),e,if_pos h2]
 ·have f:(QE b n).2=0:=by unfold QE; rw[if_neg (by simp[a]),if_neg hi]
  have e:Cf b n=(b,0):=by unfold Cf; rw[if_pos hi]
  rw[Ì (by simp[ine,f]),<-QF d,Py h ((VY h.good).1 hi),e,if_neg (by simp)]
def aie {α β:Type} {f:α->BY β}:∀{l:CK α} {i:Nat} {x:α} {e:β},l[i]?=some x->(∀w∈l.take i,f w=none)->f x=some e->l.findSome? f=some e
 |[],_,_,_,h,_,_=>by simp at h
 |y::l,0,x,e,h,_,a=>by simp at h; subst h; rw[gP,a]
 |y::l,i+1,x,e,h,d,a=>by
  rw[gP,d y (by simp)];exact aie (by simpa using h) (fun w g=>d w (by simp[g])) a
abbrev Fnd:=CK (Int×(Int×Int))
def hullP (s t:Int×Int):Int×Int:=(min s.1 t.1,max s.2 t.2)
def ani (m:Ĭ) (label d:Int) (M:Fnd) (w:Way):Fnd :=
 Tb (k:=tI) (v:=Ç) (iS m.2 w label d) (match sR (k:=tI) (v:=Ç) (iS m.2 w label d) M with|some s=>hullP (Pz (trP m w) (iS m.2 w label d,d)).1 s|none=>(Pz (trP m w) (iS m.2 w label d,d)).1) M
def H8 (m:Ĭ) (label d:Int) (l:CK Way):Fnd:=l.foldl (ani m label d) []
def aj2 (m:Ĭ) (label d:Int) (w:Way):Int:=(Pz (trP m w) (iS m.2 w label d,d)).2
def abT (m:Ĭ) (label d:Int):CK (Int×Int×Int)×Int :=
 if ī m≠0 then([],ī m) else if wi m.1 label d≠0 then([],wi m.1 label d) else if uO m=[] then([],5) else
 match (uO m).findSome? fun w=>JV (aj2 m label d w) with
 |some e=>([],e)
 |none=>(m.1.2.1.filterMap fun g=>(sR (k:=tI) (v:=Ç) g.1 (H8 m label d (uO m))).map fun s=>(g.1,s),0)
def adp (a:w∈uO m):į m.2 w/\mr m w=true:=by
 obtain⟨d,h2⟩:=dK.1 a;exact⟨uU.1 d,h2⟩
def akU (h:MOk m):(uO m).length<=150:=dr (dW _ _) (sI h)
def amO (h:MOk m) (a:į m.2 w) (d:mr m w=true):Room (trP m w):=⟨qR h a,d,h.in_.num⟩
def ajR (B:In m.1) (F:m.2.length<=1000) (label d:Int):BD m label d=some (abT m label d):=by
 unfold BD Tk abT;rw[m9 B F,À]
 by_cases r:ī m=0
 ·have h:=(Ł m).1 r;have J:=B.size.gauges;have I:=akU h;rw[Ì (by simp[ine,r]),if_neg (by simp[r]),VQ J,À]
  by_cases t:wi m.1 label d=0
  ·rw[Ì (by simp[ine,t]),if_neg (by simp[t]),ah7 h,À]
   by_cases a:uO m=[]
   ·rw[Ð (by simp[ieq,Ï,a]),if_pos a]
   ·have:(uO m).length≠0:=fun e=>a (dE.1 e);rw[Ì (by simp[ieq,Ï,a]),if_neg a];have key:∀(l:CK Way),(∀w∈l,JV (aj2 m label d w)=none)->l.findSome? (fun w=>JV (aj2 m label d w))=none:=fun l H=>List.findSome?_eq_none_iff.2 H;refine HP (uO m) (fun i=>H8 m label d ((uO m).take i)) _ (fun i=>∀w∈(uO m).take i,JV (aj2 m label d w)=none) rfl (fun w f=>by simp at f) (fun i x hi o p E=>?_) (fun p E=>?_)
    ·obtain⟨u,D⟩:=adp (de o);have j:=amO h u D
     try dsimp only
     unfold pY;rw[Í hi,Æ o,show((((m.1.1.1,m.1.1.2),m.1.2.1,m.1.2.2.1,m.1.2.2.2.1,m.1.2.2.2.2.1,m.1.2.2.2.2.2),m.2):Ĭ)=m from rfl,h.who u,À,sK h u,À,ahS j,À]
     by_cases n:aj2 m label d x=0
     ·refine .inr ⟨fun w f=>?_,?_⟩
      ·rw[take_succ o] at f;rcases df.1 f with f|f
       ·exact p w f
       ·rw[di.1 f,n]; rfl
      ·unfold aj2 at n
       have z:H8 m label d ((uO m).take (i+1))=ani m label d (H8 m label d ((uO m).take i)) x:=by rw[take_succ o,H8,List.foldl_append]; rfl
       rw[Ì (by simp[ine,n]),z];unfold ani QH
       cases sR (k:=tI) (v:=Ç) (iS m.2 x label d) (H8 m label d ((uO m).take i)) with
       |none=>dsimp only; rw[È hi (by omega)]
       |some s =>
        dsimp only;rw[È hi (by omega),VX,ah2]; rfl
     ·refine .inl ?_
      have A:(uO m).findSome? (fun w=>JV (aj2 m label d w))=some (aj2 m label d x):=by
       exact aie o p (by simp[JV,n])
      rw[A];unfold aj2 at n ⊢;rw[Ð (by simp[ine,n])]
    ·rw[fF] at p
     try dsimp only
     unfold pY;rw[Ò,key _ p,List.take_length];dsimp only;refine î m.1.2.1 (fun i=>(m.1.2.1.take i).filterMap fun g=>(sR (k:=tI) (v:=Ç) g.1 (H8 m label d (uO m))).map fun s=>(g.1,s)) _ rfl (fun i g hi C y=>?_) (fun y=>?_)
     ·try dsimp only
      unfold pX;have G:((m.1.2.1.take i).filterMap fun g=>(sR (k:=tI) (v:=Ç) g.1 (H8 m label d (uO m))).map fun s=>(g.1,s)).length<=1000:=Nat.le_trans (List.length_filterMap_le _ _) (by rw[List.length_take]; omega);rw[Í hi,Æ C,take_succ C,List.filterMap_append];unfold QH
      cases q:sR (k:=tI) (v:=Ç) g.1 (H8 m label d (uO m)) with
      |none=>simp only[List.filterMap_cons,q,Option.map_none,List.filterMap_nil,dv]; rw[È hi (by omega)]
      |some s =>
       simp only[List.filterMap_cons,q,ee,List.filterMap_nil];rw[á (Ñ (by rw[dS]; omega)),È hi (by omega)]
     ·try dsimp only
      unfold pX;rw[Ò,List.take_length]
  ·rw[Ð (by simp[ine,t]),if_pos t]
 ·rw[Ð (by simp[ine,r]),if_pos r]
end
def ahC {ρ α:Type} [DecidableEq α] {l m:CK α} (n:l.length=m.length) (K:Bool->BY ρ) {f:Int->(Int->BY ρ)->BY ρ}
 (h:∀(i:Nat) (a b:α),i<l.length->l[i]?=some a->m[i]?=some b->∀d,f i d=if a=b then d ((i:Int)+1) else K false) (k:∀d,f l.length d=K true):Ê f 0=K (decide (l=m)):=by
 refine d9 (jC l (fun i a=>if m[i]?=some a then none else some false) K (K true) (fun i a hi ha d=>?_) k) ?_
 ·have j:m[i]?=some m[i]:=cW (by omega);rw[h i a _ hi ha j,j]
  by_cases g:a=m[i]
  ·simp[g]
  ·have:¬m[i]=a:=fun e=>g e.symm;simp[g,this]
 ·cases h:Ě (fun i a=>if m[i]?=some a then none else some false) 0 l with
  |none=>simp[Xo n h]
  |some b =>
   obtain⟨o,h2⟩:=Xn h;simp[o,h2]
def afO {a b:Way} (n:a.length<=1000000) (k:∀l∈a,l.length<=1000000):uz a b=some (decide (a=b)):=by
 unfold uz Kt;rw[Ï,Ï]
 by_cases d:a.length=b.length
 ·rw[Ì (by simp[ine,d])];refine ahC d some (fun i x y hi f j g=>?_) (fun g=>?_)
  ·try dsimp only
   unfold mQ;rw[Í hi,Æ f,Æ j,Fl (k x (List.mem_of_getElem? f)),À,È hi (by omega),õ]
   by_cases h:x=y<;>simp[h]
  ·try dsimp only
   unfold mQ;rw[Ò]
 ·rw[Ð (by simp[ine]; omega)];have:a≠b:=fun e=>d (by rw[e]);simp[this]
def aiK {L:CK Lk} {p:Int->Int} (d:Pot L p) (c:CK Int):ť L c≠0:=by
 unfold ť
 by_cases h2:mW L c=0
 case neg=>rw[if_pos h2]; exact h2
 rw[if_neg (by simp[h2])];have hi:=(abg h2).2
 cases c with
 |nil=>exact(by decide:(8:Int)≠0)
 |cons i t =>
  dsimp only;unfold adH
  split
  ·rename_i a;have:=ab0 d (i::t) (L[i.toNat]?.getD (0,0,0)).1 0 hi a.1;rw[a.2.1] at this;have:=a.2.2;omega
  ·decide
def aiJ {m:Ĭ} {w:Way} (h:MOk m) (d:į m.2 w) {c:CK Int} (g:ť (sT m w) c=0):mr m w=false:=by
 rw[eM];intro f;have a:=qR h d;have i:=a.sys.n60;obtain⟨p,e⟩:=(mB a.sys.links (by omega)).1 f;exact aiK e c g
def agI {m:Ĭ} (h:MOk m) {a:CK (CK Int)} (f:yf m a=true):∀w∈Ŏ m.2,mr m w=false:=by
 intro w e;obtain⟨i,hi,rfl⟩:=dp.1 e;have:=dG.1 f i (fg.2 hi);rw[cW hi] at this
 cases d:a[i]? with
 |none=>rw[d] at this; cases this
 |some c =>
  rw[d] at this;exact aiJ h (uU.1 e) (of_decide_eq_true this)
def Xw {m:Ĭ} (h:MOk m) (e:Ğ m=false):yf m ((Ŏ m.2).map fun w=>D4 (sT m w) (nT m w))=true:=by
 refine dG.2 fun i hi=>?_;rw[fg] at hi;have d:(Ŏ m.2)[i]?=some (Ŏ m.2)[i]:=cW hi;have a:(Ŏ m.2)[i]∈Ŏ m.2:=fE hi;rw[eW,d];have f:=eh.1 e _ a;exact decide_eq_true (ZU (qR h (uU.1 a)).sys (eM.2 f)).2.1
def exM (l:CK Cmp):Ĭ:=(((0,2),[(1,0,1000,(-5,5),(1,10),1),(2,0,1000,(-50,50),(1,4),0),(3,0,1100,(-1,1),(0,1),0)],[(1,10)],[(1,(20,29),3)],(7,10,[1],[2],-20,1,100,200)::l,[]),[(12,[2,3])])
def ex8:Cmp:=(8,15,[2],[1],100,1,0,0)
def ex9:Cmp:=(9,15,[3],[],1100,0,0,0)
def aij {l:CK Cmp} (f:l.length<=10) (e:∀c∈l,c.2.2.1.length<=10/\c.2.2.2.1.length<=10):In (exM l).1:=by
 refine⟨⟨by simp[exM],by simp[exM],by simp[exM],by simp[exM]; omega,by simp[exM],fun c a=>?_⟩,fun g d=>?_⟩
 ·rcases dg.1 (show c∈(7,10,[1],[2],-20,1,100,200)::l from a) with rfl|a
  ·exact⟨by decide,by decide⟩
  ·have:=e c a; omega
 ·simp only[exM,dg,ip,or_false] at d
  rcases d with rfl|rfl|rfl<;>exact⟨by decide,by decide⟩
def w0:ī (exM [])=0/\ī (exM [ex8])=0/\ī (exM [ex8,ex9])=0:=by decide +kernel
def w1:Ŏ (exM []).2=[[[2,3]],[[3,2]]]:=by decide +kernel
def w2:uO (exM [])=[[[2,3]],[[3,2]]]:=by decide +kernel
def w3:aa8 (exM [ex8])=([[3,2]],0):=by decide +kernel
def w4:abT (exM [ex8]) 2 15=([(3,1099,1101)],0):=by decide +kernel
def w5:aak (exM [ex8,ex9])=([8,9],0):=by decide +kernel
def w6:θ (exM [ex8,ex9]) [7,8,9]=([8,9],0):=by decide +kernel
def w7:mi (exM [ex8,ex9]) 2=(false,0):=by decide +kernel
def w8:Ğ (exM [ex8,ex9])=false:=by decide +kernel
def w9:WhoP (exM [ex8,ex9]) [[3,2]] 2 13=(3,0):=by decide +kernel
def aeo:j7=some true:=by
 have d:In (exM []).1:=aij (by decide) (by simp);have e:In (exM [ex8]).1:=aij (by decide) (by decide);have a:In (exM [ex8,ex9]).1:=aij (by decide) (by decide)
 have n:∀l,(exM l).2.length<=1000:=fun l=>by simp[exM]
 have h0:=(Ł _).1 w0.1;have h2:=(Ł _).1 w0.2.2;have o:ů []=some (exM []):=rfl;have k:ů [((8:Int),(15:Int),[(2:Int)],[(1:Int)],(100:Int),(1:Int),(0:Int),(0:Int))]=some (exM [ex8]):=rfl;have j:ů [((8:Int),(15:Int),[(2:Int)],[(1:Int)],(100:Int),(1:Int),(0:Int),(0:Int)),((9:Int),(15:Int),[(3:Int)],[],(1100:Int),(0:Int),(0:Int),(0:Int))]=some (exM [ex8,ex9]):=rfl
 have g:ad7 (exM [ex8,ex9])=((Ŏ (exM [ex8,ex9]).2).map (fun w=>D4 (sT (exM [ex8,ex9]) w) (nT (exM [ex8,ex9]) w)),0):=by
  unfold ad7; rw[if_neg (by simp[w0.2.2]),w8]; rfl
 have q:od (exM [ex8,ex9]) ((Ŏ (exM [ex8,ex9]).2).map fun w=>D4 (sT (exM [ex8,ex9]) w) (nT (exM [ex8,ex9]) w))=0:=by
  unfold od;rw[if_neg (by simp[w0.2.2]),if_neg (by simp),Xw h2 w8]; rfl
 have p:∀c,od (exM []) c=8:=fun c=>by
  unfold od;rw[if_neg (by simp[w0.1])]
  split
  ·rfl
  ·rw[if_neg];intro h;have:=agI h0 h [[2,3]] (by rw[w1]; simp)
   have i:[[2,3]]∈uO (exM []):=by rw[w2]; simp
   rw[(adp i).2] at this;cases this
 unfold j7 Er;rw[o,À,anJ d (n _),À,if_neg (by simp[w0.1]),À,All_ok d (n _),À,if_neg (by simp[w0.1]),k,À,ajP e (n _),À,À,ajR e (n _),À,j,À,ajS a (n _),À,QD a (n _) (by simp),À,KR a (n _),À,w1,w2,w3,w4,w5,w6,w7];rw[alW a (n _),À,g,Ì (by rfl),Ì (by rfl),Ì (by rfl),Ì (by rfl),Ì (by rfl),Ì (by rfl),Ì (by rfl),Ì (by simp[ine,Ï]),Ì (by simp[ine,Ï]),Ì (by rfl)];rw[show ∀f:Way->BY Bool,ð [[[2,3]],[[3,2]]] (1:Int) f=f [[3,2]] from fun f=>rfl];dsimp only;rw[anI a (n _) (by decide),À,w9,Ì (by rfl),Ì (by rfl),Ì (by rfl),IW a (n _),À,q,Ì (by rfl),À,IW d (n _),À,p,Ì (by rfl)];rw[afO (by decide) (by decide),À,Ð (by rfl),Ð (by simp[ieq,Ï])];rw[show ∀f:Int×Int×Int->BY Bool,ð [((3:Int),(1099:Int),(1101:Int))] (0:Int) f=f (3,1099,1101) from fun f=>rfl];dsimp only;rw[Ð (by rfl),Fl (by decide),À,Ð (by rfl),À];rfl
end Go.Proofs.ZzM
end
