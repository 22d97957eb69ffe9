/- lemmas -/
import Derived.Test.YtdmegkgjpgcfgaaGreatPlA
import Derived.Test.YtdmegkgjpgcfgaaGreatMdTA
set_option linter.all false
noncomputable section
namespace Go.Proofs.ZzM
open Go Go.Am
def xc (n lo hi:Int):kP n lo hi=some (inP n lo hi):=by
 unfold kP adI inP ige ile
 cases h:decide (lo<=n)<;>simp_all
def S6 (n:Int):uL n=some (zn n):=by
 unfold uL Yo;rw[xc]; rfl
def yO (s:Int×Int) (lo hi:Int):jV s lo hi=some (j7 s lo hi):=by
 unfold jV AK j7 ile
 cases decide (lo<=s.1)<;>cases decide (s.1<=s.2)<;>rfl
def apf {l:Do Int} (f:l.length<=1000000) (x:Int):Oa l x=some (l.contains x):=by
 unfold Oa Ym;refine Eq.trans (Ē l (fun a=>a==x) (fun _=>some true) (some true) (some false) (fun _=>rfl) (fun i a hi ha d=>?_) (fun d=>?_)) ?_
 ·try dsimp only
  unfold xP;rw[Ì hi,Ä ha,É hi (by omega),ó]
 ·try dsimp only
  unfold xP;rw[Ó]
 ·have:l.any (fun a=>a==x)=l.contains x:=by
   rw[eP,dD,dZ];constructor
   ·rintro⟨a,ha,e⟩; rw[<-eq_of_beq e]; exact ha
   ·intro h; exact⟨x,h,by simp⟩
  rw[this]
  cases l.contains x<;>rfl
def ag1 {a b:Do Int} {i:Nat} {x:Int} (h:a[i]?=some x):Þ (a.take (i+1)) b=Þ (a.take i) b++if b.contains x then[] else[x]:=by
 rw[take_succ h,Þ,Þ,fg];congr 1
 cases d:b.contains x<;>simp only[eS,d,dV,fA,dz,if_false,if_true,ff]
def Z0 {a b:Do Int} (ha:a.length<=1000000) (hb:b.length<=1000000):la a b=some (Þ a b):=by
 unfold la QA;refine î a (fun i=>Þ (a.take i) b) _ rfl (fun i x hi d e=>?_) (fun e=>?_)
 ·try dsimp only
  unfold uj
  have f:(Þ (a.take i) b).length<=1000000:=by
   have:=rZ (a.take i) b;rw[dt] at this;omega
  rw[Ì hi,Ä d,apf hb,À,ag1 d]
  cases b.contains x with
  |true=>rw[Í (by rfl),É hi (by omega)]; simp
  |false=>rw[Ñ (by rfl),Ä d,Ò (by simp only[dU]; omega),Am.iff_true,É hi (by omega)]; simp
 ·try dsimp only
  unfold uj;rw[Ó,List.take_length]
def MI (a b:Do Int):Int:=(Þ a b).head?.getD 0
def LJ {a b:Do Int} (ha:a.length<=1000000) (hb:b.length<=1000000):qz a b=some (MI a b):=by
 unfold qz X8 MI;rw[Z0 ha hb,À,Î]
 cases h:Þ a b with
 |nil=>rfl
 |cons x t =>
  rw[Í (by simp[ieq]; omega)];exact Ä (i:=0) rfl _
def CS {b:ö} (e:b.2.1.length<=1000000) (id:Int):jX b id=some (match b.2.1.findIdx? (fun g=>g.1==id) with|some j=>(j:Int)|none=>-1):=by
 unfold jX QE;refine Eq.trans (iQ b.2.1 (fun g=>g.1==id) (fun z=>some z) (some (-1)) (fun i a hi ha d=>?_) (fun d=>?_)) ?_
 ·try dsimp only
  unfold uk;rw[Ì hi,Ä ha,É hi (by omega),ó]
 ·try dsimp only
  unfold uk;rw[Ó]
 ·cases List.findIdx? (fun g:æ=>g.1==id) b.2.1<;>rfl
def qQ {b:ö} {id:Int}:(∃j g,b.2.1.findIdx? (fun g=>g.1==id)=some j/\b.2.1[j]?=some g/\ì b id=some g)\/(b.2.1.findIdx? (fun g=>g.1==id)=none/\ì b id=none):=by
 unfold ì;rw[N7]
 cases h:b.2.1.findIdx? (fun g=>g.1==id) with
 |none=>exact .inr ⟨rfl,rfl⟩
 |some j =>
  obtain⟨a,_,_⟩:=dN.1 h;exact .inl ⟨j,_,rfl,df a,df a⟩
def ń (b:ö) (id day:Int):Int:=match ì b id with|some g=>if day<g.2.1 then 4 else 0|none=>5
def BU {b:ö} (d:b.2.1.length<=1000000) (id day:Int):ju b id day=some (ń b id day):=by
 unfold ju KH ń;rw[CS d,À];rcases qQ (b:=b) (id:=id) with⟨j,g,a,h2,e⟩|⟨a,h2⟩
 ·rw[a,e]
  try dsimp only
  rw[Í (by simp[ilt]),Ä h2,ó]
  by_cases hd:day<g.2.1
  ·rw[if_pos (by simpa[ilt] using hd),if_pos hd]
  ·rw[if_neg (by simpa[ilt] using hd),if_neg hd]
 ·rw[a,h2];rfl
def xj {b:ö} (hi:b.2.1.Pairwise fun a b=>a.1<b.1) (id day:Int):ń b id day=mw (ŕ b) id day:=by
 unfold ń mw;rw[vI hi]
 cases ì b id<;>rfl
def Om {b:ö} (q:b.2.2.2.1.length<=1000000) (id day:Int):jW b id day=some (match Œ b id day with|some l=>(l,true)|none=>((0,(0,0),0),false)):=by
 unfold jW Qy;refine IH b.2.2.2.1 (fun _=>((0:Int),(0:Int),(0:Int),(0:Int))) _ (fun i=>∀l∈b.2.2.2.1.take i,(l.1==id&&inP day l.2.1.1 l.2.1.2)=false) rfl (by simp) (fun i a hi ha g n=>?_) (fun g n=>?_)
 ·try dsimp only
  unfold uh;rw[Ì hi,Ä ha]
  by_cases f:(a.1==id&&inP day a.2.1.1 a.2.1.2)=true
  ·refine .inl ?_;have d:=f;simp only[inP,dg,beq_iff_eq,decide_eq_true_eq] at d;rw[Ñ (by simp[ieq,d.1]),Ñ (by simp[ile,d.2.1]),Ñ (by simp[ile,d.2.2])]
   have o:Œ b id day=some a:=by
    unfold Œ;obtain⟨k,rfl⟩:=List.getElem?_eq_some_iff.1 ha;rw[List.find?_eq_some_iff_getElem];refine⟨f,i,k,rfl,fun j r=>?_⟩;have:=g b.2.2.2.1[j] (List.mem_iff_getElem.2 ⟨j,by rw[List.length_take]; omega,by rw[List.getElem_take]⟩);simp[this]
   rw[o]
  ·refine .inr ⟨fun l e=>?_,?_⟩
   ·rw[take_succ ha,dl,dq] at e;rcases e with e|rfl
    ·exact g l e
    ·simpa using f
   ·have d:=f;simp only[inP,dg,beq_iff_eq,decide_eq_true_eq] at d
    by_cases h:a.1=id
    ·by_cases h2:a.2.1.1<=day
     ·rw[Ñ (by simp[ieq,h]),Ñ (by simp[ile,h2]),Í (by simp[ile]; exact Int.lt_of_not_ge fun p=>d ⟨h,h2,p⟩),É hi (by omega)]
     ·rw[Ñ (by simp[ieq,h]),Í (by simp[ile]; omega),É hi (by omega)]
    ·rw[Í (by simp[ieq,h]),É hi (by omega)]
 ·try dsimp only
  unfold uh;rw[Ó]
  have:Œ b id day=none:=by
   unfold Œ;rw[List.find?_eq_none];intro l e;have:=g l (by rw[List.take_length]; exact e);simp[this]
  rw[this]
def anu {b:ö} (f:b.2.2.1.length<=1000000) (id day:Int):Jf b id day=some (MD b id day):=by
 unfold Jf Qi;refine Eq.trans (Ē b.2.2.1 (fun u=>u.1==id&&u.2==day) (fun _=>some true) (some true) (some false) (fun _=>rfl) (fun i a hi ha e=>?_) (fun e=>?_)) ?_
 ·try dsimp only
  unfold tW;rw[Ì hi,Ä ha,Ä ha,É hi (by omega)]
  cases d:(a.1==id) with
  |false=>have:ieq a.1 id=false:=d; simp[this]
  |true =>
   have:ieq a.1 id=true:=d;rw[this]
   cases h2:(a.2==day) with
   |false=>have:ieq a.2 day=false:=h2; simp[this]
   |true=>have:ieq a.2 day=true:=h2; simp[this]
 ·try dsimp only
  unfold tW;rw[Ó]
 ·unfold MD
  cases b.2.2.1.any _<;>rfl
def alr (a b:Nat):CB a b=some ((Nat.gcd a b:Nat):Int):=by
 unfold CB Yv;refine õ (fun x:Int×Int=>∃c d:Nat,x=((c:Int),(d:Int))/\Nat.gcd c d=Nat.gcd a b) (fun x=>x.2.toNat) ?_ ⟨a,b,rfl,rfl⟩;rintro x ⟨c,d,rfl,e⟩
 cases d with
 |zero =>
  refine .inl fun f=>?_;rw[Nat.gcd_zero_right] at e;unfold xQ;simp[e,ine]
 |succ d =>
  refine .inr ⟨(((d+1:Nat):Int),((c % (d+1):Nat):Int)),⟨d+1,c % (d+1),rfl,?_⟩,?_,fun f=>?_⟩
  ·rw[<-e,iw c (d+1),Nat.gcd_rec (d+1) c,iw]
  ·have:=ii c (ig d);simp only[du];omega
  ·unfold xQ
   have g:ine ((d+1:Nat):Int) 0=true:=by simp[ine]; omega
   have h2:iW ((d+1:Nat):Int) 0=false:=by simp[iW]; omega
   simp only[g,Ñ Í h2];congr 1
def alv {n:Int} (h : -9223372036854775807<=n/\n<=9223372036854775807):Ji n=some (n.natAbs:Int):=by
 unfold Ji Yy
 by_cases a:n<0
 ·rw[Ñ (by simpa[ilt] using a),Ï (by omega) (by omega)];congr 1;omega
 ·rw[Í (by simpa[ilt] using a)];congr 1;omega
def alo (r:Int×Int):Cz r=some (LU r):=by
 unfold Cz KO LU
 by_cases d:1<=r.2
 ·rw[Í (by simp[ilt]; omega)]
  by_cases h2:r.2<=2147483647
  ·rw[Í (by simp[igt]; omega)]
   by_cases g:r.1 < -2147483647
   ·rw[Ñ (by simp[ilt]; omega)]
    have:¬((r.1.natAbs:Int)<=2147483647):=by omega
    simp[this]
   ·rw[Í (by simp[ilt]; omega)]
    by_cases f:2147483647<r.1
    ·rw[Ñ (by simp[igt]; omega)]
     have:¬((r.1.natAbs:Int)<=2147483647):=by omega
     simp[this]
    ·rw[Í (by simp[igt]; omega),alv ⟨by omega,by omega⟩,À]
     have a:r.2=((r.2.natAbs:Nat):Int):=by omega
     have e:((r.1.natAbs:Int)<=2147483647):=by omega
     rw[a,alr,À,<-a];congr 1;rw[eP];simp only[ieq,beq_iff_eq,d,h2,e,decide_true,eR,decide_eq_true_eq];omega
  ·rw[Ñ (by simp[igt]; omega)];simp[h2]
 ·rw[Ñ (by simp[ilt]; omega)];simp[d]
def alk (g:æ):Cv g=some (se g):=by
 unfold Cv KD se;rw[alo,xc,xc,S6,xc,yO,xc];simp only[À]
 have e:igt g.2.2.2.2.1.2 100=!decide (g.2.2.2.2.1.2<=100):=by
  rw[eP]; simp[igt]
 rw[e]
 cases LU g.2.2.2.2.1<;>cases inP g.2.2.2.2.1.1 (-1000) 1000<;>cases decide (g.2.2.2.2.1.2<=100)<;>cases inP g.1 1 1099511627776<;>cases zn g.2.1<;>cases inP g.2.2.1 1 1125899906842624<;>cases j7 g.2.2.2.1 (-1073741824) 1073741824<;>rfl
def adl {l:Do Int}:∀(m:Do Int) (j:Nat) (x:Bool),Ě (ze l) j m=some x->x=false:=by
 intro m
 induction m with
 |nil=>intro j x h; cases h
 |cons a m e =>
  intro j x h;unfold Ě at h
  cases d:ze l j a with
  |none=>rw[d] at h; exact e _ _ h
  |some y =>
   rw[d] at h;cases h;unfold ze at d
   split at d
   ·cases d; rfl
   ·split at d
    ·cases d; rfl
    ·cases d
def ago {l:Do Int} (g:l.length<=1000000):BA l=some (uT l):=by
 unfold BA Qr;refine Eq.trans (iP l (ze l) some (some (decide (l.length<=6))) (fun i a hi ha e=>?_) (fun e=>?_)) ?_
 ·try dsimp only
  unfold ue;rw[Ì hi,Ä ha,xc,À];unfold ze
  cases inP a 1 1099511627776 with
  |false=>rfl
  |true =>
   simp only[dV,é,dz,if_false];rcases fM i with h0|h0
   ·subst h0
    have:igt ((0:Nat):Int) 0=false:=by simp[igt]
    rw[Í this,É hi (by omega)];simp[lW]
   ·obtain⟨q,d⟩:=vz hi h0
    have f:igt (i:Int) 0=true:=by simp[igt]; omega
    rw[Ñ f,Ä ha,Sr h0 (by omega),IU h0 d];simp only[lW,h0,decide_true,Bool.true_and,d,Option.any_some];unfold ile
    cases h2:decide (a<=q) with
    |true=>rfl
    |false =>
     rw[é,É hi (by omega)];rfl
 ·try dsimp only
  unfold ue;rw[Ó,Î];simp[ile];omega
 ·unfold uT
  cases h:Ě (ze l) 0 l with
  |none=>rfl
  |some x=>rw[adl _ _ _ h]
def ali {c:Cmp} (d:c.2.2.1.length<=1000000) (a:c.2.2.2.1.length<=1000000):Ct c=some (J3 c):=by
 unfold Ct KA J3;rw[ago d,ago a,xc,S6,xc,xc,yO];simp only[À]
 cases uT c.2.2.1<;>cases uT c.2.2.2.1<;>cases inP c.1 1 1099511627776<;>cases zn c.2.1<;>cases inP c.2.2.2.2.1 (-1125899906842624) 1125899906842624<;>cases inP c.2.2.2.2.2.1 0 1073741824<;>cases j7 c.2.2.2.2.2.2 (-10000) 10000<;>rfl
def Z7 (b:ö) (u:Int×Int):Int:=if !zn u.2 then 1 else ń b u.1 u.2
def aeN {b:ö} (hi:b.2.1.Pairwise fun a b=>a.1<b.1) (u:Int×Int):Z7 b u=ac5 (ŕ b) u.1 u.2:=by
 unfold Z7 ac5;rw[xj hi]
def Lu (e:Int):CK Int:=if e=0 then none else some e
def Ll {α:Type} (E:Nat->α->Int):∀(k:Nat) (l:Do α),Ě (fun i a=>Lu (E i a)) k l=(l.mapIdx fun i a=>E (i+k) a).find? (fun e=>e != 0)
 |_,[]=>rfl
 |k,a::t=>by
  unfold Ě;rw[Ll E (k+1) t,List.mapIdx_cons,List.find?_cons];unfold Lu
  by_cases h:E k a=0
  ·simp only[h,if_true,dQ];have:((0:Int) != 0)=false:=rfl;rw[this]
   have e:(fun(i:Nat) (a:α)=>E (i+(k+1)) a)=fun i a=>E (i+1+k) a:=by
    funext i a;congr 1;omega
   rw[e]
  ·simp only[h,if_false,dQ]
   have:(E k a != 0)=true:=by simpa using h
   rw[this]
def RV {α:Type} (E:Nat->α->Int) (l:Do α):Ě (fun i a=>Lu (E i a)) 0 l=(l.mapIdx E).find? (fun e=>e != 0):=Ll E 0 l
def RW {α:Type} (E:α->Int) (l:Do α):Ě (fun _ a=>Lu (E a)) 0 l=(l.map E).find? (fun e=>e != 0):=by
 rw[Ll (fun _ a=>E a) 0 l];congr 1
 exact iv (by simp) fun i d h2=>by simp
def anp {b:ö} (f:i5 b):Jd b=some (((b.2.2.1.map (Z7 b)).find? (fun e=>e != 0)).getD 0):=by
 have h:=f.gauges;have h2:=f.uses;unfold Jd Qa;refine Eq.trans (iP b.2.2.1 (fun _ u=>Lu (Z7 b u)) some (some 0) (fun i a hi ha g=>?_) (fun g=>?_)) ?_
 ·try dsimp only
  unfold tR;rw[Ì hi,Ä ha,S6,À];unfold Z7 Lu
  cases zn a.2 with
  |false=>rfl
  |true =>
   rw[Í (by rfl),Ä ha,Ä ha,BU (b:=((b.1.1,b.1.2),b.2.1,b.2.2.1,b.2.2.2.1,b.2.2.2.2.1,b.2.2.2.2.2)) (by simp only; omega),À,É hi (by omega)];have e:ń ((b.1.1,b.1.2),b.2.1,b.2.2.1,b.2.2.2.1,b.2.2.2.2.1,b.2.2.2.2.2) a.1 a.2=ń b a.1 a.2:=rfl;rw[e]
   by_cases d:ń b a.1 a.2=0
   ·rw[Í (by simp[ine,d])]; simp[d]
   ·rw[Ñ (by simp[ine,d])]; simp[d]
 ·try dsimp only
  unfold tR;rw[Ó]
 ·rw[RW]
  cases List.find? (fun e=>e != 0) (b.2.2.1.map (Z7 b))<;>rfl
def UN (b:ö) (i:Nat) (l:JK):Int :=
 if !j7 l.2.1 0 20000 then 1 else if !inP l.2.2 0 1048576 then 1 else if ń b l.1 l.2.1.1 != 0 then ń b l.1 l.2.1.1 else
 if (b.2.2.2.1.take i).any (fun x=>x.1==l.1&&(decide (x.2.1.1<=l.2.1.2)&&decide (l.2.1.1<=x.2.1.2))) then 9 else
 if b.2.2.1.any (fun u=>u.1==l.1&&inP u.2 l.2.1.1 l.2.1.2) then 9 else 0
def ajr {b:ö} (hi:b.2.1.Pairwise fun a b=>a.1<b.1) (i:Nat) (l:JK):UN b i l=NA b (ŕ b) i l:=by
 unfold UN NA;rw[xj hi]
def alj {b:ö} (y:i5 b):Cu b=some (((b.2.2.2.1.mapIdx (UN b)).find? (fun e=>e != 0)).getD 0):=by
 have D:=y.gauges;have h2:=y.uses;have C:=y.loans;unfold Cu KB;refine Eq.trans (iP b.2.2.2.1 (fun i l=>Lu (UN b i l)) some (some 0) (fun i l hi z k=>?_) (fun k=>?_)) ?_
 ·try dsimp only
  unfold qj;rw[Ì hi,Ä z,yO,À];unfold UN Lu
  cases j7 l.2.1 0 20000 with
  |false=>rfl
  |true =>
  rw[Í (by rfl),xc,À]
  cases inP l.2.2 0 1048576 with
  |false=>rfl
  |true =>
  rw[Í (by rfl),BU (b:=((b.1.1,b.1.2),b.2.1,b.2.2.1,b.2.2.2.1,b.2.2.2.2.1,b.2.2.2.2.2)) (by simp only; omega),À];have e:ń ((b.1.1,b.1.2),b.2.1,b.2.2.1,b.2.2.2.1,b.2.2.2.2.1,b.2.2.2.2.2) l.1 l.2.1.1=ń b l.1 l.2.1.1:=rfl;rw[e]
  by_cases q:ń b l.1 l.2.1.1=0
  ·rw[Í (by simp[ine,q])]
   have p:(b.2.2.2.1.take i).length=i:=by rw[dt]; omega
   have f:Ë (fun(s:Int) n=>mK b.2.2.1 l.1 l.2.1.1 l.2.1.2 s (fun t=>n t) (fun r=>(some r:CK Int)) (fun _=>ck ((i:Int)+(1:Int)) fun v=>k v)) (0:Int)=if b.2.2.1.any (fun u=>u.1==l.1&&inP u.2 l.2.1.1 l.2.1.2) then some 9 else k ((i:Int)+1):=by
    refine Ē b.2.2.1 _ (fun _=>some 9) (some 9) (k ((i:Int)+1)) (fun _=>rfl) (fun j a h ha d=>?_) (fun d=>?_)
    ·try dsimp only
     unfold mK;rw[Ì h,Ä ha,Ä ha,xc,À,É h (by omega)]
     cases o:(a.1==l.1) with
     |false=>have:ieq a.1 l.1=false:=o; simp[this]
     |true =>
      have:ieq a.1 l.1=true:=o;rw[this]
      cases inP a.2 l.2.1.1 l.2.1.2<;>simp
    ·try dsimp only
     unfold mK;rw[Ó];dsimp only;rw[É hi (by omega)]
   try dsimp only
   rw[f];refine ee (Ē (b.2.2.2.1.take i) (fun x=>x.1==l.1&&(decide (x.2.1.1<=l.2.1.2)&&decide (l.2.1.1<=x.2.1.2))) (fun _=>some 9) (some 9) (if b.2.2.1.any (fun u=>u.1==l.1&&inP u.2 l.2.1.1 l.2.1.2) then some 9 else k ((i:Int)+1)) (fun _=>rfl) (fun j a h ha d=>?_) (fun d=>?_)) ?_
   ·try dsimp only
    unfold qi;rw[p] at h
    have g:b.2.2.2.1[j]?=some a:=by rwa [List.getElem?_take_of_lt h] at ha
    rw[Ñ (show ilt (j:Int) (i:Int)=true by simp[ilt]; omega),Ä g,Ä g,Ä g,É h (by omega)]
    cases o:(a.1==l.1) with
    |false=>have:ieq a.1 l.1=false:=o; simp[this]
    |true =>
     have:ieq a.1 l.1=true:=o;rw[this]
     cases B:decide (a.2.1.1<=l.2.1.2)<;>cases A:decide (l.2.1.1<=a.2.1.2)<;>simp[ile,B,A,ó]<;>simp_all
   ·try dsimp only
    unfold qi;rw[p,Í (show ilt (i:Int) (i:Int)=false by simp[ilt])]
   ·simp only[q]
    cases List.any (b.2.2.2.1.take i) _<;>cases b.2.2.1.any _<;>rfl
  ·rw[Ñ (by simp[ine,q])]; simp[q]
 ·try dsimp only
  unfold qj;rw[Ó]
 ·rw[RV (UN b)]
  cases(b.2.2.2.1.mapIdx (UN b)).find? (fun e=>e != 0)<;>rfl
def Dn (b:ö) (c:Cmp):Int :=
 if (c.2.2.1++c.2.2.2.1).any (fun id=>ń b id c.2.1==5) then 5 else
 if (c.2.2.1++c.2.2.2.1).any (fun id=>ń b id c.2.1 != 0) then 4 else
 if (c.2.2.1++c.2.2.2.1).any (fun id=>(Œ b id c.2.1).isSome) then 9 else
 if 1<(Þ c.2.2.1 c.2.2.2.1).length then 1 else if 1<(Þ c.2.2.2.1 c.2.2.1).length then 1 else
 if (Þ c.2.2.1 c.2.2.2.1).length+(Þ c.2.2.2.1 c.2.2.1).length=0 then 1 else 0
def al6 {b:ö} (hi:b.2.1.Pairwise fun a b=>a.1<b.1) (c:Cmp):Dn b c=vA b (ŕ b) c:=by
 unfold Dn vA;simp only[xj hi]
 by_cases d:(c.2.2.1++c.2.2.2.1).any (fun id=>mw (ŕ b) id c.2.1==5)=true
 ·rw[if_pos d,if_pos d]
 ·rw[if_neg d,if_neg d]
  have e:(c.2.2.1++c.2.2.2.1).any (fun id=>mw (ŕ b) id c.2.1 != 0)=(c.2.2.1++c.2.2.2.1).any (fun id=>mw (ŕ b) id c.2.1==4):=by
   rw[eP,dD,dD];constructor
   ·rintro⟨x,g,h⟩;refine⟨x,g,?_⟩;rcases E7 (ŕ b) x c.2.1 with f|f|f
    ·rw[f] at h; cases h
    ·rw[f]; rfl
    ·exact absurd (dD.2 ⟨x,g,by rw[f]; rfl⟩) d
   ·rintro⟨x,g,h⟩;refine⟨x,g,?_⟩;rw[eq_of_beq h]; rfl
  rw[e]
def adb {b:ö} {id d:Int}:(ń b id d==5)=(b.2.1.findIdx? (fun g=>g.1==id)).isNone:=by
 unfold ń;rcases qQ (b:=b) (id:=id) with⟨j,g,a,h2,e⟩|⟨a,h2⟩
 ·rw[a,e]
  try dsimp only
  split<;>rfl
 ·rw[a,h2]; rfl
set_option maxHeartbeats 1000000 in
def acT {b:ö} (A:i5 b) {c:Cmp} (H:c.2.2.1.length<=1000) (G:c.2.2.2.1.length<=1000):ky b c=some (Dn b c):=by
 have J:=A.gauges;have I:=A.loans;unfold ky xJ Dn;rw[Ò (by omega),Am.iff_true,List.nil_append,Ò (by omega),Am.iff_true]
 have C:(c.2.2.1++c.2.2.2.1).length<=2000:=by rw[di]; omega
 generalize F:c.2.2.1++c.2.2.2.1=P at C
 have r:∀{i:Nat},i<P.length->((ile (0:Int) (i:Int))&&(ilt (i:Int) (ï P)))=true:=fun {i} hi=>by simp[ile,ilt,ï]; omega
 have p:Ë (fun(n:Int) h=>Ι b.1.1 b.1.2 b.2.1 b.2.2.1 b.2.2.2.1 b.2.2.2.2.1 b.2.2.2.2.2 c.2.1 P n (fun o=>h o) (fun l=>some l) (fun _=>Å (la c.2.2.1 c.2.2.2.1) fun f=>Å (la c.2.2.2.1 c.2.2.1) fun d=>ifb (igt (Õ f) (1:Int)) (some (1:Int)) (ifb (igt (Õ d) (1:Int)) (some (1:Int)) (ck ((Õ f)+(Õ d)) fun q=>ifb (ieq q (0:Int)) (some (1:Int)) (some (0:Int)))))) (0:Int) =
  some (if P.any (fun id=>(Œ b id c.2.1).isSome) then 9 else if 1<(Þ c.2.2.1 c.2.2.2.1).length then 1 else if 1<(Þ c.2.2.2.1 c.2.2.1).length then 1 else if (Þ c.2.2.1 c.2.2.2.1).length+(Þ c.2.2.2.1 c.2.2.1).length=0 then 1 else 0):=by
  refine ee (Ē P (fun id=>(Œ b id c.2.1).isSome) (fun _=>some 9) (some 9) (some (if 1<(Þ c.2.2.1 c.2.2.2.1).length then 1 else if 1<(Þ c.2.2.2.1 c.2.2.1).length then 1 else if (Þ c.2.2.1 c.2.2.2.1).length+(Þ c.2.2.2.1 c.2.2.1).length=0 then 1 else 0)) (fun _=>rfl) (fun i a hi ha s=>?_) (fun s=>?_)) ?_
  ·try dsimp only
   unfold Ι;rw[Ì hi,ä (r hi),ā ha,Om (b:=((b.1.1,b.1.2),b.2.1,b.2.2.1,b.2.2.2.1,b.2.2.2.2.1,b.2.2.2.2.2)) (by simp only; omega),À,É hi (by omega)];have e:Œ ((b.1.1,b.1.2),b.2.1,b.2.2.1,b.2.2.2.1,b.2.2.2.2.1,b.2.2.2.2.2) a c.2.1=Œ b a c.2.1:=rfl;rw[e]
   cases Œ b a c.2.1<;>rfl
  ·try dsimp only
   unfold Ι;rw[Ó];dsimp only;have E:=rZ c.2.2.1 c.2.2.2.1;have D:=rZ c.2.2.2.1 c.2.2.1;rw[Z0 (by omega) (by omega),À,Z0 (by omega) (by omega),À];simp only[Î]
   by_cases z:1<(Þ c.2.2.1 c.2.2.2.1).length
   ·rw[Ñ (by simp[igt]; omega),if_pos z]
   ·rw[Í (by simp[igt]; omega),if_neg z]
    by_cases y:1<(Þ c.2.2.2.1 c.2.2.1).length
    ·rw[Ñ (by simp[igt]; omega),if_pos y]
    ·rw[Í (by simp[igt]; omega),if_neg y,Ï (by omega) (by omega)]
     by_cases x:(Þ c.2.2.1 c.2.2.2.1).length+(Þ c.2.2.2.1 c.2.2.1).length=0
     ·rw[Ñ (by simp[ieq]; omega),if_pos x]
     ·rw[Í (by simp[ieq]; omega),if_neg x]
  ·cases P.any _<;>rfl
 have k:Ë (fun(u:Int) t=>jl b.1.1 b.1.2 b.2.1 b.2.2.1 b.2.2.2.1 b.2.2.2.2.1 b.2.2.2.2.2 c.2.1 P u (fun v=>t v) (fun B=>some B) (fun _=>Ë (fun(n:Int) h=>Ι b.1.1 b.1.2 b.2.1 b.2.2.1 b.2.2.2.1 b.2.2.2.2.1 b.2.2.2.2.2 c.2.1 P n (fun o=>h o) (fun l=>some l) (fun _=>Å (la c.2.2.1 c.2.2.2.1) fun f=>Å (la c.2.2.2.1 c.2.2.1) fun d=>ifb (igt (Õ f) (1:Int)) (some (1:Int)) (ifb (igt (Õ d) (1:Int)) (some (1:Int)) (ck ((Õ f)+(Õ d)) fun q=>ifb (ieq q (0:Int)) (some (1:Int)) (some (0:Int)))))) (0:Int))) (0:Int) =
  some (if P.any (fun id=>ń b id c.2.1 != 0) then 4 else if P.any (fun id=>(Œ b id c.2.1).isSome) then 9 else if 1<(Þ c.2.2.1 c.2.2.2.1).length then 1 else if 1<(Þ c.2.2.2.1 c.2.2.1).length then 1 else if (Þ c.2.2.1 c.2.2.2.1).length+(Þ c.2.2.2.1 c.2.2.1).length=0 then 1 else 0):=by
  rw[p];refine ee (Ē P (fun id=>ń b id c.2.1 != 0) (fun _=>some 4) (some 4) (some (if P.any (fun id=>(Œ b id c.2.1).isSome) then 9 else if 1<(Þ c.2.2.1 c.2.2.2.1).length then 1 else if 1<(Þ c.2.2.2.1 c.2.2.1).length then 1 else if (Þ c.2.2.1 c.2.2.2.1).length+(Þ c.2.2.2.1 c.2.2.1).length=0 then 1 else 0)) (fun _=>rfl) (fun i a hi ha s=>?_) (fun s=>?_)) ?_
  ·try dsimp only
   unfold jl;rw[Ì hi,ä (r hi),ā ha,BU (b:=((b.1.1,b.1.2),b.2.1,b.2.2.1,b.2.2.2.1,b.2.2.2.2.1,b.2.2.2.2.2)) (by simp only; omega),À,É hi (by omega)];have e:ń ((b.1.1,b.1.2),b.2.1,b.2.2.1,b.2.2.2.1,b.2.2.2.2.1,b.2.2.2.2.2) a c.2.1=ń b a c.2.1:=rfl;rw[e,ó]
  ·try dsimp only
   unfold jl;rw[Ó]
  ·cases P.any (fun id=>ń b id c.2.1 != 0)<;>rfl
 rw[k];refine ee (Ē P (fun id=>ń b id c.2.1==5) (fun _=>some 5) (some 5) (some (if P.any (fun id=>ń b id c.2.1 != 0) then 4 else if P.any (fun id=>(Œ b id c.2.1).isSome) then 9 else if 1<(Þ c.2.2.1 c.2.2.2.1).length then 1 else if 1<(Þ c.2.2.2.1 c.2.2.1).length then 1 else if (Þ c.2.2.1 c.2.2.2.1).length+(Þ c.2.2.2.1 c.2.2.1).length=0 then 1 else 0)) (fun _=>rfl) (fun i a hi ha s=>?_) (fun s=>?_)) ?_
 ·try dsimp only
  unfold lF;rw[Ì hi,ä (r hi),ā ha,CS (b:=((b.1.1,b.1.2),b.2.1,b.2.2.1,b.2.2.2.1,b.2.2.2.2.1,b.2.2.2.2.2)) (by simp only; omega),À,É hi (by omega),adb]
  try dsimp only
  cases List.findIdx? (fun g:æ=>g.1==a) b.2.1 with
  |none=>rfl
  |some j =>
   have:ilt (j:Int) 0=false:=by simp[ilt]
   rw[Í this]; rfl
 ·try dsimp only
  unfold lF;rw[Ó]
 ·cases P.any (fun id=>ń b id c.2.1==5)<;>rfl
structure Pre (b:ö):Prop where
 size:i5 b
 gauge:∀g∈b.2.1,se g=true
 cmp:∀c∈b.2.2.2.2.1,zn c.2.1=true/\(Þ c.2.2.1 c.2.2.2.1).length<=1/\(Þ c.2.2.2.1 c.2.2.1).length<=1
 look:∀n∈b.2.2.2.2.2,zn n.2=true
def aba {c:Cmp} (h:J3 c=true):zn c.2.1=true:=by
 have:=((Ų c).1 h).2.1;simp[zn,inP,this.1,this.2]
def Ŭ.pre {b:ö} (h:Ŭ b):Pre b :=
 ⟨h.size,h.gauge,fun c a=>⟨aba (h.nums a),(h.lefts a).1,(h.lefts a).2.1⟩,fun n d=>(by have:=(Z8 h (h.looks n d)).1; simp[zn,inP,this.1,this.2])⟩
def Xu {a b:Do Int} (h:(Þ a b).length<=1) {id:Int} (h0:id≠0):MI a b=id↔id∈a/\id∉b:=by
 rw[<-kT];unfold MI
 cases d:Þ a b with
 |nil =>
  simp only[List.head?_nil,Option.getD_none,List.not_mem_nil,iff_false];exact fun e=>h0 e.symm
 |cons x t =>
  have:t=[]:=by
   rw[d] at h;simp only[dr] at h;exact dJ.1 (by omega)
  subst this;simp only[List.head?_cons,fZ,dq];exact eq_comm
def NI (b:ö) (g:æ) (d:Int):Bool :=
 g.2.1==d||b.2.2.2.2.1.any (fun c=>c.2.1==d&&(MI c.2.2.1 c.2.2.2.1==g.1||MI c.2.2.2.1 c.2.2.1==g.1))||b.2.2.2.2.2.any (fun n=>n.1==g.1&&n.2==d)
def ant {b:ö} (p:i5 b) (g:æ) (d:Int):Je b g d=some (NI b g d):=by
 have f:=p.compares;have h2:=p.looks;unfold Je Qg NI
 cases q:(g.2.1==d) with
 |true =>
  have:ieq g.2.1 d=true:=q;rw[Ñ this];simp
 |false =>
  have:ieq g.2.1 d=false:=q;rw[Í this]
  have e:Ë (fun(k:Int) h=>oV d b.2.2.2.2.2 g.1 k (fun l=>h l) (fun j=>some j) (fun _=>some false)) (0:Int)=some (b.2.2.2.2.2.any (fun n=>n.1==g.1&&n.2==d)):=by
   refine ee (Ē b.2.2.2.2.2 (fun n=>n.1==g.1&&n.2==d) (fun _=>some true) (some true) (some false) (fun _=>rfl) (fun i a hi ha o=>?_) (fun o=>?_)) ?_
   ·try dsimp only
    unfold oV;rw[Ì hi,Ä ha,Ä ha,É hi (by omega)]
    cases f:(a.1==g.1) with
    |false=>have:ieq a.1 g.1=false:=f; simp[this]
    |true =>
     have:ieq a.1 g.1=true:=f;rw[this]
     cases h2:(a.2==d) with
     |false=>have:ieq a.2 d=false:=h2; simp[this]
     |true=>have:ieq a.2 d=true:=h2; simp[this]
   ·try dsimp only
    unfold oV;rw[Ó]
   ·cases b.2.2.2.2.2.any _<;>rfl
  rw[e];refine ee (Ē b.2.2.2.2.1 (fun c=>c.2.1==d&&(MI c.2.2.1 c.2.2.2.1==g.1||MI c.2.2.2.1 c.2.2.1==g.1)) (fun _=>some true) (some true) (some (b.2.2.2.2.2.any (fun n=>n.1==g.1&&n.2==d))) (fun _=>rfl) (fun i a hi ha o=>?_) (fun o=>?_)) ?_
  ·have s:=p.piles a (dk ha)
   try dsimp only
   unfold tV;rw[Ì hi,Ä ha,LJ (by omega) (by omega),LJ (by omega) (by omega),É hi (by omega)];simp only[À]
   cases f:(a.2.1==d) with
   |false=>have:ieq a.2.1 d=false:=f; simp[this]
   |true =>
    have:ieq a.2.1 d=true:=f;rw[this]
    cases h2:(MI a.2.2.1 a.2.2.2.1==g.1) with
    |true=>have:ieq (MI a.2.2.1 a.2.2.2.1) g.1=true:=h2; simp[this]
    |false =>
     have:ieq (MI a.2.2.1 a.2.2.2.1) g.1=false:=h2;rw[this]
     cases r:(MI a.2.2.2.1 a.2.2.1==g.1) with
     |true=>have:ieq (MI a.2.2.2.1 a.2.2.1) g.1=true:=r; simp[this]
     |false=>have:ieq (MI a.2.2.2.1 a.2.2.1) g.1=false:=r; simp[this]
  ·try dsimp only
   unfold tV;rw[Ó]
  ·cases b.2.2.2.2.1.any _<;>rfl
def ak8 {b:ö} (h:Pre b) {g:æ} (n:g∈b.2.1) {d:Int}:NI b g d=true↔d∈Ý b g:=by
 have a:g.1≠0:=by
  have:=((wJ g).1 (h.gauge g n)).2.2.2.1;omega
 rw[ż];unfold NI;simp only[Bool.or_eq_true,List.any_eq_true,Bool.and_eq_true,beq_iff_eq,or_assoc];refine or_congr eq_comm (or_congr ?_ Iff.rfl);constructor
 ·rintro⟨c,f,e,i⟩;obtain⟨_,k,j⟩:=h.cmp c f;refine⟨c,f,?_,e⟩;rw[Xu k a,Xu j a] at i;intro l;rw[eP,dZ,dZ] at l;rcases i with⟨x,y⟩|⟨x,y⟩
  ·exact y (l.1 x)
  ·exact y (l.2 x)
 ·rintro⟨c,f,i,e⟩;obtain⟨_,k,j⟩:=h.cmp c f;refine⟨c,f,e,?_⟩;rw[Xu k a,Xu j a]
  by_cases ha:g.1∈c.2.2.1
  ·by_cases hb:g.1∈c.2.2.2.1
   ·exact absurd (by rw[eP,dZ,dZ]; exact⟨fun _=>hb,fun _=>ha⟩) i
   ·exact .inl ⟨ha,hb⟩
  ·by_cases hb:g.1∈c.2.2.2.1
   ·exact .inr ⟨hb,ha⟩
   ·exact absurd (by rw[eP,dZ,dZ]; exact⟨fun x=>absurd x ha,fun x=>absurd x hb⟩) i
def nx (v:Int) (D:Do Int):Int:=D.foldl (fun m d=>if v<d then min m d else m) 20001
def ai4 (v:Int) (D:Do Int) (d:Int):nx v (D++[d])=if v<d then min (nx v D) d else nx v D:=by
 unfold nx;rw[List.foldl_append];rfl
def Xv (v:Int):∀D:Do Int,nx v D<=20001/\(∀d∈D,v<d->nx v D<=d)/\(nx v D=20001\/(nx v D∈D/\v<nx v D)):=by
 suffices H:∀(n:Nat) (D:Do Int),D.length=n->nx v D<=20001/\(∀d∈D,v<d->nx v D<=d)/\(nx v D=20001\/(nx v D∈D/\v<nx v D)) from fun D=>H _ D rfl
 intro n
 induction n with
 |zero =>
  intro D k;rw[dJ.1 k];exact⟨dY _,by simp,.inl rfl⟩
 |succ n j =>
  intro i f
  obtain⟨D,d,rfl⟩:∃D d,i=D++[d]:=by
   rcases List.eq_nil_or_concat i with rfl|⟨L,b,rfl⟩
   ·simp at f
   ·exact⟨L,b,by simp⟩
  obtain⟨l,h2,a⟩:=j D (by simpa using f);rw[ai4]
  by_cases hd:v<d
  ·rw[if_pos hd];refine⟨by omega,fun x e g=>?_,?_⟩
   ·rcases dl.1 e with e|e
    ·have:=h2 x e g; omega
    ·rw[dq] at e; omega
   ·rcases Int.le_total (nx v D) d with h|h
    ·rw[Int.min_eq_left h];rcases a with a|a
     ·exact .inl a
     ·exact .inr ⟨by simp[a.1],a.2⟩
    ·rw[Int.min_eq_right h];exact .inr ⟨by simp,hd⟩
  ·rw[if_neg hd];refine⟨l,fun x e g=>?_,?_⟩
   ·rcases dl.1 e with e|e
    ·exact h2 x e g
    ·rw[dq] at e; omega
   ·rcases a with a|a
    ·exact .inl a
    ·exact .inr ⟨by simp[a.1],a.2⟩
def aoB {D:Do Int} (o:D.length<=1000000) (v:Int) (K:Int->CK (Do (Int×Int))) :
 Ë (fun(d:Int×Int) e=>mL v D d.1 d.2 (fun g f=>e (g,f)) K) ((20001:Int),(0:Int))=K (nx v D):=by
 refine õ (fun x:Int×Int=>∃k:Nat,k<=D.length/\x=(nx v (D.take k),(k:Int))) (fun x=>D.length-x.2.toNat) ?_ ⟨0,by omega,rfl⟩;rintro x ⟨k,n,rfl⟩;rcases dw k D.length with a|l
 ·refine .inr ⟨(nx v (D.take (k+1)),((k+1:Nat):Int)),⟨k+1,a,rfl⟩,by simp only[Int.toNat_natCast]; omega,fun i=>?_⟩;have ha:D[k]?=some D[k]:=List.getElem?_eq_getElem a;unfold mL;have j:ï D=((D.length:Nat):Int):=rfl;rw[Ì a,j,ř a,ā ha,take_succ ha,ai4]
  by_cases h:v<D[k]
  ·rw[Ñ (by simpa[igt] using h),ř a,ā ha,É a (by omega),if_pos h,Zi];simp
  ·rw[Í (by simpa[igt] using h),É a (by omega),if_neg h];simp
 ·have:k=D.length:=by omega
  subst this;refine .inl fun i=>?_;unfold mL;rw[Ó,List.take_length]
def ahR (b:ö) (g:æ) (D:Do Int) (v:Int):Do Int:=(aap D).filter fun d=>decide (v<d)&&NI b g d
def SP {b:ö} {g:æ} {D:Do Int} (n:∀d∈D,d<=20000) (v:Int):ahR b g D v=if nx v D<20001 then(if NI b g (nx v D) then nx v D::ahR b g D (nx v D) else ahR b g D (nx v D)) else[]:=by
 obtain⟨o,h2,f⟩:=Xv v D;refine ZS ((EO D).sublist gR) ?_ fun x=>?_
 ·split
  ·split
   ·rw[dO];refine⟨fun a ha=>?_,(EO D).sublist gR⟩;have:=(d8.1 ha).2;simp at this;omega
   ·exact(EO D).sublist gR
  ·exact List.Pairwise.nil
 ·have i:∀v x,x∈ahR b g D v↔x∈D/\v<x/\NI b g x=true:=by
   intro v x;unfold ahR;rw[List.mem_filter,xm];simp
  rw[i]
  split
  ·rename_i k
   have j:nx v D∈D/\v<nx v D:=by
    rcases f with f|f
    ·omega
    ·exact f
   split
   ·rename_i ha;rw[dm,i];constructor
    ·rintro⟨a,c,e⟩;have:=h2 x a c;rcases Int.lt_or_eq_of_le this with h|h
     ·exact .inr ⟨a,h,e⟩
     ·exact .inl h.symm
    ·rintro(rfl|⟨a,c,e⟩)
     ·exact⟨j.1,j.2,ha⟩
     ·exact⟨a,by omega,e⟩
   ·rename_i ha;rw[i];constructor
    ·rintro⟨a,c,e⟩;have:=h2 x a c;rcases Int.lt_or_eq_of_le this with h|h
     ·exact⟨a,h,e⟩
     ·rw[<-h] at e; exact absurd e ha
    ·rintro⟨a,c,e⟩;exact⟨a,by omega,e⟩
  ·rename_i l;constructor
   ·rintro⟨a,c,e⟩;have:=h2 x a c;have:=n x a;omega
   ·intro h; cases h
def anj {b:ö} {g:æ} {D:Do Int} (v:Int):(ahR b g D v).length<=D.length :=
 dE (eI _ _) (Gw D)
set_option maxHeartbeats 1000000 in
def amM {b:ö} (f:i5 b) {i:Nat} {g:æ} (s:b.2.1[i]?=some g) {D:Do Int} (A:D.length<=1000000) (l:∀d∈D,d<=20000) {out:Do (Int×Int)} (E:out.length+D.length<=1000000000) (K:Do (Int×Int)->CK (Do (Int×Int))) :
 Ë (fun(j:Int×Do (Int×Int)) k=>mM (i:Int) b.1.1 b.1.2 b.2.1 b.2.2.1 b.2.2.2.1 b.2.2.2.2.1 b.2.2.2.2.2 D j.1 j.2 (fun q p=>k (q,p)) K) ((-1:Int),out)=K (out++(ahR b g D (-1)).map fun d=>((g.1,d):Int×Int)):=by
 refine õ (fun x:Int×Do (Int×Int)=>x.2++(ahR b g D x.1).map (fun d=>((g.1,d):Int×Int))=out++(ahR b g D (-1)).map fun d=>((g.1,d):Int×Int)) (fun x=>(20001-x.1).toNat) ?_ rfl;rintro⟨v,o⟩ h;simp only at h
 by_cases r:v<20001
 ·obtain⟨F,h2,n⟩:=Xv v D
  have z:v<nx v D:=by
   rcases n with n|n
   ·omega
   ·exact n.2
  refine .inr ⟨(nx v D,if nx v D<20001/\NI b g (nx v D)=true then o++[(g.1,nx v D)] else o),?_,by simp only; omega,fun t=>?_⟩
  ·rw[<-h];simp only;rw[SP l v]
   by_cases ha:nx v D<20001
   ·rw[if_pos ha]
    cases u:NI b g (nx v D) with
    |true=>rw[if_pos ⟨ha,rfl⟩,if_pos rfl]; simp
    |false=>rw[if_neg (by simp),if_neg (by simp)]
   ·rw[if_neg (by omega),if_neg ha]
    have:ahR b g D (nx v D)=[]:=by
     have e:=SP (b:=b) (g:=g) l (nx v D);rw[e,if_neg];obtain⟨C,B,a⟩:=Xv (nx v D) D;rcases a with a|a
     ·omega
     ·have:=l _ a.1; omega
    rw[this]
  ·unfold mM;rw[Ñ (by simpa[ilt] using r)];refine Eq.trans (aoB A v _) ?_;dsimp only
   by_cases ha:nx v D<20001
   ·rw[Ñ (by simpa[ilt] using ha),Ä s,ant (b:=((b.1.1,b.1.2),b.2.1,b.2.2.1,b.2.2.2.1,b.2.2.2.2.1,b.2.2.2.2.2)) ⟨f.gauges,f.uses,f.loans,f.compares,f.looks,f.piles⟩,À];have e:NI ((b.1.1,b.1.2),b.2.1,b.2.2.1,b.2.2.2.1,b.2.2.2.2.1,b.2.2.2.2.2) g (nx v D)=NI b g (nx v D):=rfl;rw[e]
    cases u:NI b g (nx v D) with
    |true =>
     have y:o.length<=1000000000:=by
      have:=congrArg List.length h;simp only[di,dL] at this;have:=anj (b:=b) (g:=g) (D:=D) (-1);omega
     rw[Ñ rfl,Ä s,Ò (by simp only[dU]; omega),Am.iff_true,if_pos ⟨ha,rfl⟩]
    |false=>rw[Í rfl,if_neg (by simp)]
   ·rw[Í (by simpa[ilt] using ha),if_neg (by omega)]
 ·refine .inl fun t=>?_;unfold mM;rw[Í (by simpa[ilt] using r)]
  have:ahR b g D v=[]:=by
   rw[SP l,if_neg];obtain⟨C,B,a⟩:=Xv v D;rcases a with a|a
   ·omega
   ·have:=l _ a.1; omega
  rw[this] at h;simp only[fF,dC] at h;rw[h]
def BS (b:ö):Do Int:=b.2.1.map (fun g=>g.2.1)++b.2.2.2.2.1.map (fun c=>c.2.1)++b.2.2.2.2.2.map fun n=>n.2
def aeA {b:ö} (a:i5 b):(BS b).length<=3000:=by
 have e:=a.gauges; have h2:=a.compares; have d:=a.looks;simp only[BS,di,dL];omega
def Pre.days {b:ö} (h:Pre b):∀d∈BS b,0<=d/\d<=20000:=by
 intro d hd;simp only[BS,dl,dF] at hd;rcases hd with(⟨g,e,rfl⟩|⟨c,f,rfl⟩)|⟨n,a,rfl⟩
 ·have:=((wJ g).1 (h.gauge g e)).2.2.2.2.1;omega
 ·have:=(h.cmp c f).1;simp only[zn,inP,dg,decide_eq_true_eq] at this;exact this
 ·have:=h.look n a;simp only[zn,inP,dg,decide_eq_true_eq] at this;exact this
def alb {b:ö} (h:Pre b) {g:æ} (f:g∈b.2.1):ahR b g (BS b) (-1)=Ý b g:=by
 refine ZS ((EO _).sublist List.filter_sublist) (su b g) fun x=>?_;unfold ahR;rw[List.mem_filter,xm,Bool.and_eq_true,ak8 h f,decide_eq_true_eq];constructor
 ·exact fun a=>a.2.2
 ·intro a
  have d:x∈BS b:=by
   simp only[BS,dl,dF];rcases ż.1 a with e|⟨c,j,_,e⟩|⟨n,i,_,e⟩
   ·exact .inl (.inl ⟨g,f,e.symm⟩)
   ·exact .inl (.inr ⟨c,j,e⟩)
   ·exact .inr ⟨n,i,e⟩
  have:=h.days x d;exact⟨d,by omega,a⟩
def XD {α:Type} (f:α->Int) (l:Do α) (s:Do Int) (i:Nat) {a:α} (ha:l[i]?=some a):s++(l.take (i+1)).map f=(s++(l.take i).map f)++[f a]:=by
 rw[take_succ ha,fm,dp]; rfl
def S0 {b:ö} (h:Pre b):md b=some (Ø b):=by
 have o:=h.size.gauges; have h2:=h.size.compares; have l:=h.size.looks;have k:=aeA h.size;unfold md KJ;refine î b.2.1 (fun i=>(b.2.1.take i).map (fun g=>g.2.1)) _ rfl (fun i a hi ha e=>?_) (fun e=>?_)
 ·try dsimp only
  unfold qn;have:=XD (fun g:æ=>g.2.1) b.2.1 [] i ha;simp only[List.nil_append] at this;rw[Ì hi,Ä ha,Ò (by simp only[List.length_map,List.length_take,List.length_singleton]; omega),Am.iff_true,É hi (by omega),this]
 ·try dsimp only
  unfold qn;rw[Ó,List.take_length];dsimp only;refine î b.2.2.2.2.1 (fun i=>b.2.1.map (fun g=>g.2.1)++(b.2.2.2.2.1.take i).map (fun c=>c.2.1)) _ (by simp) (fun i a hi ha e=>?_) (fun e=>?_)
  ·try dsimp only
   unfold qm;rw[Ì hi,Ä ha,Ò (by simp only[List.length_append,List.length_map,List.length_take,List.length_singleton]; omega),Am.iff_true,É hi (by omega),XD (fun c:Cmp=>c.2.1) b.2.2.2.2.1 _ i ha]
  ·try dsimp only
   unfold qm;rw[Ó,List.take_length];dsimp only;refine î b.2.2.2.2.2 (fun i=>b.2.1.map (fun g=>g.2.1)++b.2.2.2.2.1.map (fun c=>c.2.1)++(b.2.2.2.2.2.take i).map (fun n=>n.2)) _ (by simp) (fun i a hi ha e=>?_) (fun e=>?_)
   ·try dsimp only
    unfold ql;rw[Ì hi,Ä ha,Ò (by simp only[List.length_append,List.length_map,List.length_take,List.length_singleton]; omega),Am.iff_true,É hi (by omega),XD (fun n:Int×Int=>n.2) b.2.2.2.2.2 _ i ha]
   ·try dsimp only
    unfold ql;rw[Ó,List.take_length];dsimp only;rw[show b.2.1.map (fun g=>g.2.1)++b.2.2.2.2.1.map (fun c=>c.2.1)++b.2.2.2.2.2.map (fun n=>n.2)=BS b from rfl];refine î b.2.1 (fun i=>(b.2.1.take i).flatMap fun g=>(Ý b g).map fun d=>((g.1,d):Int×Int)) _ rfl (fun i g hi f e=>?_) (fun e=>?_)
    ·try dsimp only
     unfold qk;rw[Ì hi]
     have j:((b.2.1.take i).flatMap fun g=>(Ý b g).map fun d=>((g.1,d):Int×Int)).length<=2001000:=by
      have:=yx (fun g:æ=>(Ý b g).map fun d=>((g.1,d):Int×Int)) 2001 (fun g=>by rw[dL]; exact Jp h.size g) (b.2.1.take i);rw[dt] at this;have:min i b.2.1.length*2001<=1000*2001:=dG _ (by omega);omega
     refine ee (amM h.size f (by omega) (fun d hd=>(h.days d hd).2) (by omega) _) ?_;rw[É hi (by omega),alb h (dk f),take_succ f,eV];simp
    ·try dsimp only
     unfold qk;rw[Ó,List.take_length];rfl
def akj {k:Int×Int} (d:0<k.2) (m n:Int):0<anX (GS k m) (GS k n)↔k.1*n<k.1*m:=by
 obtain⟨g,q,_,p,o⟩:=B0 (n:=k.1*m) d;obtain⟨h,h0,_,l,h2⟩:=B0 (n:=k.1*n) d
 have key:(GS k n).1*(GS k m).2<(GS k m).1*(GS k n).2↔k.1*n<k.1*m:=by
  have i:(GS k n).1*(GS k m).2*((g:Int)*h)=k.1*n*k.2:=by
   show(pp (k.1*n) k.2).1*(pp (k.1*m) k.2).2*((g:Int)*h)=k.1*n*k.2
   calc _=((pp (k.1*n) k.2).1*h)*((pp (k.1*m) k.2).2*g):=by ac_rfl
    _=_:=by rw[<-l,<-o]
  have f:(GS k m).1*(GS k n).2*((g:Int)*h)=k.1*m*k.2:=by
   show(pp (k.1*m) k.2).1*(pp (k.1*n) k.2).2*((g:Int)*h)=k.1*m*k.2
   calc _=((pp (k.1*m) k.2).1*g)*((pp (k.1*n) k.2).2*h):=by ac_rfl
    _=_:=by rw[<-p,<-h2]
  have j:0<(g:Int)*h:=Int.mul_pos (by omega) (by omega);constructor
  ·intro a;have:=Int.mul_lt_mul_of_pos_right a j;rw[i,f] at this;exact Int.lt_of_mul_lt_mul_right this (by omega)
  ·intro a;have:=Int.mul_lt_mul_of_pos_right a d;rw[<-i,<-f] at this;exact Int.lt_of_mul_lt_mul_right this (by omega)
 rw[<-key];unfold anX
 by_cases e:GS k m=GS k n
 ·rw[if_pos e,e];omega
 ·rw[if_neg e]
  split
  ·omega
  ·split<;>omega
def agN {k:Int×Int} (d:0<k.2) {heat:Int×Int} (e:heat.1<=heat.2):Xr k heat=if k.1<0 then(GS k heat.2,GS k heat.1) else(GS k heat.1,GS k heat.2):=by
 unfold Xr
 by_cases a:k.1<0
 ·rw[if_pos a]
  by_cases f:heat.1=heat.2
  ·rw[f]
   split<;>rfl
  ·rw[if_pos ((akj d _ _).2 (Int.mul_lt_mul_of_neg_left (by omega) a))]
 ·rw[if_neg a,if_neg (fun h=>by
   have g:=(akj d _ _).1 h;have h2:=Int.mul_le_mul_of_nonneg_left e (show 0<=k.1 by omega)
   omega)]
def WT {n d:Int} (hd:0<d) (k:n.natAbs<=2147483647) (f:d<=2147483647):sl n d=some (pp n d,0):=by
 obtain⟨g,h0,o,p,h2⟩:=B0 (n:=n) hd;have s:=(ln _).1 (Xa hd k f)
 have z:iW d 0=false:=by simp[iW]; omega
 have h:iW (g:Int) 0=false:=by simp[iW]; omega
 unfold sl FO
 by_cases a:n=0
 ·subst a
  have e:pp 0 d=(0,1):=by
   unfold pp
   have:(Nat.gcd (0:Int).natAbs d.natAbs:Int)=d:=by simp; omega
   rw[this,Int.ediv_self (by omega)];simp
  rw[Í (by rfl),Í z,Ï (by simp) (by simp),Í z,Int.tdiv_self (by omega),Ï (by omega) (by omega),Int.zero_tdiv,e];rfl
 ·rw[Ñ (by simpa[ine] using a),Í z];have a0:(Int.tmod n d).natAbs=n.natAbs % d.natAbs:=iy n d;have l:=ii n.natAbs (show 0<d.natAbs by omega);rw[alv ⟨by omega,by omega⟩,À]
  have r:d=((d.natAbs:Nat):Int):=by omega
  have q:CB ((Int.tmod n d).natAbs:Int) d=some (g:Int):=by
   have:=alr (Int.tmod n d).natAbs d.natAbs;rw[<-r] at this;rw[this,a0,o];congr 2;rw[iw n.natAbs,Nat.gcd_rec d.natAbs n.natAbs]
  rw[q,À,Í h]
  have j:Int.tdiv n (g:Int)=(pp n d).1:=by
   conv=>lhs; rw[p]
   exact gT _ (by omega)
  have i:Int.tdiv d (g:Int)=(pp n d).2:=by
   conv=>lhs; rw[h2]
   exact gT _ (by omega)
  rw[j,i,Ï (by omega) (by omega),Í h,Ï (by omega) (by omega),Í (by simp[igt]; omega),Í (by simp[ilt]; omega),Í (by simp[igt]; omega)]
def ape {x y:Int×Int} (d:sP x 1000 100) (a:sP y 1000 100):Ob x y=some (subP x y,0):=by
 obtain⟨j,g,b3⟩:=JN d a;have i:=oe d.num (show -100<=y.2/\y.2<=100 from⟨by have:=a.pos; omega,a.den⟩);have h2:=oe a.num (show -100<=x.2/\x.2<=100 from⟨by have:=d.pos; omega,d.den⟩);have h:=a.num;unfold Ob Yr Zu Ys Zv Yx;rw[Ï (by omega) (by omega),À];dsimp only
 have e:(0-y.1)*x.2 = -(y.1*x.2):=by rw[Int.zero_sub,Int.neg_mul]
 rw[Ï (by omega) (by omega),e,Ï (by omega) (by omega),Ï (by omega) (by omega),Ï (by omega) (by omega)]
 have f:x.1*y.2 + -(y.1*x.2)=x.1*y.2-y.1*x.2:=by omega
 rw[f,WT g (by omega) (by omega),À,À];rfl
def alq {k:Int×Int} (a:sP k 200000 10000) {n:Int} (d : -10000<=n/\n<=10000):yB (n,1) k=some (GS k n,0):=by
 have b:=J6 a d;have p:=a.pos;have q:=a.den;unfold yB Yt;have e:n*k.1=k.1*n:=Int.mul_comm _ _;dsimp only;rw[e,Int.one_mul,Ï (by omega) (by omega),Ï (by omega) (by omega),WT (by omega) (by omega) (by omega),À];rfl
def alp {k:Int×Int} (d:sP k 200000 10000) {heat:Int×Int} (e:j7 heat (-10000) 10000=true):CA ((heat.1,1),(heat.2,1)) k=some (Xr k heat,0):=by
 simp only[j7,Bool.and_eq_true,decide_eq_true_eq] at e;have f:=d.pos;rw[agN (by omega) e.2.1];unfold CA KP Jg QN;dsimp only;rw[alq d ⟨by omega,by omega⟩,alq d ⟨by omega,by omega⟩]
 by_cases a:k.1<0
 ·rw[Ñ (by simpa[ilt] using a),if_pos a];rfl
 ·rw[Í (by simpa[ilt] using a),if_neg a];rfl
def alm {r:Int×Int} (h:LU r=true):CC r=some (r.1 / r.2):=by
 have:=(ln r).1 h;have e:=Zq (n:=r.1) (d:=r.2) (by omega) (by omega);unfold wR Ib at e;unfold CC KR Sd QL;rw[e];rfl
def ans {r:Int×Int} (h:LU r=true):Jh r=some (UV r):=by
 have d:=(ln r).1 h;unfold Jh QP aea adK
 have z:iW r.2 0=false:=by simp[iW]; omega
 have t:=Int.mul_tdiv_add_tmod r.1 r.2
 have i : -4000000000<=Int.tdiv r.1 r.2/\Int.tdiv r.1 r.2<=4000000000:=by
  have:=Int.natAbs_tdiv_le_natAbs r.1 r.2;omega
 have g : -r.2<Int.tmod r.1 r.2/\Int.tmod r.1 r.2<r.2:=by
  have f:=iy r.1 r.2;have e:=ii r.1.natAbs (show 0<r.2.natAbs by omega);omega
 rw[Í z,Ï (by omega) (by omega),Í z,ó];unfold UV
 by_cases a:0<Int.tmod r.1 r.2
 ·rw[if_pos (by simpa[igt] using a),Ï (by omega) (by omega),À];congr 1
  have : -r.1 / r.2 = -(Int.tdiv r.1 r.2)-1:=by
   refine(gD (by omega)).2 ⟨?_,?_⟩
   ·rw[Int.sub_mul,Int.neg_mul,f7 (Int.tdiv r.1 r.2)]; omega
   ·rw[Int.sub_mul,Int.neg_mul,f7 (Int.tdiv r.1 r.2)]; omega
  omega
 ·rw[if_neg (by simpa[igt] using a),À];congr 1
  have : -r.1 / r.2 = -(Int.tdiv r.1 r.2):=by
   refine(gD (by omega)).2 ⟨?_,?_⟩
   ·rw[Int.neg_mul,f7 (Int.tdiv r.1 r.2)]; omega
   ·rw[Int.neg_mul,f7 (Int.tdiv r.1 r.2)]; omega
  omega
def apq (b:ö) (g d:Int):Bool×Int:=if SO b g [d]≠0 then(false,SO b g [d]) else((Œ b g d).isSome,0)
def apo {b:ö} (h:In b) (g d:Int):CG b g d=some (apq b g d):=by
 have a:=h.size.loans;unfold CG Y7 apq;rw[ak9 h g (by simp),À]
 by_cases ha:SO b g [d]=0
 ·rw[Í (by simp[ine,ha]),ak6 (by omega),À,if_neg (by simpa using ha)]
  cases Œ b g d<;>rfl
 ·rw[Ñ (by simp[ine,ha]),if_pos ha]
section
variable {ρ:Type}
def wC {α σ:Type} (l:Do α) (g:Nat->σ) (r:CK ρ) {f:σ×Int->(σ×Int->CK ρ)->CK ρ} {k:σ} (P:Nat->Prop) (h0:g 0=k) (t:P 0)
 (h:∀(i:Nat) (a:α),i<l.length->l[i]?=some a->P i->∀d,f (g i,i) d=r\/(P (i+1)/\f (g i,i) d=d (g (i+1),(i:Int)+1)))
 (p:P l.length->∀d,f (g l.length,l.length) d=r):Ë f (k,0)=r:=by
 subst h0;refine wD (F:=fun _=>r) (fun x=>∃i:Nat,i<=l.length/\x=(g i,(i:Int))/\P i) (fun x=>l.length-x.2.toNat) (fun x o d q=>?_) ⟨0,d9 _,rfl,t⟩;obtain⟨i,hi,rfl,n⟩:=o;rcases dw i l.length with e|s
 ·rcases h i _ e (df e) n d with j|⟨j,h2⟩
  ·exact j
  ·rw[h2,q _ ⟨i+1,e,by simp,j⟩ (by simp; omega)]
 ·have:i=l.length:=by omega
  subst this;exact p n d
def Y8 {l:Do Int} {f:Int->(Int->CK ρ)->CK ρ} {K k1:CK ρ} (h:∀(i:Nat) (a b:Int),l[i]?=some a->l[i+1]?=some b->∀d,f ((i:Int)+1) d=if b<=a then K else d ((i:Int)+1+1))
 (t:∀n:Nat,l.length<=n->∀d,f n d=k1):Ë f 1=if l.Pairwise (·<·) then k1 else K:=by
 have hb:=JB (fun x:Int=>x) l;refine õ (fun x=>∃i:Nat,x=(i:Int)+1/\∀j a,j<=i->l[j]?=some a->lW (fun x=>x) l j a=false) (fun x=>l.length-x.toNat) ?_ ⟨0,rfl,fun j a k _=>?_⟩
 ·rintro x ⟨i,rfl,hi⟩;rcases dw (i+1) l.length with p|q
  ·have ha:l[i]?=some l[i]:=df (by omega);have o:l[i+1]?=some l[i+1]:=df p
   by_cases e:l[i+1]<=l[i]
   ·refine .inl fun d=>?_;rw[h i _ _ ha o,if_pos e,if_neg];intro s;have:=hb.2 s (i+1) _ o;simp[lW,ha,e] at this
   ·refine .inr ⟨(i:Int)+1+1,⟨i+1,by simp,fun j a k g=>?_⟩,by omega,fun d=>by rw[h i _ _ ha o,if_neg e]⟩;rcases dw i j with r|r
    ·have:j=i+1:=by omega
     subst this;rw[o] at g; cases g;simp[lW,ha]; omega
    ·exact hi j a r g
  ·refine .inl fun d=>?_;have:=t (i+1) q d;simp only[Int.natCast_add,Int.cast_ofNat_Int] at this;rw[this,if_pos];refine hb.1 fun j a k=>hi j a ?_ k;have:=(dj.1 k).1;omega
 ·have:j=0:=by omega
  subst this; simp[lW]
end
def mixE (b:ö) (l:Do Mx) (i:Nat) (x:Mx):Int :=
 if !(inP x.1 0 19999&&inP x.2.length 2 5) then 1 else
 if ¬x.2.Pairwise (·<·) then 1 else
 if x.2.any (fun g=>(ì b g).isNone) then 5 else
 if x.2.any (fun g=>ń b g x.1 != 0) then 4 else
 if lW (fun y=>y.1) l i x then 6 else
 if x.2.any (fun g=>(Œ b g x.1).isSome||(Œ b g (x.1+1)).isSome) then 9 else 0
def JI:Nat->Nat
 |0=>1
 |n+1=>JI n*(n+1)
def m8:Do Mx->Nat
 |[]=>1
 |x::r=>JI x.2.length*m8 r
def B4:∀{l:Do Mx} {i:Nat} {x:Mx},l[i]?=some x->m8 (l.take (i+1))=m8 (l.take i)*JI x.2.length
 |[],_,_,h=>by simp at h
 |y::l,0,x,h=>by simp at h; subst h; simp[m8]
 |y::l,i+1,x,h=>by
  simp only[fh] at h;simp only[fW,m8,B4 h,Nat.mul_assoc]
def Sb:∀{n:Nat},n<=5->JI n<=120
 |0,_|1,_|2,_|3,_|4,_|5,_=>by decide
 |n+6,h=>by omega
def Xe:∀{l:Do Mx} {n:Nat},l.length<=n->(∀x∈l,x.2.length<=5)->m8 l<=120 ^ n
 |[],n,_,_=>Nat.one_le_pow _ _ (by decide)
 |x::l,0,h,_=>by simp at h
 |x::l,n+1,h,a=>by
  have e:=Xe (l:=l) (n:=n) (by simpa using h) fun y d=>a y (dS _ d);have h2:=Sb (a x (by simp));rw[m8,Nat.pow_succ,Nat.mul_comm];exact fK e h2
def O8 (b:ö) (l:Do Mx):CK Int:=Ě (fun i x=>Lu (mixE b l i x)) 0 l
def Ī (m:Ļ):Int :=
 if ŝ m.1≠0 then ŝ m.1 else if 4<m.2.length then 2 else match O8 m.1 m.2 with
 |some e=>e
 |none=>if 150<m8 m.2 then 2 else 0
def Pe (l:Do æ):Do (Int×Int):=l.foldl (fun m g=>Ta (k:=tI) (v:=tI) g.1 g.2.1 m) []
def J7 (x y n:Int):∀m:Do (Int×Int),rc (k:=tI) (v:=tI) x (Ta (k:=tI) (v:=tI) y n m)=if x=y then some n else rc (k:=tI) (v:=tI) x m
 |[]=>by
  unfold Ta rc ks rc
  by_cases h:x=y<;>simp[h]
 |e::m=>by
  unfold Ta
  by_cases h:y=e.1
  ·have:ks tI y e.1=true:=by simp[ks,h]
   rw[this];simp only;unfold rc
   by_cases a:x=y
   ·subst a; simp[ks]
   ·have:ks tI x y=false:=by simp[ks,a]
    have h2:ks tI x e.1=false:=by simp[ks,<-h,a]
    rw[this,if_neg a];simp only[h2]
  ·have:ks tI y e.1=false:=by simp[ks,h]
   rw[this];simp only;unfold rc
   by_cases a:x=e.1
   ·subst a;rw[if_neg (fun e=>h e.symm)];simp[ks]
   ·have h2:ks tI x e.1=false:=by simp[ks,a]
    rw[h2];exact J7 x y n m
def agW (x:Int) (l:Do æ):rc (k:=tI) (v:=tI) x (Pe l)=(l.reverse.find? fun g=>g.1==x).map fun g=>g.2.1:=by
 have key:∀r:Do æ,rc (k:=tI) (v:=tI) x (Pe r.reverse)=(r.find? fun g=>g.1==x).map fun g=>g.2.1:=by
  intro r
  induction r with
  |nil=>rfl
  |cons g r a =>
   rw[List.reverse_cons,Pe,List.foldl_append];simp only[gd,List.foldl_nil];rw[J7,fP]
   by_cases h:x=g.1
   ·subst h; simp
   ·have:(g.1==x)=false:=by simp; exact fun e=>h e.symm
    rw[if_neg h,this];exact a
 have:=key l.reverse
 rwa [List.reverse_reverse] at this
def ajd {b:ö} (h:b.2.1.Pairwise fun a b=>a.1<b.1) (x:Int):rc (k:=tI) (v:=tI) x (Pe b.2.1)=(ì b x).map fun g=>g.2.1:=by
 rw[agW,Mw h]; rfl
def ab7 {ρ:Type} {b:ö} (h:b.2.1.Pairwise fun a b=>a.1<b.1) (x:Int) (f:Int->CK ρ) (g:CK ρ):N1 (k:=tI) (v:=tI) x (Pe b.2.1) f g=match ì b x with|some y=>f y.2.1|none=>g:=by
 unfold N1;rw[ajd h]
 cases ì b x<;>rfl
section
variable {ρ:Type} {b:ö}
def mix_L0 {l:Do Int} (j:l.length<=1000) (k0:Int->CK ρ) (k1:Unit->CK ρ):Ë (fun(v:Int) g=>oE l v (fun u=>g u) k0 k1) 1=if l.Pairwise (·<·) then k1 () else k0 1:=by
 refine Y8 (fun i a c ha d f=>?_) (fun n h f=>?_)
 ·have hi:=(List.getElem?_eq_some_iff.1 d).1;unfold oE
  have e:((i:Int)+1)=((i+1:Nat):Int):=by omega
  rw[e,Ì hi,Ä d,Ï (by omega) (by omega),<-e,Int.add_sub_cancel,Ä ha,ó,Ï (by omega) (by omega)];simp
 ·unfold oE;rw[Í (by simp[ilt,Î]; omega)]
def mix_L1 (f:b.2.1.length<=1000) (k0:Do (Int×Int)->CK ρ):Ë (fun(v:Int×Do (Int×Int)) e=>oD b.2.1 (Õ b.2.1) v.1 v.2 (fun u v=>e (u,v)) k0) ((0:Int),[])=k0 (Pe b.2.1):=by
 refine î b.2.1 (fun i=>Pe (b.2.1.take i)) _ rfl (fun i g hi a d=>?_) (fun d=>?_)
 ·try dsimp only
  unfold oD;rw[Ì hi,Ä a,É hi (by omega)];congr 2;rw[take_succ a,Pe,Pe,List.foldl_append];rfl
 ·try dsimp only
  unfold oD;rw[Ó,List.take_length]
def mix_L2 (hi:b.2.1.Pairwise fun a b=>a.1<b.1) {l:Do Int} (h:l.length<=1000) (X Y Z:CK ρ):Ë (fun(v:Int) f=>oC l (Õ l) (Pe b.2.1) v (fun u=>f u) (fun z=>ifb (ige z (0:Int)) X Y) (fun _=>Z)) 0=if l.any (fun g=>(ì b g).isNone) then X else Z:=by
 refine Ē l _ (fun z=>ifb (ige z (0:Int)) X Y) X Z (fun j=>Ñ (by simp[ige]) _ _) (fun i a d ha e=>?_) (fun e=>?_)
 ·unfold oC;rw[Ì d,Ä ha,ab7 hi,É d (by omega)]
  cases ì b a<;>rfl
 ·unfold oC;rw[Ó]
def mix_L3 (hi:b.2.1.Pairwise fun a b=>a.1<b.1) {l:Do Int} (p:l.length<=1000) (n:∀x∈l,∃g,ì b x=some g) (d:Int) (X Y Z:CK ρ):Ë (fun(v:Int) k=>l6 l (Õ l) d (Pe b.2.1) v (fun u=>k u) (fun z=>ifb (ige z (0:Int)) X Y) (fun _=>Z)) 0=if l.any (fun g=>ń b g d != 0) then X else Z:=by
 refine Ē l _ (fun z=>ifb (ige z (0:Int)) X Y) X Z (fun j=>Ñ (by simp[ige]) _ _) (fun i a e ha f=>?_) (fun f=>?_)
 ·unfold l6;rw[Ì e,Ä ha,ab7 hi,É e (by omega)];obtain⟨g,o⟩:=n a (List.mem_of_getElem? ha);unfold ń;rw[o];dsimp only;rw[ó]
  by_cases h:d<g.2.1<;>simp[ilt,h]
 ·unfold l6;rw[Ó]
def mix_L4 (h:Ŭ b) {l:Do Int} (s:l.length<=1000) (q:∀x∈l,∃g,ì b x=some g) {d:Int} (hd:0<=d/\d<20000) (X Y Z:CK ρ):Ë (fun(v:Int) p=>Ņ l (Õ l) b.1.1 b.1.2 b.2.1 b.2.2.1 b.2.2.2.1 b.2.2.2.2.1 b.2.2.2.2.2 d v (fun u=>p u) (fun z=>ifb (ige z (0:Int)) X Y) (fun _=>Z)) 0=if l.any (fun g=>(Œ b g d).isSome||(Œ b g (d+1)).isSome) then X else Z:=by
 refine Ē l _ (fun z=>ifb (ige z (0:Int)) X Y) X Z (fun j=>Ñ (by simp[ige]) _ _) (fun i a f ha o=>?_) (fun o=>?_)
 ·unfold Ņ;obtain⟨g,k⟩:=q a (List.mem_of_getElem? ha)
  have n:∀e,0<=e->e<=20000->CG ((b.1.1,b.1.2),b.2.1,b.2.2.1,b.2.2.2.1,b.2.2.2.2.1,b.2.2.2.2.2) a e=some ((Œ b a e).isSome,0):=fun e h0 r=>by
   rw[show(((b.1.1,b.1.2),b.2.1,b.2.2.1,b.2.2.2.1,b.2.2.2.2.1,b.2.2.2.2.2):ö)=b from rfl,apo ⟨h.size,fun g k=>by have:=(h.gaugeR k).2.1; unfold I64; omega⟩]
   have:SO b a [e]=0:=by
    unfold SO;rw[if_neg (by simp[(Μ b).2 h]),if_neg (by simp[zn,inP,h0,r]),vI h.ids,k]; rfl
   unfold apq;rw[if_neg (by simp[this])]
  rw[Ì f,Ä ha,n d hd.1 (by omega),À,Ï (by omega) (by omega),n (d+1) (by omega) (by omega),À,É f (by omega)];dsimp only
  cases(Œ b a d).isSome<;>cases(Œ b a (d+1)).isSome<;>rfl
 ·unfold Ņ;rw[Ó]
end
def amr {b:ö} (h:Ŭ b) {l:Do Mx} {i:Nat} {x:Mx} (o:l[i]?=some x) (q:i<=1000):I5 b l i=some (mixE b l i x):=by
 unfold I5 PB mixE;rw[Ä o]
 by_cases d:inP x.1 0 19999=true/\inP (x.2.length:Int) 2 5=true
 ·obtain⟨d,h2⟩:=d;rw[if_neg (by simp[d,h2])];simp only[inP,dg,decide_eq_true_eq] at d h2
  have k:x.2.length<=1000:=by omega
  rw[Í (by simp[ilt]; omega),Í (by simp[ige]; omega),Í (by simp[ilt,Î]; omega),Í (by simp[igt,Î]; omega),mix_L0 k]
  by_cases f:x.2.Pairwise (·<·)
  ·rw[if_pos f,if_neg (by simpa using f)]
   try dsimp only
   rw[mix_L1 (by have:=h.nG; omega),mix_L2 h.ids k]
   by_cases a:(x.2.any fun g=>(ì b g).isNone)=true
   ·rw[if_pos a,if_pos a]
   ·have p:∀y∈x.2,∃g,ì b y=some g:=fun y j=>by
     simp only[dD,not_exists,not_and,Option.isNone_iff_eq_none] at a;exact Option.ne_none_iff_exists'.1 (a y j)
    rw[if_neg a,if_neg a,mix_L3 h.ids k p]
    by_cases n:(x.2.any fun g=>ń b g x.1 != 0)=true
    ·rw[if_pos n,if_pos n]
    ·rw[if_neg n,if_neg n,mix_L4 h k p (by omega)]
     cases i with
     |zero =>
      rw[Í (by simp[igt]),if_neg (show ¬lW (fun y:Mx=>y.1) l 0 x=true by simp[lW])]
      split<;>rfl
     |succ i =>
      obtain⟨hi,_⟩:=dj.1 o;have j:l[i]?=some l[i]:=df (by omega)
      have e:((i+1:Nat):Int)-1=i:=by omega
      rw[Ñ (by simp[igt]),Ï (by omega) (by omega),e,Ä j,ó];unfold lW;simp only[Nat.add_sub_cancel,j,Option.any_some,Nat.succ_pos,decide_true,Bool.true_and,ile,decide_eq_true_eq]
      split
      ·rfl
      ·split<;>rfl
  ·rw[if_neg f,if_pos f]
 ·rw[if_pos (by simp only[eM]; cases h2:inP x.1 0 19999<;>cases f:inP (x.2.length:Int) 2 5<;>simp_all)]
  simp only[inP,dg,decide_eq_true_eq,not_and,Int.not_le] at d;simp only[ó,ilt,ige,igt,Î,decide_eq_true_eq]
  split
  ·rfl
  split
  ·rfl
  split
  ·rfl
  rw[if_pos (by have:=d (by omega); omega)]
def XB {b:ö} {l:Do Mx} {i:Nat} {x:Mx} (h:mixE b l i x=0):x.2.length<=5:=by
 unfold mixE at h
 split at h
 ·cases h
 ·rename_i a;simp[inP] at a;omega
def amF {n v:Nat} (j:n<=5) (g:v<=1000000000) {ρ:Type} (k0:Int->CK ρ):Ë (fun(u:Int×Int) f=>oF (ajb n) u.1 u.2 (fun a b=>f (a,b)) k0) ((v:Int),(0:Int))=k0 ((v*JI n:Nat):Int):=by
 refine wC (List.range n) (fun i=>((v*JI i:Nat):Int)) _ (fun _=>True) (by simp[JI]) trivial (fun i a hi ha _ d=>.inr ⟨trivial,?_⟩) (fun _ d=>?_)
 ·rw[fj] at hi
  try dsimp only
  unfold oF;have h:=Sb (n:=i) (by omega);have hb:v*JI i<=1000000000*120:=Nat.mul_le_mul g h;have h2:v*JI i*(i+1)<=1000000000*120*6:=Nat.mul_le_mul hb (by omega)
  have e:((v*JI i:Nat):Int)*((i:Int)+1)=((v*JI i*(i+1):Nat):Int):=by simp
  rw[anQ hi,Ï (by omega) (by omega),e,Ï (by omega) (by omega),Ï (by omega) (by omega),JI,Nat.mul_assoc]
 ·rw[fj]
  try dsimp only
  unfold oF;rw[Ó]
def GU {b:ö} {l:Do Mx} {i:Nat} {x:Mx} (g:l[i]?=some x) (n:∀j y,j<i->l[j]?=some y->mixE b l j y=0) (p:mixE b l i x≠0):O8 b l=some (mixE b l i x):=by
 have key:∀(m:Do Mx) (k:Nat),l.drop k=m->k<=i->Ě (fun i x=>Lu (mixE b l i x)) k m=some (mixE b l i x):=by
  intro m
  induction m with
  |nil =>
   intro k d f;have:=List.drop_eq_nil_iff.1 d;have:=(dj.1 g).1;omega
  |cons y m h =>
   intro k d f
   have e:l[k]?=some y:=by
    have:(l.drop k)[0]?=some y:=by rw[d]; rfl
    simpa using this
   rw[Ě];rcases dw k i with a|o
   ·rw[n k y a e];simp only[Lu,if_true];refine h (k+1) ?_ a;rw[<-List.tail_drop,d]; rfl
   ·have:k=i:=by omega
    subst this;rw[g] at e; cases e;simp[Lu,p]
 exact key l 0 rfl (d9 _)
def E4 {b:ö} {l:Do Mx} (d:∀j y,l[j]?=some y->mixE b l j y=0):O8 b l=none:=by
 rw[O8,ź];intro j y a;rw[dQ,d j y a]; rfl
def ox {m:Ļ} (k:In m.1) (u:m.2.length<=1000):iS m=some (Ī m):=by
 unfold iS PS Ī;rw[CT k.size k.num,À]
 by_cases g:ŝ m.1=0
 ·have r:=(Μ _).1 g;rw[Í (by simp[ine,g]),if_neg (by simp[g])]
  by_cases p:4<m.2.length
  ·rw[Ñ (by simp[igt,Î]; omega),if_pos p]
  ·rw[Í (by simp[igt,Î]; omega),if_neg p];refine wC m.2 (fun i=>((m8 (m.2.take i):Nat):Int)) _ (fun i=>∀j y,j<i->m.2[j]?=some y->mixE m.1 m.2 j y=0) (by simp[m8]) (fun j y h _=>by omega) (fun i x hi d e q=>?_) (fun e q=>?_)
   ·try dsimp only
    unfold tJ;rw[Ì hi,Ä d,show(((m.1.1.1,m.1.1.2),m.1.2.1,m.1.2.2.1,m.1.2.2.2.1,m.1.2.2.2.2.1,m.1.2.2.2.2.2):ö)=m.1 from rfl,amr r d (by omega),À]
    by_cases f:mixE m.1 m.2 i x=0
    ·rw[Í (by simp[ine,f])]
     have t:∀y∈m.2.take i,y.2.length<=5:=fun y a=>by
      obtain⟨j,o,rfl⟩:=dv.1 a;rw[dt] at o;rw[fi];exact XB (e j _ (by omega) (df (by omega)))
     have hb:=Xe (l:=m.2.take i) (n:=4) (by rw[dt]; omega) t
     have s:(120:Nat) ^ 4=207360000:=by decide
     refine .inr ⟨fun j y o a=>?_,?_⟩
     ·rcases dw j i with h|h
      ·exact e j y h a
      ·have:j=i:=by omega
       subst this;rw[d] at a; cases a;exact f
     ·rw[amF (XB f) (by omega),É hi (by omega),B4 d]
    ·refine .inl ?_;rw[Ñ (by simp[ine,f]),GU d e f]
   ·try dsimp only
    unfold tJ;rw[Ó,E4 fun j y a=>e j y (List.getElem?_eq_some_iff.1 a).1 a,List.take_length];dsimp only;rw[ó];simp only[igt,decide_eq_true_eq]
    by_cases h:150<m8 m.2
    ·rw[if_pos (by omega),if_pos h]
    ·rw[if_neg (by omega),if_neg h]
 ·rw[Ñ (by simp[ine,g]),if_pos g]
def OJ {α:Type} [DecidableEq α] {l m:Do α} (f:l.length=m.length) (h:Ě (fun i a=>if m[i]?=some a then none else some false) 0 l=none):l=m:=by
 have:=ź.1 h;refine iv f fun i g h2=>?_;have d:=this i l[i] (df g);rw[dQ] at d
 split at d
 ·rename_i e;rw[df h2] at e;exact(Option.some.inj e).symm
 ·cases d
def OI {α:Type} [DecidableEq α] {l m:Do α} {b:Bool} (h:Ě (fun i a=>if m[i]?=some a then none else some false) 0 l=some b):b=false/\l≠m:=by
 constructor
 ·have:∀(k:Nat) (x:Do α) (b:Bool),Ě (fun i a=>if m[i]?=some a then none else some false) k x=some b->b=false:=by
   intro k x
   induction x generalizing k with
   |nil=>intro b h; cases h
   |cons a t f =>
    intro b h;unfold Ě at h
    split at h
    ·rename_i c d
     split at d
     ·cases d
     ·cases d; cases h; rfl
    ·exact f _ _ h
  exact this _ _ _ h
 ·intro e;subst e;rw[ź.2 fun j a ha=>by rw[dQ,if_pos ha]] at h;cases h
def Gm {l m:Do Int} (k:l.length<=1000000):ū l m=some (decide (l=m)):=by
 unfold ū xO;rw[Î,Î]
 by_cases d:l.length=m.length
 ·rw[Í (by simp[ine,d])];refine ee (iP l (fun i a=>if m[i]?=some a then none else some false) some (some true) (fun i a hi ha g=>?_) (fun g=>?_)) ?_
  ·try dsimp only
   unfold lG;have f:m[i]?=some m[i]:=List.getElem?_eq_getElem (by omega);rw[Ì hi,Ä ha,Ä f,É hi (by omega),f,ó]
   by_cases h:a=m[i]
   ·simp[ine,h]
   ·have h':¬m[i]=a:=fun e=>h e.symm;simp[ine,h,h']
  ·try dsimp only
   unfold lG;rw[Ó]
  ·cases h:Ě (fun i a=>if m[i]?=some a then none else some false) 0 l with
   |none=>simp[OJ d h]
   |some b =>
    obtain⟨j,h2⟩:=OI h;simp[j,h2]
 ·rw[Ñ (by simp[ine]; omega)];have:l≠m:=fun e=>d (by rw[e]);simp[this]
structure MixOk (b:ö) (x:Mx):Prop where
 day:0<=x.1/\x.1<20000
 len:2<=x.2.length/\x.2.length<=5
 asc:x.2.Pairwise (·<·)
 known:∀l∈x.2,∃g,ì b l=some g/\g.2.1<=x.1
 home:∀l∈x.2,Œ b l x.1=none/\Œ b l (x.1+1)=none
def abf {b:ö} {l:Do Mx} {i:Nat} {x:Mx} (h:mixE b l i x=0):MixOk b x/\lW (fun y=>y.1) l i x=false:=by
 unfold mixE at h
 split at h
 ·cases h
 rename_i n
 split at h
 ·cases h
 rename_i h2
 split at h
 ·cases h
 rename_i j
 split at h
 ·cases h
 rename_i f
 split at h
 ·cases h
 rename_i k
 split at h
 ·cases h
 rename_i e;simp only[inP,Bool.not_eq_true',Bool.and_eq_false_iff,not_or,Bool.not_eq_false,decide_eq_false_iff_not,Int.not_le,Bool.and_eq_true,decide_eq_true_eq] at n;simp only[List.any_eq_true,not_exists,not_and,Option.isNone_iff_eq_none] at j;simp only[List.any_eq_true,not_exists,not_and,bne_iff_ne,ne_eq,Decidable.not_not] at f;simp only[List.any_eq_true,not_exists,not_and,Bool.or_eq_true,not_or,Option.isSome_iff_ne_none,ne_eq,Decidable.not_not] at e;refine⟨⟨by omega,by omega,Decidable.not_not.1 h2,fun y a=>?_,e⟩,by simpa using k⟩;obtain⟨g,d⟩:=Option.ne_none_iff_exists'.1 (j y a);refine⟨g,d,?_⟩;have:=f y a;unfold ń at this;rw[d] at this;dsimp only at this
 split at this
 ·cases this
 ·omega
structure MOk (m:Ļ):Prop where
 good:Ŭ m.1
 n4:m.2.length<=4
 mixE:∀i x,m.2[i]?=some x->mixE m.1 m.2 i x=0
 prod:m8 m.2<=150
def Ń (m:Ļ):Ī m=0↔MOk m:=by
 unfold Ī;constructor
 ·intro h
  split at h
  ·rename_i f; exact absurd h f
  rename_i f
  split at h
  ·cases h
  rename_i h2
  cases a:O8 m.1 m.2 with
  |some e =>
   rw[a] at h;dsimp only at h;rw[O8] at a
   have key:∀(l:Do Mx) (k:Nat) (e:Int),Ě (fun i x=>Lu (mixE m.1 m.2 i x)) k l=some e->e≠0:=by
    intro l
    induction l with
    |nil=>intro k e h; cases h
    |cons y l g =>
     intro k e h;rw[Ě] at h
     by_cases d:mixE m.1 m.2 k y=0
     ·rw[d] at h;exact g (k+1) e h
     ·simp only[Lu,if_neg d,Option.some.injEq] at h;rw[<-h]; exact d
   exact absurd h (key _ _ _ a)
  |none =>
   rw[a] at h;dsimp only at h
   split at h
   ·cases h
   rename_i n;refine⟨(Μ _).1 (Decidable.not_not.1 f),by omega,fun i x j=>?_,by omega⟩;have:=(ź.1 a) i x j;rw[Nat.zero_add] at this;unfold Lu at this
   split at this
   ·assumption
   ·cases this
 ·intro h;rw[if_neg (by simp[(Μ _).2 h.good]),if_neg (by have:=h.n4; omega),E4 h.mixE];dsimp only;rw[if_neg (by have:=h.prod; omega)]
section
variable {m:Ļ}
def MOk.mix (h:MOk m) {x:Mx} (a:x∈m.2):MixOk m.1 x:=by
 obtain⟨i,hi,rfl⟩:=dv.1 a;exact(abf (h.mixE i _ (df hi))).1
def MOk.days (h:MOk m):m.2.Pairwise fun a b=>a.1<b.1:=(JB (fun y:Mx=>y.1) m.2).1 fun i x d=>(abf (h.mixE i x d)).2
def MOk.len5 (h:MOk m):∀x∈m.2,x.2.length<=5:=fun x a=>(h.mix a).len.2
def MOk.in_ (h:MOk m):In m.1:=⟨h.good.size,fun g a=>by have:=(h.good.gaugeR a).2.1; unfold I64; omega⟩
end
def afa {l:Do Int} {i:Nat} (hi:i<l.length):(l[i]::(l.take i++l.drop (i+1))).Perm l:=by
 have h:l=l.take i++l[i]::l.drop (i+1):=by rw[<-dX hi,eJ]
 exact List.Perm.trans (List.perm_middle.symm) (by rw[<-h])
def NT:∀{n:Nat} {l x:Do Int},l.length=n->(x∈vF n l↔x.Perm l)
 |0,l,x,h=>by
  have:l=[]:=dJ.1 h;subst this;simp[vF]
 |n+1,l,x,h=>by
  rw[vF,if_neg (by omega)];simp only[dI,fu,dF];constructor
  ·rintro⟨i,hi,y,d,rfl⟩;have d:=(NT (n:=n) (by simp; omega)).1 d;rw[eh,df hi];exact(d.cons _).trans (afa hi)
  ·intro e
   cases x with
   |nil=>have:=e.length_eq; simp at this; omega
   |cons a x =>
    have ha:a∈l:=e.subset (by simp);obtain⟨i,hi,rfl⟩:=dv.1 ha;refine⟨i,hi,x,(NT (n:=n) (by simp; omega)).2 ?_,by rw[eh,df hi]; rfl⟩;exact List.Perm.cons_inv (e.trans (afa hi).symm)
def Zr {α β:Type} (f:α->Do β) (n:Nat):∀l:Do α,(∀a∈l,(f a).length=n)->(l.flatMap f).length=l.length*n
 |[],_=>by simp
 |a::l,h=>by
  rw[dH,di,h a (by simp),Zr f n l fun b hb=>h b (dS _ hb),dr,Nat.succ_mul]; omega
def GP:∀{n:Nat} {l:Do Int},l.length=n->(vF n l).length=JI n
 |0,_,_=>rfl
 |n+1,l,h=>by
  rw[vF,if_neg (by omega),Zr _ (JI n) _ fun i hi=>by rw[dL]; exact GP (by simp at hi ⊢; omega),fj,JI,h,Nat.mul_comm]
def wV:∀{ms:Do Mx} {w:Way},w∈υ ms↔ī ms w
 |[],[]=>by simp[υ,ī]
 |[],_::_=>by simp[υ,ī]
 |m::ms,[]=>by simp[υ,ī]
 |m::ms,l::ls=>by
  simp only[υ,dI,dF,ī];constructor
  ·rintro⟨x,d,y,a,e⟩;cases e;exact⟨(NT rfl).1 d,wV.1 a⟩
  ·intro⟨f,h2⟩;exact⟨l,(NT rfl).2 f,ls,wV.2 h2,rfl⟩
def Jq:∀ms:Do Mx,(υ ms).length=m8 ms
 |[]=>rfl
 |m::ms=>by rw[υ,Zr _ (m8 ms) _ fun x _=>by rw[dL,Jq],GP rfl,m8]
def ň (ms:Do Mx):Do Way:=Ķ (uR ms) (υ ms)
def ag5 {α:Type} {k a:α->Int} {x:α} {l:Do α} (f:k x=a x) (h:∀y∈l,k y=a y):Zh k x l=Zh a x l:=by
 induction l with
 |nil=>rfl
 |cons y l d =>
  unfold Zh;rw[f,h y (by simp),d fun z e=>h z (List.mem_cons_of_mem _ e)]
def RE {α:Type} {k a:α->Int}:∀{l:Do α},(∀y∈l,k y=a y)->Ķ k l=Ķ a l
 |[],_=>rfl
 |x::l,h=>by
  have e:=RE fun y d=>h y (dS x d);show Zh k x (Ķ k l)=Zh a x (Ķ a l);rw[e];exact ag5 (h x (by simp)) fun y d=>h y (dS _ ((ō (key:=a) l).mem.1 d))
def vt {ms:Do Mx} {w:Way}:w∈ň ms↔ī ms w:=by
 rw[ň,(ō (υ ms)).mem,wV]
def aic (ms:Do Mx):(ň ms).length=m8 ms:=by rw[ň,(ō (υ ms)).length,Jq]
section
variable {m:Ļ} {ρ:Type}
def MOk.wgt (h:MOk m) {w:Way} (d:ī m.2 w):Ĭ m w=some (uR m.2 w) :=
 aib d (by have:=h.n4; omega) fun x a=>by have:=h.len5 x a; omega
def N6 {α:Type} {f:Do α->α->(Do α->CK ρ)->CK ρ} (h:∀v y a,v.length<=1000000->f v y a=a (v++[y])):∀{xs:Do α} {v:Do α} {K:Do α->CK ρ},v.length+xs.length<=1000000->By f xs v K=K (v++xs)
 |[],v,K,_=>by simp[By]
 |x::xs,v,K,d=>by
  simp only[dr] at d;rw[By,h v x _ (by omega),N6 h (by simp; omega)]; simp
def akg (h:MOk m):nV m.2=some (υ m.2):=by
 unfold nV;rw[ä];simp only[Bool.and_eq_true,decide_eq_true_eq,List.all_eq_true];exact⟨by have:=h.n4; omega,fun x a=>by have:=h.len5 x a; omega⟩
def Oj (h:MOk m):(υ m.2).length<=150:=by rw[Jq]; exact h.prod
def aaj (h:MOk m):ķ (υ m.2) (Õ (υ m.2)) m=some (ň m.2,m):=by
 have h2:∀w∈υ m.2,Ĭ m w=some (uR m.2 w):=fun w a=>h.wgt (wV.1 a)
 have d:∀w∈υ m.2,ě m w=uR m.2 w:=fun w a=>by unfold ě; rw[h2 w a]; rfl
 rw[Î,air (fun w a=>by rw[h2 w a,d w a]) (by have:=Oj h; omega),RE d]; rfl
def Ov (h:MOk m):uJ m=some (ň m.2):=by
 unfold uJ XG;have e:=Oj h;rw[akg h,À,N6 (fun v y a d=>by unfold E9; rw[ä (Ò (by simp; omega))]) (by simp; omega),List.nil_append,aaj h];rfl
def alg (d:In m.1) (e:m.2.length<=1000):I8 m=some (if Ī m≠0 then([],Ī m) else(ň m.2,0)):=by
 unfold I8 XO;rw[ox d e,À]
 by_cases a:Ī m=0
 ·rw[Í (by simp[ine,a]),if_neg (by simp[a]),Ov ((Ń m).1 a)]; rfl
 ·rw[Ñ (by simp[ine,a]),if_pos a]
end
def afx {ρ:Type} (n:Nat) (p:Nat->Bool) (g j:CK ρ) {f:Int->(Int->CK ρ)->CK ρ} (h:∀i:Nat,i<n->∀d,f i d=if p i then d ((i:Int)+1) else g) (k:∀d,f n d=j):Ë f 0=if (List.range n).all p then j else g:=by
 have:=Ē (List.range n) (fun i=>!p i) (fun _=>g) g j (f:=f) (fun _=>rfl) (fun i a hi ha d=>by
  obtain⟨_,rfl⟩:=dj.1 ha;rw[fj] at hi;rw[h i hi d,List.getElem_range]
  cases p i<;>rfl) (fun d=>by rw[fj]; exact k d)
 rw[this]
 have e:(List.range n).any (fun i=>!p i)=!(List.range n).all p:=by rw[List.all_eq_not_any_not]; simp
 rw[e]
 cases(List.range n).all p<;>rfl
def jm:Do Mx->Way->Bool
 |[],[]=>true
 |m::ms,l::ls=>decide (Υ l=m.2)&&jm ms ls
 |_,_=>false
def Wf:∀{ms:Do Mx} {w:Way},(∀x∈ms,x.2.Pairwise (·<·))->(jm ms w=true↔ī ms w)
 |[],[],_=>by simp[jm,ī]
 |[],_::_,_=>by simp[jm,ī]
 |_::_,[],_=>by simp[jm,ī]
 |m::ms,l::ls,h=>by
  rw[jm,ī,dg,decide_eq_true_eq,Wf fun x d=>h x (dS _ d)];have f:=h m (by simp);refine and_congr ⟨fun e=>by rw[<-e]; exact(þ l).symm,fun e=>?_⟩ Iff.rfl;exact gk (fun a b _ _ g h2=>iA g h2) (œ l) (f.imp fun h=>Int.le_of_lt h) ((þ l).trans e)
def ajD {ms:Do Mx} {w:Way} (a:w.length=ms.length):jm ms w=(List.range ms.length).all fun i=>match ms[i]?,w[i]? with|some m,some l=>decide (Υ l=m.2)|_,_=>false:=by
 induction ms generalizing w with
 |nil =>
  have:w=[]:=dJ.1 a;subst this; rfl
 |cons m ms d =>
  cases w with
  |nil=>simp at a
  |cons l w =>
   rw[jm,d (by simpa using a),dr,List.range_succ_eq_map,fS,List.all_map];rfl
def row_eq {l m:Do Int} (d:l.length=m.length) (o:m.length<=5):(l.getD 0 0=m.getD 0 0/\l.getD 1 0=m.getD 1 0/\l.getD 2 0=m.getD 2 0/\l.getD 3 0=m.getD 3 0/\l.getD 4 0=m.getD 4 0)↔l=m:=by
 constructor
 ·intro⟨h0,n,h2,j,g⟩;refine iv d fun i hi a=>?_
  have e:∀k:Nat,l.getD k 0=m.getD k 0->k=i->l[i]=m[i]:=fun k f e=>by
   subst e;simpa[eh,df hi,df a] using f
  have:i=0\/i=1\/i=2\/i=3\/i=4:=by omega
  rcases this with h|h|h|h|h
  ·exact e 0 h0 h.symm
  ·exact e 1 n h.symm
  ·exact e 2 h2 h.symm
  ·exact e 3 j h.symm
  ·exact e 4 g h.symm
 ·rintro rfl; simp
def amq {m:Ļ} (h:MOk m) {w:Way} (n:∀l∈w,l.length<=100000):I4 m w=some (jm m.2 w):=by
 unfold I4 Pv;have D:=h.n4
 by_cases p:w.length=m.2.length
 ·rw[Í (by simp[ine,Î]; omega),ajD p];have r:∀i,i<m.2.length->∃x l,m.2[i]?=some x/\w[i]?=some l:=fun i hi=>⟨_,_,df hi,df (by omega)⟩;refine ee (afx m.2.length (fun i=>match m.2[i]?,w[i]? with|some m,some l=>decide (Υ l=m.2)|_,_=>false) (some false) (some true) (fun i hi k=>?_) (fun k=>?_)) ?_
  ·obtain⟨x,l,j,a⟩:=r i hi
   try dsimp only
   unfold tr;have g:=h.len5 x (List.mem_of_getElem? j);have s:=n l (List.mem_of_getElem? a);rw[Ì (by omega),Ä a,Ä j,j,a];dsimp only
   by_cases d:l.length=x.2.length
   ·rw[Í (by simp[ine,Î]; omega)];unfold Ci;rw[ä (Ò (by omega)),À,N6 (fun v y k C=>by unfold Ai; rw[ä (Ò (by simp; omega))]) (by simp; omega),List.nil_append,ä (Ò (by omega))];unfold I3;rw[À,À,WZ];have o:=row_eq (l:=Υ l) (m:=x.2) (by rw[(þ l).length_eq]; exact d) g
    by_cases f:Υ l=x.2
    ·obtain⟨B,A,z,u,t⟩:=o.2 f;rw[B,A,z,u,t,Í (by simp[iW]),Ï (by omega) (by omega),if_pos (by simpa using f)]
    ·rw[Ñ,if_neg (by simpa using f)]
     cases hb:(!((iW ((Υ l).getD 0 0) (x.2.getD 0 0))&&((iW ((Υ l).getD 1 0) (x.2.getD 1 0))&&((iW ((Υ l).getD 2 0) (x.2.getD 2 0))&&((iW ((Υ l).getD 3 0) (x.2.getD 3 0))&&((iW ((Υ l).getD 4 0) (x.2.getD 4 0))&&true)))))) with
     |true=>rfl
     |false =>
      refine absurd (o.1 ?_) f;simpa[iW] using hb
   ·rw[Ñ (by simp[ine,Î]; omega),if_neg];intro e;simp only[decide_eq_true_eq] at e;have:=(þ l).length_eq;rw[e] at this;exact d this.symm
  ·try dsimp only
   unfold tr;rw[Í (by simp[ilt,Î]; omega)]
  ·cases(List.range m.2.length).all (fun i=>match m.2[i]?,w[i]? with|some m,some l=>decide (Υ l=m.2)|_,_=>false)<;>rfl
 ·rw[Ñ (by simp[ine,Î]; omega)];congr 1
  symm
  clear n
  have key:∀{ms:Do Mx} {w:Way},w.length≠ms.length->jm ms w=false:=by
   intro ms
   induction ms with
   |nil=>intro w h; cases w with|nil=>exact absurd rfl h|cons _ _=>rfl
   |cons x ms q =>
    intro w h
    cases w with
    |nil=>rfl
    |cons l w=>rw[jm,q (by simpa using h),Bool.and_false]
  exact key p
def ţ (m:Ļ) (w:Way):Int:=if Ī m≠0 then Ī m else if jm m.2 w then 0 else 1
def JC {m:Ļ} (e:In m.1) (f:m.2.length<=1000) {w:Way} (d:∀l∈w,l.length<=100000):sk m w=some (ţ m w):=by
 unfold sk PJ ţ;rw[ox e f,À]
 by_cases a:Ī m=0
 ·rw[Í (by simp[ine,a]),if_neg (by simp[a]),amq ((Ń m).1 a) d,À]
  cases jm m.2 w<;>rfl
 ·rw[Ñ (by simp[ine,a]),if_pos a]
def sw {m:Ļ} {w:Way}:ţ m w=0↔MOk m/\ī m.2 w:=by
 unfold ţ
 by_cases a:Ī m=0
 ·have h:=(Ń m).1 a;rw[if_neg (by simp[a])];have:=Wf (w:=w) fun x d=>(h.mix d).asc
  cases hi:jm m.2 w with
  |true=>simp[this.1 hi,h]
  |false =>
   exact⟨fun e=>absurd (show(1:Int)=0 from e) (by decide),fun e=>absurd (this.2 e.2) (by simp[hi])⟩
 ·rw[if_pos a];exact⟨fun e=>absurd e a,fun⟨e,_⟩=>absurd ((Ń m).2 e) a⟩
section
variable {ρ:Type}
def oq {α β:Type} (l:Do α) (g:α->β) (K:Do β->CK ρ) {f:Int×Do β->(Int×Do β->CK ρ)->CK ρ}
 (h:∀(i:Nat) (a:α),i<l.length->l[i]?=some a->∀(v:Do β) d,v.length=i->f (i,v) d=d ((i:Int)+1,v++[g a])) (e:∀(v:Do β) d,f (l.length,v) d=K v):Ë f (0,[])=K (l.map g):=by
 refine î l (fun i=>(l.take i).map g) _ rfl (fun i a hi ha d=>?_) (fun d=>?_)
 ·rw[h i a hi ha _ d (by simp; omega),take_succ ha,fm]; rfl
 ·rw[e,fH]
end
def ny (m:Ļ) (w:Way) (d:Int) (l:Do Int):Do Int:=Υ (l.map fun x=>Ν m.2 w x d)
def ahY (m:Ļ) (w:Way) (c:Cmp):Cmp:=(c.1,c.2.1,ny m w c.2.1 c.2.2.1,ny m w c.2.1 c.2.2.2.1,c.2.2.2.2)
def trP (m:Ļ) (w:Way):ö :=
 (m.1.1,m.1.2.1,m.1.2.2.1.map (fun u=>(Ν m.2 w u.1 u.2,u.2)),m.1.2.2.2.1.map (fun l=>(Ν m.2 w l.1 l.2.1.1,l.2)),m.1.2.2.2.2.1.map (ahY m w),m.1.2.2.2.2.2.map (fun n=>(Ν m.2 w n.1 n.2,n.2)))
section
variable {ρ:Type} {m:Ļ} {w:Way}
def MOk.who (h:MOk m) (e:ī m.2 w) (x d:Int):si m w x d=some (Ν m.2 w x d) :=
 who_ok e (by have:=h.n4; omega) (fun y a=>by have:=h.len5 y a; omega) x d
def tr_L0 (h:MOk m) (f:ī m.2 w) (k0:Do (Int×Int)->CK ρ):Ë (fun(v:Int×Do (Int×Int)) e=>lB m w m.1.2.2.1 (Õ m.1.2.2.1) v.1 v.2 (fun a b=>e (a,b)) k0) ((0:Int),[])=k0 (m.1.2.2.1.map fun u=>(Ν m.2 w u.1 u.2,u.2)):=by
 have j:=h.good.nU
 refine oq m.1.2.2.1 (fun u:Int×Int=>((Ν m.2 w u.1 u.2,u.2):Int×Int)) k0 (fun i a hi ha v d g=>?_) (fun v d=>?_)<;>(try dsimp only)<;>unfold lB
 ·rw[Ì hi,Ä ha,h.who f,À,ä (Ò (by simp; omega)),É hi (by omega)]
 ·rw[Ó]
def tr_L1 (h:MOk m) (f:ī m.2 w) (k0:Do JK->CK ρ):Ë (fun(v:Int×Do JK) e=>lz m w m.1.2.2.2.1 (Õ m.1.2.2.2.1) v.1 v.2 (fun a b=>e (a,b)) k0) ((0:Int),[])=k0 (m.1.2.2.2.1.map fun l=>(Ν m.2 w l.1 l.2.1.1,l.2)):=by
 have j:=h.good.nL
 refine oq m.1.2.2.2.1 (fun l:JK=>((Ν m.2 w l.1 l.2.1.1,l.2):JK)) k0 (fun i a hi ha v d g=>?_) (fun v d=>?_)<;>(try dsimp only)<;>unfold lz
 ·rw[Ì hi,Ä ha,h.who f,À,ä (Ò (by simp; omega)),É hi (by omega)]
 ·rw[Ó]
def Gt (h:MOk m) (f:ī m.2 w) (d:Int) {l:Do Int} (j:l.length<=1000):jT l d m w=some (ny m w d l):=by
 unfold jT rh;rw[oq l (fun x:Int=>(Ν m.2 w x d:Int)) (fun z=>à (ã z.length) (some (zy z))) (fun i a hi ha v e g=>?_) (fun v e=>?_),ä (Ò (by simp; omega)),WZ]; rfl
 ·try dsimp only
  unfold jD;rw[Ì hi,Ä ha,h.who f,À,ä (Ò (by simp; omega)),É hi (by omega)]
 ·try dsimp only
  unfold jD;rw[Ó]
def tr_L2 (h:MOk m) (d:ī m.2 w) (k0:Do Cmp->CK ρ):Ë (fun(v:Int×Do Cmp) j=>lr m w m.1.2.2.2.2.1 (Õ m.1.2.2.2.2.1) v.1 v.2 (fun a b=>j (a,b)) k0) ((0:Int),[])=k0 (m.1.2.2.2.2.1.map (ahY m w)):=by
 have l:=h.good.nC
 refine oq m.1.2.2.2.2.1 (ahY m w) k0 (fun i a hi ha v g k=>?_) (fun v g=>?_)<;>(try dsimp only)<;>unfold lr
 ·obtain⟨f,e⟩:=h.good.size.piles a (dk ha);rw[Ì hi,Ä ha,Gt h d _ f,À,Gt h d _ e,À,ä (Ò (by simp; omega)),É hi (by omega)];rfl
 ·rw[Ó]
def tr_L3 (h:MOk m) (f:ī m.2 w) (k0:Do (Int×Int)->CK ρ):Ë (fun(v:Int×Do (Int×Int)) e=>lq m w m.1.2.2.2.2.2 (Õ m.1.2.2.2.2.2) v.1 v.2 (fun a b=>e (a,b)) k0) ((0:Int),[])=k0 (m.1.2.2.2.2.2.map fun n=>(Ν m.2 w n.1 n.2,n.2)):=by
 have j:=h.good.nK
 refine oq m.1.2.2.2.2.2 (fun n:Int×Int=>((Ν m.2 w n.1 n.2,n.2):Int×Int)) k0 (fun i a hi ha v d g=>?_) (fun v d=>?_)<;>(try dsimp only)<;>unfold lq
 ·rw[Ì hi,Ä ha,h.who f,À,ä (Ò (by simp; omega)),É hi (by omega)]
 ·rw[Ó]
def oy (h:MOk m) (a:ī m.2 w):Χ m w=some (trP m w):=by
 have d:=h.good.nG;unfold Χ xu trP;rw[ä (Ò (by omega)),tr_L0 h a,tr_L1 h a,tr_L2 h a,tr_L3 h a]
end
def Zk {l:Do Int} {x:Int} (h:x∈l):∃k,l.findIdx? (·==x)=some k/\l[k]?=some x:=by
 cases a:l.findIdx? (·==x) with
 |none =>
  have:=eA.1 a x h;simp at this
 |some k =>
  obtain⟨d,e,_⟩:=dN.1 a;exact⟨k,rfl,by rw[df d]; simpa using e⟩
def N4 {l:Do Int} {x:Int} (h:x∉l):l.findIdx? (·==x)=none:=by
 rw[eA];intro y a;simp only[beq_eq_false_iff_ne];exact fun e=>h (e▸a)
def anR {l:Do Int} (d:l.Nodup) {k:Nat} {x:Int} (h:l[k]?=some x):l.findIdx? (·==x)=some k:=by
 obtain⟨j,e,a⟩:=Zk (dk h);obtain⟨i,g⟩:=dj.1 h;obtain⟨h2,f⟩:=dj.1 a;rw[e,(List.getElem_inj d).1 (f.trans g.symm)]
def aeU {d d0:Int} {l k:Do Int} (g:l.Nodup) (n:k.Nodup) (f:l.Perm k) (x:Int):stp d (d0,k) l (stp d (d0,l) k x)=x:=by
 unfold stp
 by_cases hd:d0<d
 ·simp only[if_pos hd]
  by_cases a:x∈k
  ·obtain⟨i,j,h2⟩:=Zk a;rw[j];dsimp only
   have hi:i<l.length:=by rw[f.length_eq]; exact(dj.1 h2).1
   have e:l[i]?=some (l.getD i 0):=by rw[eh,df hi]; rfl
   rw[anR g e];dsimp only;rw[List.getD_eq_getElem?_getD,h2]; rfl
  ·rw[N4 a];dsimp only;rw[N4 fun h=>a (f.subset h)]
 ·simp only[if_neg hd]
def ac8 {d:Int} {m:Mx} {l:Do Int} (e:l.Perm m.2) (x:Int):stp d m l x=x\/(m.1<d/\x∈m.2/\stp d m l x∈m.2):=by
 unfold stp
 by_cases hd:m.1<d
 ·simp only[if_pos hd]
  by_cases a:x∈l
  ·obtain⟨i,f,h2⟩:=Zk a;rw[f];dsimp only
   have hi:i<m.2.length:=by rw[<-e.length_eq]; exact(dj.1 h2).1
   exact .inr ⟨hd,e.subset a,by rw[eh,df hi]; exact fI hi⟩
  ·rw[N4 a];exact .inl rfl
 ·simp only[if_neg hd];exact .inl trivial
def Tb:Do Mx->Way->Int->Int->Int
 |m::ms,l::ls,x,d=>Tb ms ls (stp d (m.1,l) m.2 x) d
 |_,_,x,_=>x
def alc {l:Do Int} (h:l.Pairwise (·<·)):l.Nodup:=h.imp fun h=>Int.ne_of_lt h
def ac4:∀{ms:Do Mx} {w:Way},ī ms w->(∀x∈ms,x.2.Nodup)->∀x d,Ν ms w (Tb ms w x d) d=x
 |[],[],_,_,x,d=>rfl
 |m::ms,l::ls,h,a,x,d=>by
  rw[Tb,Ν,ac4 h.2 fun y e=>a y (dS _ e)];exact aeU (d0:=m.1) (h.1.nodup_iff.2 (a m (by simp))) (a m (by simp)) h.1 x
def Zd:∀{ms:Do Mx} {w:Way},ī ms w->(∀x∈ms,x.2.Nodup)->∀x d,Tb ms w (Ν ms w x d) d=x
 |[],[],_,_,x,d=>rfl
 |m::ms,l::ls,h,a,x,d=>by
  rw[Tb,Ν];have:=aeU (d:=d) (d0:=m.1) (l:=m.2) (k:=l) (a m (by simp)) (h.1.nodup_iff.2 (a m (by simp))) h.1.symm (Ν ms ls x d);rw[show stp d (m.1,l) m.2 (stp d m l (Ν ms ls x d))=_ from this];exact Zd h.2 (fun y e=>a y (dS _ e)) x d
def ah7:∀{ms:Do Mx} {w:Way} (Q:Int->Prop) {d:Int},ī ms w->(∀m∈ms,m.1<d->∀x∈m.2,Q x)->∀{x:Int},Q x->Q (Ν ms w x d)
 |[],[],Q,d,_,_,x,a=>a
 |m::ms,l::ls,Q,d,h,f,x,a=>by
  have:=ah7 (x:=x) Q h.2 (fun y g=>f y (dS _ g)) a;rw[Ν];rcases ac8 (d:=d) h.1 (Ν ms ls x d) with e|⟨j,_,i⟩
  ·rw[e]; exact this
  ·exact f m (by simp) j _ i
def NK:∀{ms:Do Mx} {w:Way} {d:Int},ī ms w->∀{x:Int},(∀m∈ms,m.1<d->x∉m.2)->Ν ms w x d=x
 |[],[],d,_,x,_=>rfl
 |m::ms,l::ls,d,h,x,a=>by
  rw[Ν,NK h.2 fun y f=>a y (dS _ f)];rcases ac8 (d:=d) h.1 x with e|⟨i,g,_⟩
  ·exact e
  ·exact absurd g (a m (by simp) i)
def Z4:∀{ms:Do Mx} {w:Way} {d e:Int},ī ms w->ms.Pairwise (fun a b=>a.1<b.1)->d<=e->∀{x:Int},(∀m∈ms,d<=m.1->m.1<e->x∉m.2)->Ν ms w x e=Ν ms w x d
 |[],[],d,e,_,_,_,x,_=>rfl
 |m::ms,l::ls,d,e,h,j,p,x,k=>by
  rw[dO] at j;rcases ic m.1 d with n|o
  ·rw[Ν,Ν,Z4 h.2 j.2 p fun y g=>k y (dS _ g)]
   have q:∀y,stp e m l y=stp d m l y:=fun y=>by unfold stp; rw[if_pos n,if_pos (by omega)]
   exact q _
  ·have q:Ν (m::ms) (l::ls) x e=x:=NK h fun y g i=>by
    rcases dm.1 g with rfl|f
    ·exact k y (by simp) o i
    ·exact k y g (by have:=j.1 y f; omega) i
   have s:Ν (m::ms) (l::ls) x d=x:=NK h fun y g r=>by
    rcases dm.1 g with rfl|f
    ·omega
    ·have:=j.1 y f; omega
   rw[q,s]
def GZ {b:ö} (hi:b.2.1.Pairwise fun a b=>a.1<b.1) {id day:Int}:mw (ŕ b) id day=0↔∃g,ì b id=some g/\g.2.1<=day:=by
 rw[<-xj hi];unfold ń
 cases ì b id with
 |none=>simp
 |some g =>
  dsimp only
  by_cases h:day<g.2.1
  ·rw[if_pos h]; simp; omega
  ·rw[if_neg h]; simp; omega
def Gq {b:ö} (hi:b.2.1.Pairwise fun a b=>a.1<b.1) {id day:Int}:ac5 (ŕ b) id day=0↔zn day=true/\∃g,ì b id=some g/\g.2.1<=day:=by
 unfold ac5
 cases zn day with
 |false=>simp
 |true=>simp[GZ hi]
def ab4 {b:ö} (hi:b.2.1.Pairwise fun a b=>a.1<b.1) {i:Nat} {l:JK}:NA b (ŕ b) i l=0↔j7 l.2.1 0 20000=true/\inP l.2.2 0 1048576=true/\(∃g,ì b l.1=some g/\g.2.1<=l.2.1.1) /\
 (∀x∈b.2.2.2.1.take i,x.1=l.1->¬(x.2.1.1<=l.2.1.2/\l.2.1.1<=x.2.1.2))/\∀u∈b.2.2.1,u.1=l.1->inP u.2 l.2.1.1 l.2.1.2=false:=by
 unfold NA;rw[<-GZ hi]
 cases j7 l.2.1 0 20000 with
 |false=>simp
 |true =>
  cases inP l.2.2 0 1048576 with
  |false=>simp
  |true =>
   by_cases h:mw (ŕ b) l.1 l.2.1.1=0
   ·simp only[h,dV,dz,if_false,bne_self_eq_false,true_and]
    split
    ·rename_i d;simp only[dD,dg,beq_iff_eq,decide_eq_true_eq] at d;obtain⟨x,f,n,k⟩:=d;exact⟨fun e=>absurd e (by decide),fun e=>absurd k (e.1 x f n)⟩
    ·rename_i d;simp only[dD,dg,beq_iff_eq,decide_eq_true_eq,not_exists,not_and] at d
     split
     ·rename_i h2;simp only[dD,dg,beq_iff_eq] at h2;obtain⟨u,j,n,k⟩:=h2;exact⟨fun e=>absurd e (by decide),fun e=>by have:=e.2 u j n; rw[k] at this; cases this⟩
     ·rename_i h2;simp only[dD,dg,beq_iff_eq,not_exists,not_and] at h2;exact⟨fun _=>⟨fun x f e ⟨p,q⟩=>d x f e p q,fun u j e=>by simpa using h2 u j e⟩,fun _=>rfl⟩
   ·simp[h]
def Vg {b:ö} (hi:b.2.1.Pairwise fun a b=>a.1<b.1) {c:Cmp}:vA b (ŕ b) c=0↔(∀x∈c.2.2.1++c.2.2.2.1,(∃g,ì b x=some g/\g.2.1<=c.2.1)/\Œ b x c.2.1=none) /\
 (Þ c.2.2.1 c.2.2.2.1).length<=1/\(Þ c.2.2.2.1 c.2.2.1).length<=1/\(Þ c.2.2.1 c.2.2.2.1).length+(Þ c.2.2.2.1 c.2.2.1).length≠0:=by
 unfold vA;constructor
 ·intro h
  split at h
  ·cases h
  rename_i f
  split at h
  ·cases h
  rename_i h2
  split at h
  ·cases h
  rename_i i
  split at h
  ·cases h
  split at h
  ·cases h
  split at h
  ·cases h
  simp only[dD,not_exists,not_and,beq_iff_eq] at f h2;simp only[dD,not_exists,not_and,Option.isSome_iff_ne_none,ne_eq,Decidable.not_not] at i;refine⟨fun x d=>⟨(GZ hi).1 ?_,i x d⟩,by omega,by omega,by omega⟩;rcases E7 (ŕ b) x c.2.1 with e|e|e
  ·exact e
  ·exact absurd e (h2 x d)
  ·exact absurd e (f x d)
 ·intro⟨f,h2,i,k⟩;have j:∀x∈c.2.2.1++c.2.2.2.1,mw (ŕ b) x c.2.1=0:=fun x d=>(GZ hi).2 (f x d).1;rw[if_neg,if_neg,if_neg,if_neg (by omega),if_neg (by omega),if_neg k]
  ·simp only[dD,not_exists,not_and,Option.isSome_iff_ne_none,ne_eq,Decidable.not_not];exact fun x d=>(f x d).2
  ·simp only[dD,not_exists,not_and,beq_iff_eq]
   exact fun x d e=>by rw[j x d] at e; cases e
  ·simp only[dD,not_exists,not_and,beq_iff_eq]
   exact fun x d e=>by rw[j x d] at e; cases e
def LF {b:ö} {x d:Int}:Œ b x d=none↔∀l∈b.2.2.2.1,l.1=x->inP d l.2.1.1 l.2.1.2=false:=by
 unfold Œ;rw[List.find?_eq_none];simp
def zF {m:Ļ} {w:Way} {d:Int} {l:Do Int} {y:Int}:y∈ny m w d l↔∃x∈l,Ν m.2 w x d=y:=by
 unfold ny;rw[(þ _).mem_iff,List.mem_map]
section
variable {m:Ļ} {w:Way}
def MOk.nd (h:MOk m):∀x∈m.2,x.2.Nodup:=fun x a=>alc (h.mix a).asc
def MOk.inj (h:MOk m) (a:ī m.2 w) {d x y:Int} (e:Ν m.2 w x d=Ν m.2 w y d):x=y:=by
 rw[<-Zd a h.nd x d,e,Zd a h.nd]
def MOk.whoG (h:MOk m) (i:ī m.2 w) {d x:Int} (f:∃g,ì m.1 x=some g/\g.2.1<=d):∃g,ì m.1 (Ν m.2 w x d)=some g/\g.2.1<=d :=
 ah7 (fun y=>∃g,ì m.1 y=some g/\g.2.1<=d) i (fun y e hd z a=>by
  obtain⟨g,j,h2⟩:=(h.mix e).known z a
  exact⟨g,j,by omega⟩) f
def MOk.made (h:MOk m) (f:ī m.2 w) {x:Int} {g:æ} (i:ì m.1 x=some g):Ν m.2 w x g.2.1=x :=
 NK f fun y d hd e=>by
  obtain⟨g',a,h2⟩:=(h.mix d).known x e;rw[i] at a; cases a;omega
def MOk.loan (h:MOk m) (f:ī m.2 w) {l:JK} (g:l∈m.1.2.2.2.1) {d:Int} (hd:inP d l.2.1.1 l.2.1.2=true):Ν m.2 w l.1 d=Ν m.2 w l.1 l.2.1.1:=by
 simp only[inP,dg,decide_eq_true_eq] at hd;refine Z4 f h.days hd.1 fun y a i h2 e=>?_;have:=(LF.1 ((h.mix a).home _ e).1) l g rfl;simp only[inP,gF,decide_eq_false_iff_not] at this;omega
def ajA (h:MOk m) (f:ī m.2 w) (d:Int) (A B:Do Int):(Þ (ny m w d A) (ny m w d B)).Perm ((Þ A B).map fun x=>Ν m.2 w x d):=by
 unfold Þ;refine((þ _).filter _).trans ?_;rw[List.filter_map];refine List.Perm.of_eq ?_;congr 1;refine List.filter_congr fun x g=>?_;simp only[Function.comp];congr 1;rw[Bool.eq_iff_iff,List.contains_iff_mem,List.contains_iff_mem,zF];exact⟨fun⟨y,a,e⟩=>h.inj f e▸a,fun a=>⟨x,a,rfl⟩⟩
def ae7 (h:MOk m) (i:ī m.2 w) {d:Int} {l:Do Int} (n:uT l=true) (p:∀x∈l,∃g,ì m.1 x=some g/\g.2.1<=d):uT (ny m w d l)=true:=by
 obtain⟨u,h2,r⟩:=(zG l).1 n;refine(zG _).2 ⟨fun y j=>?_,?_,by unfold ny; rw[(þ _).length_eq,List.length_map]; exact r⟩
 ·obtain⟨x,k,rfl⟩:=zF.1 j;obtain⟨g,q,_⟩:=h.whoG i (p x k);obtain⟨t,s⟩:=Φ q;have:=(h.good.gaugeR t).2.2.2.1;rw[<-s]; exact this
 ·have f:(ny m w d l).Nodup:=by
   unfold ny;rw[(þ _).nodup_iff];exact List.pairwise_map.2 (h2.imp fun o e=>by have:=h.inj i e; omega)
  exact((œ _).and f).imp fun⟨a,b⟩=>Int.lt_iff_le_and_ne.2 ⟨a,b⟩
def an9 (h:MOk m) (f:ī m.2 w) {x d:Int} (ha:Œ m.1 x d=none):Œ (trP m w) (Ν m.2 w x d) d=none:=by
 rw[LF];intro i a e;obtain⟨l,g,rfl⟩:=dF.1 a
 cases hd:inP d l.2.1.1 l.2.1.2 with
 |false=>rfl
 |true =>
  rw[<-h.loan f g hd] at e;have:=LF.1 ha l g (h.inj f e);rw[hd] at this; cases this
def O4 {b:ö} (hi:b.2.1.Pairwise fun a b=>a.1<b.1):(Ø b).Nodup:=by
 unfold Ø List.Nodup;rw[List.pairwise_flatMap];refine⟨fun g _=>List.pairwise_map.2 ((su b g).imp fun h e=>by cases e; omega),hi.imp fun j x i y f e=>?_⟩;obtain⟨d,_,rfl⟩:=List.mem_map.1 i;obtain⟨k,_,rfl⟩:=List.mem_map.1 f;simp only[Prod.mk.injEq] at e;omega
def zS {b:ö} {x d:Int}:(x,d)∈Ø b↔∃g∈b.2.1,g.1=x/\d∈Ý b g:=by
 unfold Ø;simp only[List.mem_flatMap,List.mem_map];constructor
 ·rintro⟨g,a,f,hd,e⟩;cases e;exact⟨g,a,rfl,hd⟩
 ·rintro⟨g,a,rfl,hd⟩;exact⟨g,a,d,hd,rfl⟩
def CI (h:MOk m) (f:ī m.2 w) {d:Int} {A:Do Int} {x:Int}:(ny m w d A).contains (Ν m.2 w x d)=A.contains x:=by
 rw[eP,dZ,dZ,zF];exact⟨fun⟨y,a,e⟩=>h.inj f e▸a,fun a=>⟨x,a,rfl⟩⟩
def an8 (h:MOk m) (e:ī m.2 w) {x d:Int} (o:(x,d)∈Ø m.1):(Ν m.2 w x d,d)∈Ø (trP m w):=by
 obtain⟨g,l,rfl,hd⟩:=zS.1 o;have a:=sf h.good.ids l;obtain⟨g',k,_⟩:=h.whoG e (x:=g.1) (d:=d) ⟨g,a,(h.good.day l hd).1⟩;obtain⟨q,j⟩:=Φ k;refine zS.2 ⟨g',q,j,ż.2 ?_⟩;rcases ż.1 hd with rfl|⟨c,p,i,rfl⟩|⟨n,f,i,rfl⟩
 ·rw[h.made e a,a] at k;cases k;exact .inl rfl
 ·refine .inr (.inl ⟨ahY m w c,dF.2 ⟨c,p,rfl⟩,?_,rfl⟩);rw[j];show(ny m w c.2.1 c.2.2.1).contains _≠(ny m w c.2.1 c.2.2.2.1).contains _;rw[CI h e,CI h e];exact i
 ·exact .inr (.inr ⟨_,dF.2 ⟨n,f,rfl⟩,by rw[j,i],rfl⟩)
def aaf (h:MOk m) (j:ī m.2 w) {y d:Int} (s:(y,d)∈Ø (trP m w)):∃x,Ν m.2 w x d=y/\(x,d)∈Ø m.1:=by
 obtain⟨g,k,rfl,hd⟩:=zS.1 s;have k:g∈m.1.2.1:=k;have o:=sf h.good.ids k;have q:Ν m.2 w (Tb m.2 w g.1 d) d=g.1:=ac4 j h.nd _ _
 have fin:∀x,Ν m.2 w x d=g.1->(∃g',ì m.1 x=some g')->(∀g':æ,g'.1=x->d∈Ý m.1 g')->∃x,Ν m.2 w x d=g.1/\(x,d)∈Ø m.1:=fun x e ⟨g',A⟩ z=>by
  obtain⟨v,a⟩:=Φ A;exact⟨x,e,zS.2 ⟨g',v,a,z g' a⟩⟩
 rcases ż.1 hd with e|⟨c',p,a,f⟩|⟨B,l,a,f⟩
 ·subst e;exact⟨g.1,h.made j o,zS.2 ⟨g,k,rfl,ow g⟩⟩
 ·obtain⟨c,r,rfl⟩:=dF.1 p;have f:c.2.1=d:=f;subst f;have a:(ny m w c.2.1 c.2.2.1).contains g.1≠(ny m w c.2.1 c.2.2.2.1).contains g.1:=a;rw[<-q,CI h j,CI h j] at a;refine fin _ q ?_ fun g' e=>ż.2 (.inr (.inl ⟨c,r,by rw[e]; exact a,rfl⟩))
  have:Tb m.2 w g.1 c.2.1∈c.2.2.1++c.2.2.2.1:=by
   rw[dl,<-dZ,<-dZ]
   cases t:c.2.2.1.contains (Tb m.2 w g.1 c.2.1) with
   |true=>exact .inl rfl
   |false =>
    rw[t] at a;exact .inr (by simpa using a)
  obtain⟨⟨g',e,_⟩,_⟩:=h.good.pile r this;exact⟨g',e⟩
 ·obtain⟨n,i,rfl⟩:=dF.1 l;have f:n.2=d:=f;have a:Ν m.2 w n.1 n.2=g.1:=a;subst f;obtain⟨_,g',e,_⟩:=(Gq h.good.ids).1 (h.good.looks n i);exact fin n.1 a ⟨g',e⟩ fun u e=>ż.2 (.inr (.inr ⟨n,i,e.symm,rfl⟩))
def ame (m:Ļ) (w:Way) (n:Int×Int):Int×Int:=(Ν m.2 w n.1 n.2,n.2)
def anE (h:MOk m):(trP m w).2.1.Pairwise fun a b=>a.1<b.1:=h.good.ids
def tr_len (h:MOk m) (g:ī m.2 w):(Ø (trP m w)).length=(Ø m.1).length:=by
 have p:(Ø (trP m w)).length<=((Ø m.1).map (ame m w)).length:=fQ (O4 (anE h)) fun n k=>by
  obtain⟨x,e,f⟩:=aaf (y:=n.1) (d:=n.2) h g k;exact dF.2 ⟨(x,n.2),f,Prod.ext e rfl⟩
 have h2:((Ø m.1).map (ame m w)).length<=(Ø (trP m w)).length:=by
  have j:((Ø m.1).map (ame m w)).Nodup:=by
   refine List.pairwise_map.2 ((O4 h.good.ids).imp ?_);intro a b i e;unfold ame at e;simp only[Prod.mk.injEq] at e;obtain⟨o,l⟩:=e;rw[l] at o;exact i (Prod.ext (h.inj g o) l)
  refine fQ j fun n k=>?_;obtain⟨⟨x,d⟩,f,rfl⟩:=dF.1 k;exact an8 h g f
 rw[dL] at p h2;omega
def xf (h:MOk m) (j:ī m.2 w):Ŭ (trP m w):=by
 have a:=h.good;have f:=anE (w:=w) h;have X:ŕ (trP m w)=ŕ m.1:=rfl;have Z:∀x,ì (trP m w) x=ì m.1 x:=fun _=>rfl;have o:=tr_len h j;refine⟨a.film,a.nG,by simpa[trP] using a.nU,by simpa[trP] using a.nL,by simpa[trP] using a.nC,by simpa[trP] using a.nK,a.gauge,f,?_,?_,?_,?_,by rw[o]; exact a.nodes,by rw[o]; simpa[trP] using a.links⟩
 ·intro u' q;obtain⟨u,F,rfl⟩:=dF.1 q;obtain⟨C,B⟩:=(Gq a.ids).1 (a.uses u F);exact(Gq f).2 ⟨C,h.whoG j B⟩
 ·intro i O I
  obtain⟨l,P,rfl⟩:∃l,m.1.2.2.2.1[i]?=some l/\(Ν m.2 w l.1 l.2.1.1,l.2)=O:=by
   have:(m.1.2.2.2.1.map (fun l:JK=>(Ν m.2 w l.1 l.2.1.1,l.2)))[i]?=some O:=I;rw[eZ] at this
   cases d:m.1.2.2.2.1[i]? with
   |none=>rw[d] at this; cases this
   |some l=>rw[d] at this; exact⟨l,rfl,by simpa using this⟩
  have r:=dk P;obtain⟨C,B,e3,e4,e5⟩:=(ab4 a.ids).1 (a.loans i l P);refine(ab4 f).2 ⟨C,B,h.whoG j e3,fun R k ex z=>?_,fun u' q M=>?_⟩
  ·have k:R∈(m.1.2.2.2.1.map (fun l:JK=>(Ν m.2 w l.1 l.2.1.1,l.2))).take i:=k;rw[<-List.map_take] at k;obtain⟨x,d,rfl⟩:=List.mem_map.1 k;have t:=List.mem_of_mem_take d;have s1:=(wE a t).1;have s2:=(wE a r).1;dsimp only at ex z
   have d1:inP (max x.2.1.1 l.2.1.1) x.2.1.1 x.2.1.2=true:=by simp[inP]; omega
   have d2:inP (max x.2.1.1 l.2.1.1) l.2.1.1 l.2.1.2=true:=by simp[inP]; omega
   rw[<-h.loan j t d1,<-h.loan j r d2] at ex;exact e4 x d (h.inj j ex) z
  ·obtain⟨u,F,rfl⟩:=List.mem_map.1 q;dsimp only at M ⊢
   cases hd:inP u.2 l.2.1.1 l.2.1.2 with
   |false=>rfl
   |true =>
    rw[<-h.loan j r hd] at M;have:=e5 u F (h.inj j M);rw[hd] at this; cases this
 ·intro i c' K
  obtain⟨c,Q,rfl⟩:∃c,m.1.2.2.2.2.1[i]?=some c/\ahY m w c=c':=by
   have:(m.1.2.2.2.2.1.map (ahY m w))[i]?=some c':=K;rw[eZ] at this
   cases d:m.1.2.2.2.2.1[i]? with
   |none=>rw[d] at this; cases this
   |some l=>rw[d] at this; exact⟨l,rfl,by simpa using this⟩
  have s:=dk Q;obtain⟨n1,V,U,n4,T,n6,S⟩:=(Ų c).1 (a.nums s);have v:=(Vg a.ids).1 (a.pilesOf s);have J:∀x∈c.2.2.1++c.2.2.2.1,∃g,ì m.1 x=some g/\g.2.1<=c.2.1:=fun x d=>(v.1 x d).1;have A:J3 (ahY m w c)=true:=(Ų _).2 ⟨n1,V,U,n4,T,ae7 h j n6 fun x d=>J x (dW _ d),ae7 h j S fun x d=>J x (dT _ d)⟩;have E:=(ajA h j c.2.1 c.2.2.1 c.2.2.2.1).length_eq;have D:=(ajA h j c.2.1 c.2.2.2.1 c.2.2.1).length_eq;rw[dL] at E D
  have G:vA (trP m w) (ŕ (trP m w)) (ahY m w c)=0:=by
   refine(Vg f).2 ⟨fun y p=>?_,?_,?_,?_⟩
   ·have p:y∈ny m w c.2.1 c.2.2.1++ny m w c.2.1 c.2.2.2.1:=p
    obtain⟨x,d,rfl⟩:∃x∈c.2.2.1++c.2.2.2.1,Ν m.2 w x c.2.1=y:=by
     rcases dl.1 p with p|p
     ·obtain⟨x,d,e⟩:=zF.1 p;exact⟨x,dW _ d,e⟩
     ·obtain⟨x,d,e⟩:=zF.1 p;exact⟨x,dT _ d,e⟩
    exact⟨h.whoG j (J x d),an9 h j (v.1 x d).2⟩
   ·show(Þ (ny m w c.2.1 c.2.2.1) (ny m w c.2.1 c.2.2.2.1)).length<=1;rw[E]; exact v.2.1
   ·show(Þ (ny m w c.2.1 c.2.2.2.1) (ny m w c.2.1 c.2.2.1)).length<=1;rw[D]; exact v.2.2.1
   ·show(Þ (ny m w c.2.1 c.2.2.1) (ny m w c.2.1 c.2.2.2.1)).length+(Þ (ny m w c.2.1 c.2.2.2.1) (ny m w c.2.1 c.2.2.1)).length≠0;rw[E,D]; exact v.2.2.2
  have h0:=a.compares i c Q;unfold lM at h0 ⊢;rw[a.nums s] at h0;rw[A,G]
  have W:((trP m w).2.2.2.2.1.take i).any (fun x=>x.1==(ahY m w c).1)=(m.1.2.2.2.2.1.take i).any fun x=>x.1==c.1:=by
   show((m.1.2.2.2.2.1.map (ahY m w)).take i).any _=_;rw[<-List.map_take,List.any_map]; rfl
  rw[W];simp only[dV,dz,if_false] at h0 ⊢
  split at h0
  ·cases h0
  ·rename_i h1; rw[if_neg h1]
 ·intro n' H;obtain⟨n,Y,rfl⟩:=dF.1 H;obtain⟨C,B⟩:=(Gq a.ids).1 (a.looks n Y);exact(Gq f).2 ⟨C,h.whoG j B⟩
end
section
variable {L:Do Lk} {N:Nat}
def Z1 (h:kB L N):ou ((N:Int),L)=some (mq L N,0):=by
 have h2:=h.n60;unfold ou vf;rw[mZ h,À];dsimp only;rw[Í (by rfl),xi h.links h.n1 (by omega),À]
 cases mq L N<;>rfl
end
def aeF (x y:Do Int):Do Int×Do Int×Int:=if !uT x then([],[],1) else if !uT y then([],[],1) else(Þ x y,Þ y x,0)
def alD {x y:Do Int} (d:x.length<=100000) (a:y.length<=100000):qR x y=some (aeF x y):=by
 unfold qR Lc aeF;rw[IL (by omega),À]
 cases uT x with
 |false=>rfl
 |true =>
  rw[IL (by omega),À]
  cases uT y with
  |false=>rfl
  |true =>
   rw[Bv (by omega) (by omega),À,Bv (by omega) (by omega),À];rfl
def less (b:ö) (ids:Do Int):ö:=(b.1,b.2.1,b.2.2.1,b.2.2.2.1,b.2.2.2.2.1.filter (fun c=>!ids.contains c.1),b.2.2.2.2.2)
section
variable {b:ö} {ids:Do Int}
def Ŭ.distinct (h:Ŭ b):b.2.2.2.2.1.Pairwise fun a c=>a.1≠c.1:=by
 rw[List.pairwise_iff_getElem];intro i j hi f g k;have e:=h.compares j _ (List.getElem?_eq_getElem f);unfold lM at e
 have d:(b.2.2.2.2.1.take j).any (fun x=>x.1==b.2.2.2.2.1[j].1)=true:=by
  rw[dD];exact⟨b.2.2.2.2.1[i],dv.2 ⟨i,by rw[dt]; omega,by rw[fi]⟩,by simp[k]⟩
 rw[d] at e
 (repeat' split at e)<;>first|omega|simp_all
def ajR {α β:Type} (f g:α->Do β):∀l:Do α,(∀a∈l,(f a).length<=(g a).length)->(l.flatMap f).length<=(l.flatMap g).length
 |[],_=>dh _
 |a::l,h=>by
  rw[dH,dH,di,di];have:=h a (by simp);have:=ajR f g l fun c d=>h c (by simp[d]);omega
def lt_len:∀{x y:Do Int},x.Pairwise (·<·)->(∀a∈x,a∈y)->x.length<=y.length:=by
 intro x y d h;exact(fQ (d.imp fun h=>by omega) h)
def Ŭ.less (h:Ŭ b) (ids:Do Int):Ŭ (less b ids):=by
 have l:∀c∈(ZzM.less b ids).2.2.2.2.1,c∈b.2.2.2.2.1:=fun c o=>(d8.1 o).1;have p:(ZzM.less b ids).2.2.2.2.1.length<=b.2.2.2.2.1.length:=eI _ _
 have n:∀g,(Ý (ZzM.less b ids) g).length<=(Ý b g).length:=fun g=>lt_len (su _ g) fun d hd=>by
  rcases ż.1 hd with e|⟨c,o,y,h2⟩|B
  ·exact ż.2 (.inl e)
  ·exact ż.2 (.inr (.inl ⟨c,l c o,y,h2⟩))
  ·exact ż.2 (.inr (.inr B))
 have f:(Ø (ZzM.less b ids)).length<=(Ø b).length:=ajR _ _ _ fun g _=>by rw[dL,dL]; exact n g
 have F:=h.nodes;have G:=h.nC;refine⟨h.film,h.nG,h.nU,h.nL,Nat.le_trans p h.nC,h.nK,h.gauge,h.ids,h.uses,h.loans,fun i c o=>?_,h.looks,Nat.le_trans f F,by omega⟩;have v:=l c (List.mem_of_getElem? o);obtain⟨j,D,t⟩:=List.mem_iff_getElem.1 v;have s:=h.compares j c (by rw[List.getElem?_eq_getElem D,t]);unfold lM at s ⊢
 split at s
 ·omega
 rename_i y
 split at s
 ·omega
 rw[if_neg y,if_neg ?_]
 ·exact s
 ·intro r;obtain⟨x,A,E⟩:=dD.1 r;obtain⟨k,C,q⟩:=dv.1 A;rw[dt] at C;rw[fi] at q;obtain⟨hi,u⟩:=dj.1 o;have z:=dP.1 ((h.distinct.sublist gR:(ZzM.less b ids).2.2.2.2.1.Pairwise fun a c=>a.1≠c.1)) k i (by omega) hi (by omega);rw[q,u] at z;exact z (eq_of_beq E)
end
abbrev zC:Cmp:=((0:Int),(0:Int),[],[],(0:Int),(0:Int),(0:Int),(0:Int))
section
variable {ρ α:Type}
def aj7 (a:α) (K:Do α->CK ρ) (z:Int×Do α):CK ρ :=
 à ((ile (0:Int) z.1)&&(ile z.1 (ï z.2))) (à ((ile (0:Int) z.1)&&(ile z.1 (ï (List.take (Int.toNat z.1) z.2++List.replicate (List.length z.2-(Int.toNat z.1)) a++List.drop ((Int.toNat z.1)+(List.length z.2-(Int.toNat z.1))) z.2))))
  (K (List.take (Int.toNat z.1) (List.drop 0 (List.take (Int.toNat z.1) z.2++List.replicate (List.length z.2-(Int.toNat z.1)) a++List.drop ((Int.toNat z.1)+(List.length z.2-(Int.toNat z.1))) z.2)))))
def aef (a:α) (K:Do α->CK ρ) {i:Nat} {s:Do α} (h:i<=s.length):aj7 a K ((i:Int),s)=K (s.take i):=by
 unfold aj7
 have e:((ile (0:Int) (i:Int))&&(ile (i:Int) (ï s)))=true:=by simp[ile,ï]; omega
 dsimp only;rw[ä e]
 have d:((ile (0:Int) (i:Int))&&(ile (i:Int) (ï (List.take (Int.toNat (i:Int)) s++List.replicate (List.length s-(Int.toNat (i:Int))) a++List.drop ((Int.toNat (i:Int))+(List.length s-(Int.toNat (i:Int)))) s))))=true:=by
  simp[ile,ï]; omega
 rw[ä d,du,ij,dp,fT (by simp; omega),List.take_take,Nat.min_self]
def ahi (p:α->Bool) {a:Do α} {F:Int->Int->Do α->(Int->Int->Do α->CK ρ)->CK ρ} {k0:Int×Do α->CK ρ} {K:Do α->CK ρ}
 (J:∀(i j:Nat) (s:Do α) (x:α),s.length=a.length->i<j->j<s.length->s[j]?=some x->x∈a->∀d,F i j s d=if p x then d ((i:Int)+1) ((j:Int)+1) (s.set i x) else d i ((j:Int)+1) s)
 (M:∀(i:Nat) (s:Do α) d,i<=s.length->s.length=a.length->F i s.length s d=k0 ((i:Int),s)) (G:∀(i:Nat) (s:Do α),i<=s.length->k0 ((i:Int),s)=K (s.take i))
 {z:Nat} (D:z<a.length) (E:∀x∈a.take z,p x=true) (I:∀c,a[z]?=some c->p c=false) :
 Ë (fun(v:Int×Int×Do α) C=>F v.1 v.2.1 v.2.2 (fun x y w=>C (x,y,w))) ((z:Int),((z:Int)+1),a)=K (a.filter p):=by
 refine õ (fun x:Int×Int×Do α=>∃i j:Nat,x.1=i/\x.2.1=j/\i<j/\j<=a.length/\x.2.2.length=a.length/\x.2.2.take i=(a.take j).filter p/\x.2.2.drop j=a.drop j) (fun x=>a.length-x.2.1.toNat) ?_
  ⟨z,z+1,rfl,by simp,by omega,by omega,rfl,?_,rfl⟩
 ·rintro⟨P,O,s⟩ ⟨i,j,B,h2,t,H,g,l,hd⟩;simp only at B h2 g l hd;subst B h2;rcases dw j a.length with n|n
  ·refine .inr ?_
   have o:s[j]?=some a[j]:=by
    have A:(s.drop j)[0]?=(a.drop j)[0]?:=by rw[hd]
    rw[eW,eW] at A;simpa[df n] using A
   have f:(a.take (j+1)).filter p=(a.take j).filter p++if p a[j] then[a[j]] else[]:=by
    rw[take_succ (df n),fg];congr 1
    cases h:p a[j]<;>simp[h]
   have k:s.drop (j+1)=a.drop (j+1):=by
    have:=congrArg (List.drop 1) hd;simpa[gi,Nat.add_comm] using this
   have u:=J i j s a[j] g t (by omega) o (fI n)
   cases h:p a[j] with
   |false =>
    refine⟨(i,(j:Int)+1,s),⟨i,j+1,rfl,by simp,by omega,by omega,g,?_,k⟩,by simp; omega,fun d=>by dsimp only; rw[u,h]; rfl⟩;rw[f,h]; simpa using l
   |true =>
    have r:i<s.length:=by omega
    refine⟨((i:Int)+1,(j:Int)+1,s.set i a[j]),⟨i+1,j+1,by simp,by simp,by omega,by omega,by simpa using g,?_,?_⟩,by simp; omega,fun d=>by dsimp only; rw[u,h]; rfl⟩
    ·show List.take (i+1) (s.set i a[j])=_;rw[f,h,List.take_add_one,il,List.take_set_of_le (dh i),l];simp[r]
    ·show List.drop (j+1) (s.set i a[j])=_;rw[List.drop_set_of_lt (by omega)];exact k
  ·refine .inl fun d=>?_
   have q:j=s.length:=by omega
   try dsimp only
   rw[q,M i s _ (by omega) g,G i s (by omega),l,eD (by omega)]
 ·show List.take z a=(a.take (z+1)).filter p;have e:a[z]?=some a[z]:=df D;rw[take_succ e,fg,gS.2 E];simp[I _ e]
def aee (p:α->Bool) {a:Do α} {o:Int->(Int->CK ρ)->CK ρ} {F:Int->Int->Do α->(Int->Int->Do α->CK ρ)->CK ρ} {k0:Int×Do α->CK ρ} {K:Do α->CK ρ} {kf:Int->CK ρ} {kend:CK ρ}
 (D:∀(i:Nat) (x:α),i<a.length->a[i]?=some x->∀d,o i d=if !p x then kf i else d ((i:Int)+1)) (n:∀d,o a.length d=kend) (e:kend=K a)
 (k:∀z:Nat,z<a.length->kf z=Ë (fun(v:Int×Int×Do α) t=>F v.1 v.2.1 v.2.2 (fun x y w=>t (x,y,w))) ((z:Int),((z:Int)+1),a))
 (B:∀(i j:Nat) (s:Do α) (x:α),s.length=a.length->i<j->j<s.length->s[j]?=some x->x∈a->∀d,F i j s d=if p x then d ((i:Int)+1) ((j:Int)+1) (s.set i x) else d i ((j:Int)+1) s)
 (C:∀(i:Nat) (s:Do α) d,i<=s.length->s.length=a.length->F i s.length s d=k0 ((i:Int),s)) (u:∀(i:Nat) (s:Do α),i<=s.length->k0 ((i:Int),s)=K (s.take i)):Ë o 0=K (a.filter p):=by
 rw[iQ a (fun x=>!p x) kf kend D n]
 cases q:a.findIdx? (fun x=>!p x) with
 |none =>
  dsimp only;rw[e,List.filter_eq_self.2];intro x g;have:=List.findIdx?_eq_none_iff.1 q x g;simpa using this
 |some z =>
  obtain⟨f,l,h⟩:=List.findIdx?_eq_some_iff_getElem.1 q;dsimp only;rw[k z f];refine ahi p B C u f (fun x g=>?_) (fun c r=>?_)
  ·obtain⟨j,A,rfl⟩:=dv.1 g;rw[dt] at A;rw[fi];have:=h j (by omega);simpa using this
  ·rw[df f] at r;cases r;simpa using l
end
def pI (m:Ļ) (w:Way):Bool:=mq (jF (trP m w)) ((Ø (trP m w)).length+1)
def vp (m:Ļ):Do Way:=(ň m.2).filter (pI m)
def Ws (m:Ļ):Way×Bool:=match (ň m.2).find? (pI m) with|some w=>(w,true)|none=>([],false)
section
variable {m:Ļ} {w:Way} {ρ:Type}
def In_tr (h:MOk m) (a:ī m.2 w):In (trP m w):=⟨(xf h a).size,h.in_.num⟩
def SY (h:MOk m) (a:ī m.2 w):jw (trP m w)=some ((((Ø (trP m w)).length:Int)+1,jF (trP m w)),NP (trP m w),0):=by
 rw[acQ (In_tr h a),ZZ,if_neg (by simp[(Μ _).2 (xf h a)])]
def yG (h:MOk m) (a:ī m.2 w):Ω m w=some (pI m w):=by
 unfold Ω Aj;rw[oy h a,À,SY h a,À];have:=Z1 (xf h a).sys;simp only[Int.natCast_add,Int.cast_ofNat_Int] at this;rw[this]; rfl
def uS {i:Nat} (hi:(ň m.2)[i]?=some w):ī m.2 w:=vt.1 (dk hi)
def sQ (h:MOk m):(ň m.2).length<=150:=by rw[aic]; exact h.prod
def ajM (h:MOk m):I6 m=some (vp m):=by
 unfold I6 XL;have G:=Oj h;have C:=sQ h;have t:((((m.1.1.1,m.1.1.2),m.1.2.1,m.1.2.2.1,m.1.2.2.2.1,m.1.2.2.2.2.1,m.1.2.2.2.2.2),m.2):Ļ)=m:=rfl;rw[akg h,À,N6 (fun v y e E=>by unfold Fq; rw[ä (Ò (by simp; omega))]) (by simp; omega),List.nil_append,aaj h,À]
 refine aee (a:=ň m.2) (pI m) (K:=fun l=>some l) (k0:=aj7 [] fun l=>some l) (kf:=fun n=>ifb (ieq n (-1:Int)) (some (ň m.2)) (ck (n+(1:Int)) fun u=>Ë (fun(d:Int×Int×Do Way) f=>nF m.1.1.1 m.1.1.2 m.1.2.1 m.1.2.2.1 m.1.2.2.2.1 m.1.2.2.2.2.1 m.1.2.2.2.2.2 m.2 d.1 d.2.1 d.2.2 (fun q p o=>f (q,p,o)) (aj7 [] fun l=>some l)) (n,u,ň m.2)))
  (F:=fun a b c e=>nF m.1.1.1 m.1.1.2 m.1.2.1 m.1.2.2.1 m.1.2.2.2.1 m.1.2.2.2.2.1 m.1.2.2.2.2.2 m.2 a b c e (aj7 [] fun l=>some l)) (kend:=some (ň m.2)) (fun i x hi g e=>?_) (fun e=>?_) rfl (fun z A=>?_) (fun i j s x B D k g r e=>?_) (fun i s e hi B=>?_) (fun i s hi=>aef _ _ hi)
 ·try dsimp only
  unfold xw;rw[Ì hi,ř hi,ā g,t,yG h (uS g),À,É hi (by omega),ó];rfl
 ·try dsimp only
  unfold xw;rw[Ó]
 ·rw[Í (by simp[ieq]),É A (by omega)]
 ·try dsimp only
  unfold nF;rw[Ì k,show ï s=((s.length:Nat):Int) from rfl,ř k,ā g,t,yG h (vt.1 r),À];cases pI m x
  ·simp only[fA,dV,é,dz,if_false];rw[É k (by omega)]
  ·simp only[fA,dV,ot,if_true];rw[ř (by omega),ā (df (by omega)),É (show i<s.length by omega) (by omega),É k (by omega),du]
 ·try dsimp only
  unfold nF;rw[Ó]
def uN (h:MOk m):ă m=some (Ws m):=by
 unfold ă xx;have g:=sQ h;have f:((((m.1.1.1,m.1.1.2),m.1.2.1,m.1.2.2.1,m.1.2.2.2.1,m.1.2.2.2.2.1,m.1.2.2.2.2.2),m.2):Ļ)=m:=rfl;rw[Ov h,À];refine Eq.trans (iP (ň m.2) (fun _ w=>if pI m w then some (w,true) else none) (fun z=>some (z.1,z.2)) (some ([],false)) (fun i x hi a d=>?_) (fun d=>?_)) ?_
 ·try dsimp only
  unfold lC;rw[Ì hi,Ä a,f,yG h (uS a),À,É hi (by omega),ó]
  cases pI m x<;>rfl
 ·try dsimp only
  unfold lC;rw[Ó]
 ·rw[Mv,Ws]
  have key:∀l:Do Way,l.findSome? (fun w=>if pI m w then some (w,true) else none)=(l.find? (pI m)).map fun w=>(w,true):=by
   intro l
   induction l with
   |nil=>rfl
   |cons x l e =>
    rw[gW,fP]
    cases h:pI m x with
    |true=>rfl
    |false=>exact e
  rw[key]
  cases(ň m.2).find? (pI m)<;>rfl
def pP (m:Ļ):Bool:=(ň m.2).any (pI m)
def yv (m:Ļ):(Ws m).2=pP m:=by
 unfold Ws pP
 cases h:(ň m.2).find? (pI m) with
 |none =>
  symm
  rw[ej]
  exact fun x a=>by simpa using(ew.1 h) x a
 |some w =>
  symm
  rw[dD];exact⟨w,fN h,fD h⟩
def All_ok (d:In m.1) (e:m.2.length<=1000):Zt m=some (if Ī m≠0 then([],Ī m) else(vp m,0)):=by
 unfold Zt adE;rw[ox d e,À]
 by_cases a:Ī m=0
 ·rw[Í (by simp[ine,a]),if_neg (by simp[a]),ajM ((Ń m).1 a)]; rfl
 ·rw[Ñ (by simp[ine,a]),if_pos a]
def adX (m:Ļ):Way×Int:=if Ī m≠0 then([],Ī m) else if pP m then((Ws m).1,0) else([],5)
def aly (d:In m.1) (e:m.2.length<=1000):Ja m=some (adX m):=by
 unfold Ja PN adX;rw[ox d e,À]
 by_cases a:Ī m=0
 ·rw[Í (by simp[ine,a]),if_neg (by simp[a]),uN ((Ń m).1 a),À,yv]
  cases pP m<;>rfl
 ·rw[Ñ (by simp[ine,a]),if_pos a]
def aoR (m:Ļ) (p:Cmp->Bool):Ļ:=((m.1.1,m.1.2.1,m.1.2.2.1,m.1.2.2.2.1,m.1.2.2.2.2.1.filter p,m.1.2.2.2.2.2),m.2)
def vH (m:Ļ) (ids:Do Int):Ļ:=aoR m fun c=>ids.contains c.1
def adr (A:m.1.2.2.2.2.1.length<=1000) {ids:Do Int} (hi:ids.length<=1000000):Cp m ids=some (vH m ids):=by
 unfold Cp XH;rw[ä (Ò (by omega))]
 refine aee (a:=m.1.2.2.2.2.1) (fun c=>ids.contains c.1) (K:=fun l=>some ((m.1.1,m.1.2.1,m.1.2.2.1,m.1.2.2.2.1,l,m.1.2.2.2.2.2),m.2)) (k0:=aj7 zC fun l=>some ((m.1.1,m.1.2.1,m.1.2.2.1,m.1.2.2.2.1,l,m.1.2.2.2.2.2),m.2))
  (kf:=fun k=>ifb (ieq k (-1:Int)) (some m) (ck (k+(1:Int)) fun r=>Ë (fun(d:Int×Int×Do Cmp) g=>nE ids d.1 d.2.1 d.2.2 (fun p o n=>g (p,o,n)) (aj7 zC fun l=>some ((m.1.1,m.1.2.1,m.1.2.2.1,m.1.2.2.2.1,l,m.1.2.2.2.2.2),m.2))) (k,r,m.1.2.2.2.2.1)))
  (F:=fun a b c f=>nE ids a b c f (aj7 zC fun l=>some ((m.1.1,m.1.2.1,m.1.2.2.1,m.1.2.2.2.1,l,m.1.2.2.2.2.2),m.2))) (kend:=some m) (fun i x e q f=>?_) (fun f=>?_) rfl (fun z t=>?_) (fun i j s x v y h q u f=>?_) (fun i s f hi v=>?_) (fun i s hi=>aef _ _ hi)
 ·try dsimp only
  unfold xv;rw[Ì e,ř e,ā q,ś hi,À,É e (by omega),ó];rfl
 ·try dsimp only
  unfold xv;rw[Ó]
 ·rw[Í (by simp[ieq]),É t (by omega)]
 ·try dsimp only
  unfold nE;rw[Ì h,show ï s=((s.length:Nat):Int) from rfl,ř h,ā q,ś hi,À];cases ids.contains x.1
  ·simp only[fA,dV,é,dz,if_false];rw[É h (by omega)]
  ·simp only[fA,dV,ot,if_true];rw[ř (by omega),ā (df (by omega)),É (show i<s.length by omega) (by omega),É h (by omega),du]
 ·try dsimp only
  unfold nE;rw[Ó]
end
section
variable {b:ö}
def NZ (h:Ŭ b) (g:æ) {f t u:Int} (d:f<=t) (h2:t<=u):jG b g f u=jG b g f t+jG b g t u:=by
 obtain⟨n,rfl⟩:∃n:Nat,u=t+n:=⟨(u-t).toNat,by omega⟩;clear h2
 induction n with
 |zero=>simp[Bs]
 |succ n a =>
  have e:t+((n+1:Nat):Int)=(t+n)+1:=by omega
  rw[e,Ry h g (show f<=t+(n:Int) by omega),Ry h g (show t<=t+(n:Int) by omega),a];omega
def F5 (h:Ŭ b) {g:æ} (a:g∈b.2.1) {f t:Int} (d:0<=f):0<=jG b g f t:=(lU h a d).1
def iX (b:ö) (id d:Int):Int:=match i9 (Ø b) id d with|some j=>(j:Int)+1|none=>0
def sZ (h:Ŭ b) {i:Nat} {g:æ} (e:b.2.1[i]?=some g) {k:Nat} {d:Int} (a:(Ý b g)[k]?=some d):iX b g.1 d=(off b i:Int)+k+1:=by
 unfold iX;rw[Xx h e a];simp only;omega
structure xd (b:ö) (p:Int->Int) (g:æ):Prop where
 hi:p (iX b g.1 g.2.1)<=p 0+(g.2.2.1+g.2.2.2.1.2)
 lo:p 0+(g.2.2.1+g.2.2.2.1.1)<=p (iX b g.1 g.2.1)
 down:∀d e,d∈Ý b g->e∈Ý b g->d<=e->p (iX b g.1 e)<=p (iX b g.1 d)
 loss:∀d e,d∈Ý b g->e∈Ý b g->d<=e->p (iX b g.1 d)<=p (iX b g.1 e)+jG b g d e
def IX (h:Ŭ b) {i:Nat} {g:æ} (j:b.2.1[i]?=some g) {p:Int->Int}:(∀l∈ċ b g,p l.2.1<=p l.1+l.2.2)↔xd b p g:=by
 have B:=dk j;obtain⟨O,z⟩:=Sl h B
 have h0:iX b g.1 g.2.1=(off b i:Int)+1:=by
  have:=sZ h j (k:=0) (d:=g.2.1) (by rw[z]; rfl);rw[this];omega
 constructor
 ·intro q;have M:=q _ ((Ľ h j).2 (.inl rfl));have K:=q _ ((Ľ h j).2 (.inr (.inl rfl)));simp only at M K
  have step:∀(k:Nat) (d e:Int),(Ý b g)[k]?=some d->(Ý b g)[k+1]?=some e->p (iX b g.1 e)<=p (iX b g.1 d)/\p (iX b g.1 d)<=p (iX b g.1 e)+jG b g d e:=by
   intro k d e hd a;have r:=q _ ((Ľ h j).2 (.inr (.inr ⟨k,d,e,hd,a,.inl rfl⟩)));have o:=q _ ((Ľ h j).2 (.inr (.inr ⟨k,d,e,hd,a,.inr rfl⟩)));simp only at r o;rw[sZ h j hd,sZ h j a]
   have v:(off b i:Int)+((k+1:Nat):Int)+1=(off b i:Int)+k+2:=by omega
   rw[v];exact⟨by omega,o⟩
  have pair:∀(n k:Nat) (d e:Int),(Ý b g)[k]?=some d->(Ý b g)[k+n]?=some e->p (iX b g.1 e)<=p (iX b g.1 d)/\p (iX b g.1 d)<=p (iX b g.1 e)+jG b g d e:=by
   intro n
   induction n with
   |zero =>
    intro k d e hd a;rw[gI,hd] at a;cases a;rw[Bs g (dY _)];omega
   |succ n I =>
    intro k d e hd a;have t:=(dj.1 a).1;have s:(Ý b g)[k+n]?=some ((Ý b g)[k+n]'(by omega)):=df (by omega);obtain⟨r,o⟩:=I k d _ hd s;obtain⟨a3,y⟩:=step (k+n) _ e s a
    have H:d<=(Ý b g)[k+n]'(by omega):=by
     obtain⟨A,u⟩:=dj.1 hd;rcases fM n with rfl|P
     ·rw[<-u]; exact Int.le_of_eq (by congr 1)
     ·have:=(dP.1 (su b g)) k (k+n) A (by omega) (by omega);rw[u] at this; omega
    have G:(Ý b g)[k+n]'(by omega)<=e:=by
     obtain⟨D,E⟩:=dj.1 a;have:=(dP.1 (su b g)) (k+n) (k+(n+1)) (by omega) D (by omega);rw[E] at this; omega
    have:=NZ h g H G;omega
  have any:∀d e,d∈Ý b g->e∈Ý b g->d<=e->p (iX b g.1 e)<=p (iX b g.1 d)/\p (iX b g.1 d)<=p (iX b g.1 e)+jG b g d e:=by
   intro d e hd a f;obtain⟨k,F,rfl⟩:=dv.1 hd;obtain⟨m,s,rfl⟩:=dv.1 a
   have J:k<=m:=by
    rcases dw m k with t|C
    ·have:=(dP.1 (su b g)) m k s F t; omega
    ·exact C
   exact pair (m-k) k _ _ (df F) (by rw[show k+(m-k)=m by omega]; exact df s)
  exact⟨by rw[h0]; omega,by rw[h0]; omega,fun d e hd a f=>(any d e hd a f).1,fun d e hd a f=>(any d e hd a f).2⟩
 ·intro x l q;rcases(Ľ h j).1 q with rfl|rfl|⟨k,d,e,hd,a,rfl|rfl⟩
  ·have:=x.hi; rw[h0] at this; simp only; omega
  ·have:=x.lo; rw[h0] at this; simp only; omega
  ·have f:d<=e:=by
    obtain⟨r,o⟩:=dj.1 hd;obtain⟨a3,y⟩:=dj.1 a;have:=(dP.1 (su b g)) k (k+1) r a3 (by omega);rw[o,y] at this; omega
   have:=x.down d e (dk hd) (dk a) f;rw[sZ h j hd,sZ h j a] at this
   have v:(off b i:Int)+((k+1:Nat):Int)+1=(off b i:Int)+k+2:=by omega
   rw[v] at this;simp only;omega
  ·have f:d<=e:=by
    obtain⟨r,o⟩:=dj.1 hd;obtain⟨a3,y⟩:=dj.1 a;have:=(dP.1 (su b g)) k (k+1) r a3 (by omega);rw[o,y] at this; omega
   have:=x.loss d e (dk hd) (dk a) f;rw[sZ h j hd,sZ h j a] at this
   have v:(off b i:Int)+((k+1:Nat):Int)+1=(off b i:Int)+k+2:=by omega
   rw[v] at this;simp only;exact this
def aiM (h:Ŭ b) {p:Int->Int}:Pot (jF b) p↔(∀g∈b.2.1,xd b p g)/\∀c∈b.2.2.2.2.1,p (cx b c)<=p (cy b c)+(xn b c).2/\p (cy b c)+(xn b c).1<=p (cx b c):=by
 constructor
 ·intro f;refine⟨fun g j=>?_,fun c e=>?_⟩
  ·obtain⟨i,hi,rfl⟩:=dv.1 j;exact(IX h (df hi)).1 fun l a=>f l.1 l.2.1 l.2.2 (qN.2 (.inl ⟨i,_,df hi,a⟩))
  ·have n:=f _ _ _ (qN.2 (.inr ⟨c,e,.inl rfl⟩));have o:=f _ _ _ (qN.2 (.inr ⟨c,e,.inr rfl⟩));omega
 ·rintro⟨j,e⟩ u v m a;rcases qN.1 a with⟨i,g,d,a⟩|⟨c,k,a⟩
  ·exact(IX h d).2 (j g (dk d)) (u,v,m) a
  ·obtain⟨n,o⟩:=e c k;rcases a with a|a
   ·obtain⟨rfl,rfl,rfl⟩:u=cy b c/\v=cx b c/\m=(xn b c).2:=by simpa using a
    exact n
   ·obtain⟨rfl,rfl,rfl⟩:u=cx b c/\v=cy b c/\m = -(xn b c).1:=by simpa using a
    omega
end
def anM:Do Int->Int
 |[]=>0
 |[a]=>a
 |a::b::t=>max a (anM (b::t))
def abh:∀{l:Do Int},l≠[]->(∀a∈l,a<=anM l)/\anM l∈l
 |[],h=>absurd rfl h
 |[a],_=>⟨fun x d=>by rw[dq] at d; rw[d]; exact dY _,by simp[anM]⟩
 |a::b::t,_=>by
  obtain⟨f,h2⟩:=abh (l:=b::t) (by simp);have e:anM (a::b::t)=max a (anM (b::t)):=rfl;rw[e];constructor
  ·intro x d;rcases dm.1 d with rfl|d
   ·omega
   ·have:=f x d; omega
  ·rcases Int.le_total a (anM (b::t)) with h|h
   ·rw[Int.max_eq_right h]; exact dS _ h2
   ·rw[Int.max_eq_left h]; exact List.mem_cons_self
section
variable {b:ö}
def aiK (b:ö) (f:Int->Int->Int) (z:Int) (v:Int):Int:=if v=0 then z else match (Ø b)[(v-1).toNat]? with|some n=>f n.1 n.2|none=>0
def OT (f:Int->Int->Int) (z:Int):aiK b f z 0=z:=by unfold aiK; rw[if_pos rfl]
def aax (h:Ŭ b) (f:Int->Int->Int) (z:Int) {g:æ} (n:g∈b.2.1) {d:Int} (hd:d∈Ý b g):aiK b f z (iX b g.1 d)=f g.1 d:=by
 obtain⟨i,hi,rfl⟩:=List.mem_iff_getElem.1 n;obtain⟨k,l,rfl⟩:=List.mem_iff_getElem.1 hd;have a:=List.getElem?_eq_getElem hi;have j:=List.getElem?_eq_getElem l;rw[sZ h a j];unfold aiK
 have e:((off b i:Int)+k+1-1).toNat=off b i+k:=by omega
 rw[if_neg (by omega),e,NU a j]
def acF (b:ö) (l:Do Int) (d:Int):Int:=match l with|[]=>0|x::_=>iX b x d
def agf (l:Do Int) (d:Int):atP (Ø b) l d=acF b l d:=by
 unfold atP acF iX
 cases l<;>rfl
def aka (c:Cmp):cx b c=acF b (Þ c.2.2.1 c.2.2.2.1) c.2.1:=agf _ _
def aj9 (c:Cmp):cy b c=acF b (Þ c.2.2.2.1 c.2.2.1) c.2.1:=agf _ _
def afC (h:Ŭ b) {c:Cmp} (l:c∈b.2.2.2.2.1) {x:Int} (f:x∈Þ c.2.2.1 c.2.2.2.1\/x∈Þ c.2.2.2.1 c.2.2.1):∃g∈b.2.1,g.1=x/\c.2.1∈Ý b g:=by
 have d:(x∈c.2.2.1/\x∉c.2.2.2.1)\/(x∈c.2.2.2.1/\x∉c.2.2.1):=by
  rcases f with f|f
  ·exact .inl (kT.1 f)
  ·exact .inr (kT.1 f)
 have n:x∈c.2.2.1++c.2.2.2.1:=by rw[dl]; exact d.imp (·.1) (·.1)
 obtain⟨⟨g,o,_⟩,_⟩:=h.pile l n;obtain⟨j,i⟩:=Φ o;refine⟨g,j,i,ż.2 (.inr (.inl ⟨c,l,?_,rfl⟩))⟩;rw[i];intro k;rw[eP,dZ,dZ] at k;rcases d with⟨a,e⟩|⟨a,e⟩
 ·exact e (k.1 a)
 ·exact e (k.2 a)
def fill (b:ö) (p:Int->Int) (g:æ) (d:Int):Int:=anM ((Ý b g).map fun e=>if d<=e then p (iX b g.1 e) else p (iX b g.1 e)-jG b g e d)
def RZ {p:Int->Int} {g:æ} (d:Int):(∀e∈Ý b g,(if d<=e then p (iX b g.1 e) else p (iX b g.1 e)-jG b g e d)<=fill b p g d)/\∃e∈Ý b g,fill b p g d=if d<=e then p (iX b g.1 e) else p (iX b g.1 e)-jG b g e d:=by
 have a:((Ý b g).map fun e=>if d<=e then p (iX b g.1 e) else p (iX b g.1 e)-jG b g e d)≠[]:=by
  intro h;have:=List.map_eq_nil_iff.1 h;have h2:=ow (b:=b) g;rw[this] at h2;cases h2
 obtain⟨j,h2⟩:=abh a;refine⟨fun e f=>j _ (dF.2 ⟨e,f,rfl⟩),?_⟩;obtain⟨e,f,i⟩:=dF.1 h2;exact⟨e,f,i.symm⟩
def afS (h:Ŭ b) {p:Int->Int} {g:æ} (l:g∈b.2.1) (f:xd b p g) {d:Int} (hd:d∈Ý b g):fill b p g d=p (iX b g.1 d):=by
 obtain⟨k,e,i,h2⟩:=RZ (b:=b) (p:=p) (g:=g) d;have j:=k d hd;rw[if_pos (dY _)] at j
 have n:fill b p g d<=p (iX b g.1 d):=by
  rw[h2]
  split
  ·rename_i a;exact f.down d e hd i a
  ·rename_i a;have:=f.loss e d i hd (by omega);omega
 omega
def acn (h:Ŭ b) {p:Int->Int} {g:æ} (a:g∈b.2.1) (C:xd b p g) {d e:Int} (h0:g.2.1<=d) (j:d<=e):fill b p g e<=fill b p g d/\fill b p g d<=fill b p g e+jG b g d e:=by
 obtain⟨z,x,n,v⟩:=RZ (b:=b) (p:=p) (g:=g) d;obtain⟨s,y,l,r⟩:=RZ (b:=b) (p:=p) (g:=g) e;have A:=(h.gaugeR a).2.2.2.2.1;have B:=F5 h a (f:=d) (t:=e) (by omega);have D:=h.day a n;have o:=h.day a l;constructor
 ·have q:=z y l;rw[r]
  by_cases i:e<=y
  ·rw[if_pos i];rw[if_pos (by omega)] at q;exact q
  ·rw[if_neg i]
   by_cases k:d<=y
   ·rw[if_pos k] at q;have:=F5 h a (f:=y) (t:=e) o.2.1;omega
   ·rw[if_neg k] at q;have:=NZ h g (f:=y) (t:=d) (u:=e) (by omega) j;omega
 ·have q:=s x n;rw[v]
  by_cases i:d<=x
  ·rw[if_pos i]
   by_cases k:e<=x
   ·rw[if_pos k] at q;omega
   ·rw[if_neg k] at q;have:=NZ h g (f:=d) (t:=x) (u:=e) i (by omega);have:=F5 h a (f:=d) (t:=x) (by omega);omega
  ·rw[if_neg i];rw[if_neg (by omega)] at q;have:=NZ h g (f:=x) (t:=d) (u:=e) (by omega) j;omega
end
section
variable {b:ö} {c:Cmp}
def ahN {a:ö} (h':Ŭ a) {l:Do Int} {day:Int} (f:Int->Int->Int) (z:Int) (d:∀x∈l,∃g∈a.2.1,g.1=x/\day∈Ý a g):aiK a f z (acF a l day)=match l with|[]=>z|x::_=>f x day:=by
 unfold acF
 cases l with
 |nil=>exact OT f z
 |cons x t =>
  obtain⟨g,e,rfl,hd⟩:=d x (by simp);exact aax h' f z e hd
end
section
variable {L:Do Lk} {N:Nat}
def Wl.app {u v:Int} {vs:Do Int} {d:Int} (i:Wl L (fun x=>x=u) vs v d) {a:Do Int} {w e:Int} (h2:Wl L (fun x=>x=v) a w e):∃xs,Wl L (fun x=>x=u) xs w (d+e):=by
 induction h2 with
 |nil h=>subst h; exact⟨vs,by rw[gL]; exact i⟩
 |step j g f =>
  obtain⟨xs,hi⟩:=f;have:=Wl.step hi g;rw[Int.add_assoc] at this;exact⟨_,this⟩
def dst (L:Do Lk) (N:Nat) (s t:Int):Int:=gv (BO L N s) t
def aj3 (h:kB L N) (g:aeB L N) (n:mq L N=true) {s t:Int} (a:0<=s/\s<N) (f:0<=t/\t<N):dst L N s t<=9007199254740992:=by
 have h2:=h.n60;obtain⟨p,l⟩:=(mo h.links (by omega)).1 n;obtain⟨vs,d,k,hd⟩:=g.from' s a.1 a.2;obtain⟨o,e,j,q⟩:=g.to t f.1 f.2;obtain⟨xs,i⟩:=Wl.app k j;have:=(Gf h.links (by omega) l a).low t xs _ (anJ.2 i);unfold dst;omega
def dst_ne (h:kB L N) (d:aeB L N) (f:mq L N=true) {s t:Int} (e:0<=s/\s<N) (a:0<=t/\t<N):dst L N s t≠Š:=by
 have:=aj3 h d f e a;unfold Š;omega
def aj2 (h:kB L N) (j:aeB L N) (k:mq L N=true) {s t:Int} (d:0<=s/\s<N) (a:0<=t/\t<N) {p:Int->Int} (e:Pot L p):p t-p s<=dst L N s t:=by
 have h2:=h.n60;obtain⟨vs,g⟩:=(Gf h.links (by omega) e d).att t a.1 a.2 (dst_ne h j k d a);obtain⟨u,i,f⟩:=(anJ.1 g).pot e;subst i;exact f
def aj1 (h:kB L N) (f:aeB L N) (a:mq L N=true) {x y:Int} (e:0<=x/\x<N) (d:0<=y/\y<N) : -(dst L N x y)<=dst L N y x:=by
 have h2:=h.n60;obtain⟨p,g⟩:=(mo h.links (by omega)).1 a;have j:=aj2 h f a e d g;have i:=aj2 h f a d e g;omega
def dst_bd (h:kB L N) (d:aeB L N) (f:mq L N=true) {s t:Int} (e:0<=s/\s<N) (a:0<=t/\t<N) : -9007199254740992<=dst L N s t/\dst L N s t<=9007199254740992:=by
 have i:=aj3 h d f e a;have g:=aj3 h d f a e;have a3:=aj1 h d f a e;omega
end
def aix (f:Int->Int->Int) (z:Int) (l:Do Int) (d:Int):Int:=match l with|[]=>z|x::_=>f x d
def ahh (f:Int->Int->Int) (z:Int) (c:Cmp):Int:=aix f z (Þ c.2.2.1 c.2.2.2.1) c.2.1-aix f z (Þ c.2.2.2.1 c.2.2.1) c.2.1
structure apj (b:ö) (f:Int->Int->Int) (z:Int) (g:æ):Prop where
 hi:f g.1 g.2.1<=z+(g.2.2.1+g.2.2.2.1.2)
 lo:z+(g.2.2.1+g.2.2.2.1.1)<=f g.1 g.2.1
 down:∀d e,g.2.1<=d->d<=e->f g.1 e<=f g.1 d
 loss:∀d e,g.2.1<=d->d<=e->f g.1 d<=f g.1 e+jG b g d e
structure Hist (b:ö) (f:Int->Int->Int) (z:Int):Prop where
 gauge:∀g∈b.2.1,apj b f z g
 cmp:∀c∈b.2.2.2.2.1,(xn b c).1<=ahh f z c/\ahh f z c<=(xn b c).2
def ajW {b:ö} (h:Ŭ b) {p:Int->Int} (l:∀g∈b.2.1,xd b p g):∃f:Int->Int->Int,(∀g∈b.2.1,apj b f (p 0) g)/\∀g∈b.2.1,∀d∈Ý b g,f g.1 d=p (iX b g.1 d):=by
 let f:Int->Int->Int:=fun id d=>match ì b id with|some g=>fill b p g d|none=>0
 have i:∀g∈b.2.1,∀d,f g.1 d=fill b p g d:=fun g a d=>by
  show(match ì b g.1 with|some g=>fill b p g d|none=>0)=_;rw[sf h.ids a]
 refine⟨f,fun g a=>?_,fun g a d hd=>by rw[i g a]; exact afS h a (l g a) hd⟩;have k:=l g a
 have n:f g.1 g.2.1=p (iX b g.1 g.2.1):=by rw[i g a]; exact afS h a k (ow g)
 refine⟨by rw[n]; exact k.hi,by rw[n]; exact k.lo,fun d e h0 j=>?_,fun d e h0 j=>?_⟩
 ·rw[i g a,i g a];exact(acn h a k h0 j).1
 ·rw[i g a,i g a];exact(acn h a k h0 j).2
def aam {b:ö} {f:Int->Int->Int} {p:Int->Int} (h:∀g∈b.2.1,∀d∈Ý b g,f g.1 d=p (iX b g.1 d)) {l:Do Int} {day:Int} (i:∀x∈l,∃g∈b.2.1,g.1=x/\day∈Ý b g):p (acF b l day)=aix f (p 0) l day:=by
 cases l with
 |nil=>rfl
 |cons x t =>
  obtain⟨g,e,rfl,a⟩:=i x (by simp);exact(h g e day a).symm
def aj6 {b:ö} {f:Int->Int->Int} {p:Int->Int} (e:∀g∈b.2.1,∀d∈Ý b g,f g.1 d=p (iX b g.1 d)) {c:Cmp}
 (h:∀x,x∈Þ c.2.2.1 c.2.2.2.1\/x∈Þ c.2.2.2.1 c.2.2.1->∃g∈b.2.1,g.1=x/\c.2.1∈Ý b g):p (cx b c)-p (cy b c)=ahh f (p 0) c:=by
 unfold ahh;rw[aka,aj9,aam e (fun x a=>h x (.inl a)),aam e (fun x a=>h x (.inr a))]
def Vf {b:ö} (h:Ŭ b) (f:Int->Int->Int) (z:Int) {l:Do Int} {day:Int} (a:∀x∈l,∃g∈b.2.1,g.1=x/\day∈Ý b g):aiK b f z (acF b l day)=aix f z l day:=by
 rw[ahN h f z a];unfold aix
 cases l<;>rfl
def aiJ {b:ö} (h:Ŭ b) {f:Int->Int->Int} {z:Int} {c:Cmp} (d:∀x,x∈Þ c.2.2.1 c.2.2.2.1\/x∈Þ c.2.2.2.1 c.2.2.1->∃g∈b.2.1,g.1=x/\c.2.1∈Ý b g):aiK b f z (cx b c)-aiK b f z (cy b c)=ahh f z c:=by
 unfold ahh;rw[aka,aj9,Vf h f z (fun x a=>d x (.inl a)),Vf h f z (fun x a=>d x (.inr a))]
def agM {b:ö} (h:Ŭ b) {f:Int->Int->Int} {z:Int} {g:æ} (j:g∈b.2.1) (i:apj b f z g):xd b (aiK b f z) g:=by
 have q:∀d∈Ý b g,aiK b f z (iX b g.1 d)=f g.1 d:=fun d hd=>aax h f z j hd;have l:=q g.2.1 (ow g);refine⟨?_,?_,fun d e hd k a=>?_,fun d e hd k a=>?_⟩
 ·rw[l,OT]; exact i.hi
 ·rw[l,OT]; exact i.lo
 ·rw[q d hd,q e k]; exact i.down d e (h.day j hd).1 a
 ·rw[q d hd,q e k]; exact i.loss d e (h.day j hd).1 a
section
variable {b:ö} {c:Cmp}
def al5 (h:Ŭ b) {p:Int->Int} (j:Pot (jF b) p):∃f,Hist b f (p 0)/\∀g∈b.2.1,∀d∈Ý b g,f g.1 d=p (iX b g.1 d):=by
 obtain⟨k,n⟩:=(aiM h).1 j;obtain⟨f,l,e⟩:=ajW h k;refine⟨f,⟨l,fun c a=>?_⟩,e⟩;have:=aj6 e (c:=c) (fun x i=>afC h a i);have:=n c a;omega
def amw (h:Ŭ b) {f:Int->Int->Int} {z:Int} (a:Hist b f z):Pot (jF b) (aiK b f z):=by
 refine(aiM h).2 ⟨fun g d=>agM h d (a.gauge g d),fun c e=>?_⟩;have:=aiJ (f:=f) (z:=z) h (c:=c) (fun x i=>afC h e i);have:=a.cmp c e;omega
def aa9 (h:Ŭ b):mq (jF b) ((Ø b).length+1)=true↔∃f z,Hist b f z:=by
 have:=h.sys.n60;rw[mo h.sys.links (by omega)];constructor
 ·rintro⟨p,a⟩;obtain⟨f,e,_⟩:=al5 h a;exact⟨f,_,e⟩
 ·rintro⟨f,z,d⟩;exact⟨_,amw h d⟩
end
def amE {m:Ļ} (h:Ŭ m.1) (p:Cmp->Bool):(aoR m p).1=less m.1 ((m.1.2.2.2.2.1.filter fun c=>!p c).map fun c=>c.1):=by
 unfold aoR less;dsimp only;congr 5;refine List.filter_congr fun c k=>?_;rw[Bool.eq_iff_iff,Bool.not_eq_true',Bool.eq_false_iff,ne_eq,List.contains_iff_mem,List.mem_map];constructor
 ·rintro d ⟨c',f,e⟩;obtain⟨n,h2⟩:=d8.1 f
  have:c'=c:=by
   obtain⟨i,hi,rfl⟩:=dv.1 n;obtain⟨j,g,rfl⟩:=dv.1 k;have hd:=dP.1 h.distinct;rcases Nat.lt_trichotomy i j with a|a|a
   ·exact absurd e (hd i j hi g a)
   ·subst a; rfl
   ·exact absurd e.symm (hd j i g hi a)
  rw[this,d] at h2;cases h2
 ·intro l
  cases d:p c with
  |true=>rfl
  |false=>exact absurd ⟨c,d8.2 ⟨k,by simp[d]⟩,rfl⟩ l
def MOk.few {m:Ļ} (h:MOk m) (p:Cmp->Bool):MOk (aoR m p):=by
 refine⟨?_,h.n4,h.mixE,h.prod⟩;rw[amE h.good];exact h.good.less _
section
variable {m:Ļ} {ρ:Type}
def UQ (h:MOk m) (ids:Do Int):ă (vH m ids)=some (Ws (vH m ids)):=uN (h.few _)
def mO (b:ö) (id d:Int):Int:=if !zn d then 1 else if (ì b id).isNone then 5 else 0
def N2 (o:m.1.2.1.length<=1000) (id d:Int):sj m id d=some (mO m.1 id d):=by
 unfold sj Po mO
 by_cases h:zn d=true
 ·have h':=h;simp only[zn,inP,dg,decide_eq_true_eq] at h';rw[h,Í (by simp[ilt]; omega),Í (by simp[igt]; omega),if_neg (by simp)];refine ee (Ē m.1.2.1 (fun g=>g.1==id) (fun z=>ifb (!(ige z (0:Int))) (some 5) (some 0)) (some 0) (some 5) (fun j=>Í (by simp[ige]) _ _) (fun i a hi ha k=>?_) (fun k=>?_)) ?_
  ·try dsimp only
   unfold tq;rw[Ì hi,Ä ha,É hi (by omega),ó]
  ·try dsimp only
   unfold tq;rw[Ó]
  ·unfold ì
   cases f:m.1.2.1.find? (fun g=>g.1==id) with
   |none =>
    rw[if_neg]
    ·rfl
    rw[dD];rintro⟨g,n,e⟩;exact absurd e (by simpa using(ew.1 f) g n)
   |some g =>
    rw[if_pos]
    ·rfl
    have l:=fD f;exact dD.2 ⟨g,fN f,l⟩
 ·have h':=h;simp only[zn,inP,dg,decide_eq_true_eq,not_and,Int.not_le] at h';rw[if_pos (by simp[h])];rw[ó,ó];simp only[ilt,igt,decide_eq_true_eq]
  split
  ·rfl
  ·rw[if_pos (by have:=h' (by omega); omega)]
def SN (label:Int) (c:Cmp):Bool:=(Þ c.2.2.1 c.2.2.2.1).contains label||(Þ c.2.2.2.1 c.2.2.1).contains label
def LH (m:Ļ) (label:Int):Bool×Int:=if Ī m≠0 then(false,Ī m) else if mO m.1 label 0≠0 then(false,mO m.1 label 0) else(!pP (aoR m (SN label)),0)
def acO (r:In m.1) (M:m.2.length<=1000) (label:Int):qw m label=some (LH m label):=by
 unfold qw xy LH;rw[ox r M,À]
 by_cases g:Ī m=0
 ·have h:=(Ń m).1 g;have V:=h.good.nC;rw[Í (by simp[ine,g]),if_neg (by simp[g]),N2 r.size.gauges,À]
  by_cases t:mO m.1 label 0=0
  ·rw[Í (by simp[ine,t]),if_neg (by simp[t]),ä (Ò (by omega))]
   have f:∀c∈m.1.2.2.2.2.1,qR c.2.2.1 c.2.2.2.1=some (Þ c.2.2.1 c.2.2.2.1,Þ c.2.2.2.1 c.2.2.1,0)/\(Þ c.2.2.1 c.2.2.2.1).length<=1000000/\(Þ c.2.2.2.1 c.2.2.1).length<=1000000:=fun c g=>by
    obtain⟨S,R⟩:=h.good.size.piles c g;have e:=(Ų c).1 (h.good.nums g);have U:=rZ c.2.2.1 c.2.2.2.1;have T:=rZ c.2.2.2.1 c.2.2.1;refine⟨?_,by omega,by omega⟩;rw[alD (by omega) (by omega),aeF,e.2.2.2.2.2.1,e.2.2.2.2.2.2]; rfl
   have Q:∀l,l=m.1.2.2.2.2.1.filter (SN label)->Å (ă ((m.1.1,m.1.2.1,m.1.2.2.1,m.1.2.2.2.1,l,m.1.2.2.2.2.2),m.2)) (fun d=>some ((!d.2),(0:Int)))=some (!pP (aoR m (SN label)),0):=fun l O=>by
    subst O;have:=uN (h.few (SN label));unfold aoR at this ⊢;rw[this,À,yv]
   refine ee (aee (a:=m.1.2.2.2.2.1) (SN label) (K:=fun l=>Å (ă ((m.1.1,m.1.2.1,m.1.2.2.1,m.1.2.2.2.1,l,m.1.2.2.2.2.2),m.2)) fun d=>some ((!d.2),(0:Int))) (k0:=aj7 zC fun l=>Å (ă ((m.1.1,m.1.2.1,m.1.2.2.1,m.1.2.2.2.1,l,m.1.2.2.2.2.2),m.2)) fun d=>some ((!d.2),(0:Int)))
    (kf:=fun v=>ifb (ieq v (-1:Int)) (Å (ă m) fun n=>some ((!n.2),(0:Int))) (ck (v+(1:Int)) fun C=>Ë (fun(k:Int×Int×Do Cmp) p=>Ε label k.1 k.2.1 k.2.2 (fun B A y=>p (B,A,y)) (aj7 zC fun l=>Å (ă ((m.1.1,m.1.2.1,m.1.2.2.1,m.1.2.2.2.1,l,m.1.2.2.2.2.2),m.2)) fun d=>some ((!d.2),(0:Int)))) (v,C,m.1.2.2.2.2.1)))
    (F:=fun a b c o=>Ε label a b c o (aj7 zC fun l=>Å (ă ((m.1.1,m.1.2.1,m.1.2.2.1,m.1.2.2.2.1,l,m.1.2.2.2.2.2),m.2)) fun d=>some ((!d.2),(0:Int)))) (kend:=Å (ă m) fun n=>some ((!n.2),(0:Int))) (fun i x hi q o=>?_) (fun o=>?_) rfl (fun z J=>?_) (fun i j s x r P u q D o=>?_) (fun i s o hi r=>?_) (fun i s hi=>aef _ _ hi)) (Q _ rfl)
   ·try dsimp only
    unfold lD;obtain⟨I,H,G⟩:=f x (List.mem_of_getElem? q);rw[Ì hi,ř hi,ā q,I,À,ś H,À,ś G,À];unfold SN
    cases(Þ x.2.2.1 x.2.2.2.1).contains label<;>cases(Þ x.2.2.2.1 x.2.2.1).contains label<;>simp only[ot,é,dV,fA,Bool.or_true,Bool.or_false,if_true,dz,if_false]<;>first|rfl|rw[É hi (by omega)]
   ·try dsimp only
    unfold lD;rw[Ó]
   ·rw[Í (by simp[ieq]),É J (by omega)]
   ·try dsimp only
    unfold Ε;obtain⟨I,H,G⟩:=f x D;have E:s[i]?=some s[i]:=List.getElem?_eq_getElem (by omega);rw[Ì u,show ï s=((s.length:Nat):Int) from rfl,ř u,ā q,I,À,ś H,À,ś G,À];unfold SN
    cases(Þ x.2.2.1 x.2.2.2.1).contains label<;>cases(Þ x.2.2.2.1 x.2.2.1).contains label<;>simp only[ot,é,dV,fA,Bool.or_true,Bool.or_false,if_true,dz,if_false]<;>first|rw[É u (by omega)]|rw[ř (by omega),ā E,É (show i<s.length by omega) (by omega),É u (by omega),du]
   ·try dsimp only
    unfold Ε;rw[Ó]
  ·rw[Ñ (by simp[ine,t]),if_pos t]
 ·rw[Ñ (by simp[ine,g]),if_pos g]
def ad5 (m:Ļ):Do Int:=m.1.2.2.2.2.1.map fun c=>c.1
def ake (m:Ļ):Nat->Do Int->Do Int
 |0,l=>l
 |i+1,l=>ake m i (if pP (vH m (l.take i++l.drop (i+1))) then l else l.take i++l.drop (i+1))
def apl (m:Ļ):Do Int×Int:=if Ī m≠0 then([],Ī m) else if pP m then([],5) else(ake m (ad5 m).length (ad5 m),0)
def apk (y:In m.1) (z:m.2.length<=1000):N8 m=some (apl m):=by
 unfold N8 XU apl;rw[ox y z,À]
 by_cases j:Ī m=0
 ·have h:=(Ń m).1 j;have E:=h.good.nC;have A:((((m.1.1.1,m.1.1.2),m.1.2.1,m.1.2.2.1,m.1.2.2.2.1,m.1.2.2.2.2.1,m.1.2.2.2.2.2),m.2):Ļ)=m:=rfl;rw[Í (by simp[ine,j]),if_neg (by simp[j]),uN h,À,yv]
  cases pP m with
  |true=>rfl
  |false =>
   simp only[é,dz,if_false]
   have D:(ad5 m).length=m.1.2.2.2.2.1.length:=by unfold ad5; simp
   refine ee (oq m.1.2.2.2.2.1 (fun c=>c.1) (fun r=>ck ((Õ r)-(1:Int)) fun n6=>Ë (fun(e:Do Int×Int) f=>rl m.1.1.1 m.1.1.2 m.1.2.1 m.1.2.2.1 m.1.2.2.2.1 m.1.2.2.2.2.1 m.1.2.2.2.2.2 m.2 e.1 e.2 (fun o n=>f (o,n)) (fun k=>some (k,(0:Int)))) (r,n6)) (fun i a hi ha v p C=>?_) (fun v p=>?_)) ?_
   ·try dsimp only
    unfold xA;rw[Ì hi,Ä ha,ä (Ò (by simp; omega)),É hi (by omega)]
   ·try dsimp only
    unfold xA;rw[Ó]
   ·show(ck ((Õ (ad5 m))-(1:Int)) fun n6=>Ë _ (ad5 m,n6))=_;rw[Î,Ï (by omega) (by omega)];refine õ (fun x:Do Int×Int=>∃i:Nat,x.2=(i:Int)-1/\i<=x.1.length/\x.1.length<=40/\ake m i x.1=ake m (ad5 m).length (ad5 m)) (fun x=>(x.2+1).toNat) ?_ ⟨_,rfl,Nat.le_refl _,by dsimp only; omega,rfl⟩;rintro⟨l,B⟩ ⟨i,t,q,g,d⟩;simp only at t q g d;subst t
    cases i with
    |zero =>
     refine .inl fun p=>?_
     try dsimp only
     unfold rl;rw[Í (by simp[ige]),<-d]; rfl
    |succ i =>
     have u:((i+1:Nat):Int)-1=i:=by omega
     have s:(l.take i++l.drop (i+1)).length=l.length-1:=by simp; omega
     rw[ake] at d;refine .inr ⟨(if pP (vH m (l.take i++l.drop (i+1))) then l else l.take i++l.drop (i+1),(i:Int)-1),⟨i,rfl,?_,?_,d⟩,by simp only[u]; omega,fun p=>?_⟩
     ·dsimp only; split<;>omega
     ·dsimp only; split<;>omega
     ·try dsimp only
      unfold rl;rw[u,Ñ (by simp[ige]),ä (by simp[ile,ï]; omega),Ï (by omega) (by omega),ä (by simp[ile,ï]; omega),Int.toNat_natCast,show Int.toNat ((i:Int)+1)=i+1 by omega,S9 (by simp; omega) (by simp; omega),À,A,adr (by omega) (by omega),À,UQ h,À,yv,ó,Ï (by omega) (by omega),Ï (by omega) (by omega)]
      cases pP (vH m (l.take i++l.drop (i+1)))<;>rfl
 ·rw[Ñ (by simp[ine,j]),if_pos j]
end
def đ:Do Int->Nat->Do Int
 |[],_=>[]
 |x::l,s=>if s % 2=1 then x::đ l (s / 2) else đ l (s / 2)
def Su:∀{l:Do Int} {s i:Nat} {x:Int},l[i]?=some x->đ (l.take (i+1)) s=đ (l.take i) s++if s / 2 ^ i % 2=1 then[x] else[]
 |[],_,_,_,h=>by simp at h
 |y::l,s,0,x,h=>by
  simp at h; subst h;simp[đ]
 |y::l,s,i+1,x,h=>by
  simp only[fh] at h;have:=Su (s:=s / 2) h;simp only[fW,đ,this,Nat.pow_succ',<-Nat.div_div_eq_div_mul]
  split<;>rfl
def qU:∀(l:Do Int) (s:Nat),(đ l s).length<=l.length
 |[],_=>dh _
 |x::l,s=>by
  have:=qU l (s / 2);unfold đ
  split<;>simp only[dr]<;>omega
def bit_i {s i:Nat} (e:s<9223372036854775808) (hi:i<=60):ieq (andI .i64 (i7 .i64 (s:Int) (i:Int)) (1:Int)) (1:Int)=decide (s / 2 ^ i % 2=1):=by
 have d:i7 .i64 (s:Int) (i:Int)=((s / 2 ^ i:Nat):Int):=by
  unfold i7;have:IntKind.i64.bits=64:=rfl;rw[this,Int.toNat_natCast,Nat.min_eq_left (by omega),Int.fdiv_eq_ediv_of_nonneg _ (Int.le_of_lt (Int.pow_pos (by decide)))];push_cast; rfl
 rw[d];unfold andI alI
 have hb:(BitVec.ofInt 64 ((s / 2 ^ i:Nat):Int) &&& BitVec.ofInt 64 1).toNat=s / 2 ^ i % 2:=by
  rw[BitVec.toNat_and,gP,show BitVec.ofInt 64 1=1#64 from rfl,BitVec.toNat_ofNat];rw[show(1#64).toNat=1 from rfl,Nat.and_one_is_mod,Nat.mod_mod_of_dvd _ (by decide)]
 show ieq (IntKind.i64.wrap ((BitVec.ofInt 64 ((s / 2 ^ i:Nat):Int) &&& BitVec.ofInt 64 1).toNat:Int)) 1=_;have a:s / 2 ^ i % 2<2:=Nat.mod_lt _ (by decide);rw[hb];generalize s / 2 ^ i % 2=q at a;rw[ah6 (by omega)];unfold ieq;rw[Bool.eq_iff_iff,beq_iff_eq,decide_eq_true_eq];omega
def aog (s x:Nat):Bool:=s &&& x==s
def sub_i {s x:Nat} (d:s<9223372036854775808) (f:x<9223372036854775808):ieq (LG .i64 (s:Int) (x:Int)) (0:Int)=aog s x:=by
 unfold LG alI;show ieq (IntKind.i64.wrap ((BitVec.ofInt 64 (s:Int) &&& ~~~ BitVec.ofInt 64 (x:Int)).toNat:Int)) 0=_
 have e:(BitVec.ofInt 64 (s:Int) &&& ~~~ BitVec.ofInt 64 (x:Int)).toNat<9223372036854775808:=by
  rw[BitVec.toNat_and];refine Nat.lt_of_le_of_lt Nat.and_le_left ?_;rw[gP,BitVec.toNat_ofNat,Nat.mod_eq_of_lt (by omega)]; exact d
 rw[ah6 e];unfold ieq aog;rw[Bool.eq_iff_iff,beq_iff_eq,beq_iff_eq]
 have h2:(((BitVec.ofInt 64 (s:Int) &&& ~~~ BitVec.ofInt 64 (x:Int)).toNat:Nat):Int)=0↔∀i,i<64->s.testBit i=true->x.testBit i=true:=by
  rw[Int.natCast_eq_zero,<-BitVec.toNat_zero (w:=64),BitVec.toNat_inj];constructor
  ·intro h i hi a;have:=congrArg (fun b:BitVec 64=>b.getLsbD i) h;simp only[BitVec.getLsbD_and,BitVec.getLsbD_not,gP,BitVec.getLsbD_ofNat,BitVec.getLsbD_zero,hi,decide_true,eR,a] at this;simpa using this
  ·intro h;apply BitVec.eq_of_getLsbD_eq;intro i hi;simp only[BitVec.getLsbD_and,BitVec.getLsbD_not,gP,BitVec.getLsbD_ofNat,BitVec.getLsbD_zero,hi,decide_true,eR]
   cases a:s.testBit i with
   |false=>simp
   |true=>rw[h i hi a]; simp
 rw[h2];constructor
 ·intro h;refine Nat.eq_of_testBit_eq fun i=>?_;rw[Nat.testBit_and]
  cases a:s.testBit i with
  |false=>rfl
  |true =>
   rcases dw i 64 with hi|hi
   ·rw[h i hi a]; rfl
   ·have:s<2 ^ i:=dB d (dE (by decide) (Nat.pow_le_pow_right (by decide) hi));rw[Nat.testBit_lt_two_pow this] at a; cases a
 ·intro h i _ a;rw[<-h,Nat.testBit_and,dg] at a;exact a.2
def ahX:Do Int->Do Int->Int
 |[],[]=>0
 |[],_=>-1
 |_,[]=>1
 |x::l,y::m=>if x<y then -1 else if y<x then 1 else ahX l m
def ME (m:Ļ) (ids:Do Int) (st:Do Int×Nat×Do Nat) (s:Nat):Do Int×Nat×Do Nat :=
 if st.1.length<(đ ids s).length\/((đ ids s).length=st.1.length/\0<=ahX (đ ids s) st.1) then st else
 if st.2.2.any (aog s) then st else if pP (vH m (đ ids s)) then(st.1,st.2.1,st.2.2++[s]) else(đ ids s,s,st.2.2)
def MF (m:Ļ) (ids:Do Int) (n:Nat):Do Int×Nat×Do Nat:=(List.range n).foldl (ME m ids) (ids,2 ^ ids.length-1,[])
def alh (m:Ļ) (ids:Do Int):Do Int×Int :=
 if Ī m≠0 then([],Ī m) else if 8<ids.length then([],2) else if !ids.all (fun i=>(ad5 m).contains i) then([],5) else if ¬ids.Pairwise (·<·) then([],6) else
 if pP (vH m (đ ids (2 ^ ids.length-1))) then([],5) else(đ ids (MF m ids (2 ^ ids.length-1)).2.1,0)
section
variable {m:Ļ} {ρ:Type}
def Js {l:Do Int} (g:l.length<=60) {s:Nat} (e:s<9223372036854775808):jt l (s:Int)=some (đ l s):=by
 unfold jt Kj;refine î l (fun i=>đ (l.take i) s) _ rfl (fun i x hi a d=>?_) (fun d=>?_)
 ·try dsimp only
  unfold p8;have f:=qU (l.take i) s
  have:(l.take i).length=i:=by rw[dt]; omega
  rw[Ì hi,Ä a,ä (by simp[ile]),bit_i e (by omega),ó,Su a]
  by_cases h:s / 2 ^ i % 2=1
  ·rw[if_pos (by simpa using h),if_pos h,ä (Ò (by simp; omega)),É hi (by omega)]
  ·rw[if_neg (by simpa using h),if_neg h,É hi (by omega),dC]
 ·try dsimp only
  unfold p8;rw[Ó,List.take_length]
def alZ (o:m.1.2.2.2.2.1.length<=1000) {ids:Do Int} (hi:ids.length<=1000) (K:Int->CK ρ) (Z:CK ρ):Ë (fun(v:Int) g=>iI ids (Õ ids) m.1.2.2.2.2.1 v (fun u=>g u) K (fun _=>Z)) 0=if ids.all (fun i=>(ad5 m).contains i) then Z else K 5:=by
 have:=Ē ids (fun i=>!(ad5 m).contains i) (fun _=>K 5) (K 5) Z (f:=fun v g=>iI ids (Õ ids) m.1.2.2.2.2.1 v (fun u=>g u) K (fun _=>Z)) (fun _=>rfl) (fun i x a l e=>?_) (fun e=>?_)
 ·rw[this,List.all_eq_not_any_not]
  cases ids.any (fun i=>!(ad5 m).contains i)<;>rfl
 ·try dsimp only
  unfold iI;rw[Ì a,Ä l];refine Eq.trans (Ē m.1.2.2.2.2.1 (fun c=>c.1==x) (fun k=>ifb (!(ige k (0:Int))) (K (5:Int)) (ck ((i:Int)+(1:Int)) fun n6=>e n6)) (e ((i:Int)+1)) (K 5) (fun j=>by rw[Í (by simp[ige]),É a (by omega)]) (fun j c h n d=>?_) (fun d=>?_)) ?_
  ·try dsimp only
   unfold mC;rw[Ì h,Ä n,É h (by omega),ó]
  ·try dsimp only
   unfold mC;rw[Ó]
  ·have:(ad5 m).contains x=m.1.2.2.2.2.1.any fun c=>c.1==x:=by
    unfold ad5;rw[Bool.eq_iff_iff,List.contains_iff_mem,List.mem_map,List.any_eq_true];simp
   rw[this]
   cases m.1.2.2.2.2.1.any (fun c=>c.1==x)<;>rfl
 ·try dsimp only
  unfold iI;rw[Ó]
def alY {l:Do Int} (j:l.length<=1000) (k0:Int->CK ρ) (k1:Unit->CK ρ):Ë (fun(v:Int) g=>jK l v (fun u=>g u) k0 k1) 1=if l.Pairwise (·<·) then k1 () else k0 6:=by
 refine Y8 (fun i a c ha d f=>?_) (fun n h f=>?_)
 ·have hi:=(List.getElem?_eq_some_iff.1 d).1;unfold jK
  have e:((i:Int)+1)=((i+1:Nat):Int):=by omega
  rw[e,Ì hi,Ä d,Ï (by omega) (by omega),<-e,Int.add_sub_cancel,Ä ha,ó,Ï (by omega) (by omega)];simp
 ·unfold jK;rw[Í (by simp[ilt,Î]; omega)]
def Jn (h:MOk m) (ids:Do Int) {w:Way} (a:ī m.2 w):Ω (vH m ids) w=some (pI (vH m ids) w):=yG (h.few _) a
def alX (h:MOk m) {ids:Do Int} (hi:ids.length<=60) {s:Nat} (g:s<9223372036854775808) (X Z:CK ρ):Ë (fun(v:Int) f=>jJ (ň m.2) (Õ (ň m.2)) m.1.1.1 m.1.1.2 m.1.2.1 m.1.2.2.1 m.1.2.2.2.1 m.1.2.2.2.2.1 m.1.2.2.2.2.2 m.2 ids (s:Int) v (fun u=>f u) (fun z=>ifb z.2 X Z) (fun _=>Z)) 0=if pP (vH m (đ ids s)) then X else Z:=by
 have j:((((m.1.1.1,m.1.1.2),m.1.2.1,m.1.2.2.1,m.1.2.2.2.1,m.1.2.2.2.2.1,m.1.2.2.2.2.2),m.2):Ļ)=m:=rfl;have k:=sQ h;have l:=qU ids s;refine Ē (ň m.2) (pI (vH m (đ ids s))) (fun _=>X) X Z (fun _=>rfl) (fun i x a d e=>?_) (fun e=>?_)
 ·try dsimp only
  unfold jJ;rw[Ì a,Ä d,Js hi g,À,j,adr h.good.size.compares (by omega),À,Jn h _ (uS d),À,É a (by omega),ó,Bool.not_not];rfl
 ·try dsimp only
  unfold jJ;rw[Ó]
def alU (h:MOk m) {ids:Do Int} (hi:ids.length<=60) {s:Nat} (n:s<9223372036854775808) {op:Do Int} (r:op.length<=1000) (k0 k1:Do Int->CK ρ):Ë (fun(v:Int×Do Int) l=>Ŗ (s:Int) (ň m.2) (Õ (ň m.2)) ids m.1.1.1 m.1.1.2 m.1.2.1 m.1.2.2.1 m.1.2.2.2.1 m.1.2.2.2.2.1 m.1.2.2.2.2.2 m.2 v.1 v.2 (fun a b=>l (a,b)) k0 k1) ((0:Int),op)=if pP (vH m (đ ids s)) then k0 (op++[(s:Int)]) else k1 op:=by
 have o:((((m.1.1.1,m.1.1.2),m.1.2.1,m.1.2.2.1,m.1.2.2.2.1,m.1.2.2.2.2.1,m.1.2.2.2.2.2),m.2):Ļ)=m:=rfl;have p:=sQ h;have q:=qU ids s;refine IH (ň m.2) (fun _=>op) _ (fun i=>∀w∈(ň m.2).take i,pI (vH m (đ ids s)) w=false) rfl (fun w d=>by simp at d) (fun i x f g j k=>?_) (fun j k=>?_)
 ·try dsimp only
  unfold Ŗ;rw[Ì f,Ä g,Js hi n,À,o,adr h.good.size.compares (by omega),À,Jn h _ (uS g),À,É f (by omega),ä (Ò (by simp; omega)),ó,Bool.not_not]
  cases e:pI (vH m (đ ids s)) x with
  |true =>
   refine .inl ?_;have:pP (vH m (đ ids s))=true:=dD.2 ⟨x,dk g,e⟩;rw[this]; rfl
  |false =>
   refine .inr ⟨fun w d=>?_,rfl⟩;rw[take_succ g] at d;rcases dl.1 d with d|d
   ·exact j w d
   ·rw[dq.1 d]; exact e
 ·rw[fH] at j
  try dsimp only
  unfold Ŗ
  have:pP (vH m (đ ids s))=false:=ej.2 fun w d=>by rw[show pI (vH m (đ ids s)) w=false from j w d]; simp
  rw[Ó,this]; rfl
def alV {s:Nat} (j:s<9223372036854775808) {op:Do Nat} (k:op.length<=1000) (e:∀x∈op,x<9223372036854775808) (X Z:CK ρ):Ë (fun(v:Int) h=>ŗ (s:Int) (Õ (op.map fun(x:Nat)=>(x:Int))) (op.map fun(x:Nat)=>(x:Int)) v (fun u=>h u) (fun _=>X) (fun _=>Z)) 0=if op.any (aog s) then X else Z:=by
 refine Ē op (aog s) (fun _=>X) X Z (fun _=>rfl) (fun i x hi f g=>?_) (fun g=>?_)
 ·try dsimp only
  unfold ŗ
  have d:(op.map fun(x:Nat)=>(x:Int))[i]?=some (x:Int):=by rw[eZ,f]; rfl
  have a:i<(op.map fun(x:Nat)=>(x:Int)).length:=by simpa using hi
  rw[Ì a,ř a,ā d,sub_i j (e x (dk f)),É hi (by omega),ó]
 ·try dsimp only
  unfold ŗ;rw[Î,Í (by simp[ilt])]
def aoI {l m:Do Int} (h:l.length=m.length) (d:∀(i:Nat) (x y:Int),l[i]?=some x->m[i]?=some y->x=y):ahX l m=0:=by
 induction l generalizing m with
 |nil=>cases m with|nil=>rfl|cons _ _=>cases h
 |cons x l f =>
  cases m with
  |nil=>cases h
  |cons y m =>
   have e:=d 0 x y rfl rfl;subst e;rw[ahX,if_neg (by omega),if_neg (by omega)];exact f (by simpa using h) fun i a b ha hb=>d (i+1) a b ha hb
def lex_at {l m:Do Int} {i:Nat} {x y:Int} (f:l[i]?=some x) (d:m[i]?=some y) (g:∀(j:Nat) (a b:Int),j<i->l[j]?=some a->m[j]?=some b->a=b) (k:x≠y):ahX l m=if x<y then -1 else 1:=by
 induction l generalizing m i with
 |nil=>simp at f
 |cons a l h =>
  cases m with
  |nil=>simp at d
  |cons b m =>
   cases i with
   |zero =>
    simp at f d; subst f d;rw[ahX]
    split
    ·rfl
    ·rw[if_pos (by omega)]
   |succ i =>
    have e:=g 0 a b (by omega) rfl rfl;subst e;rw[ahX,if_neg (by omega),if_neg (by omega)];exact h (by simpa using f) (by simpa using d) fun j a b n ha hb=>g (j+1) a b (by omega) ha hb
def alW {l k:Do Int} (h:k.length=l.length) (B:l.length<=1000) (X Y:CK ρ):Ë (fun(v:Int) o=>Ŷ l k (Õ k) v (fun u=>o u) (fun z=>ifb (ige z (0:Int)) X Y) (fun _=>X)) 0=if 0<=ahX k l then X else Y:=by
 have:=õ (r:=if 0<=ahX k l then X else Y) (f:=fun v o=>Ŷ l k (Õ k) v (fun u=>o u) (fun z=>ifb (ige z (0:Int)) X Y) (fun _=>X)) (x:=(0:Int)) (fun x=>∃i:Nat,x=i/\i<=k.length/\∀(j:Nat) (a b:Int),j<i->k[j]?=some a->l[j]?=some b->a=b) (fun x=>k.length-x.toNat) ?_ ⟨0,rfl,d9 _,fun j a b y=>by omega⟩
 ·exact this
 ·rintro x ⟨i,rfl,hi,s⟩;rcases dw i k.length with e|A
  ·have q:k[i]?=some k[i]:=df e;have p:l[i]?=some l[i]:=df (by omega)
   have t:∀g,Ŷ l k (Õ k) (i:Int) g (fun z=>ifb (ige z (0:Int)) X Y) (fun _=>X)=if k[i]=l[i] then g ((i:Int)+1) else if k[i]<l[i] then Y else X:=fun g=>by
    unfold Ŷ;rw[Ì e,Ä q,Í (by simp[ige,Î]; omega),Ä p,aki,À,É e (by omega)]
    by_cases d:k[i]<l[i]
    ·rw[if_pos d,if_neg (by omega),if_pos d]; rfl
    ·rw[if_neg d]
     by_cases h2:l[i]<k[i]
     ·rw[if_pos h2,if_neg (by omega),if_neg d]; rfl
     ·rw[if_neg h2,if_pos (by omega)]; rfl
   by_cases n:k[i]=l[i]
   ·refine .inr ⟨(i:Int)+1,⟨i+1,by simp,e,fun j a b y ha hb=>?_⟩,by omega,fun g=>by rw[t,if_pos n]⟩;rcases dw j i with d|d
    ·exact s j a b d ha hb
    ·have:j=i:=by omega
     subst this;rw[q] at ha; rw[p] at hb;cases ha; cases hb;exact n
   ·refine .inl fun g=>?_;rw[t,if_neg n,lex_at q p s n]
    by_cases d:k[i]<l[i]
    ·rw[if_pos d,if_pos d]; rfl
    ·rw[if_neg d,if_neg d]; rfl
  ·refine .inl fun g=>?_
   have:i=k.length:=by omega
   subst this;unfold Ŷ;rw[Ó,aoI h fun j a b ha hb=>s j a b (List.getElem?_eq_some_iff.1 ha).1 ha hb];rfl
abbrev stI (st:Do Int×Nat×Do Nat) (n:Nat):Do Int×Int×Int×Do Int:=(st.1,(st.2.1:Int),(n:Int),st.2.2.map fun(x:Nat)=>(x:Int))
def agD (h:MOk m) {ids:Do Int} (hi:ids.length<=8) {n N:Nat} (H:n<N) (I:N<=256) {st:Do Int×Nat×Do Nat} (J:st.1.length<=8) (G:st.2.2.length<=n) (C:∀x∈st.2.2,x<n) (i:Do Int->Int->Int->Do Int->CK ρ) (k0:Int×Do Int->CK ρ) :
 ŷ (ň m.2) (N:Int) ids m.1.1.1 m.1.1.2 m.1.2.1 m.1.2.2.1 m.1.2.2.2.1 m.1.2.2.2.2.1 m.1.2.2.2.2.2 m.2 (stI st n).1 (stI st n).2.1 (stI st n).2.2.1 (stI st n).2.2.2 i k0=i (stI (ME m ids st n) (n+1)).1 (stI (ME m ids st n) (n+1)).2.1 (stI (ME m ids st n) (n+1)).2.2.1 (stI (ME m ids st n) (n+1)).2.2.2:=by
 have F:=qU ids n;dsimp only;unfold ŷ
 have o:∀x∈st.2.2,x<9223372036854775808:=fun x E=>by have:=C x E; omega
 have D:(st.2.2.map fun(x:Nat)=>(x:Int)).length<=1000:=by rw[dL]; omega
 have p:∀f:Int->CK ρ,ck ((n:Int)+(1:Int)) f=f ((n+1:Nat):Int):=fun f=>by rw[Ï (by omega) (by omega)]; simp
 rw[Ñ (by simp[ilt]; omega),Js (by omega) (by omega),À];unfold ME
 by_cases e:st.1.length<(đ ids n).length
 ·rw[Ñ (by simp[igt,Î]; omega),if_pos (.inl e),p]
 ·rw[Í (by simp[igt,Î]; omega)]
  have d:∀K K2:CK ρ,Ë (fun(t:Int) k=>ŗ (n:Int) (Õ (st.2.2.map fun(x:Nat)=>(x:Int))) (st.2.2.map fun(x:Nat)=>(x:Int)) t (fun u=>k u) (fun _=>ck ((n:Int)+(1:Int)) fun B=>i st.1 (st.2.1:Int) B (st.2.2.map fun(x:Nat)=>(x:Int))) (fun _=>Ë (fun(j:Int×Do Int) l=>Ŗ (n:Int) (ň m.2) (Õ (ň m.2)) ids m.1.1.1 m.1.1.2 m.1.2.1 m.1.2.2.1 m.1.2.2.2.1 m.1.2.2.2.2.1 m.1.2.2.2.2.2 m.2 j.1 j.2 (fun y v=>l (y,v)) (fun s=>ck ((n:Int)+(1:Int)) fun A=>i st.1 (st.2.1:Int) A s) (fun r=>ck ((n:Int)+(1:Int)) fun z=>i (đ ids n) (n:Int) z r)) ((0:Int),st.2.2.map fun(x:Nat)=>(x:Int)))) (0:Int) =
   (fun q=>i (stI q (n+1)).1 (stI q (n+1)).2.1 (stI q (n+1)).2.2.1 (stI q (n+1)).2.2.2) (if st.2.2.any (aog n) then st else if pP (vH m (đ ids n)) then(st.1,st.2.1,st.2.2++[n]) else(đ ids n,n,st.2.2)):=fun _ _=>by
   rw[alU h (by omega) (by omega) D,alV (by omega) (by omega) o,p,p,p]
   cases st.2.2.any (aog n) with
   |true=>rfl
   |false =>
    cases pP (vH m (đ ids n)) with
    |true=>simp
    |false=>rfl
  by_cases g:(đ ids n).length=st.1.length
  ·rw[Ñ (by simp[ieq,Î]; omega),d none none,Í (show ilt (Õ (đ ids n)) (Õ st.1)=false by simp[ilt,Î]; omega),alW g (by omega),p]
   by_cases a:0<=ahX (đ ids n) st.1
   ·rw[if_pos a,if_pos (.inr ⟨g,a⟩)]
   ·rw[if_neg a,if_neg (show ¬(st.1.length<(đ ids n).length\/((đ ids n).length=st.1.length/\0<=ahX (đ ids n) st.1)) from fun h=>h.elim e fun h=>a h.2)]
  ·rw[Í (by simp[ieq,Î]; omega),d none none,if_neg (show ¬(st.1.length<(đ ids n).length\/((đ ids n).length=st.1.length/\0<=ahX (đ ids n) st.1)) from fun h=>h.elim e fun h=>g h.1)]
def alQ {ids:Do Int} {n:Nat} {st:Do Int×Nat×Do Nat} (hi:ids.length<=8) (e:st.1.length<=8) (h2:st.2.2.length<=n) (d:∀x∈st.2.2,x<n):(ME m ids st n).1.length<=8/\(ME m ids st n).2.2.length<=n+1/\∀x∈(ME m ids st n).2.2,x<n+1:=by
 have f:=qU ids n;unfold ME
 split
 ·exact⟨e,by omega,fun x a=>by have:=d x a; omega⟩
 split
 ·exact⟨e,by omega,fun x a=>by have:=d x a; omega⟩
 split
 ·refine⟨e,by simp; omega,fun x a=>?_⟩;rcases dl.1 a with a|a
  ·have:=d x a; omega
  ·rw[dq.1 a]; omega
 ·exact⟨by dsimp only; omega,by dsimp only; omega,fun x a=>by have:=d x a; omega⟩
def aeY {ids:Do Int} (hi:ids.length<=8):∀n,(MF m ids n).1.length<=8/\(MF m ids n).2.2.length<=n/\∀x∈(MF m ids n).2.2,x<n
 |0=>⟨hi,dh _,fun x a=>by cases a⟩
 |n+1=>by
  obtain⟨e,h2,d⟩:=aeY hi n;have:=alQ (m:=m) hi e h2 d;unfold MF at this ⊢;rw[List.range_succ,List.foldl_append];exact this
def pow8 {n:Nat} (h:n<=8):1<=2 ^ n/\2 ^ n<=256:=⟨Nat.one_le_pow _ _ (by decide),Nat.pow_le_pow_right (by decide) h⟩
def afQ {ids:Do Int} (hi:ids.length<=8):∀n,n<=256->(MF m ids n).2.1<=256
 |0,_=>by have:=(pow8 hi).2; show 2 ^ ids.length-1<=256; omega
 |n+1,d=>by
  have a:=afQ hi n (by omega);unfold MF at a ⊢;rw[List.range_succ,List.foldl_append];show(ME m ids _ n).2.1<=256;unfold ME
  split
  ·exact a
  split
  ·exact a
  split
  ·exact a
  ·dsimp only; omega
def aeC (C:In m.1) (E:m.2.length<=1000) {ids:Do Int} (F:ids.length<=1000000):uK m ids=some (alh m ids):=by
 unfold uK Au alh;rw[ox C E,À]
 by_cases l:Ī m=0
 ·have h:=(Ń m).1 l;rw[Í (by simp[ine,l]),if_neg (by simp[l])]
  by_cases y:8<ids.length
  ·rw[Ñ (by simp[igt,Î]; omega),if_pos y]
  ·have hi:ids.length<=8:=by omega
   obtain⟨K,J⟩:=pow8 hi;rw[Í (by simp[igt,Î]; omega),if_neg y,alZ h.good.size.compares (by omega)]
   cases ids.all (fun i=>(ad5 m).contains i) with
   |false=>rfl
   |true =>
    rw[if_pos rfl,if_neg (by simp),alY (by omega)]
    by_cases o:ids.Pairwise (·<·)
    ·have u:shlI .i64 (1:Int) (Õ ids)=((2 ^ ids.length:Nat):Int):=by
      unfold shlI;rw[Î,Int.toNat_natCast,Nat.min_eq_left (by show ids.length<=64; omega),Int.one_mul,show((2:Int) ^ ids.length)=((2 ^ ids.length:Nat):Int) by simp,ah6 (by omega)]
     have I:((2 ^ ids.length:Nat):Int)-1=((2 ^ ids.length-1:Nat):Int):=by omega
     rw[if_pos o,if_neg (by simpa using o),Ov h,À,ä (by simp[ile,Î]),u,Ï (by omega) (by omega),I]
     have loop:Ë (fun(e:Do Int×Int×Int×Do Int) j=>ŷ (ň m.2) ((2 ^ ids.length-1:Nat):Int) ids m.1.1.1 m.1.1.2 m.1.2.1 m.1.2.2.1 m.1.2.2.2.1 m.1.2.2.2.2.1 m.1.2.2.2.2.2 m.2 e.1 e.2.1 e.2.2.1 e.2.2.2 (fun t r q p=>j (t,r,q,p)) (fun f=>Å (jt ids f.1) fun g=>some (g,(0:Int)))) (ids,((2 ^ ids.length-1:Nat):Int),(0:Int),[])=some (đ ids (MF m ids (2 ^ ids.length-1)).2.1,0):=by
      refine õ (fun x=>∃n:Nat,n<=2 ^ ids.length-1/\x=stI (MF m ids n) n) (fun x=>2 ^ ids.length-1-x.2.2.1.toNat) ?_ ⟨0,d9 _,rfl⟩;rintro x ⟨n,D,rfl⟩;obtain⟨B,A,z⟩:=aeY (m:=m) hi n;rcases dw n (2 ^ ids.length-1) with k|G
      ·refine .inr ⟨stI (MF m ids (n+1)) (n+1),⟨n+1,k,rfl⟩,by dsimp only; omega,fun v=>?_⟩;have:=agD h hi k (by omega) B A z (fun a b c d=>v (a,b,c,d)) (fun f=>Å (jt ids f.1) fun g=>some (g,(0:Int)));rw[this];unfold MF;rw[List.range_succ,List.foldl_append]; rfl
      ·have:n=2 ^ ids.length-1:=by omega
       subst this;refine .inl fun v=>?_;have M:=afQ (m:=m) hi (2 ^ ids.length-1) (by omega);dsimp only;unfold ŷ;rw[Í (by simp[ilt])];dsimp only;rw[Js (by omega) (by omega)]; rfl
     have H:=alX h (ids:=ids) (by omega) (s:=2 ^ ids.length-1) (by omega) (some ([],(5:Int))) (some (đ ids (MF m ids (2 ^ ids.length-1)).2.1,0));rw[loop,H]
     split<;>rfl
    ·rw[if_neg o,if_pos o]
 ·rw[Ñ (by simp[ine,l]),if_pos l]
end
def Wn (b:ö) (x d:Int):Int:=match i9 (Ø b) x d with|some j=>(j:Int)+1|none=>0
def S7 (b:ö) (n:Int×Int):Int×Int:=if ŝ b≠0 then(0,ŝ b) else if Wn b n.1 n.2=0 then(0,5) else(Wn b n.1 n.2,0)
def S8 {b:ö} (h:In b) (n:Int×Int):sr b n=some (S7 b n):=by
 have e:=J4 h.size;unfold sr Rv S7;rw[CT h.size h.num,À]
 by_cases a:ŝ b=0
 ·rw[Í (by simp[ine,a]),if_neg (show ¬(ŝ b≠0) from fun h=>h a),Xw h.size,À,show ø (Ø b) n=ø (Ø b) (n.1,n.2) from rfl,acX (by omega),À];unfold Wn
  cases d:i9 (Ø b) n.1 n.2 with
  |none=>rfl
  |some j =>
   have:=(lY d).1;simp only;rw[Í (by simp[ilt]),Ï (by omega) (by omega),if_neg (by omega)]
 ·rw[Ñ (by simp[ine,a]),if_pos a]
def vm (b:ö) (n:Int×Int):ö:=(b.1,b.2.1,b.2.2.1,b.2.2.2.1,b.2.2.2.2.1,b.2.2.2.2.2++[n])
def ajm {b:ö} (h:Ŭ b) (n:Int×Int):i5 (vm b n):=by
 have a:=h.size;have:=h.nK;exact⟨a.gauges,a.uses,a.loans,a.compares,by simp[vm]; omega,a.piles⟩
def aph (b:ö) (n:Int×Int):ö×Int:=if ŝ b≠0 then(Gg,ŝ b) else if ŝ (vm b n)≠0 then(Gg,ŝ (vm b n)) else(vm b n,0)
def apg {b:ö} (h:In b) (n:Int×Int):Og b n=some (aph b n):=by
 have e:=h.size;have s:=e.gauges; have h2:=e.uses; have r:=e.loans; have q:=e.compares; have p:=e.looks;unfold Og Y5 aph;rw[CT e h.num,À]
 by_cases f:ŝ b=0
 ·have k:=(Μ b).1 f;rw[Í (by simp[ine,f]),Ò (by omega),Am.iff_true,Ò (by omega),Am.iff_true,Ò (by omega),Am.iff_true,Ò (by omega),Am.iff_true,Ò (by omega),Am.iff_true,if_neg (show ¬(ŝ b≠0) from fun h=>h f)];refine î b.2.2.2.2.1 (fun _=>b.2.2.2.2.1) _ rfl (fun i d hi hd j=>?_) (fun j=>?_)
  ·dsimp only;unfold yn;obtain⟨o,l⟩:=e.piles d (List.mem_of_getElem? hd)
   have g:b.2.2.2.2.1.set i d=b.2.2.2.2.1:=by
    obtain⟨h,rfl⟩:=dj.1 hd;exact List.set_getElem_self h
   rw[Ì hi,ř hi,ā hd,Ò (by omega),Am.iff_true,Ò (by omega),Am.iff_true,ř hi,ā hd,du];rw[show(d.1,d.2.1,d.2.2.1,d.2.2.2)=d from rfl,g,ř hi,Ž hd,É hi (by omega)];rw[show(d.1,d.2.1,d.2.2.1,d.2.2.2.1,d.2.2.2.2)=d from rfl,g]
  ·try dsimp only
   unfold yn;rw[Ó];dsimp only;rw[Ò (by simp only[List.length_singleton]; omega),Am.iff_true];rw[show η (b.1,b.2.1,b.2.2.1,b.2.2.2.1,b.2.2.2.2.1,b.2.2.2.2.2++[n])=η (vm b n) from rfl,CT (ajm k n) h.num,À]
   by_cases a:ŝ (vm b n)=0
   ·rw[Í (by simp[ine,a]),if_neg (show ¬(ŝ (vm b n)≠0) from fun h=>h a)];rfl
   ·rw[Ñ (by simp[ine,a]),if_pos a];rfl
 ·rw[Ñ (by simp[ine,f]),if_pos f];rfl
def CU (b:ö) (n:Int×Int):ö×Int:=if Wn b n.1 n.2≠0 then(b,0) else if ŝ (vm b n)≠0 then(Gg,ŝ (vm b n)) else(vm b n,0)
structure Room (B:ö):Prop where
 good:Ŭ B
 op:mq (jF B) ((Ø B).length+1)=true
 num:∀g∈B.2.1,I64 g.2.2.2.2.1.1
def aoJ (B:ö) (n:Int×Int):0<=Wn B n.1 n.2/\Wn B n.1 n.2<((Ø B).length+1:Nat):=by
 unfold Wn
 cases h:i9 (Ø B) n.1 n.2 with
 |none=>dsimp only; omega
 |some j=>have:=(lY h).1; dsimp only; omega
def dstR (B:ö) (s t:Int):Int:=dst (jF B) ((Ø B).length+1) s t
def ivR (B:ö) (n:Int×Int):Int×Int:=(-(dstR B (Wn B n.1 n.2) 0),dstR B 0 (Wn B n.1 n.2))
def Wm {ρ α:Type} {l:Do α} {i:Int} (h0:0<=i) {a:α} (h:l[i.toNat]?=some a) (f:α->CK ρ):ç l i f=f a:=by
 obtain⟨n,rfl⟩:=Int.eq_ofNat_of_zero_le h0;exact Ä (by simpa using h) f
def jY (x:Do Int) (y:Do Int) (l:Lk):Do Int:=if gv x l.2.1=Š then y else y.set l.1.toNat (min (gv y l.1) (l.2.2+gv x l.2.1))
def Wz (L:Do Lk) (N:Nat) (x:Do Int):Do Int:=L.foldl (jY x) (List.replicate N Š)
def exL (L:Do Lk) (N:Nat) (to:Int):Nat->Do Int
 |0=>(List.replicate N Š).set to.toNat 0
 |k+1=>Wz L N (exL L N to k)
def nq (L:Do Lk) (N:Nat) (to:Int) (most:Nat):Do (Do Int):=(List.range (most+1)).map (exL L N to)
section
variable {L:Do Lk} {N:Nat}
def Lr (x y:Do Int) (l:Lk):(jY x y l).length=y.length:=by unfold jY; split<;>simp
def Lt (x:Do Int):∀(M:Do Lk) (y:Do Int),(M.foldl (jY x) y).length=y.length
 |[],y=>rfl
 |l::M,y=>by rw[gd,Lt x M,Lr]
def ahe (x:Do Int):(Wz L N x).length=N:=by unfold Wz; rw[Lt]; simp
def aeb (to:Int) (k:Nat):(exL L N to k).length=N:=by
 cases k with
 |zero=>simp[exL]
 |succ k=>exact ahe _
def Lim (B:Int) (x:Do Int):Prop:=∀v:Int,gv x v≠Š->-B<=gv x v/\gv x v<=B
def gv_out {x:Do Int} {v:Int} (h:¬v.toNat<x.length):gv x v=0:=by
 unfold gv;rw[List.getElem?_eq_none (by omega)];rfl
def Rz {B:Int} (d:0<=B):Lim B (List.replicate N Š):=by
 intro v a
 by_cases h:v.toNat<N
 ·exfalso; apply a;unfold gv;rw[List.getElem?_replicate,if_pos h];rfl
 ·rw[gv_out (by simpa using h)]; omega
def ajx {B:Int} {y:Do Int} (f:Lim B y) {u:Int} (i:0<=u) (g:u.toNat<y.length) {a:Int} (ha:a≠Š->-B<=a/\a<=B):Lim B (y.set u.toNat a):=by
 intro v d
 by_cases h:v.toNat=u.toNat
 ·have:gv (y.set u.toNat a) v=a:=by
   unfold gv;rw[h,List.getElem?_set_self g];rfl
  rw[this] at d ⊢;exact ha d
 ·have:gv (y.set u.toNat a) v=gv y v:=by
   unfold gv;rw[List.getElem?_set_ne (fun e=>h e.symm)]
  rw[this] at d ⊢;exact f v d
def afy (e:kB L N) {B:Int} (n:0<=B) (i:B<=1000000000000000000) {x y:Do Int} (g:Lim B x) (a:Lim (B+4503599627370496) y) (k:y.length=N) {l:Lk} (d:l∈L):Lim (B+4503599627370496) (jY x y l):=by
 unfold jY
 split
 ·exact a
 ·rename_i h;have j:=e.inr l d;have h2:=e.most l d;have o:=g _ h;refine ajx a j.1.1 (by omega) fun ha=>?_
  by_cases f:gv y l.1=Š
  ·rw[f] at ha ⊢
   have:min Š (l.2.2+gv x l.2.1)=l.2.2+gv x l.2.1:=by unfold Š; omega
   rw[this]; omega
  ·have:=a _ f;omega
def afz (g:kB L N) {B:Int} (i:0<=B) (a:B<=1000000000000000000) {x:Do Int} (e:Lim B x):∀(M:Do Lk),(∀l∈M,l∈L)->∀y:Do Int,y.length=N->Lim (B+4503599627370496) y->Lim (B+4503599627370496) (M.foldl (jY x) y)
 |[],_,y,_,d=>d
 |l::M,h,y,f,d=>by
  rw[gd];exact afz g i a e M (fun m j=>h m (by simp[j])) _ (by rw[Lr,f]) (afy g i a e d f (h l (by simp)))
def F7 (d:kB L N) {to:Int} (a:0<=to/\to<N):∀k:Nat,k<=200->Lim (k*4503599627370496) (exL L N to k)
 |0,_=>by
  unfold exL;exact ajx (Rz (by omega)) a.1 (by simp; omega) (fun _=>by omega)
 |k+1,f=>by
  have:=afz d (B:=k*4503599627370496) (by omega) (by omega) (F7 d a k (by omega)) L (fun _ h=>h) (List.replicate N Š) (by simp) (Rz (by omega));unfold exL Wz
  have e:(((k+1:Nat):Int)*4503599627370496)=(k:Int)*4503599627370496+4503599627370496:=by push_cast; omega
  rw[e];exact this
def acm {ρ:Type} (n:N<=1000) (K:Do Int->CK ρ) {f:Int×Do Int->(Int×Do Int->CK ρ)->CK ρ}
 (k:∀(v:Int×Do Int) j,f v j=Cc (N:Int) v.1 v.2 (fun g e=>j (g,e)) K):Ë f ((0:Int),List.replicate N (0:Int))=K (List.replicate N Š):=by
 refine î (List.replicate N (0:Int)) (fun i=>List.replicate i Š++List.replicate (N-i) (0:Int)) _ (by simp) (fun i a hi ha l=>?_) (fun l=>?_)
 ·rw[k];dsimp only;unfold Cc;rw[List.length_replicate] at hi
  have d:(List.replicate i Š++List.replicate (N-i) (0:Int)).length=N:=by simp; omega
  have h:ilt (i:Int) (N:Int)=true:=decide_eq_true (by omega);rw[Ñ h,show ï (List.replicate i Š++List.replicate (N-i) (0:Int))=(N:Int) by unfold ï; rw[d],Γ (by omega) (by omega),lO (by rw[d]; omega),Ï (by omega) (by omega)];congr 2;rw[Int.toNat_natCast];rw[List.set_append_right _ _ (by simp),List.length_replicate,Nat.sub_self];rw[show N-i=(N-(i+1))+1 by omega,List.replicate_succ,List.set_cons_zero,List.replicate_succ'];simp
 ·rw[k];dsimp only;unfold Cc;rw[List.length_replicate];have h:ilt (N:Int) (N:Int)=false:=decide_eq_false (by omega);rw[Í h];simp
def okN (a:N<=1000) {ρ:Type} (x:CK ρ):à ((ile (0:Int) (N:Int))&&(ã (Int.toNat (N:Int)))) x=x:=by
 rw[ä];rw[du,Ò (by omega),Bool.and_true];exact decide_eq_true (by omega)
def ajw {ρ:Type} (n:kB L N) {B:Int} (u:0<=B) (t:B<=1000000000000000000) {x:Do Int} (r:Lim B x) (q:x.length=N) (K:Do Int->CK ρ) :
 Ë (fun(e:pi) f=>H5 x L (Õ L) e.1 e.2 (fun j h=>f (j,h)) K) ((0:Int),List.replicate N Š)=K (Wz L N x):=by
 have s:=n.len;refine î L (fun i=>(L.take i).foldl (jY x) (List.replicate N Š)) _ rfl (fun i l hi k p=>?_) (fun p=>?_)
 ·try dsimp only
  unfold H5;have o:=List.mem_of_getElem? k;have d:=n.inr l o;have h2:=n.most l o;rw[Ì hi,Ä k,yr d.2.1 (by omega),take_succ k,List.foldl_append,É hi (by omega)]
  have a:((L.take i).foldl (jY x) (List.replicate N Š)).length=N:=by rw[Lt]; simp
  generalize (L.take i).foldl (jY x) (List.replicate N Š)=y at a ⊢
  by_cases g:gv x l.2.1=Š
  ·rw[Í (by rw[g]; rfl)];simp only[List.foldl_cons,List.foldl_nil];unfold jY;rw[if_pos g]
  ·have v:=r _ g;rw[Ñ (bne_iff_ne.2 g),show ï y=(N:Int) by unfold ï; rw[a],Γ d.1.1 d.1.2,lO (by omega),yr d.2.1 (by omega),Ï (by omega) (by omega),Γ d.1.1 d.1.2,lO (by omega),É hi (by omega)];simp only[List.foldl_cons,List.foldl_nil];unfold jY;rw[if_neg g,Zi]
 ·try dsimp only
  unfold H5;rw[Ó,List.take_length];rfl
def amH {ρ:Type}:@YC ρ=@Cc ρ:=rfl
def Ln (to:Int) (m:Nat):(nq L N to m).length=m+1:=by simp[nq]
def Lq {to:Int} {m k:Nat} (a:k<=m):(nq L N to m)[k]?=some (exL L N to k):=by
 unfold nq;rw[List.getElem?_map,List.getElem?_range (by omega)];rfl
def amG (e:kB L N) {to:Int} (d:0<=to/\to<N) {most:Nat} (k:most<=100):Jj ((N:Int),L) to (most:Int)=some (nq L N to most):=by
 have l:=e.n60
 unfold Jj QR
 dsimp only;rw[okN (by omega),Int.toNat_natCast];refine(acm (by omega) _ (fun v h=>by rw[Î,List.length_replicate])).trans ?_;rw[show ï (List.replicate N Š)=(N:Int) by simp[ï],Γ d.1 d.2,lO (by simp; omega)];refine î (List.replicate most ()) (fun i=>nq L N to i) _ (by simp[nq,exL]) (fun i a hi ha g=>?_) (fun g=>?_)
 ·try dsimp only
  unfold NX;rw[List.length_replicate] at hi;have f:ilt (i:Int) (most:Int)=true:=decide_eq_true (by omega);rw[Ñ f,Î,Ln]
  have j:(((i+1:Nat):Int)-1)=(i:Int):=by omega
  rw[j,Ï (by omega) (by omega),show ï (nq L N to i)=((i+1:Nat):Int) by unfold ï; rw[Ln],Γ (by omega) (by omega),Int.toNat_natCast,Ž (Lq (Nat.le_refl i)),okN (by omega),Int.toNat_natCast];rw[amH];refine(acm (by omega) _ (fun v h=>by rw[Î,List.length_replicate])).trans ?_;refine(ajw e (B:=i*4503599627370496) (by omega) (by omega) (F7 e d i (by omega)) (aeb _ _) _).trans ?_;rw[ä (Ò (by simp only[Ln,List.length_singleton]; omega)),Ï (by omega) (by omega)];congr 2;unfold nq;rw[List.range_succ (n:=i+1),List.map_append];rfl
 ·try dsimp only
  unfold NX;rw[List.length_replicate];have f:ilt (most:Int) (most:Int)=false:=decide_eq_false (by omega);rw[Í f]
def Xz (L:Do Lk) (x:Do Int) (good:Int->Bool) (u a:Int):CK Nat:=L.findIdx? fun l=>l.1==u&&(decide (gv x l.2.1≠Š)&&good (a+l.2.2+gv x l.2.1))
def pH (L:Do Lk) (rest:Nat->Do Int) (good:Int->Bool):Nat->Int->Int->Do Int->Do Int
 |0,_,_,out=>out
 |k+1,u,sum,out=>match Xz L (rest k) good u sum with
  |some i=>pH L rest good k (L[i]?.getD (0,0,0)).2.1 (sum+(L[i]?.getD (0,0,0)).2.2) (out++[(i:Int)])
  |none=>pH L rest good k u sum out
def folL {ρ:Type} (good:Int->Bool) (c0:Int) (r:Do (Do Int)) (v:Do Lk) (u:Int) (e:Int) (v1:Int) (v2:Int) (a:Do Int) (n:Int->Int->Int->Do Int->CK ρ) (k0:Int×Int×Do Int->CK ρ):CK ρ :=
 ifb (ilt v2 u) (ç v v2 fun d=>ifb (ieq d.1 e) (ck (c0-(1:Int)) fun s=>ç r s fun t=>ç t d.2.1 fun q=>ifb (ine q (1152921504606846976:Int)) (ck (v1+d.2.2) fun l=>ck (c0-(1:Int)) fun k=>ç r k fun p=>ç p d.2.1 fun o=>ck (l+o) fun j=>ifb (good j) (à (ã ((List.length a)+(List.length ([v2])))) (ck (v1+d.2.2) fun i=>k0 (d.2.1,i,(a++([v2]))))) (ck (v2+(1:Int)) fun h=>n e v1 h a)) (ck (v2+(1:Int)) fun g=>n e v1 g a)) (ck (v2+(1:Int)) fun f=>n e v1 f a)) (k0 (e,v1,a))
def aoP {ρ:Type} (D:kB L N) (good:Int->Bool) {rest:Do (Do Int)} {k:Nat} {x:Do Int} (s:rest[k]?=some x) (S:k<=100) (G:Lim 1000000000000000000 x) (J:x.length=N) {u e:Int} (Q : -1000000000000000000<=e/\e<=1000000000000000000) {out:Do Int} (R:out.length<=1000)
 (K:Int×Int×Do Int->CK ρ):Ë (fun(v:Int×Int×Int×Do Int) I=>folL good ((k+1:Nat):Int) rest L (Õ L) v.1 v.2.1 v.2.2.1 v.2.2.2 (fun a b c d=>I (a,b,c,d)) K) (u,e,(0:Int),out) =
  match Xz L x good u e with|some i=>K ((L[i]?.getD (0,0,0)).2.1,e+(L[i]?.getD (0,0,0)).2.2,out++[(i:Int)])|none=>K (u,e,out):=by
 have M:=D.len;refine õ (fun v=>∃i:Nat,i<=L.length/\v=(u,e,(i:Int),out)/\∀j l,j<i->L[j]?=some l->(l.1==u&&(decide (gv x l.2.1≠Š)&&good (e+l.2.2+gv x l.2.1)))=false) (fun v=>L.length-v.2.2.1.toNat) ?_ ⟨0,by omega,rfl,fun j l h=>by omega⟩;rintro v ⟨i,hi,rfl,C⟩
 have H:(((k+1:Nat):Int)-1)=(k:Int):=by omega
 rcases dw i L.length with h2|h2
 ·have f:L[i]?=some L[i]:=df h2;generalize L[i]=l at f;have p:=dk f;have t:=D.inr l p;have U:=D.most l p
  have n:(l.1==u&&(decide (gv x l.2.1≠Š)&&good (e+l.2.2+gv x l.2.1)))=false->∃y,(∃i:Nat,i<=L.length/\y=(u,e,(i:Int),out)/\∀j l,j<i->L[j]?=some l->(l.1==u&&(decide (gv x l.2.1≠Š)&&good (e+l.2.2+gv x l.2.1)))=false)/\(L.length-y.2.2.1.toNat<L.length-((u,e,(i:Int),out):Int×Int×Int×Do Int).2.2.1.toNat)/\y=(u,e,(i:Int)+1,out):=fun g =>
   ⟨_,⟨i+1,h2,by rw[show((i+1:Nat):Int)=(i:Int)+1 by push_cast; rfl],fun j m q p=>by
    rcases g8.1 q with h|rfl
    ·exact C j m h p
    ·rw[f] at p; cases p; exact g⟩,by simp; omega,rfl⟩
  by_cases g:(l.1==u&&(decide (gv x l.2.1≠Š)&&good (e+l.2.2+gv x l.2.1)))=true
  ·refine .inl fun F=>?_
   have o:Xz L x good u e=some i:=by
    unfold Xz;rw[List.findIdx?_eq_some_iff_getElem];obtain⟨T,rfl⟩:=List.getElem?_eq_some_iff.1 f;exact⟨h2,g,fun j q=>by have:=C j _ q (List.getElem?_eq_getElem (by omega)); rw[this]; simp⟩
   rw[o];simp only[Bool.and_eq_true,beq_iff_eq,decide_eq_true_eq] at g;have O:=G _ g.2.1;dsimp only;unfold folL
   rw[Ì h2,Ä f,Ñ (by simp[g.1]),H,Ï (by omega) (by omega),Ä s,yr t.2.1 (by omega),Ñ (bne_iff_ne.2 g.2.1),Ï (by omega) (by omega),Ï (by omega) (by omega),Ä s,yr t.2.1 (by omega),Ï (by omega) (by omega),Ñ g.2.2,
    ä (Ò (by simp; omega)),Ï (by omega) (by omega),f]
   rfl
  ·have r:=Bool.not_eq_true _▸g;obtain⟨y,B,A,rfl⟩:=n r;refine .inr ⟨_,B,A,fun F=>?_⟩;dsimp only;unfold folL;rw[Ì h2,Ä f,É h2 (by omega)]
   by_cases E:l.1=u
   ·rw[Ñ (by simp[E]),H,Ï (by omega) (by omega),Ä s,yr t.2.1 (by omega)]
    by_cases z:gv x l.2.1=Š
    ·rw[Í (by rw[z]; rfl)]
    ·have O:=G _ z
     have P:good (e+l.2.2+gv x l.2.1)=false:=by simpa[E,z] using r
     rw[Ñ (bne_iff_ne.2 z),Ï (by omega) (by omega),Ï (by omega) (by omega),Ä s,yr t.2.1 (by omega),Ï (by omega) (by omega),Í P]
   ·rw[Í (by simpa using E)]
 ·refine .inl fun F=>?_
  obtain rfl:i=L.length:=by omega
  have o:Xz L x good u e=none:=by
   unfold Xz;rw[List.findIdx?_eq_none_iff];intro l f;obtain⟨j,q,rfl⟩:=List.mem_iff_getElem.1 f;exact C j _ q (List.getElem?_eq_getElem q)
  rw[o];dsimp only;unfold folL;rw[Ó]
def folM {ρ:Type} (good:Int->Bool) (c0:Do (Do Int)) (l:Do Lk) (n:Int) (v1:Int) (v2:Int) (k:Do Int) (o:Int->Int->Int->Do Int->CK ρ) (k0:Do Int->CK ρ):CK ρ :=
 ifb (igt v1 (0:Int)) (Ë (fun(a:Int×Int×Int×Do Int) e=>folL good v1 c0 l (Õ l) a.1 a.2.1 a.2.2.1 a.2.2.2 (fun i h g f=>e (i,h,g,f)) (fun d=>ck (v1-(1:Int)) fun j=>o d.1 j d.2.1 d.2.2)) (n,v2,(0:Int),k)) (k0 k)
def aoO {ρ:Type} (q:kB L N) (good:Int->Bool) {rest:Do (Do Int)} {R:Nat->Do Int} {k0:Nat} (h:k0<=100) (t:∀k,k<k0->rest[k]?=some (R k)) (s:∀k,k<k0->Lim 900000000000000000 (R k)/\(R k).length=N) (u:Int) (K:Do Int->CK ρ) :
 Ë (fun(v:Int×Int×Int×Do Int) l=>folM good rest L v.1 v.2.1 v.2.2.1 v.2.2.2 (fun a b c d=>l (a,b,c,d)) K) (u,(k0:Int),(0:Int),[])=K (pH L R good k0 u 0 []):=by
 have key:=wD (f:=fun(v:Int×Int×Int×Do Int) l=>folM good rest L v.1 v.2.1 v.2.2.1 v.2.2.2 (fun a b c d=>l (a,b,c,d)) K) (F:=fun v=>K (pH L R good v.2.1.toNat v.1 v.2.2.1 v.2.2.2))
  (fun v=>∃k:Nat,v.2.1=k/\k<=k0/\(-(((k0-k:Nat):Int)*4503599627370496)<=v.2.2.1/\v.2.2.1<=((k0-k:Nat):Int)*4503599627370496)/\v.2.2.2.length<=k0-k) (fun v=>v.2.1.toNat) (fun v n A h=>?_) (x:=(u,(k0:Int),0,[])) ⟨k0,rfl,dh _,by simp,by simp⟩
 ·rw[key]; simp
 ·obtain⟨u,B,j,out⟩:=v;obtain⟨k,e,D,h2,z⟩:=n;dsimp only at e h2 z h ⊢;subst e;rw[Int.toNat_natCast] at h ⊢;unfold folM
  cases k with
  |zero =>
   rw[Í (by rfl)];rfl
  |succ k =>
   rw[Ñ (decide_eq_true (by omega))];have p:=s k (by omega)
   have g:Lim 1000000000000000000 (R k):=fun v n=>by have:=p.1 v n; omega
   refine(aoP q good (t k (by omega)) (by omega) g p.2 (by omega) (by omega) _).trans ?_;unfold pH
   have r:(((k+1:Nat):Int)-1)=(k:Int):=by omega
   cases o:Xz L (R k) good u j with
   |none =>
    dsimp only;rw[r,Ï (by omega) (by omega),h _ ⟨k,rfl,by omega,by dsimp only; omega,by dsimp only; omega⟩ (by simp)];simp
   |some i =>
    have hi:i<L.length:=by
     unfold Xz at o;exact(List.findIdx?_eq_some_iff_getElem.1 o).1
    have y:L[i]?=some L[i]:=List.getElem?_eq_getElem hi;have C:=q.most L[i] (List.getElem_mem _);dsimp only;rw[y];simp only[Option.getD_some];rw[r,Ï (by omega) (by omega),h _ ⟨k,rfl,by omega,by dsimp only; omega,by simp; omega⟩ (by simp)];simp
end
def EL (L:Do Lk):Int->Int->Do Int->Int×Int×Bool
 |u,s,[]=>(u,s,true)
 |u,s,i::t=>if (L[i.toNat]?.getD (0,0,0)).1=u then EL L (L[i.toNat]?.getD (0,0,0)).2.1 (s+(L[i.toNat]?.getD (0,0,0)).2.2) t else(0,0,false)
def EJ (L:Do Lk) (i:Int):Bool:=decide (i<0)||decide ((L.length:Int)<=i)
def mP (L:Do Lk) (l:Do Int):Int:=if 80<l.length then 2 else if l.any (EJ L) then 1 else 0
def af0 (u:Int) (w:Int×Int×Bool):Int:=if w.2.2=true/\w.1=u/\w.2.1<0 then 0 else 8
def ş (L:Do Lk) (l:Do Int):Int :=
 if mP L l≠0 then mP L l else match l with
 |[]=>8
 |i::_=>af0 (L[i.toNat]?.getD (0,0,0)).1 (EL L (L[i.toNat]?.getD (0,0,0)).1 0 l)
section
variable {L:Do Lk} {N:Nat}
def ag7 (N:Int) (f:L.length<=1000) (l:Do Int):yC (N,L) l=some (mP L l):=by
 unfold yC FP mP;dsimp only;rw[Î]
 by_cases h:80<l.length
 ·rw[Ñ (decide_eq_true (by omega)),if_pos h]
 ·rw[Í (decide_eq_false (by omega)),if_neg h,<-Î l];refine(Ē l (EJ L) (fun z=>ifb (ige z 0) (some 1) (some 0)) (some 1) (some 0) (fun j=>by rw[show ige (j:Int) 0=true from decide_eq_true (by omega)]; rfl) (fun i a hi ha e=>?_) (fun e=>?_)).trans ?_
  ·try dsimp only
   unfold om EJ;rw[Ì hi,Ä ha,É hi (by omega),Î,ó,ó]
   by_cases d:a<0
   ·simp[ilt,d]
   ·by_cases h2:(L.length:Int)<=a
    ·simp[ilt,ige,d,h2]
    ·simp[ilt,ige,d,h2]
  ·try dsimp only
   unfold om;rw[Ó]
  ·cases l.any (EJ L)<;>rfl
def ad4 {l:Do Int} (h:mP L l=0):l.length<=80/\∀i∈l,0<=i/\i.toNat<L.length:=by
 unfold mP at h
 split at h
 ·omega
 ·rename_i a
  split at h
  ·omega
  ·rename_i h2;refine⟨by omega,fun i hi=>?_⟩;have:=ej.1 (eQ.2 h2) i hi;simp[EJ] at this;omega
def an6 (C:kB L N) (u:Int) {l:Do Int} (h:mP L l=0):Oc ((N:Int),L) u l=some (EL L u 0 l):=by
 obtain⟨E,hi⟩:=ad4 h;unfold Oc YA;dsimp only
 have:=wD (f:=fun(p:Int×Int×Int) g=>xR l (Õ l) L p.1 p.2.1 p.2.2 (fun u8 z q=>g (u8,z,q)) (fun o=>some (o.1,o.2.1,o.2.2)) (fun y=>some (y.1,y.2,true)))
  (F:=fun v=>some (EL L v.1 v.2.1 (l.drop v.2.2.toNat))) (fun v=>∃i:Nat,v.2.2=i/\i<=l.length/\(-(i*4503599627370496)<=v.2.1/\v.2.1<=i*4503599627370496)) (fun v=>l.length-v.2.2.toNat) (fun v A D t=>?_) (x:=(u,(0:Int),(0:Int))) ⟨0,rfl,by omega,by simp⟩
 ·exact this
 ·obtain⟨w,s,n⟩:=v;obtain⟨i,e,G,h2⟩:=A;dsimp only at e h2 t ⊢;subst e;rw[Int.toNat_natCast] at t ⊢;unfold xR;rcases Nat.lt_or_ge i l.length with d|d
  ·have ha:l[i]?=some l[i]:=List.getElem?_eq_getElem d;have hd:l.drop i=l[i]::l.drop (i+1):=List.drop_eq_getElem_cons d;rw[hd];have r:=hi l[i] (List.getElem_mem _);generalize l[i]=a at ha r;have j:L[a.toNat]?=some L[a.toNat]:=List.getElem?_eq_getElem r.2;have B:=C.most _ (List.mem_of_getElem? j);generalize L[a.toNat]=x at j B;rw[Ì d,Ä ha,Wm r.1 j];unfold EL;rw[j];simp only[Option.getD_some]
   by_cases k:x.1=w
   ·rw[Í (by rw[k]; exact bne_self_eq_false' _),if_pos k,Ï (by omega) (by omega),É d (by omega),t _ ⟨i+1,by push_cast; rfl,d,by dsimp only; push_cast; omega⟩ (by simp; omega)];simp
   ·rw[Ñ (bne_iff_ne.2 k),if_neg k]
  ·obtain rfl:i=l.length:=by omega
   rw[Ó,List.drop_length];rfl
def ajI {ρ α:Type} (x:α) (t:Do α) (f:α->CK ρ):ç (x::t) (0:Int) f=f x:=rfl
def U5 (f:kB L N) (l:Do Int):ov ((N:Int),L) l=some (ş L l):=by
 have k:=f.len;unfold ov vg ş;rw[mZ f,À,Í (by rfl),ag7 _ (by omega),À]
 by_cases h:mP L l=0
 ·rw[Í (by rw[h]; rfl),if_neg (by simp[h])]
  cases l with
  |nil=>rw[Î]; rfl
  |cons i t =>
   have g:=(ad4 h).2 i (by simp);have d:L[i.toNat]?=some L[i.toNat]:=List.getElem?_eq_getElem g.2;generalize L[i.toNat]=x at d;rw[Î,Í (beq_eq_false_iff_ne.2 (by simp; omega)),ajI,Wm g.1 d,an6 f x.1 h,À];dsimp only;rw[d];dsimp only[Option.getD_some];generalize EL L x.1 0 (i::t)=w;obtain⟨e,a,ok⟩:=w;unfold af0;dsimp only
   cases ok with
   |false=>rw[Ñ (by rfl),if_neg (by simp)]
   |true =>
    rw[Í (by rfl)]
    by_cases h2:e=x.1
    ·rw[Í (by rw[h2]; exact bne_self_eq_false' _)]
     by_cases j:a<0
     ·rw[Í (decide_eq_false (by omega)),if_pos ⟨rfl,h2,j⟩]
     ·rw[Ñ (decide_eq_true (by omega)),if_neg (fun h=>j h.2.2)]
    ·rw[Ñ (bne_iff_ne.2 h2),if_neg (fun h=>h2 h.2.1)]
 ·rw[Ñ (bne_iff_ne.2 h),if_pos h]
end
def aho {L:Do Lk} {N:Nat} (h:kB L N) (a:mq L N=true):pm ((N:Int),L)=some ([],5):=by
 have d:=h.n60;unfold pm H8;rw[mZ h,À,Í (by rfl),xi h.links h.n1 (by omega),À,if_pos a];rfl
def acR {l m:Do (Int×Int)} (k:l.length<=1000000):kZ l m=some (decide (l=m)):=by
 unfold kZ vd;rw[Î,Î]
 by_cases f:l.length=m.length
 ·rw[Í (by simp[ine,f])];refine ee (iP l (fun i a=>if m[i]?=some a then none else some false) some (some true) (fun i a hi ha j=>?_) (fun j=>?_)) ?_
  ·try dsimp only
   unfold kp;have g:m[i]?=some m[i]:=List.getElem?_eq_getElem (by omega);rw[Ì hi,Ä ha,Ä g,É hi (by omega),g,ó]
   have e:(!(iW a.1 m[i].1&&(iW a.2 m[i].2&&true)))=decide (¬(m[i]=a)):=by
    rw[eP];simp only[iW,Bool.and_true,eM,gF,decide_eq_false_iff_not,decide_eq_true_eq];constructor
    ·intro h e; rw[e] at h; simp at h
    ·intro h
     by_cases d:a.1=m[i].1
     ·by_cases h2:a.2=m[i].2
      ·exact absurd (Prod.ext d h2).symm h
      ·exact .inr h2
     ·exact .inl d
   rw[e]
   by_cases h:m[i]=a
   ·simp[h]
   ·simp[h]
  ·try dsimp only
   unfold kp;rw[Ó]
  ·cases h:Ě (fun i a=>if m[i]?=some a then none else some false) 0 l with
   |none=>simp[OJ f h]
   |some b =>
    obtain⟨d,h2⟩:=OI h;simp[d,h2]
 ·rw[Ñ (by simp[ine]; omega)];have:l≠m:=fun e=>f (by rw[e]);simp[this]
def agr (b:ö) (n:Int×Int):Prop:=∃g∈b.2.1,g.1=n.1/\n.2∈Ý b g
def Zj {b:ö} (h:Ŭ b) {n:Int×Int}:Wn b n.1 n.2≠0↔agr b n:=by
 unfold Wn;constructor
 ·intro a
  cases l:i9 (Ø b) n.1 n.2 with
  |none=>rw[l] at a; simp at a
  |some j =>
   have o:=List.mem_of_getElem? (lY l).2;unfold Ø at o;obtain⟨g,f,hd⟩:=List.mem_flatMap.1 o;obtain⟨d,hd,e⟩:=List.mem_map.1 hd;simp only[Prod.mk.injEq] at e;obtain⟨r,rfl⟩:=e;exact⟨g,f,r,hd⟩
 ·rintro⟨g,f,e,hd⟩;obtain⟨i,hi,rfl⟩:=List.mem_iff_getElem.1 f;obtain⟨k,p,q⟩:=List.mem_iff_getElem.1 hd;rw[<-e,Xx h (List.getElem?_eq_getElem hi) (by rw[List.getElem?_eq_getElem p,q])];dsimp only;omega
def ajn {b:ö} (n:Int×Int) (h':Ŭ (vm b n)):agr (vm b n) n:=by
 have a:=h'.looks n (by simp[vm]);unfold ac5 at a
 split at a
 ·omega
 obtain⟨g,f,_⟩:=J8 h' a;obtain⟨d,e⟩:=Φ f;refine⟨g,d,e,?_⟩;unfold Ý;rw[xm];unfold acr vm;simp only[List.mem_append,List.mem_map,List.mem_filter];exact .inr ⟨n,⟨.inr (by simp),by simp[e]⟩,rfl⟩
def aip {b:ö} {n:Int×Int} (e:(CU b n).2=0):(CU b n=(b,0)/\Wn b n.1 n.2≠0)\/(CU b n=(vm b n,0)/\Ŭ (vm b n)/\Wn b n.1 n.2=0):=by
 unfold CU at e ⊢
 split
 ·rename_i h; exact .inl ⟨rfl,h⟩
 ·rename_i a;rw[if_neg a] at e
  split
  ·rename_i h2; rw[if_pos h2] at e; exact absurd e h2
  ·rename_i h2; exact .inr ⟨rfl,(Μ _).1 (by simpa using h2),by simpa using a⟩
def ajo {b:ö} {n:Int×Int} {f:Int->Int->Int} {z:Int}:Hist (vm b n) f z↔Hist b f z :=
 ⟨fun h=>⟨fun g a=>by have:=h.gauge g a; exact⟨this.hi,this.lo,this.down,this.loss⟩,h.cmp⟩,fun h=>⟨fun g a=>by have:=h.gauge g a; exact⟨this.hi,this.lo,this.down,this.loss⟩,h.cmp⟩⟩
inductive Wk (L:List Lk) (to:Int):Nat->Int->Int->Prop
 |nil:Wk L to 0 to 0
 |step {k:Nat} {v w m d:Int}:(v,w,m)∈L->Wk L to k w d->Wk L to (k+1) v (m+d)
section
variable {L:Do Lk} {N:Nat}
def Wk.snoc {u v m:Int} (g:(u,v,m)∈L):∀{k:Nat} {s d:Int},Wk L u k s d->Wk L v (k+1) s (d+m):=by
 intro k s d h
 induction h with
 |nil =>
  have:=Wk.step g (Wk.nil (L:=L) (to:=v))
  have e:m+0=0+m:=by omega
  rw[e] at this;exact this
 | @step k a w f d i h2 ih =>
  have:=Wk.step i ih
  have e:f+(d+m)=f+d+m:=by omega
  rw[e] at this;exact this
def Wk.bd (a:kB L N) {t:Int} {k:Nat} {s d:Int} (h:Wk L t k s d) : -(k*4503599627370496)<=d/\d<=k*4503599627370496:=by
 induction h with
 |nil=>omega
 | @step k v w m d e h2 ih =>
  have:=a.most _ e;dsimp only at this;push_cast;omega
def ad6 {v:Int} (h0:0<=v) (a:v<N):gv (List.replicate N Š) v=Š:=by
 unfold gv;rw[List.getElem?_replicate,if_pos (by omega)];rfl
def amm {B:Int} (d:B<=1100000000000000000) {x:Do Int} (a:Lim B x) (v:Int):gv x v<=Š:=by
 by_cases h:gv x v=Š
 ·omega
 ·have:=a v h; unfold Š; omega
def I2 (k:kB L N) {B:Int} (r:0<=B) (f:B<=1000000000000000000) {x:Do Int} (o:Lim B x) {v:Int} (h0:0<=v) (D:v<N) :
 ∀(M:Do Lk),(∀l∈M,l∈L)->∀y:Do Int,y.length=N->Lim (B+4503599627370496) y ->
  gv (M.foldl (jY x) y) v<=gv y v/\(∀w m,(v,w,m)∈M->gv x w≠Š->gv (M.foldl (jY x) y) v<=m+gv x w) /\
  (gv (M.foldl (jY x) y) v=gv y v\/∃w m,(v,w,m)∈M/\gv x w≠Š/\gv (M.foldl (jY x) y) v=m+gv x w)
 |[],_,y,_,_=>⟨dY _,fun _ _ h=>by simp at h,.inl rfl⟩
 |l::M,q,y,p,n=>by
  rw[gd];have d:=q l (by simp);obtain⟨E,z,u⟩:=I2 k r f o h0 D M (fun m j=>q m (by simp[j])) (jY x y l) (by rw[Lr,p]) (afy k r f o n p d);have C:=k.inr l d;have A:=amm (by omega) n
  -- the element behind one link
  have key:gv (jY x y l) v<=gv y v/\(l.1=v->gv x l.2.1≠Š->gv (jY x y l) v<=l.2.2+gv x l.2.1)/\(gv (jY x y l) v=gv y v\/(l.1=v/\gv x l.2.1≠Š/\gv (jY x y l) v=l.2.2+gv x l.2.1)):=by
   unfold jY
   by_cases i:gv x l.2.1=Š
   ·rw[if_pos i];exact⟨dY _,fun _ h=>absurd i h,.inl rfl⟩
   ·rw[if_neg i,uH C.1.1 h0 (by omega)]
    by_cases g:v=l.1
    ·rw[if_pos g,g];refine⟨by omega,fun _ _=>by omega,?_⟩
     by_cases F:gv y l.1<=l.2.2+gv x l.2.1
     ·exact .inl (by omega)
     ·exact .inr ⟨rfl,i,by omega⟩
    ·rw[if_neg g];exact⟨dY _,fun h=>absurd h.symm g,.inl rfl⟩
  obtain⟨k1,t,s⟩:=key;refine⟨by omega,fun w m j a=>?_,?_⟩
  ·rcases dm.1 j with h|h
   ·subst h;have:=t rfl a;dsimp only at this;omega
   ·exact z w m h a
  ·rcases u with h|⟨w,m,h,a,e⟩
   ·rcases s with h'|⟨h',a,e⟩
    ·exact .inl (h.trans h')
    ·refine .inr ⟨l.2.1,l.2.2,?_,a,h.trans e⟩;rw[<-h']; simp
   ·exact .inr ⟨w,m,by simp[h],a,e⟩
def Zy (f:kB L N) {to:Int} (l:0<=to/\to<N):∀k:Nat,k<=200->∀v:Int,0<=v->v<N ->
 (gv (exL L N to k) v≠Š->Wk L to k v (gv (exL L N to k) v))/\∀d,Wk L to k v d->gv (exL L N to k) v<=d/\gv (exL L N to k) v≠Š
 |0,_,v,h0,i=>by
  unfold exL;rw[uH l.1 h0 (by simp; omega)]
  by_cases j:v=to
  ·subst j;rw[if_pos rfl];refine⟨fun _=>.nil,fun d hd=>?_⟩;cases hd;exact⟨dY _,by decide⟩
  ·rw[if_neg j,ad6 h0 i];refine⟨fun h=>absurd rfl h,fun d hd=>?_⟩;cases hd;exact absurd rfl j
 |k+1,C,v,h0,i=>by
  have g:=F7 f l k (by omega);obtain⟨z,q,p⟩:=I2 f (B:=k*4503599627370496) (by omega) (by omega) g h0 i L (fun _ h=>h) (List.replicate N Š) (by simp) (Rz (by omega));have n:=Zy f l k (by omega);unfold exL Wz;refine⟨fun s=>?_,fun d hd=>?_⟩
  ·rcases p with h|⟨w,m,h,r,e⟩
   ·rw[ad6 h0 i] at h; exact absurd h s
   ·rw[e];have a:=(f.inr _ h).2;exact .step h ((n w a.1 a.2).1 r)
  ·have hb:=Wk.bd f hd
   cases hd with
   | @step x u w m d h h2 =>
    have a:=(f.inr _ h).2;obtain⟨y,o⟩:=(n w a.1 a.2).2 d h2;have:=q w m h o;refine⟨by omega,?_⟩
    have A:(m+d)<=1000000000000000000:=by push_cast at hb; omega
    intro t;rw[t] at this;unfold Š at this;omega
def amI (g:kB L N) {to:Int} (j:0<=to/\to<N) {k:Nat} (l:k+1<=200) {u:Int} (d:0<=u/\u<N) (f:gv (exL L N to (k+1)) u≠Š) :
 ∃w m,(u,w,m)∈L/\gv (exL L N to k) w≠Š/\gv (exL L N to (k+1)) u=m+gv (exL L N to k) w:=by
 have a:=F7 g j k (by omega);obtain⟨_,_,i⟩:=I2 g (B:=k*4503599627370496) (by omega) (by omega) a d.1 d.2 L (fun _ h=>h) (List.replicate N Š) (by simp) (Rz (by omega));have e:exL L N to (k+1)=L.foldl (jY (exL L N to k)) (List.replicate N Š):=rfl;rw[e] at f ⊢;rcases i with h|h
 ·rw[ad6 d.1 d.2] at h; exact absurd h f
 ·exact h
def RS (n:kB L N) {to:Int} (h:0<=to/\to<N) (good:Int->Bool):∀(k:Nat),k<=200->∀(u a:Int) (out:Do Int),0<=u->u<N->gv (exL L N to k) u≠Š->good (a+gv (exL L N to k) u)=true ->
 ∃q,pH L (exL L N to) good k u a out=out++q/\q.length=k/\(∀i∈q,EJ L i=false)/\∃s,EL L u a q=(to,s,true)/\good s=true
 |0,_,u,a,out,h0,t,r,f=>by
  have J:u=to:=by
   have g:=((Zy n h 0 (by omega) u h0 t).1 r);generalize gv (exL L N to 0) u=y at g;cases g;rfl
  subst J
  have e:gv (exL L N u 0) u=0:=by
   unfold exL;rw[uH h.1 h0 (by simp; omega),if_pos rfl]
  rw[e,gL] at f;exact⟨[],by simp[pH],rfl,by simp,a,rfl,f⟩
 |k+1,M,u,a,out,h0,t,r,f=>by
  obtain⟨w,m,K,g,e⟩:=amI n h M ⟨h0,t⟩ r;unfold pH Xz
  cases z:L.findIdx? (fun l=>l.1==u&&(decide (gv (exL L N to k) l.2.1≠Š)&&good (a+l.2.2+gv (exL L N to k) l.2.1))) with
  |none =>
   have:=eA.1 z (u,w,m) K;rw[e,<-Int.add_assoc] at f;simp[g,f] at this
  |some i =>
   obtain⟨hi,o,_⟩:=List.findIdx?_eq_some_iff_getElem.1 z;have d:L[i]?=some L[i]:=List.getElem?_eq_getElem hi;have A:=List.mem_of_getElem? d;generalize L[i]=x at o d A;simp only[Bool.and_eq_true,beq_iff_eq,decide_eq_true_eq] at o;obtain⟨I,H,G⟩:=o;have v:=(n.inr x A).2;obtain⟨q,F,E,D,s,C,B⟩:=RS n h good k (by omega) x.2.1 (a+x.2.2) (out++[(i:Int)]) v.1 v.2 H G;dsimp only;rw[d];simp only[Option.getD_some];refine⟨(i:Int)::q,by rw[F]; simp,by simp[E],fun j p=>?_,s,?_,B⟩
   ·rcases dm.1 p with rfl|p
    ·simp[EJ]; omega
    ·exact D j p
   ·unfold EL;rw[Int.toNat_natCast,d];simp only[Option.getD_some];rw[if_pos I];exact C
def amo {P:Int->Prop} {B:Int} (h:∃d,P d) (f:∀d,P d->B<=d):∃d,P d/\∀e,P e->d<=e:=by
 obtain⟨d0,h0⟩:=h
 have:∀(n:Nat) (d:Int),P d->(d-B).toNat<=n->∃d,P d/\∀e,P e->d<=e:=by
  intro n
  induction n with
  |zero=>intro d hd j; exact⟨d,hd,fun e a=>by have:=f e a; have:=f d hd; omega⟩
  |succ n i =>
   intro d hd j
   by_cases g:∃e,P e/\e<d
   ·obtain⟨e,a,k⟩:=g;exact i e a (by have:=f e a; omega)
   ·exact⟨d,hd,fun e a=>by
     rcases ic e d with q|q
     ·exact absurd ⟨e,a,q⟩ g
     ·exact q⟩
 exact this _ d0 h0 (dh _)
def Wl.cutK {S:Int->Prop} {vs:Do Int} {u d:Int} (h:Wl L S vs u d):∀x∈u::vs,∃a g k f,Wl L S a x g/\(x::a) <:+ (u::vs)/\Wk L u k x f/\d=g+f/\k<=vs.length:=by
 induction h with
 | @nil v l =>
  intro x e;simp at e;subst e;exact⟨[],0,0,0,.nil l,List.suffix_refl _,.nil,by omega,by simp⟩
 | @step vs u v m d j i ih =>
  intro x e;rcases dm.1 e with rfl|e
  ·exact⟨u::vs,d+m,0,0,.step j i,List.suffix_refl _,.nil,by omega,by simp⟩
  ·obtain⟨a,g,k,f,p,o,n,r,q⟩:=ih x e;exact⟨a,g,k+1,f+m,p,o.trans (List.suffix_cons _ _),n.snoc i,by omega,by simp; omega⟩
def agT (n:kB L N) (x:mq L N=false):∃(k:Nat) (v d:Int),1<=k/\k<=N/\(0<=v/\v<N)/\Wk L v k v d/\d<0:=by
 have R:=n.n60;apply Classical.byContradiction;intro D
 have y:∀{k:Nat} {v d:Int},1<=k->k<=N->(0<=v/\v<N)->Wk L v k v d->0<=d:=fun {k v d} s h2 F E=>by
  rcases ic d 0 with q|q
  ·exact absurd ⟨k,v,d,s,h2,F,E,q⟩ D
  ·exact q
 have r:∀l∈L,-4503599627370496<=l.2.2:=fun l p=>(n.most l p).1
 let P:Int->Int->Prop:=fun v d=>∃vs,Wl L (fun u=>0<=u/\u<N) vs v d/\(v::vs).Nodup
 have h:∀v:Int,0<=v/\v<N->∃d,P v d/\∀e,P v e->d<=e:=fun v f=>amo (B:=-(60*4503599627370496)) ⟨0,[],.nil f,by simp⟩ (by
  rintro d ⟨vs,s,h2⟩;have Q:=s.lowM r;have O:=s.short n.inr (fun w i=>i) h2
  have:((vs.length:Nat):Int)*4503599627370496<=60*4503599627370496:=by omega
  omega)
 have z:mq L N=true:=by
  refine(mo n.links (by omega)).2 ⟨fun v=>if f:0<=v/\v<(N:Int) then Classical.choose (h v f) else 0,fun u v m p=>?_⟩;have g:=n.inr _ p;dsimp only at g;obtain⟨⟨vs,i,j⟩,C⟩:=Classical.choose_spec (h u g.1);obtain⟨_,o⟩:=Classical.choose_spec (h v g.2);have K:(if f:0<=u/\u<(N:Int) then Classical.choose (h u f) else 0)=Classical.choose (h u g.1):=dif_pos g.1;have J:(if f:0<=v/\v<(N:Int) then Classical.choose (h v f) else 0)=Classical.choose (h v g.2):=dif_pos g.2;dsimp only;rw[K,J];generalize Classical.choose (h u g.1)=a at *;generalize Classical.choose (h v g.2)=b at *
  by_cases f:v∈u::vs
  ·obtain⟨t,M,k,U,I,H,G,T,S⟩:=i.cutK v f;have A:=i.short n.inr (fun w i=>i) j;have:=y (by omega) (by omega) g.2 (G.snoc p);have:=o M ⟨t,I,j.sublist H.sublist⟩;omega
  ·have:=o (a+m) ⟨u::vs,i.step p,fE.2 ⟨f,j⟩⟩;omega
 rw[x] at z;cases z
def mY (L:Do Lk) (N:Nat) (k:Nat) (l:Lk):Bool:=decide (gv (exL L N l.1 k) l.2.1≠Š)&&decide (l.2.2+gv (exL L N l.1 k) l.2.1<0)
def ahQ (a:kB L N) (e:mq L N=false):∃k,k<N/\∃l∈L,mY L N k l=true:=by
 have o:=a.n60;obtain⟨k,v,d,q,h2,j,i,p⟩:=agT a e
 cases i with
 |nil=>omega
 | @step k v w m d g h =>
  have f:=a.inr _ g;obtain⟨r,n⟩:=(Zy a j k (by omega) w f.2.1 f.2.2).2 d h;refine⟨k,by omega,(v,w,m),g,?_⟩;simp only[mY,dg,decide_eq_true_eq];exact⟨n,by omega⟩
def acw (j:kB L N) {k:Nat} (E:k<N) {l:Lk} (z:l∈L) (hb:mY L N k l=true) :
 ∃q,pH L (exL L N l.1) (fun n=>ilt n 0) (k+1) l.1 0 []=q/\q.length=k+1/\(∀i∈q,EJ L i=false)/\ş L q=0/\∃u s,EL L u 0 q=(u,s,true)/\s<0:=by
 have D:=j.n60;have a:=j.inr _ z;simp only[mY,dg,decide_eq_true_eq] at hb;have e:=F7 j a.1 k (by omega);obtain⟨_,C,_⟩:=I2 j (B:=k*4503599627370496) (by omega) (by omega) e a.1.1 a.1.2 L (fun _ h=>h) (List.replicate N Š) (by simp) (Rz (by omega));have h2:gv (exL L N l.1 (k+1)) l.1<=l.2.2+gv (exL L N l.1 k) l.2.1:=C l.2.1 l.2.2 z hb.1
 have p:gv (exL L N l.1 (k+1)) l.1≠Š:=fun h=>by rw[h] at h2; unfold Š at h2; omega
 obtain⟨q,x,v,o,s,d,A⟩:=RS j a.1 (fun n=>ilt n 0) (k+1) (by omega) l.1 0 [] a.1.1 a.1.2 p (by rw[Int.zero_add]; exact decide_eq_true (by omega));rw[eE] at x;have y:s<0:=of_decide_eq_true A;refine⟨q,x,v,o,?_,l.1,s,d,y⟩
 have g:q.any (EJ L)=false:=by
  rw[ej]
  exact fun i hi=>by rw[o i hi]; simp
 cases q with
 |nil=>simp at v
 |cons i t =>
  have hi:=o i (by simp);simp only[EJ,gM,decide_eq_false_iff_not] at hi;have F:L[i.toNat]?=some L[i.toNat]:=df (by omega)
  have f:(L[i.toNat]?.getD (0,0,0)).1=l.1:=by
   unfold EL at d
   by_cases h:(L[i.toNat]?.getD (0,0,0)).1=l.1
   ·exact h
   ·rw[if_neg h] at d; simp at d
  have r:mP L (i::t)=0:=by
   unfold mP;rw[if_neg (by omega),g];rfl
  unfold ş;rw[r,if_neg (by simp)];dsimp only;rw[f,d];unfold af0;dsimp only;rw[if_pos ⟨rfl,rfl,y⟩]
end
def aeL {L:Do Lk} {p:Int->Int} (e:Pot L p):∀(l:Do Int) (u s:Int),(∀i∈l,0<=i/\i.toNat<L.length)->(EL L u s l).2.2=true->p (EL L u s l).1-p u<=(EL L u s l).2.1-s
 |[],u,s,_,_=>by simp[EL]
 |i::t,u,s,hi,a=>by
  have h:=hi i (by simp);have d:L[i.toNat]?=some L[i.toNat]:=List.getElem?_eq_getElem h.2;have f:=List.mem_of_getElem? d;generalize L[i.toNat]=x at d f;unfold EL at a ⊢;rw[d] at a ⊢;simp only[Option.getD_some] at a ⊢
  split at a
  ·rename_i g;rw[if_pos g];have n:=e x.1 x.2.1 x.2.2 f;have h2:=aeL e t x.2.1 (s+x.2.2) (fun j k=>hi j (by simp[k])) a;rw[g] at n;omega
  ·cases a
section
variable {L:Do Lk} {N:Nat}
def amP {ρ:Type} (c0:Do (Do Int)) (a:Do Lk):@Bk ρ c0 a=folM (fun n=>ilt n 0) c0 a:=rfl
def zx (L:Do Lk) (N:Nat):Do (Do (Do Int)):=(List.range N).map fun(n:Nat)=>nq L N n N
def agz {L:Do Lk} {N n:Nat} (h:n<N):(zx L N)[n]?=some (nq L N n N):=by
 unfold zx;rw[List.getElem?_map,List.getElem?_range h];rfl
def ac7 {ρ:Type} (l:kB L N) (K:Do (Do (Do Int))->CK ρ) :
 Ë (fun(d:Int×Do (Do (Do Int))) f=>oX (Õ (List.replicate N ([]:th))) (N:Int) L d.1 d.2 (fun k j=>f (k,j)) K) ((0:Int),(List.replicate N ([]:th)))=K (zx L N):=by
 have p:=l.n60;refine î (List.replicate N ()) (fun i=>((List.range i).map fun(n:Nat)=>nq L N n N)++List.replicate (N-i) ([]:Do (Do Int))) _ (by simp) (fun i a hi ha o=>?_) (fun o=>?_)
 ·try dsimp only
  unfold oX;rw[List.length_replicate] at hi;rw[Î,List.length_replicate,Ñ (decide_eq_true (by omega)),amG l ⟨by omega,by omega⟩ (by omega),À]
  have g:(((List.range i).map fun(n:Nat)=>nq L N n N)++List.replicate (N-i) ([]:Do (Do Int))).length=N:=by simp; omega
  rw[show ï (((List.range i).map fun(n:Nat)=>nq L N n N)++List.replicate (N-i) ([]:Do (Do Int)))=(N:Int) by unfold ï; rw[g],Γ (by omega) (by omega),Int.toNat_natCast]
  have h:(((List.range i).map fun(n:Nat)=>nq L N n N)++List.replicate (N-i) ([]:Do (Do Int)))[i]?=some []:=by
   rw[gg (by simp),ik,if_pos (by simp; omega)]
  rw[Ž h,Ï (by omega) (by omega)];congr 2;rw[gJ _ _ (by simp),fC,fm]
  have e:N-i=(N-(i+1))+1:=by omega
  rw[e,gu];simp
 ·try dsimp only
  unfold oX;rw[Î,List.length_replicate,List.length_replicate,Í (decide_eq_false (by omega))];unfold zx;simp
def aaq {ρ:Type} (d:kB L N) {k:Nat} (F:k<N) (k0:Unit->CK ρ) (k1:Int×Do Int->CK ρ) (o:Unit->CK ρ) :
 Ë (fun(p:Int) f=>oW ((k:Int)+1) L (Õ L) (N:Int) L (zx L N) p (fun q=>f q) k0 k1 o) (0:Int) =
  match L.find? (mY L N k) with|some l=>k1 (0,pH L (exL L N l.1) (fun n=>ilt n 0) (k+1) l.1 0 [])|none=>o ():=by
 have G:=d.n60;have D:=d.len;rw[N7];refine(iQ L (mY L N k) (fun j=>match L[j.toNat]? with|some l=>k1 (0,pH L (exL L N l.1) (fun n=>ilt n 0) (k+1) l.1 0 [])|none=>o ()) (o ()) (fun i l hi t y=>?_) (fun y=>?_)).trans ?_
 ·try dsimp only
  unfold oW;have v:=List.mem_of_getElem? t;have a:=d.inr l v;have C:=d.most l v
  have r:((l.1.toNat:Nat):Int)=l.1:=by omega
  have x:(zx L N)[l.1.toNat]?=some (nq L N l.1 N):=by rw[agz (by omega),r]
  have s:ï (zx L N)=(N:Int):=by simp[ï,zx]
  have g:=F7 d a.1 k (by omega) l.2.1;rw[Ì hi,Ä t,s,Γ a.1.1 a.1.2,Ž x,show((k:Int)+1-1)=(k:Int) by omega,Ï (by omega) (by omega),Ä (Lq (by omega)),yr a.2.1 (by rw[aeb]; omega)];unfold mY
  by_cases e:gv (exL L N l.1 k) l.2.1=Š
  ·rw[Ñ (beq_iff_eq.2 e),É hi (by omega),if_neg (by simp[e])]
  ·have hb:=g e;rw[Í (beq_eq_false_iff_ne.2 e),Ï (by omega) (by omega)]
   by_cases h2:l.2.2+gv (exL L N l.1 k) l.2.1<0
   ·rw[Í (decide_eq_false (by omega)),Í (decide_eq_false (by omega)),Γ a.1.1 a.1.2,Ž x,if_pos (by simp[e,h2]),amP,du,t];have u:∀j,j<k+1->(nq L N l.1 N)[j]?=some (exL L N l.1 j):=fun j E=>Lq (by omega)
    have A:∀j,j<k+1->Lim 900000000000000000 (exL L N l.1 j)/\(exL L N l.1 j).length=N:=fun j E=>⟨fun w B=>by
     have:=F7 d a.1 j (by omega) w B; omega,aeb _ _⟩
    have:=aoO d (fun n=>ilt n 0) (rest:=nq L N l.1 N) (R:=exL L N l.1) (k0:=k+1) (by omega) u A l.1 (fun z=>k1 (0,z));rw[show(((k+1:Nat):Int))=(k:Int)+1 by push_cast; rfl] at this;exact this
   ·rw[Ñ (decide_eq_true (by omega)),É hi (by omega),if_neg (by simp[e,h2])]
 ·try dsimp only
  unfold oW;rw[Ó]
 ·cases h:L.findIdx? (mY L N k) with
  |none=>rfl
  |some j=>dsimp only; rw[Int.toNat_natCast]
def alE (d:kB L N) (i:mq L N=false):∃(K:Nat) (l:Lk),K<N/\(∀k,k<K->∀x∈L,mY L N k x=false)/\L.find? (mY L N K)=some l/\pm ((N:Int),L)=some (pH L (exL L N l.1) (fun n=>ilt n 0) (K+1) l.1 0 [],0):=by
 have G:=d.n60;obtain⟨y,E,B,q,t⟩:=ahQ d i
 -- the first number of links
 have r:∃K,K<=y/\(∃l∈L,mY L N K l=true)/\∀k,k<K->∀x∈L,mY L N k x=false:=by
  have:∀n:Nat,(∀k,k<n->∀x∈L,mY L N k x=false)\/∃K,K<n/\(∃l∈L,mY L N K l=true)/\∀k,k<K->∀x∈L,mY L N k x=false:=by
   intro n
   induction n with
   |zero=>exact .inl fun k o=>by omega
   |succ n D =>
    rcases D with h|⟨K,u,h2⟩
    ·by_cases j:∃l∈L,mY L N n l=true
     ·exact .inr ⟨n,by omega,j,h⟩
     ·refine .inl fun k o x g=>?_;rcases gA (Nat.le_of_lt_succ o) with u|rfl
      ·exact h k u x g
      ·exact eQ.2 fun e=>j ⟨x,g,e⟩
    ·exact .inr ⟨K,by omega,h2⟩
  rcases this (y+1) with h|⟨K,u,h2,F⟩
  ·have:=h y (by omega) B q;rw[t] at this; cases this
  ·exact⟨K,by omega,h2,F⟩
 obtain⟨K,H,⟨A,p,s⟩,a⟩:=r
 obtain⟨l,z⟩:∃l,L.find? (mY L N K)=some l:=by
  cases h:L.find? (mY L N K) with
  |none=>have:=ew.1 h A p; exact absurd s this
  |some l=>exact⟨l,rfl⟩
 refine⟨K,l,by omega,a,z,?_⟩;unfold pm H8;rw[mZ d,À,Í (by rfl),xi d.links d.n1 (by omega),À,if_neg (by simp[i]),Í (by rfl),okN (by omega),Int.toNat_natCast];refine(ac7 d _).trans ?_;refine õ (fun v=>∃k:Nat,k<=K/\v=(k:Int)+1) (fun v=>(K+2)-v.toNat) ?_ ⟨0,by omega,rfl⟩;rintro v ⟨k,o,rfl⟩;rcases Nat.lt_or_eq_of_le o with h|rfl
 ·refine .inr ⟨((k+1:Nat):Int)+1,⟨k+1,h,rfl⟩,by omega,fun C=>?_⟩;unfold ut;refine(aaq d (by omega) _ _ _).trans ?_
  have f:L.find? (mY L N k)=none:=ew.2 fun x j=>by rw[a k h x j]; simp
  rw[f];dsimp only;rw[Ï (by omega) (by omega)];congr 1
 ·refine .inl fun C=>?_;unfold ut;refine(aaq d (by omega) _ _ _).trans ?_;rw[z]
end
def aiu (L:Do Lk) (N:Nat):Do (Int×Int):=(List.range N).map fun(n:Nat)=>(-(dst L N n 0),dst L N 0 n)
section
variable {L:Do Lk} {N:Nat}
def agC {n:Nat} (h:n<N):(aiu L N)[n]?=some (-(dst L N n 0),dst L N 0 n):=by
 unfold aiu;rw[List.getElem?_map,List.getElem?_range h];rfl
def ano (g:kB L N) (l:aeB L N) (j:mq L N=true):wQ ((N:Int),L)=some (aiu L N,0):=by
 have r:=g.n60;have p:=g.n1;unfold wQ QX;rw[ani g (fun n o=>by simp at o) (by simp),À,if_pos j,Í (by rfl),acG g.links g.n1 (by omega) j ⟨by omega,by omega⟩,À,okN (by omega),Int.toNat_natCast];have d:(BO L N 0).length=N:=SM 0;refine î (List.replicate N ()) (fun i=>((List.range i).map fun(n:Nat)=>dst L N n 0)++List.replicate (N-i) (0:Int)) _ (by simp) (fun i a hi ha k=>?_) (fun k=>?_)
 ·try dsimp only
  unfold ur;rw[List.length_replicate] at hi;rw[Î,List.length_replicate,Ñ (decide_eq_true (by omega)),acG g.links g.n1 (by omega) j ⟨by omega,by omega⟩,À,yr (by omega) (by rw[SM]; simp; omega)]
  have h:(((List.range i).map fun(n:Nat)=>dst L N n 0)++List.replicate (N-i) (0:Int)).length=N:=by simp; omega
  rw[show ï (((List.range i).map fun(n:Nat)=>dst L N n 0)++List.replicate (N-i) (0:Int))=(N:Int) by unfold ï; rw[h],Γ (by omega) (by omega),Int.toNat_natCast]
  have f:(((List.range i).map fun(n:Nat)=>dst L N n 0)++List.replicate (N-i) (0:Int))[i]?=some 0:=by
   rw[gg (by simp),ik,if_pos (by simp; omega)]
  rw[Ž f,Ï (by omega) (by omega)];congr 2;rw[gJ _ _ (by simp),fC,fm]
  have e:N-i=(N-(i+1))+1:=by omega
  rw[e,gu];simp[dst]
 ·try dsimp only
  unfold ur;rw[Î,List.length_replicate,List.length_replicate,Í (decide_eq_false (by omega))]
  have q:((List.range N).map fun(n:Nat)=>dst L N n 0)++List.replicate (N-N) (0:Int)=(List.range N).map fun(n:Nat)=>dst L N n 0:=by simp
  rw[q];refine î (List.replicate N ()) (fun i=>(List.range i).map fun(n:Nat)=>(-(dst L N n 0),dst L N 0 n)) _ (by simp) (fun i a hi ha k=>?_) (fun k=>?_)
  ·try dsimp only
   unfold uq;rw[List.length_replicate] at hi
   have f:((List.range N).map fun(n:Nat)=>dst L N n 0)[i]?=some (dst L N i 0):=by
    rw[eZ,gq hi]; rfl
   have hb:=dst_bd g l j (s:=(i:Int)) (t:=0) ⟨by omega,by omega⟩ ⟨by omega,by omega⟩;rw[Î,d,Ñ (decide_eq_true (by omega)),show ï ((List.range N).map fun(n:Nat)=>dst L N n 0)=(N:Int) by simp[ï],Γ (by omega) (by omega),du,Ž f,Ï (by omega) (by omega),yr (by omega) (by rw[d]; simp; omega),ä (Ò (by simp only[dL,fj,dU]; omega)),Ï (by omega) (by omega),Int.zero_sub];congr 2;rw[fC,fm];rfl
  ·try dsimp only
   unfold uq;rw[Î,d,List.length_replicate,Í (decide_eq_false (by omega))];rfl
end
abbrev nT (m:Ļ) (w:Way):Nat:=(Ø (trP m w)).length+1
abbrev sT (m:Ļ) (w:Way):Do Lk:=jF (trP m w)
def EG (L:Do Lk) (N:Nat):Do Int:=((pm ((N:Int),L)).getD ([],0)).1
def acx {L:Do Lk} {N:Nat} (f:kB L N) (a:mq L N=false):pm ((N:Int),L)=some (EG L N,0)/\ş L (EG L N)=0/\(EG L N).length<=N:=by
 obtain⟨K,l,j,_,h,g⟩:=alE f a;obtain⟨q,d,k,_,i,_⟩:=acw f j (fN h) (fD h)
 have e:EG L N=q:=by unfold EG; rw[g,d]; rfl
 rw[e];exact⟨by rw[g,d],i,by omega⟩
section
variable {m:Ļ} {w:Way} {ρ:Type}
def aeT (n:Nat):(((n:Int)+1,jF (trP m w)):Sys)=(((n+1:Nat):Int),jF (trP m w)):=by simp
def agp (m:Ļ):Do (Do Int)×Int:=if Ī m≠0 then([],Ī m) else if pP m then([],5) else((ň m.2).map fun w=>EG (sT m w) (nT m w),0)
def anx (l:In m.1) (n:m.2.length<=1000):I9 m=some (agp m):=by
 unfold I9 PL agp;rw[ox l n,À]
 by_cases e:Ī m=0
 ·have h:=(Ń m).1 e;have p:=sQ h;have o:((((m.1.1.1,m.1.1.2),m.1.2.1,m.1.2.2.1,m.1.2.2.2.1,m.1.2.2.2.2.1,m.1.2.2.2.2.2),m.2):Ļ)=m:=rfl;rw[Í (by simp[ine,e]),if_neg (by simp[e]),Ov h,À];refine IH (ň m.2) (fun i=>((ň m.2).take i).map fun w=>EG (sT m w) (nT m w)) _ (fun i=>∀w∈(ň m.2).take i,pI m w=false) rfl (fun w a=>by simp at a) (fun i x hi d f k=>?_) (fun f k=>?_)
  ·try dsimp only
   unfold tF;have j:=xf h (uS d);rw[Ì hi,Ä d,o,oy h (uS d),À,SY h (uS d),À];dsimp only;rw[aeT]
   cases g:pI m x with
   |true =>
    refine .inl ?_;rw[aho j.sys g,À];have:pP m=true:=dD.2 ⟨x,dk d,g⟩;rw[this]; rfl
   |false =>
    refine .inr ⟨fun w a=>?_,?_⟩
    ·rw[take_succ d] at a;rcases dl.1 a with a|a
     ·exact f w a
     ·rw[dq.1 a]; exact g
    ·rw[(acx j.sys g).1,À,Í (by rfl),ä (Ò (by simp; omega)),É hi (by omega),take_succ d,fm]; rfl
  ·rw[fH] at f
   try dsimp only
   unfold tF
   have:pP m=false:=ej.2 fun w a=>by rw[show pI m w=false from f w a]; simp
   rw[Ó,fH,this]; rfl
 ·rw[Ñ (by simp[ine,e]),if_pos e]
def yI (m:Ļ) (a:Do (Do Int)):Bool:=(List.range (ň m.2).length).all fun i=>match (ň m.2)[i]?,a[i]? with|some w,some c=>decide (ş (sT m w) c=0)|_,_=>false
def oc (m:Ļ) (a:Do (Do Int)):Int:=if Ī m≠0 then Ī m else if a.length≠(ň m.2).length then 8 else if yI m a then 0 else 8
def JG (l:In m.1) (n:m.2.length<=1000) (a:Do (Do Int)):kY m a=some (oc m a):=by
 unfold kY uW oc;rw[ox l n,À]
 by_cases f:Ī m=0
 ·have h:=(Ń m).1 f;have p:=sQ h;have o:((((m.1.1.1,m.1.1.2),m.1.2.1,m.1.2.2.1,m.1.2.2.2.1,m.1.2.2.2.2.1,m.1.2.2.2.2.2),m.2):Ļ)=m:=rfl;rw[Í (by simp[ine,f]),if_neg (by simp[f]),Ov h,À]
  by_cases j:a.length=(ň m.2).length
  ·rw[Í (by simp[ine,Î]; omega),if_neg (by simp[j])];refine ee (afx (ň m.2).length (fun i=>match (ň m.2)[i]?,a[i]? with|some w,some c=>decide (ş (sT m w) c=0)|_,_=>false) (some 8) (some 0) (fun i hi k=>?_) (fun k=>?_)) ?_
   ·have e:(ň m.2)[i]?=some (ň m.2)[i]:=df hi;have d:a[i]?=some a[i]:=df (by omega)
    try dsimp only
    unfold kd;rw[Ì hi,Ä e,o,oy h (uS e),À,SY h (uS e),À,Ä d];dsimp only;rw[aeT,U5 (xf h (uS e)).sys,À,e,d,ó,É hi (by omega)];dsimp only
    by_cases g:ş (sT m (ň m.2)[i]) a[i]=0
    ·rw[if_neg (by simp[ine,g]),if_pos (by simpa using g)]
    ·rw[if_pos (by simp[ine,g]),if_neg (by simpa using g)]
   ·try dsimp only
    unfold kd;rw[Ó]
   ·unfold yI
    cases(List.range (ň m.2).length).all fun i=>match (ň m.2)[i]?,a[i]? with|some w,some c=>decide (ş (sT m w) c=0)|_,_=>false<;>rfl
  ·rw[Ñ (by simp[ine,Î]; omega),if_pos j]
 ·rw[Ñ (by simp[ine,f]),if_pos f]
def SX (m:Ļ) (w:Way):Int×Int:=if ţ m w≠0 then(0,ţ m w) else(uR m.2 w,0)
def ahS (e:In m.1) (g:m.2.length<=1000) (d:∀l∈w,l.length<=100000):Cr m w=some (SX m w):=by
 unfold Cr Kl SX;rw[JC e g d,À]
 by_cases a:ţ m w=0
 ·obtain⟨h,f⟩:=sw.1 a;rw[Í (by simp[ine,a]),if_neg (by simp[a]),h.wgt f]; rfl
 ·rw[Ñ (by simp[ine,a]),if_pos a]
def xb (m:Ļ) (w:Way):ö×Int:=if ţ m w≠0 then(Gg,ţ m w) else(trP m w,0)
def acP (e:In m.1) (g:m.2.length<=1000) (d:∀l∈w,l.length<=100000):qx m w=some (xb m w):=by
 unfold qx xz xb;rw[JC e g d,À]
 by_cases a:ţ m w=0
 ·obtain⟨h,f⟩:=sw.1 a;rw[Í (by simp[ine,a]),if_neg (by simp[a]),oy h f]; rfl
 ·rw[Ñ (by simp[ine,a]),if_pos a]; rfl
def WhoP (m:Ļ) (w:Way) (x d:Int):Int×Int:=if ţ m w≠0 then(0,ţ m w) else if mO m.1 x d≠0 then(0,mO m.1 x d) else(Ν m.2 w x d,0)
def alf (f:In m.1) (j:m.2.length<=1000) (g:∀l∈w,l.length<=100000) (x d:Int):Sc m w x d=some (WhoP m w x d):=by
 unfold Sc adC WhoP;rw[JC f j g,À]
 by_cases a:ţ m w=0
 ·obtain⟨h,i⟩:=sw.1 a;rw[Í (by simp[ine,a]),if_neg (by simp[a]),N2 f.size.gauges,À]
  by_cases e:mO m.1 x d=0
  ·rw[Í (by simp[ine,e]),if_neg (by simp[e]),h.who i]; rfl
  ·rw[Ñ (by simp[ine,e]),if_pos e]
 ·rw[Ñ (by simp[ine,a]),if_pos a]
def ajB:∀{ms:Do Mx} {w:Way} (Q:Int->Prop) {d:Int},ī ms w->(∀m∈ms,m.1<d->∀x∈m.2,Q x)->∀{x:Int},Q x->Q (Tb ms w x d)
 |[],[],Q,d,_,_,x,a=>a
 |m::ms,l::ls,Q,d,h,f,x,a=>by
  rw[Tb];refine ajB Q h.2 (fun y g=>f y (dS _ g)) ?_;rcases ac8 (d:=d) (m:=(m.1,l)) (l:=m.2) h.1.symm x with e|⟨j,_,i⟩
  ·rw[e]; exact a
  ·exact f m (by simp) j _ (h.1.subset i)
def We (b:ö) (x:Int):Prop:=∃g,ì b x=some g
def adY {b:ö} {x d:Int}:mO b x d=0↔(0<=d/\d<=20000)/\We b x:=by
 unfold mO We;rw[<-Option.isSome_iff_exists]
 cases hd:zn d with
 |false =>
  simp only[fA,if_true];simp only[zn,inP,gF,decide_eq_false_iff_not] at hd;constructor
  ·intro e; cases e
  ·rintro⟨e,_⟩; omega
 |true =>
  simp only[zn,inP,dg,decide_eq_true_eq] at hd
  cases ì b x<;>simp[hd]
def MOk.labK (h:MOk m) (j:ī m.2 w) {d x:Int} (i:We m.1 x):We m.1 (Tb m.2 w x d) :=
 ajB (We m.1) j (fun y f _ z a=>let ⟨g,e,_⟩:=(h.mix f).known z a; ⟨g,e⟩) i
def acH (m:Ļ) (w:Way) (d:Int) (l:Do æ):Do (Int×Int):=l.foldl (fun M g=>Ta (k:=tI) (v:=tI) (Ν m.2 w g.1 d) g.1 M) []
def anc (m:Ļ) (w:Way) (d x:Int) (l:Do æ):rc (k:=tI) (v:=tI) x (acH m w d l)=(l.reverse.find? fun g=>Ν m.2 w g.1 d==x).map fun g=>g.1:=by
 have key:∀r:Do æ,rc (k:=tI) (v:=tI) x (acH m w d r.reverse)=(r.find? fun g=>Ν m.2 w g.1 d==x).map fun g=>g.1:=by
  intro r
  induction r with
  |nil=>rfl
  |cons g r a =>
   rw[List.reverse_cons,acH,List.foldl_append];simp only[gd,List.foldl_nil];rw[J7,fP]
   by_cases h:x=Ν m.2 w g.1 d
   ·subst h; simp
   ·have:(Ν m.2 w g.1 d==x)=false:=by simp; exact fun e=>h e.symm
    rw[if_neg h,this];exact a
 have:=key l.reverse
 rwa [List.reverse_reverse] at this
def anb (h:MOk m) (a:ī m.2 w) {d x:Int} (i:We m.1 x):rc (k:=tI) (v:=tI) x (acH m w d m.1.2.1)=some (Tb m.2 w x d):=by
 rw[anc]
 have j:∀g:æ,Ν m.2 w g.1 d=x->g.1=Tb m.2 w x d:=fun g e=>by rw[<-e,Zd a h.nd]
 obtain⟨g,l⟩:=h.labK a (d:=d) i;obtain⟨o,n⟩:=Φ l
 cases f:m.1.2.1.reverse.find? (fun g=>Ν m.2 w g.1 d==x) with
 |none =>
  have:=(ew.1 f) g (List.mem_reverse.2 o);rw[n,ac4 a h.nd] at this;simp at this
 |some y =>
  have:=fD f;rw[eo,j y (by simpa using this)]
def acV (m:Ļ) (w:Way) (x d:Int):Int×Int:=if ţ m w≠0 then(0,ţ m w) else if mO m.1 x d≠0 then(0,mO m.1 x d) else(Tb m.2 w x d,0)
def alz (f:In m.1) (p:m.2.length<=1000) (o:∀l∈w,l.length<=100000) (x d:Int):Jb m w x d=some (acV m w x d):=by
 unfold Jb PP acV;rw[JC f p o,À]
 by_cases e:ţ m w=0
 ·obtain⟨h,j⟩:=sw.1 e;rw[Í (by simp[ine,e]),if_neg (by simp[e]),N2 f.size.gauges,À]
  by_cases a:mO m.1 x d=0
  ·have hb:I7 m w d=some (acH m w d m.1.2.1):=by
    have q:=f.size.gauges;unfold I7 PH;refine î m.1.2.1 (fun i=>acH m w d (m.1.2.1.take i)) _ rfl (fun i g hi k n=>?_) (fun n=>?_)
    ·try dsimp only
     unfold tz;rw[Ì hi,Ä k,show((((m.1.1.1,m.1.1.2),m.1.2.1,m.1.2.2.1,m.1.2.2.2.1,m.1.2.2.2.2.1,m.1.2.2.2.2.2),m.2):Ļ)=m from rfl,h.who j,À,É hi (by omega),take_succ k,acH,acH,List.foldl_append];rfl
    ·try dsimp only
     unfold tz;rw[Ó,List.take_length]
   rw[Í (by simp[ine,a]),if_neg (by simp[a]),hb,À];unfold N1;rw[anb h j (adY.1 a).2]
  ·rw[Ñ (by simp[ine,a]),if_pos a]
 ·rw[Ñ (by simp[ine,e]),if_pos e]
def RB (b:ö) (n:Int×Int):(Int×Int)×Int:=if (CU b n).2≠0 then((0,0),(CU b n).2) else(ivR (CU b n).1 n,0)
def aio {b:ö} (h:Room b) {n:Int×Int} (e:(CU b n).2=0):Room (CU b n).1/\agr (CU b n).1 n:=by
 rcases aip e with⟨a,h2⟩|⟨a,h2,_⟩
 ·rw[a];exact⟨h,(Zj h.good).1 h2⟩
 ·rw[a];refine⟨⟨h2,?_,h.num⟩,ajn n h2⟩;obtain⟨f,z,d⟩:=(aa9 h.good).1 h.op;exact(aa9 h2).2 ⟨f,z,ajo.2 d⟩
def RA {B:ö} (h:Room B) {n:Int×Int} (j:agr B n) (K:(Int×Int)×Int->CK ρ) :
 (Å (sr B n) fun i=>Å (jw B) fun g=>Å (wQ g.1) fun a=>ifb (ine a.2 (0:Int)) (K (((0:Int),(0:Int)),a.2)) (ç a.1 i.1 fun l=>K (l,(0:Int))))=K (ivR B n,0):=by
 have f:In B:=⟨h.good.size,h.num⟩;have hi:=(Zj h.good).2 j;have o:=aoJ B n;have d:=ano h.good.sys h.good.tied h.op;rw[S8 f,À,S7,if_neg (by simp[(Μ _).2 h.good]),if_neg hi,acQ f,À,ZZ,if_neg (by simp[(Μ _).2 h.good])];dsimp only;rw[show((((Ø B).length:Int)+1,jF B):Sys)=((((Ø B).length+1:Nat):Int),jF B) by simp,d,À,Í (by rfl)];obtain⟨k,e⟩:∃k:Nat,Wn B n.1 n.2=k:=⟨(Wn B n.1 n.2).toNat,by omega⟩;rw[e,Ä (agC (by omega))];unfold ivR dstR;rw[e]
def ajy {b:ö} (h:Room b) (n:Int×Int):Cq b n=some (RB b n):=by
 have d:In b:=⟨h.good.size,h.num⟩;have a:=(Μ _).2 h.good;unfold Cq Kh RB;rw[S8 d,À]
 by_cases hi:Wn b n.1 n.2=0
 ·have f:(S7 b n).2=5:=by unfold S7; rw[if_neg (by simp[a]),if_pos hi]
  rw[Ñ (by simp[ine,f]),apg d,À,aph,if_neg (by simp[a])]
  by_cases h2:ŝ (vm b n)=0
  ·have e:CU b n=(vm b n,0):=by unfold CU; rw[if_neg (by simp[hi]),if_neg (by simp[h2])]
   obtain⟨r1,r2⟩:=aio h (n:=n) (by rw[e]);rw[e] at r1 r2;rw[if_neg (by simp[h2]),Í (by rfl),RA r1 r2,e,if_neg (by simp)]
  ·have e:CU b n=(Gg,ŝ (vm b n)):=by unfold CU; rw[if_neg (by simp[hi]),if_pos h2]
   rw[if_pos h2,Ñ (by simp[ine,h2]),e,if_pos h2]
 ·have f:(S7 b n).2=0:=by unfold S7; rw[if_neg (by simp[a]),if_neg hi]
  have e:CU b n=(b,0):=by unfold CU; rw[if_pos hi]
  rw[Í (by simp[ine,f]),<-S8 d,RA h ((Zj h.good).1 hi),e,if_neg (by simp)]
def ajT {α β:Type} {f:α->CK β}:∀{l:Do α} {i:Nat} {x:α} {e:β},l[i]?=some x->(∀w∈l.take i,f w=none)->f x=some e->l.findSome? f=some e
 |[],_,_,_,h,_,_=>by simp at h
 |y::l,0,x,e,h,_,a=>by simp at h; subst h; rw[gW,a]
 |y::l,i+1,x,e,h,d,a=>by
  rw[gW,d y (by simp)];exact ajT (by simpa using h) (fun w g=>d w (by simp[g])) a
abbrev Fnd:=Do (Int×(Int×Int))
def hullP (s t:Int×Int):Int×Int:=(min s.1 t.1,max s.2 t.2)
def aoQ (m:Ļ) (label d:Int) (M:Fnd) (w:Way):Fnd :=
 Ta (k:=tI) (v:=Ã) (Ν m.2 w label d) (match rc (k:=tI) (v:=Ã) (Ν m.2 w label d) M with|some s=>hullP (RB (trP m w) (Ν m.2 w label d,d)).1 s|none=>(RB (trP m w) (Ν m.2 w label d,d)).1) M
def I1 (m:Ļ) (label d:Int) (l:Do Way):Fnd:=l.foldl (aoQ m label d) []
def alM (m:Ļ) (label d:Int) (w:Way):Int:=(RB (trP m w) (Ν m.2 w label d,d)).2
def aeE (m:Ļ) (label d:Int):Do (Int×Int×Int)×Int :=
 if Ī m≠0 then([],Ī m) else if mO m.1 label d≠0 then([],mO m.1 label d) else if vp m=[] then([],5) else
 match (vp m).findSome? fun w=>Lu (alM m label d w) with
 |some e=>([],e)
 |none=>(m.1.2.1.filterMap fun g=>(rc (k:=tI) (v:=Ã) g.1 (I1 m label d (vp m))).map fun s=>(g.1,s),0)
def afJ (a:w∈vp m):ī m.2 w/\pI m w=true:=by
 obtain⟨d,h2⟩:=d8.1 a;exact⟨vt.1 d,h2⟩
def amy (h:MOk m):(vp m).length<=150:=dE (eI _ _) (sQ h)
def aoq (h:MOk m) (a:ī m.2 w) (d:pI m w=true):Room (trP m w):=⟨xf h a,d,h.in_.num⟩
def alB (B:In m.1) (F:m.2.length<=1000) (label d:Int):Cs m label d=some (aeE m label d):=by
 unfold Cs Ko aeE;rw[ox B F,À]
 by_cases r:Ī m=0
 ·have h:=(Ń m).1 r;have J:=B.size.gauges;have I:=amy h;rw[Í (by simp[ine,r]),if_neg (by simp[r]),N2 J,À]
  by_cases t:mO m.1 label d=0
  ·rw[Í (by simp[ine,t]),if_neg (by simp[t]),ajM h,À]
   by_cases a:vp m=[]
   ·rw[Ñ (by simp[ieq,Î,a]),if_pos a]
   ·have:(vp m).length≠0:=fun e=>a (dJ.1 e);rw[Í (by simp[ieq,Î,a]),if_neg a];have key:∀(l:Do Way),(∀w∈l,Lu (alM m label d w)=none)->l.findSome? (fun w=>Lu (alM m label d w))=none:=fun l H=>List.findSome?_eq_none_iff.2 H;refine IH (vp m) (fun i=>I1 m label d ((vp m).take i)) _ (fun i=>∀w∈(vp m).take i,Lu (alM m label d w)=none) rfl (fun w f=>by simp at f) (fun i x hi o p E=>?_) (fun p E=>?_)
    ·obtain⟨u,D⟩:=afJ (dk o);have j:=aoq h u D
     try dsimp only
     unfold qd;rw[Ì hi,Ä o,show((((m.1.1.1,m.1.1.2),m.1.2.1,m.1.2.2.1,m.1.2.2.2.1,m.1.2.2.2.2.1,m.1.2.2.2.2.2),m.2):Ļ)=m from rfl,h.who u,À,oy h u,À,ajy j,À]
     by_cases n:alM m label d x=0
     ·refine .inr ⟨fun w f=>?_,?_⟩
      ·rw[take_succ o] at f;rcases dl.1 f with f|f
       ·exact p w f
       ·rw[dq.1 f,n]; rfl
      ·unfold alM at n
       have z:I1 m label d ((vp m).take (i+1))=aoQ m label d (I1 m label d ((vp m).take i)) x:=by rw[take_succ o,I1,List.foldl_append]; rfl
       rw[Í (by simp[ine,n]),z];unfold aoQ N1
       cases rc (k:=tI) (v:=Ã) (Ν m.2 x label d) (I1 m label d ((vp m).take i)) with
       |none=>dsimp only; rw[É hi (by omega)]
       |some s =>
        dsimp only;rw[É hi (by omega),Zi,ajH]; rfl
     ·refine .inl ?_
      have A:(vp m).findSome? (fun w=>Lu (alM m label d w))=some (alM m label d x):=by
       exact ajT o p (by simp[Lu,n])
      rw[A];unfold alM at n ⊢;rw[Ñ (by simp[ine,n])]
    ·rw[fH] at p
     try dsimp only
     unfold qd;rw[Ó,key _ p,List.take_length];dsimp only;refine î m.1.2.1 (fun i=>(m.1.2.1.take i).filterMap fun g=>(rc (k:=tI) (v:=Ã) g.1 (I1 m label d (vp m))).map fun s=>(g.1,s)) _ rfl (fun i g hi C y=>?_) (fun y=>?_)
     ·try dsimp only
      unfold p9;have G:((m.1.2.1.take i).filterMap fun g=>(rc (k:=tI) (v:=Ã) g.1 (I1 m label d (vp m))).map fun s=>(g.1,s)).length<=1000:=Nat.le_trans (List.length_filterMap_le _ _) (by rw[List.length_take]; omega);rw[Ì hi,Ä C,take_succ C,List.filterMap_append];unfold N1
      cases q:rc (k:=tI) (v:=Ã) g.1 (I1 m label d (vp m)) with
      |none=>simp only[List.filterMap_cons,q,Option.map_none,List.filterMap_nil,dC]; rw[É hi (by omega)]
      |some s =>
       simp only[List.filterMap_cons,q,eo,List.filterMap_nil];rw[ä (Ò (by rw[dU]; omega)),É hi (by omega)]
     ·try dsimp only
      unfold p9;rw[Ó,List.take_length]
  ·rw[Ñ (by simp[ine,t]),if_pos t]
 ·rw[Ñ (by simp[ine,r]),if_pos r]
end
end Go.Proofs.ZzM
end
