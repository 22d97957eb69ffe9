/- lemmas -/
import Derived.Test.YtdmegkgjpgcfgaaGreatPlA
import Derived.Test.YtdmegkgjpgcfgaaGreatMdTA
set_option linter.all false
noncomputable section
namespace Go.Proofs.ZzM
open Go Go.Am
def wN (n lo hi:Int):kX n lo hi=some (inP n lo hi):=by
 unfold kX acW inP ige ile
 cases h:decide (lo<=n)<;>simp_all
def Zb (n:Int):yu n=some (C6 n):=by
 unfold yu Xw;rw[wN]; rfl
def yG (s:Int×Int) (lo hi:Int):jW s lo hi=some (j8 s lo hi):=by
 unfold jW Ax j8 ile
 cases decide (lo<=s.1)<;>cases decide (s.1<=s.2)<;>rfl
def aoz {l:BY Int} (f:l.length<=1000000) (x:Int):Nz l x=some (l.contains x):=by
 unfold Nz Xu;refine Eq.trans (ē l (fun a=>a==x) (fun _=>some true) (some true) (some false) (fun _=>rfl) (fun i a hi ha d=>?_) (fun d=>?_)) ?_
 ·try dsimp only
  unfold xD;rw[Ì hi,Ä ha,Ê hi (by omega),ô]
 ·try dsimp only
  unfold xD;rw[Ó]
 ·have:l.any (fun a=>a==x)=l.contains x:=by
   rw[eQ,dD,dZ];constructor
   ·rintro⟨a,ha,e⟩; rw[<-eq_of_beq e]; exact ha
   ·intro h; exact⟨x,h,by simp⟩
  rw[this]
  cases l.contains x<;>rfl
def agi {a b:BY Int} {i:Nat} {x:Int} (h:a[i]?=some x):Þ (a.take (i+1)) b=Þ (a.take i) b++if b.contains x then[] else[x]:=by
 rw[take_succ h,Þ,Þ,fg];congr 1
 cases d:b.contains x<;>simp only[eT,d,dU,fK,dA,if_false,if_true,eS]
def Za {a b:BY Int} (ha:a.length<=1000000) (hb:b.length<=1000000):lm a b=some (Þ a b):=by
 unfold lm P1;refine ï a (fun i=>Þ (a.take i) b) _ rfl (fun i x hi d e=>?_) (fun e=>?_)
 ·try dsimp only
  unfold tW
  have f:(Þ (a.take i) b).length<=1000000:=by
   have:=rV (a.take i) b;rw[du] at this;omega
  rw[Ì hi,Ä d,aoz hb,À,agi d]
  cases b.contains x with
  |true=>rw[Í (by rfl),Ê hi (by omega)]; simp
  |false=>rw[Ñ (by rfl),Ä d,Ò (by simp only[dS]; omega),Am.iff_true,Ê hi (by omega)]; simp
 ·try dsimp only
  unfold tW;rw[Ó,List.take_length]
def Ma (a b:BY Int):Int:=(Þ a b).head?.getD 0
def K9 {a b:BY Int} (ha:a.length<=1000000) (hb:b.length<=1000000):qv a b=some (Ma a b):=by
 unfold qv Xg Ma;rw[Za ha hb,À,Î]
 cases h:Þ a b with
 |nil=>rfl
 |cons x t =>
  rw[Í (by simp[ieq]; omega)];exact Ä (i:=0) rfl _
def Jg {b:ø} (e:b.2.1.length<=1000000) (id:Int):ln b id=some (match b.2.1.findIdx? (fun g=>g.1==id) with|some j=>(j:Int)|none=>-1):=by
 unfold ln P5;refine Eq.trans (jn b.2.1 (fun g=>g.1==id) (fun z=>some z) (some (-1)) (fun i a hi ha d=>?_) (fun d=>?_)) ?_
 ·try dsimp only
  unfold tX;rw[Ì hi,Ä ha,Ê hi (by omega),ô]
 ·try dsimp only
  unfold tX;rw[Ó]
 ·cases List.findIdx? (fun g:è=>g.1==id) b.2.1<;>rfl
def wy {b:ø} {id:Int}:(∃j g,b.2.1.findIdx? (fun g=>g.1==id)=some j/\b.2.1[j]?=some g/\î b id=some g)\/(b.2.1.findIdx? (fun g=>g.1==id)=none/\î b id=none):=by
 unfold î;rw[Nv]
 cases h:b.2.1.findIdx? (fun g=>g.1==id) with
 |none=>exact .inr ⟨rfl,rfl⟩
 |some j =>
  obtain⟨a,_,_⟩:=dR.1 h;exact .inl ⟨j,_,rfl,df a,df a⟩
def Ņ (b:ø) (id day:Int):Int:=match î b id with|some g=>if day<g.2.1 then 4 else 0|none=>5
def BK {b:ø} (d:b.2.1.length<=1000000) (id day:Int):jx b id day=some (Ņ b id day):=by
 unfold jx J8 Ņ;rw[Jg d,À];rcases wy (b:=b) (id:=id) with⟨j,g,a,h2,e⟩|⟨a,h2⟩
 ·rw[a,e]
  try dsimp only
  rw[Í (by simp[ilt]),Ä h2,ô]
  by_cases hd:day<g.2.1
  ·rw[if_pos (by simpa[ilt] using hd),if_pos hd]
  ·rw[if_neg (by simpa[ilt] using hd),if_neg hd]
 ·rw[a,h2];rfl
def wT {b:ø} (hi:b.2.1.Pairwise fun a b=>a.1<b.1) (id day:Int):Ņ b id day=mz (ŗ b) id day:=by
 unfold Ņ mz;rw[vx hi]
 cases î b id<;>rfl
def NK {b:ø} (q:b.2.2.2.1.length<=1000000) (id day:Int):jX b id day=some (match Ŕ b id day with|some l=>(l,true)|none=>((0,(0,0),0),false)):=by
 unfold jX PZ;refine Ik b.2.2.2.1 (fun _=>((0:Int),(0:Int),(0:Int),(0:Int))) _ (fun i=>∀l∈b.2.2.2.1.take i,(l.1==id&&inP day l.2.1.1 l.2.1.2)=false) rfl (by simp) (fun i a hi ha g n=>?_) (fun g n=>?_)
 ·try dsimp only
  unfold tV;rw[Ì hi,Ä ha]
  by_cases f:(a.1==id&&inP day a.2.1.1 a.2.1.2)=true
  ·refine .inl ?_;have d:=f;simp only[inP,dg,beq_iff_eq,decide_eq_true_eq] at d;rw[Ñ (by simp[ieq,d.1]),Ñ (by simp[ile,d.2.1]),Ñ (by simp[ile,d.2.2])]
   have o:Ŕ b id day=some a:=by
    unfold Ŕ;obtain⟨k,rfl⟩:=List.getElem?_eq_some_iff.1 ha;rw[List.find?_eq_some_iff_getElem];refine⟨f,i,k,rfl,fun j r=>?_⟩;have:=g b.2.2.2.1[j] (List.mem_iff_getElem.2 ⟨j,by rw[List.length_take]; omega,by rw[List.getElem_take]⟩);simp[this]
   rw[o]
  ·refine .inr ⟨fun l e=>?_,?_⟩
   ·rw[take_succ ha,dl,dq] at e;rcases e with e|rfl
    ·exact g l e
    ·simpa using f
   ·have d:=f;simp only[inP,dg,beq_iff_eq,decide_eq_true_eq] at d
    by_cases h:a.1=id
    ·by_cases h2:a.2.1.1<=day
     ·rw[Ñ (by simp[ieq,h]),Ñ (by simp[ile,h2]),Í (by simp[ile]; exact Int.lt_of_not_ge fun p=>d ⟨h,h2,p⟩),Ê hi (by omega)]
     ·rw[Ñ (by simp[ieq,h]),Í (by simp[ile]; omega),Ê hi (by omega)]
    ·rw[Í (by simp[ieq,h]),Ê hi (by omega)]
 ·try dsimp only
  unfold tV;rw[Ó]
  have:Ŕ b id day=none:=by
   unfold Ŕ;rw[List.find?_eq_none];intro l e;have:=g l (by rw[List.take_length]; exact e);simp[this]
  rw[this]
def amJ {b:ø} (f:b.2.2.1.length<=1000000) (id day:Int):IQ b id day=some (L6 b id day):=by
 unfold IQ PK;refine Eq.trans (ē b.2.2.1 (fun u=>u.1==id&&u.2==day) (fun _=>some true) (some true) (some false) (fun _=>rfl) (fun i a hi ha e=>?_) (fun e=>?_)) ?_
 ·try dsimp only
  unfold tR;rw[Ì hi,Ä ha,Ä ha,Ê hi (by omega)]
  cases d:(a.1==id) with
  |false=>have:ieq a.1 id=false:=d; simp[this]
  |true =>
   have:ieq a.1 id=true:=d;rw[this]
   cases h2:(a.2==day) with
   |false=>have:ieq a.2 day=false:=h2; simp[this]
   |true=>have:ieq a.2 day=true:=h2; simp[this]
 ·try dsimp only
  unfold tR;rw[Ó]
 ·unfold L6
  cases b.2.2.1.any _<;>rfl
def akH (a b:Nat):Cs a b=some ((Nat.gcd a b:Nat):Int):=by
 unfold Cs XD;refine ð (fun x:Int×Int=>∃c d:Nat,x=((c:Int),(d:Int))/\Nat.gcd c d=Nat.gcd a b) (fun x=>x.2.toNat) ?_ ⟨a,b,rfl,rfl⟩;rintro x ⟨c,d,rfl,e⟩
 cases d with
 |zero =>
  refine .inl fun f=>?_;rw[Nat.gcd_zero_right] at e;unfold xE;simp[e,ine]
 |succ d =>
  refine .inr ⟨(((d+1:Nat):Int),((c % (d+1):Nat):Int)),⟨d+1,c % (d+1),rfl,?_⟩,?_,fun f=>?_⟩
  ·rw[<-e,iw c (d+1),Nat.gcd_rec (d+1) c,iw]
  ·have:=ig c (g8 d);simp only[dt];omega
  ·unfold xE
   have g:ine ((d+1:Nat):Int) 0=true:=by simp[ine]; omega
   have h2:oy ((d+1:Nat):Int) 0=false:=by simp[oy]; omega
   simp only[g,Ñ Í h2];congr 1
def akK {n:Int} (h : -9223372036854775807<=n/\n<=9223372036854775807):IW n=some (n.natAbs:Int):=by
 unfold IW XG
 by_cases a:n<0
 ·rw[Ñ (by simpa[ilt] using a),Ï (by omega) (by omega)];congr 1;omega
 ·rw[Í (by simpa[ilt] using a)];congr 1;omega
def akD (r:Int×Int):Cq r=some (Lj r):=by
 unfold Cq Kg Lj
 by_cases d:1<=r.2
 ·rw[Í (by simp[ilt]; omega)]
  by_cases h2:r.2<=2147483647
  ·rw[Í (by simp[igt]; omega)]
   by_cases g:r.1 < -2147483647
   ·rw[Ñ (by simp[ilt]; omega)]
    have:¬((r.1.natAbs:Int)<=2147483647):=by omega
    simp[this]
   ·rw[Í (by simp[ilt]; omega)]
    by_cases f:2147483647<r.1
    ·rw[Ñ (by simp[igt]; omega)]
     have:¬((r.1.natAbs:Int)<=2147483647):=by omega
     simp[this]
    ·rw[Í (by simp[igt]; omega),akK ⟨by omega,by omega⟩,À]
     have a:r.2=((r.2.natAbs:Nat):Int):=by omega
     have e:((r.1.natAbs:Int)<=2147483647):=by omega
     rw[a,akH,À,<-a];congr 1;rw[eQ];simp only[ieq,beq_iff_eq,d,h2,e,decide_true,eR,decide_eq_true_eq];omega
  ·rw[Ñ (by simp[igt]; omega)];simp[h2]
 ·rw[Ñ (by simp[ilt]; omega)];simp[d]
def akA (g:è):Cn g=some (rZ g):=by
 unfold Cn J6 rZ;rw[akD,wN,wN,Zb,wN,yG,wN];simp only[À]
 have e:igt g.2.2.2.2.1.2 100=!decide (g.2.2.2.2.1.2<=100):=by
  rw[eQ]; simp[igt]
 rw[e]
 cases Lj g.2.2.2.2.1<;>cases inP g.2.2.2.2.1.1 (-1000) 1000<;>cases decide (g.2.2.2.2.1.2<=100)<;>cases inP g.1 1 1099511627776<;>cases C6 g.2.1<;>cases inP g.2.2.1 1 1125899906842624<;>cases j8 g.2.2.2.1 (-1073741824) 1073741824<;>rfl
def acy {l:BY Int}:∀(m:BY Int) (j:Nat) (x:Bool),Ĝ (yW l) j m=some x->x=false:=by
 intro m
 induction m with
 |nil=>intro j x h; cases h
 |cons a m e =>
  intro j x h;unfold Ĝ at h
  cases d:yW l j a with
  |none=>rw[d] at h; exact e _ _ h
  |some y =>
   rw[d] at h;cases h;unfold yW at d
   split at d
   ·cases d; rfl
   ·split at d
    ·cases d; rfl
    ·cases d
def afD {l:BY Int} (g:l.length<=1000000):Bq l=some (uH l):=by
 unfold Bq PP;refine Eq.trans (jv l (yW l) some (some (decide (l.length<=6))) (fun i a hi ha e=>?_) (fun e=>?_)) ?_
 ·try dsimp only
  unfold tT;rw[Ì hi,Ä ha,wN,À];unfold yW
  cases inP a 1 1099511627776 with
  |false=>rfl
  |true =>
   simp only[dU,æ,dA,if_false];rcases fM i with h0|h0
   ·subst h0
    have:igt ((0:Nat):Int) 0=false:=by simp[igt]
    rw[Í this,Ê hi (by omega)];simp[lZ]
   ·obtain⟨q,d⟩:=vk hi h0
    have f:igt (i:Int) 0=true:=by simp[igt]; omega
    rw[Ñ f,Ä ha,RE h0 (by omega),Iw h0 d];simp only[lZ,h0,decide_true,Bool.true_and,d,Option.any_some];unfold ile
    cases h2:decide (a<=q) with
    |true=>rfl
    |false =>
     rw[æ,Ê hi (by omega)];rfl
 ·try dsimp only
  unfold tT;rw[Ó,Î];simp[ile];omega
 ·unfold uH
  cases h:Ĝ (yW l) 0 l with
  |none=>rfl
  |some x=>rw[acy _ _ _ h]
def aky {c:Cmp} (d:c.2.2.1.length<=1000000) (a:c.2.2.2.1.length<=1000000):Cl c=some (JC c):=by
 unfold Cl J3 JC;rw[afD d,afD a,wN,Zb,wN,wN,yG];simp only[À]
 cases uH c.2.2.1<;>cases uH c.2.2.2.1<;>cases inP c.1 1 1099511627776<;>cases C6 c.2.1<;>cases inP c.2.2.2.2.1 (-1125899906842624) 1125899906842624<;>cases inP c.2.2.2.2.2.1 0 1073741824<;>cases j8 c.2.2.2.2.2.2 (-10000) 10000<;>rfl
def Zj (b:ø) (u:Int×Int):Int:=if !C6 u.2 then 1 else Ņ b u.1 u.2
def ad3 {b:ø} (hi:b.2.1.Pairwise fun a b=>a.1<b.1) (u:Int×Int):Zj b u=ack (ŗ b) u.1 u.2:=by
 unfold Zj ack;rw[wT hi]
def KT (e:Int):BE Int:=if e=0 then none else some e
def KM {α:Type} (E:Nat->α->Int):∀(k:Nat) (l:BY α),Ĝ (fun i a=>KT (E i a)) k l=(l.mapIdx fun i a=>E (i+k) a).find? (fun e=>e != 0)
 |_,[]=>rfl
 |k,a::t=>by
  unfold Ĝ;rw[KM E (k+1) t,List.mapIdx_cons,List.find?_cons];unfold KT
  by_cases h:E k a=0
  ·simp only[h,if_true,dQ];have:((0:Int) != 0)=false:=rfl;rw[this]
   have e:(fun(i:Nat) (a:α)=>E (i+(k+1)) a)=fun i a=>E (i+1+k) a:=by
    funext i a;congr 1;omega
   rw[e]
  ·simp only[h,if_false,dQ]
   have:(E k a != 0)=true:=by simpa using h
   rw[this]
def Rk {α:Type} (E:Nat->α->Int) (l:BY α):Ĝ (fun i a=>KT (E i a)) 0 l=(l.mapIdx E).find? (fun e=>e != 0):=KM E 0 l
def Rl {α:Type} (E:α->Int) (l:BY α):Ĝ (fun _ a=>KT (E a)) 0 l=(l.map E).find? (fun e=>e != 0):=by
 rw[KM (fun _ a=>E a) 0 l];congr 1
 exact ip (by simp) fun i d h2=>by simp
def amE {b:ø} (f:jp b):IM b=some (((b.2.2.1.map (Zj b)).find? (fun e=>e != 0)).getD 0):=by
 have h:=f.gauges;have h2:=f.uses;unfold IM PC;refine Eq.trans (jv b.2.2.1 (fun _ u=>KT (Zj b u)) some (some 0) (fun i a hi ha g=>?_) (fun g=>?_)) ?_
 ·try dsimp only
  unfold tM;rw[Ì hi,Ä ha,Zb,À];unfold Zj KT
  cases C6 a.2 with
  |false=>rfl
  |true =>
   rw[Í (by rfl),Ä ha,Ä ha,BK (b:=((b.1.1,b.1.2),b.2.1,b.2.2.1,b.2.2.2.1,b.2.2.2.2.1,b.2.2.2.2.2)) (by simp only; omega),À,Ê hi (by omega)];have e:Ņ ((b.1.1,b.1.2),b.2.1,b.2.2.1,b.2.2.2.1,b.2.2.2.2.1,b.2.2.2.2.2) a.1 a.2=Ņ b a.1 a.2:=rfl;rw[e]
   by_cases d:Ņ b a.1 a.2=0
   ·rw[Í (by simp[ine,d])]; simp[d]
   ·rw[Ñ (by simp[ine,d])]; simp[d]
 ·try dsimp only
  unfold tM;rw[Ó]
 ·rw[Rl]
  cases List.find? (fun e=>e != 0) (b.2.2.1.map (Zj b))<;>rfl
def T5 (b:ø) (i:Nat) (l:Jm):Int :=
 if !j8 l.2.1 0 20000 then 1 else if !inP l.2.2 0 1048576 then 1 else if Ņ b l.1 l.2.1.1 != 0 then Ņ b l.1 l.2.1.1 else
 if (b.2.2.2.1.take i).any (fun x=>x.1==l.1&&(decide (x.2.1.1<=l.2.1.2)&&decide (l.2.1.1<=x.2.1.2))) then 9 else
 if b.2.2.1.any (fun u=>u.1==l.1&&inP u.2 l.2.1.1 l.2.1.2) then 9 else 0
def aiN {b:ø} (hi:b.2.1.Pairwise fun a b=>a.1<b.1) (i:Nat) (l:Jm):T5 b i l=MZ b (ŗ b) i l:=by
 unfold T5 MZ;rw[wT hi]
def akz {b:ø} (y:jp b):Cm b=some (((b.2.2.2.1.mapIdx (T5 b)).find? (fun e=>e != 0)).getD 0):=by
 have D:=y.gauges;have h2:=y.uses;have C:=y.loans;unfold Cm J4;refine Eq.trans (jv b.2.2.2.1 (fun i l=>KT (T5 b i l)) some (some 0) (fun i l hi z k=>?_) (fun k=>?_)) ?_
 ·try dsimp only
  unfold qg;rw[Ì hi,Ä z,yG,À];unfold T5 KT
  cases j8 l.2.1 0 20000 with
  |false=>rfl
  |true =>
  rw[Í (by rfl),wN,À]
  cases inP l.2.2 0 1048576 with
  |false=>rfl
  |true =>
  rw[Í (by rfl),BK (b:=((b.1.1,b.1.2),b.2.1,b.2.2.1,b.2.2.2.1,b.2.2.2.2.1,b.2.2.2.2.2)) (by simp only; omega),À];have e:Ņ ((b.1.1,b.1.2),b.2.1,b.2.2.1,b.2.2.2.1,b.2.2.2.2.1,b.2.2.2.2.2) l.1 l.2.1.1=Ņ b l.1 l.2.1.1:=rfl;rw[e]
  by_cases q:Ņ b l.1 l.2.1.1=0
  ·rw[Í (by simp[ine,q])]
   have p:(b.2.2.2.1.take i).length=i:=by rw[du]; omega
   have f:Ë (fun(s:Int) n=>mM b.2.2.1 l.1 l.2.1.1 l.2.1.2 s (fun t=>n t) (fun r=>(some r:BE Int)) (fun _=>ck ((i:Int)+(1:Int)) fun v=>k v)) (0:Int)=if b.2.2.1.any (fun u=>u.1==l.1&&inP u.2 l.2.1.1 l.2.1.2) then some 9 else k ((i:Int)+1):=by
    refine ē b.2.2.1 _ (fun _=>some 9) (some 9) (k ((i:Int)+1)) (fun _=>rfl) (fun j a h ha d=>?_) (fun d=>?_)
    ·try dsimp only
     unfold mM;rw[Ì h,Ä ha,Ä ha,wN,À,Ê h (by omega)]
     cases o:(a.1==l.1) with
     |false=>have:ieq a.1 l.1=false:=o; simp[this]
     |true =>
      have:ieq a.1 l.1=true:=o;rw[this]
      cases inP a.2 l.2.1.1 l.2.1.2<;>simp
    ·try dsimp only
     unfold mM;rw[Ó];dsimp only;rw[Ê hi (by omega)]
   try dsimp only
   rw[f];refine ej (ē (b.2.2.2.1.take i) (fun x=>x.1==l.1&&(decide (x.2.1.1<=l.2.1.2)&&decide (l.2.1.1<=x.2.1.2))) (fun _=>some 9) (some 9) (if b.2.2.1.any (fun u=>u.1==l.1&&inP u.2 l.2.1.1 l.2.1.2) then some 9 else k ((i:Int)+1)) (fun _=>rfl) (fun j a h ha d=>?_) (fun d=>?_)) ?_
   ·try dsimp only
    unfold qf;rw[p] at h
    have g:b.2.2.2.1[j]?=some a:=by rwa [List.getElem?_take_of_lt h] at ha
    rw[Ñ (show ilt (j:Int) (i:Int)=true by simp[ilt]; omega),Ä g,Ä g,Ä g,Ê h (by omega)]
    cases o:(a.1==l.1) with
    |false=>have:ieq a.1 l.1=false:=o; simp[this]
    |true =>
     have:ieq a.1 l.1=true:=o;rw[this]
     cases B:decide (a.2.1.1<=l.2.1.2)<;>cases A:decide (l.2.1.1<=a.2.1.2)<;>simp[ile,B,A,ô]<;>simp_all
   ·try dsimp only
    unfold qf;rw[p,Í (show ilt (i:Int) (i:Int)=false by simp[ilt])]
   ·simp only[q]
    cases List.any (b.2.2.2.1.take i) _<;>cases b.2.2.1.any _<;>rfl
  ·rw[Ñ (by simp[ine,q])]; simp[q]
 ·try dsimp only
  unfold qg;rw[Ó]
 ·rw[Rk (T5 b)]
  cases(b.2.2.2.1.mapIdx (T5 b)).find? (fun e=>e != 0)<;>rfl
def De (b:ø) (c:Cmp):Int :=
 if (c.2.2.1++c.2.2.2.1).any (fun id=>Ņ b id c.2.1==5) then 5 else
 if (c.2.2.1++c.2.2.2.1).any (fun id=>Ņ b id c.2.1 != 0) then 4 else
 if (c.2.2.1++c.2.2.2.1).any (fun id=>(Ŕ b id c.2.1).isSome) then 9 else
 if 1<(Þ c.2.2.1 c.2.2.2.1).length then 1 else if 1<(Þ c.2.2.2.1 c.2.2.1).length then 1 else
 if (Þ c.2.2.1 c.2.2.2.1).length+(Þ c.2.2.2.1 c.2.2.1).length=0 then 1 else 0
def alm {b:ø} (hi:b.2.1.Pairwise fun a b=>a.1<b.1) (c:Cmp):De b c=vl b (ŗ b) c:=by
 unfold De vl;simp only[wT hi]
 by_cases d:(c.2.2.1++c.2.2.2.1).any (fun id=>mz (ŗ b) id c.2.1==5)=true
 ·rw[if_pos d,if_pos d]
 ·rw[if_neg d,if_neg d]
  have e:(c.2.2.1++c.2.2.2.1).any (fun id=>mz (ŗ b) id c.2.1 != 0)=(c.2.2.1++c.2.2.2.1).any (fun id=>mz (ŗ b) id c.2.1==4):=by
   rw[eQ,dD,dD];constructor
   ·rintro⟨x,g,h⟩;refine⟨x,g,?_⟩;rcases EN (ŗ b) x c.2.1 with f|f|f
    ·rw[f] at h; cases h
    ·rw[f]; rfl
    ·exact absurd (dD.2 ⟨x,g,by rw[f]; rfl⟩) d
   ·rintro⟨x,g,h⟩;refine⟨x,g,?_⟩;rw[eq_of_beq h]; rfl
  rw[e]
def acp {b:ø} {id d:Int}:(Ņ b id d==5)=(b.2.1.findIdx? (fun g=>g.1==id)).isNone:=by
 unfold Ņ;rcases wy (b:=b) (id:=id) with⟨j,g,a,h2,e⟩|⟨a,h2⟩
 ·rw[a,e]
  try dsimp only
  split<;>rfl
 ·rw[a,h2]; rfl
set_option maxHeartbeats 1000000 in
def ab8 {b:ø} (A:jp b) {c:Cmp} (H:c.2.2.1.length<=1000) (G:c.2.2.2.1.length<=1000):kB b c=some (De b c):=by
 have J:=A.gauges;have I:=A.loans;unfold kB xx De;rw[Ò (by omega),Am.iff_true,List.nil_append,Ò (by omega),Am.iff_true]
 have C:(c.2.2.1++c.2.2.2.1).length<=2000:=by rw[di]; omega
 generalize F:c.2.2.1++c.2.2.2.1=P at C
 have r:∀{i:Nat},i<P.length->((ile (0:Int) (i:Int))&&(ilt (i:Int) (í P)))=true:=fun {i} hi=>by simp[ile,ilt,í]; omega
 have p:Ë (fun(n:Int) h=>Θ b.1.1 b.1.2 b.2.1 b.2.2.1 b.2.2.2.1 b.2.2.2.2.1 b.2.2.2.2.2 c.2.1 P n (fun o=>h o) (fun l=>some l) (fun _=>Æ (lm c.2.2.1 c.2.2.2.1) fun f=>Æ (lm c.2.2.2.1 c.2.2.1) fun d=>ifb (igt (Õ f) (1:Int)) (some (1:Int)) (ifb (igt (Õ d) (1:Int)) (some (1:Int)) (ck ((Õ f)+(Õ d)) fun q=>ifb (ieq q (0:Int)) (some (1:Int)) (some (0:Int)))))) (0:Int) =
  some (if P.any (fun id=>(Ŕ b id c.2.1).isSome) then 9 else if 1<(Þ c.2.2.1 c.2.2.2.1).length then 1 else if 1<(Þ c.2.2.2.1 c.2.2.1).length then 1 else if (Þ c.2.2.1 c.2.2.2.1).length+(Þ c.2.2.2.1 c.2.2.1).length=0 then 1 else 0):=by
  refine ej (ē P (fun id=>(Ŕ b id c.2.1).isSome) (fun _=>some 9) (some 9) (some (if 1<(Þ c.2.2.1 c.2.2.2.1).length then 1 else if 1<(Þ c.2.2.2.1 c.2.2.1).length then 1 else if (Þ c.2.2.1 c.2.2.2.1).length+(Þ c.2.2.2.1 c.2.2.1).length=0 then 1 else 0)) (fun _=>rfl) (fun i a hi ha s=>?_) (fun s=>?_)) ?_
  ·try dsimp only
   unfold Θ;rw[Ì hi,ä (r hi),Ă ha,NK (b:=((b.1.1,b.1.2),b.2.1,b.2.2.1,b.2.2.2.1,b.2.2.2.2.1,b.2.2.2.2.2)) (by simp only; omega),À,Ê hi (by omega)];have e:Ŕ ((b.1.1,b.1.2),b.2.1,b.2.2.1,b.2.2.2.1,b.2.2.2.2.1,b.2.2.2.2.2) a c.2.1=Ŕ b a c.2.1:=rfl;rw[e]
   cases Ŕ b a c.2.1<;>rfl
  ·try dsimp only
   unfold Θ;rw[Ó];dsimp only;have E:=rV c.2.2.1 c.2.2.2.1;have D:=rV c.2.2.2.1 c.2.2.1;rw[Za (by omega) (by omega),À,Za (by omega) (by omega),À];simp only[Î]
   by_cases z:1<(Þ c.2.2.1 c.2.2.2.1).length
   ·rw[Ñ (by simp[igt]; omega),if_pos z]
   ·rw[Í (by simp[igt]; omega),if_neg z]
    by_cases y:1<(Þ c.2.2.2.1 c.2.2.1).length
    ·rw[Ñ (by simp[igt]; omega),if_pos y]
    ·rw[Í (by simp[igt]; omega),if_neg y,Ï (by omega) (by omega)]
     by_cases x:(Þ c.2.2.1 c.2.2.2.1).length+(Þ c.2.2.2.1 c.2.2.1).length=0
     ·rw[Ñ (by simp[ieq]; omega),if_pos x]
     ·rw[Í (by simp[ieq]; omega),if_neg x]
  ·cases P.any _<;>rfl
 have k:Ë (fun(u:Int) t=>jm b.1.1 b.1.2 b.2.1 b.2.2.1 b.2.2.2.1 b.2.2.2.2.1 b.2.2.2.2.2 c.2.1 P u (fun v=>t v) (fun B=>some B) (fun _=>Ë (fun(n:Int) h=>Θ b.1.1 b.1.2 b.2.1 b.2.2.1 b.2.2.2.1 b.2.2.2.2.1 b.2.2.2.2.2 c.2.1 P n (fun o=>h o) (fun l=>some l) (fun _=>Æ (lm c.2.2.1 c.2.2.2.1) fun f=>Æ (lm c.2.2.2.1 c.2.2.1) fun d=>ifb (igt (Õ f) (1:Int)) (some (1:Int)) (ifb (igt (Õ d) (1:Int)) (some (1:Int)) (ck ((Õ f)+(Õ d)) fun q=>ifb (ieq q (0:Int)) (some (1:Int)) (some (0:Int)))))) (0:Int))) (0:Int) =
  some (if P.any (fun id=>Ņ b id c.2.1 != 0) then 4 else if P.any (fun id=>(Ŕ b id c.2.1).isSome) then 9 else if 1<(Þ c.2.2.1 c.2.2.2.1).length then 1 else if 1<(Þ c.2.2.2.1 c.2.2.1).length then 1 else if (Þ c.2.2.1 c.2.2.2.1).length+(Þ c.2.2.2.1 c.2.2.1).length=0 then 1 else 0):=by
  rw[p];refine ej (ē P (fun id=>Ņ b id c.2.1 != 0) (fun _=>some 4) (some 4) (some (if P.any (fun id=>(Ŕ b id c.2.1).isSome) then 9 else if 1<(Þ c.2.2.1 c.2.2.2.1).length then 1 else if 1<(Þ c.2.2.2.1 c.2.2.1).length then 1 else if (Þ c.2.2.1 c.2.2.2.1).length+(Þ c.2.2.2.1 c.2.2.1).length=0 then 1 else 0)) (fun _=>rfl) (fun i a hi ha s=>?_) (fun s=>?_)) ?_
  ·try dsimp only
   unfold jm;rw[Ì hi,ä (r hi),Ă ha,BK (b:=((b.1.1,b.1.2),b.2.1,b.2.2.1,b.2.2.2.1,b.2.2.2.2.1,b.2.2.2.2.2)) (by simp only; omega),À,Ê hi (by omega)];have e:Ņ ((b.1.1,b.1.2),b.2.1,b.2.2.1,b.2.2.2.1,b.2.2.2.2.1,b.2.2.2.2.2) a c.2.1=Ņ b a c.2.1:=rfl;rw[e,ô]
  ·try dsimp only
   unfold jm;rw[Ó]
  ·cases P.any (fun id=>Ņ b id c.2.1 != 0)<;>rfl
 rw[k];refine ej (ē P (fun id=>Ņ b id c.2.1==5) (fun _=>some 5) (some 5) (some (if P.any (fun id=>Ņ b id c.2.1 != 0) then 4 else if P.any (fun id=>(Ŕ b id c.2.1).isSome) then 9 else if 1<(Þ c.2.2.1 c.2.2.2.1).length then 1 else if 1<(Þ c.2.2.2.1 c.2.2.1).length then 1 else if (Þ c.2.2.1 c.2.2.2.1).length+(Þ c.2.2.2.1 c.2.2.1).length=0 then 1 else 0)) (fun _=>rfl) (fun i a hi ha s=>?_) (fun s=>?_)) ?_
 ·try dsimp only
  unfold lL;rw[Ì hi,ä (r hi),Ă ha,Jg (b:=((b.1.1,b.1.2),b.2.1,b.2.2.1,b.2.2.2.1,b.2.2.2.2.1,b.2.2.2.2.2)) (by simp only; omega),À,Ê hi (by omega),acp]
  try dsimp only
  cases List.findIdx? (fun g:è=>g.1==a) b.2.1 with
  |none=>rfl
  |some j =>
   have:ilt (j:Int) 0=false:=by simp[ilt]
   rw[Í this]; rfl
 ·try dsimp only
  unfold lL;rw[Ó]
 ·cases P.any (fun id=>Ņ b id c.2.1==5)<;>rfl
structure Pre (b:ø):Prop where
 size:jp b
 gauge:∀g∈b.2.1,rZ g=true
 cmp:∀c∈b.2.2.2.2.1,C6 c.2.1=true/\(Þ c.2.2.1 c.2.2.2.1).length<=1/\(Þ c.2.2.2.1 c.2.2.1).length<=1
 look:∀n∈b.2.2.2.2.2,C6 n.2=true
def aam {c:Cmp} (h:JC c=true):C6 c.2.1=true:=by
 have:=((ű c).1 h).2.1;simp[C6,inP,this.1,this.2]
def ţ.pre {b:ø} (h:ţ b):Pre b :=
 ⟨h.size,h.gauge,fun c a=>⟨aam (h.nums a),(h.lefts a).1,(h.lefts a).2.1⟩,fun n d=>(by have:=(Zk h (h.looks n d)).1; simp[C6,inP,this.1,this.2])⟩
def Wy {a b:BY Int} (h:(Þ a b).length<=1) {id:Int} (h0:id≠0):Ma a b=id↔id∈a/\id∉b:=by
 rw[<-lf];unfold Ma
 cases d:Þ a b with
 |nil =>
  simp only[List.head?_nil,Option.getD_none,ir,iff_false];exact fun e=>h0 e.symm
 |cons x t =>
  have:t=[]:=by
   rw[d] at h;simp only[dr] at h;exact dJ.1 (by omega)
  subst this;simp only[List.head?_cons,f5,dq];exact eq_comm
def M9 (b:ø) (g:è) (d:Int):Bool :=
 g.2.1==d||b.2.2.2.2.1.any (fun c=>c.2.1==d&&(Ma c.2.2.1 c.2.2.2.1==g.1||Ma c.2.2.2.1 c.2.2.1==g.1))||b.2.2.2.2.2.any (fun n=>n.1==g.1&&n.2==d)
def amI {b:ø} (p:jp b) (g:è) (d:Int):IP b g d=some (M9 b g d):=by
 have f:=p.compares;have h2:=p.looks;unfold IP PI M9
 cases q:(g.2.1==d) with
 |true =>
  have:ieq g.2.1 d=true:=q;rw[Ñ this];simp
 |false =>
  have:ieq g.2.1 d=false:=q;rw[Í this]
  have e:Ë (fun(k:Int) h=>oY d b.2.2.2.2.2 g.1 k (fun l=>h l) (fun j=>some j) (fun _=>some false)) (0:Int)=some (b.2.2.2.2.2.any (fun n=>n.1==g.1&&n.2==d)):=by
   refine ej (ē b.2.2.2.2.2 (fun n=>n.1==g.1&&n.2==d) (fun _=>some true) (some true) (some false) (fun _=>rfl) (fun i a hi ha o=>?_) (fun o=>?_)) ?_
   ·try dsimp only
    unfold oY;rw[Ì hi,Ä ha,Ä ha,Ê hi (by omega)]
    cases f:(a.1==g.1) with
    |false=>have:ieq a.1 g.1=false:=f; simp[this]
    |true =>
     have:ieq a.1 g.1=true:=f;rw[this]
     cases h2:(a.2==d) with
     |false=>have:ieq a.2 d=false:=h2; simp[this]
     |true=>have:ieq a.2 d=true:=h2; simp[this]
   ·try dsimp only
    unfold oY;rw[Ó]
   ·cases b.2.2.2.2.2.any _<;>rfl
  rw[e];refine ej (ē b.2.2.2.2.1 (fun c=>c.2.1==d&&(Ma c.2.2.1 c.2.2.2.1==g.1||Ma c.2.2.2.1 c.2.2.1==g.1)) (fun _=>some true) (some true) (some (b.2.2.2.2.2.any (fun n=>n.1==g.1&&n.2==d))) (fun _=>rfl) (fun i a hi ha o=>?_) (fun o=>?_)) ?_
  ·have s:=p.piles a (dk ha)
   try dsimp only
   unfold tQ;rw[Ì hi,Ä ha,K9 (by omega) (by omega),K9 (by omega) (by omega),Ê hi (by omega)];simp only[À]
   cases f:(a.2.1==d) with
   |false=>have:ieq a.2.1 d=false:=f; simp[this]
   |true =>
    have:ieq a.2.1 d=true:=f;rw[this]
    cases h2:(Ma a.2.2.1 a.2.2.2.1==g.1) with
    |true=>have:ieq (Ma a.2.2.1 a.2.2.2.1) g.1=true:=h2; simp[this]
    |false =>
     have:ieq (Ma a.2.2.1 a.2.2.2.1) g.1=false:=h2;rw[this]
     cases r:(Ma a.2.2.2.1 a.2.2.1==g.1) with
     |true=>have:ieq (Ma a.2.2.2.1 a.2.2.1) g.1=true:=r; simp[this]
     |false=>have:ieq (Ma a.2.2.2.1 a.2.2.1) g.1=false:=r; simp[this]
  ·try dsimp only
   unfold tQ;rw[Ó]
  ·cases b.2.2.2.2.1.any _<;>rfl
def akr {b:ø} (h:Pre b) {g:è} (n:g∈b.2.1) {d:Int}:M9 b g d=true↔d∈Ü b g:=by
 have a:g.1≠0:=by
  have:=((wx g).1 (h.gauge g n)).2.2.2.1;omega
 rw[ż];unfold M9;simp only[Bool.or_eq_true,List.any_eq_true,Bool.and_eq_true,beq_iff_eq,or_assoc];refine or_congr eq_comm (or_congr ?_ Iff.rfl);constructor
 ·rintro⟨c,f,e,i⟩;obtain⟨_,k,j⟩:=h.cmp c f;refine⟨c,f,?_,e⟩;rw[Wy k a,Wy j a] at i;intro l;rw[eQ,dZ,dZ] at l;rcases i with⟨x,y⟩|⟨x,y⟩
  ·exact y (l.1 x)
  ·exact y (l.2 x)
 ·rintro⟨c,f,i,e⟩;obtain⟨_,k,j⟩:=h.cmp c f;refine⟨c,f,e,?_⟩;rw[Wy k a,Wy j a]
  by_cases ha:g.1∈c.2.2.1
  ·by_cases hb:g.1∈c.2.2.2.1
   ·exact absurd (by rw[eQ,dZ,dZ]; exact⟨fun _=>hb,fun _=>ha⟩) i
   ·exact .inl ⟨ha,hb⟩
  ·by_cases hb:g.1∈c.2.2.2.1
   ·exact .inr ⟨hb,ha⟩
   ·exact absurd (by rw[eQ,dZ,dZ]; exact⟨fun x=>absurd x ha,fun x=>absurd x hb⟩) i
def nx (v:Int) (D:BY Int):Int:=D.foldl (fun m d=>if v<d then min m d else m) 20001
def aio (v:Int) (D:BY Int) (d:Int):nx v (D++[d])=if v<d then min (nx v D) d else nx v D:=by
 unfold nx;rw[List.foldl_append];rfl
def Wz (v:Int):∀D:BY Int,nx v D<=20001/\(∀d∈D,v<d->nx v D<=d)/\(nx v D=20001\/(nx v D∈D/\v<nx v D)):=by
 suffices H:∀(n:Nat) (D:BY Int),D.length=n->nx v D<=20001/\(∀d∈D,v<d->nx v D<=d)/\(nx v D=20001\/(nx v D∈D/\v<nx v D)) from fun D=>H _ D rfl
 intro n
 induction n with
 |zero =>
  intro D k;rw[dJ.1 k];exact⟨dV _,by simp,.inl rfl⟩
 |succ n j =>
  intro i f
  obtain⟨D,d,rfl⟩:∃D d,i=D++[d]:=by
   rcases List.eq_nil_or_concat i with rfl|⟨L,b,rfl⟩
   ·simp at f
   ·exact⟨L,b,by simp⟩
  obtain⟨l,h2,a⟩:=j D (by simpa using f);rw[aio]
  by_cases hd:v<d
  ·rw[if_pos hd];refine⟨by omega,fun x e g=>?_,?_⟩
   ·rcases dl.1 e with e|e
    ·have:=h2 x e g; omega
    ·rw[dq] at e; omega
   ·rcases Int.le_total (nx v D) d with h|h
    ·rw[Int.min_eq_left h];rcases a with a|a
     ·exact .inl a
     ·exact .inr ⟨by simp[a.1],a.2⟩
    ·rw[Int.min_eq_right h];exact .inr ⟨by simp,hd⟩
  ·rw[if_neg hd];refine⟨l,fun x e g=>?_,?_⟩
   ·rcases dl.1 e with e|e
    ·exact h2 x e g
    ·rw[dq] at e; omega
   ·rcases a with a|a
    ·exact .inl a
    ·exact .inr ⟨by simp[a.1],a.2⟩
def anU {D:BY Int} (o:D.length<=1000000) (v:Int) (K:Int->BE (BY (Int×Int))) :
 Ë (fun(d:Int×Int) e=>mN v D d.1 d.2 (fun g f=>e (g,f)) K) ((20001:Int),(0:Int))=K (nx v D):=by
 refine ð (fun x:Int×Int=>∃k:Nat,k<=D.length/\x=(nx v (D.take k),(k:Int))) (fun x=>D.length-x.2.toNat) ?_ ⟨0,by omega,rfl⟩;rintro x ⟨k,n,rfl⟩;rcases dv k D.length with a|l
 ·refine .inr ⟨(nx v (D.take (k+1)),((k+1:Nat):Int)),⟨k+1,a,rfl⟩,by simp only[Int.toNat_natCast]; omega,fun i=>?_⟩;have ha:D[k]?=some D[k]:=List.getElem?_eq_getElem a;unfold mN;have j:í D=((D.length:Nat):Int):=rfl;rw[Ì a,j,ś a,Ă ha,take_succ ha,aio]
  by_cases h:v<D[k]
  ·rw[Ñ (by simpa[igt] using h),ś a,Ă ha,Ê a (by omega),if_pos h,Yq];simp
  ·rw[Í (by simpa[igt] using h),Ê a (by omega),if_neg h];simp
 ·have:k=D.length:=by omega
  subst this;refine .inl fun i=>?_;unfold mN;rw[Ó,List.take_length]
def ag8 (b:ø) (g:è) (D:BY Int) (v:Int):BY Int:=(ZB D).filter fun d=>decide (v<d)&&M9 b g d
def R0 {b:ø} {g:è} {D:BY Int} (n:∀d∈D,d<=20000) (v:Int):ag8 b g D v=if nx v D<20001 then(if M9 b g (nx v D) then nx v D::ag8 b g D (nx v D) else ag8 b g D (nx v D)) else[]:=by
 obtain⟨o,h2,f⟩:=Wz v D;refine YZ ((EB D).sublist gS) ?_ fun x=>?_
 ·split
  ·split
   ·rw[dN];refine⟨fun a ha=>?_,(EB D).sublist gS⟩;have:=(d8.1 ha).2;simp at this;omega
   ·exact(EB D).sublist gS
  ·exact List.Pairwise.nil
 ·have i:∀v x,x∈ag8 b g D v↔x∈D/\v<x/\M9 b g x=true:=by
   intro v x;unfold ag8;rw[List.mem_filter,wU];simp
  rw[i]
  split
  ·rename_i k
   have j:nx v D∈D/\v<nx v D:=by
    rcases f with f|f
    ·omega
    ·exact f
   split
   ·rename_i ha;rw[dm,i];constructor
    ·rintro⟨a,c,e⟩;have:=h2 x a c;rcases Int.lt_or_eq_of_le this with h|h
     ·exact .inr ⟨a,h,e⟩
     ·exact .inl h.symm
    ·rintro(rfl|⟨a,c,e⟩)
     ·exact⟨j.1,j.2,ha⟩
     ·exact⟨a,by omega,e⟩
   ·rename_i ha;rw[i];constructor
    ·rintro⟨a,c,e⟩;have:=h2 x a c;rcases Int.lt_or_eq_of_le this with h|h
     ·exact⟨a,h,e⟩
     ·rw[<-h] at e; exact absurd e ha
    ·rintro⟨a,c,e⟩;exact⟨a,by omega,e⟩
  ·rename_i l;constructor
   ·rintro⟨a,c,e⟩;have:=h2 x a c;have:=n x a;omega
   ·intro h; cases h
def amy {b:ø} {g:è} {D:BY Int} (v:Int):(ag8 b g D v).length<=D.length :=
 dE (eh _ _) (Ga D)
set_option maxHeartbeats 1000000 in
def al2 {b:ø} (f:jp b) {i:Nat} {g:è} (s:b.2.1[i]?=some g) {D:BY Int} (A:D.length<=1000000) (l:∀d∈D,d<=20000) {out:BY (Int×Int)} (E:out.length+D.length<=1000000000) (K:BY (Int×Int)->BE (BY (Int×Int))) :
 Ë (fun(j:Int×BY (Int×Int)) k=>mO (i:Int) b.1.1 b.1.2 b.2.1 b.2.2.1 b.2.2.2.1 b.2.2.2.2.1 b.2.2.2.2.2 D j.1 j.2 (fun q p=>k (q,p)) K) ((-1:Int),out)=K (out++(ag8 b g D (-1)).map fun d=>((g.1,d):Int×Int)):=by
 refine ð (fun x:Int×BY (Int×Int)=>x.2++(ag8 b g D x.1).map (fun d=>((g.1,d):Int×Int))=out++(ag8 b g D (-1)).map fun d=>((g.1,d):Int×Int)) (fun x=>(20001-x.1).toNat) ?_ rfl;rintro⟨v,o⟩ h;simp only at h
 by_cases r:v<20001
 ·obtain⟨F,h2,n⟩:=Wz v D
  have z:v<nx v D:=by
   rcases n with n|n
   ·omega
   ·exact n.2
  refine .inr ⟨(nx v D,if nx v D<20001/\M9 b g (nx v D)=true then o++[(g.1,nx v D)] else o),?_,by simp only; omega,fun t=>?_⟩
  ·rw[<-h];simp only;rw[R0 l v]
   by_cases ha:nx v D<20001
   ·rw[if_pos ha]
    cases u:M9 b g (nx v D) with
    |true=>rw[if_pos ⟨ha,rfl⟩,if_pos rfl]; simp
    |false=>rw[if_neg (by simp),if_neg (by simp)]
   ·rw[if_neg (by omega),if_neg ha]
    have:ag8 b g D (nx v D)=[]:=by
     have e:=R0 (b:=b) (g:=g) l (nx v D);rw[e,if_neg];obtain⟨C,B,a⟩:=Wz (nx v D) D;rcases a with a|a
     ·omega
     ·have:=l _ a.1; omega
    rw[this]
  ·unfold mO;rw[Ñ (by simpa[ilt] using r)];refine Eq.trans (anU A v _) ?_;dsimp only
   by_cases ha:nx v D<20001
   ·rw[Ñ (by simpa[ilt] using ha),Ä s,amI (b:=((b.1.1,b.1.2),b.2.1,b.2.2.1,b.2.2.2.1,b.2.2.2.2.1,b.2.2.2.2.2)) ⟨f.gauges,f.uses,f.loans,f.compares,f.looks,f.piles⟩,À];have e:M9 ((b.1.1,b.1.2),b.2.1,b.2.2.1,b.2.2.2.1,b.2.2.2.2.1,b.2.2.2.2.2) g (nx v D)=M9 b g (nx v D):=rfl;rw[e]
    cases u:M9 b g (nx v D) with
    |true =>
     have y:o.length<=1000000000:=by
      have:=congrArg List.length h;simp only[di,dL] at this;have:=amy (b:=b) (g:=g) (D:=D) (-1);omega
     rw[Ñ rfl,Ä s,Ò (by simp only[dS]; omega),Am.iff_true,if_pos ⟨ha,rfl⟩]
    |false=>rw[Í rfl,if_neg (by simp)]
   ·rw[Í (by simpa[ilt] using ha),if_neg (by omega)]
 ·refine .inl fun t=>?_;unfold mO;rw[Í (by simpa[ilt] using r)]
  have:ag8 b g D v=[]:=by
   rw[R0 l,if_neg];obtain⟨C,B,a⟩:=Wz v D;rcases a with a|a
   ·omega
   ·have:=l _ a.1; omega
  rw[this] at h;simp only[fF,dB] at h;rw[h]
def BI (b:ø):BY Int:=b.2.1.map (fun g=>g.2.1)++b.2.2.2.2.1.map (fun c=>c.2.1)++b.2.2.2.2.2.map fun n=>n.2
def adP {b:ø} (a:jp b):(BI b).length<=3000:=by
 have e:=a.gauges; have h2:=a.compares; have d:=a.looks;simp only[BI,di,dL];omega
def Pre.days {b:ø} (h:Pre b):∀d∈BI b,0<=d/\d<=20000:=by
 intro d hd;simp only[BI,dl,dH] at hd;rcases hd with(⟨g,e,rfl⟩|⟨c,f,rfl⟩)|⟨n,a,rfl⟩
 ·have:=((wx g).1 (h.gauge g e)).2.2.2.2.1;omega
 ·have:=(h.cmp c f).1;simp only[C6,inP,dg,decide_eq_true_eq] at this;exact this
 ·have:=h.look n a;simp only[C6,inP,dg,decide_eq_true_eq] at this;exact this
def akt {b:ø} (h:Pre b) {g:è} (f:g∈b.2.1):ag8 b g (BI b) (-1)=Ü b g:=by
 refine YZ ((EB _).sublist List.filter_sublist) (sk b g) fun x=>?_;unfold ag8;rw[List.mem_filter,wU,Bool.and_eq_true,akr h f,decide_eq_true_eq];constructor
 ·exact fun a=>a.2.2
 ·intro a
  have d:x∈BI b:=by
   simp only[BI,dl,dH];rcases ż.1 a with e|⟨c,j,_,e⟩|⟨n,i,_,e⟩
   ·exact .inl (.inl ⟨g,f,e.symm⟩)
   ·exact .inl (.inr ⟨c,j,e⟩)
   ·exact .inr ⟨n,i,e⟩
  have:=h.days x d;exact⟨d,by omega,a⟩
def WJ {α:Type} (f:α->Int) (l:BY α) (s:BY Int) (i:Nat) {a:α} (ha:l[i]?=some a):s++(l.take (i+1)).map f=(s++(l.take i).map f)++[f a]:=by
 rw[take_succ ha,fp,dp]; rfl
def Jf {b:ø} (h:Pre b):kE b=some (Ø b):=by
 have o:=h.size.gauges; have h2:=h.size.compares; have l:=h.size.looks;have k:=adP h.size;unfold kE Ka;refine ï b.2.1 (fun i=>(b.2.1.take i).map (fun g=>g.2.1)) _ rfl (fun i a hi ha e=>?_) (fun e=>?_)
 ·try dsimp only
  unfold ql;have:=WJ (fun g:è=>g.2.1) b.2.1 [] i ha;simp only[List.nil_append] at this;rw[Ì hi,Ä ha,Ò (by simp only[List.length_map,List.length_take,List.length_singleton]; omega),Am.iff_true,Ê hi (by omega),this]
 ·try dsimp only
  unfold ql;rw[Ó,List.take_length];dsimp only;refine ï b.2.2.2.2.1 (fun i=>b.2.1.map (fun g=>g.2.1)++(b.2.2.2.2.1.take i).map (fun c=>c.2.1)) _ (by simp) (fun i a hi ha e=>?_) (fun e=>?_)
  ·try dsimp only
   unfold qk;rw[Ì hi,Ä ha,Ò (by simp only[List.length_append,List.length_map,List.length_take,List.length_singleton]; omega),Am.iff_true,Ê hi (by omega),WJ (fun c:Cmp=>c.2.1) b.2.2.2.2.1 _ i ha]
  ·try dsimp only
   unfold qk;rw[Ó,List.take_length];dsimp only;refine ï b.2.2.2.2.2 (fun i=>b.2.1.map (fun g=>g.2.1)++b.2.2.2.2.1.map (fun c=>c.2.1)++(b.2.2.2.2.2.take i).map (fun n=>n.2)) _ (by simp) (fun i a hi ha e=>?_) (fun e=>?_)
   ·try dsimp only
    unfold qj;rw[Ì hi,Ä ha,Ò (by simp only[List.length_append,List.length_map,List.length_take,List.length_singleton]; omega),Am.iff_true,Ê hi (by omega),WJ (fun n:Int×Int=>n.2) b.2.2.2.2.2 _ i ha]
   ·try dsimp only
    unfold qj;rw[Ó,List.take_length];dsimp only;rw[show b.2.1.map (fun g=>g.2.1)++b.2.2.2.2.1.map (fun c=>c.2.1)++b.2.2.2.2.2.map (fun n=>n.2)=BI b from rfl];refine ï b.2.1 (fun i=>(b.2.1.take i).flatMap fun g=>(Ü b g).map fun d=>((g.1,d):Int×Int)) _ rfl (fun i g hi f e=>?_) (fun e=>?_)
    ·try dsimp only
     unfold qi;rw[Ì hi]
     have j:((b.2.1.take i).flatMap fun g=>(Ü b g).map fun d=>((g.1,d):Int×Int)).length<=2001000:=by
      have:=yl (fun g:è=>(Ü b g).map fun d=>((g.1,d):Int×Int)) 2001 (fun g=>by rw[dL]; exact I3 h.size g) (b.2.1.take i);rw[du] at this;have:min i b.2.1.length*2001<=1000*2001:=dI _ (by omega);omega
     refine ej (al2 h.size f (by omega) (fun d hd=>(h.days d hd).2) (by omega) _) ?_;rw[Ê hi (by omega),akt h (dk f),take_succ f,eW];simp
    ·try dsimp only
     unfold qi;rw[Ó,List.take_length];rfl
def ajE {k:Int×Int} (d:0<k.2) (m n:Int):0<ane (Gx k m) (Gx k n)↔k.1*n<k.1*m:=by
 obtain⟨g,q,_,p,o⟩:=BQ (n:=k.1*m) d;obtain⟨h,h0,_,l,h2⟩:=BQ (n:=k.1*n) d
 have key:(Gx k n).1*(Gx k m).2<(Gx k m).1*(Gx k n).2↔k.1*n<k.1*m:=by
  have i:(Gx k n).1*(Gx k m).2*((g:Int)*h)=k.1*n*k.2:=by
   show(pw (k.1*n) k.2).1*(pw (k.1*m) k.2).2*((g:Int)*h)=k.1*n*k.2
   calc _=((pw (k.1*n) k.2).1*h)*((pw (k.1*m) k.2).2*g):=by ac_rfl
    _=_:=by rw[<-l,<-o]
  have f:(Gx k m).1*(Gx k n).2*((g:Int)*h)=k.1*m*k.2:=by
   show(pw (k.1*m) k.2).1*(pw (k.1*n) k.2).2*((g:Int)*h)=k.1*m*k.2
   calc _=((pw (k.1*m) k.2).1*g)*((pw (k.1*n) k.2).2*h):=by ac_rfl
    _=_:=by rw[<-p,<-h2]
  have j:0<(g:Int)*h:=Int.mul_pos (by omega) (by omega);constructor
  ·intro a;have:=Int.mul_lt_mul_of_pos_right a j;rw[i,f] at this;exact Int.lt_of_mul_lt_mul_right this (by omega)
  ·intro a;have:=Int.mul_lt_mul_of_pos_right a d;rw[<-i,<-f] at this;exact Int.lt_of_mul_lt_mul_right this (by omega)
 rw[<-key];unfold ane
 by_cases e:Gx k m=Gx k n
 ·rw[if_pos e,e];omega
 ·rw[if_neg e]
  split
  ·omega
  ·split<;>omega
def af3 {k:Int×Int} (d:0<k.2) {heat:Int×Int} (e:heat.1<=heat.2):Wv k heat=if k.1<0 then(Gx k heat.2,Gx k heat.1) else(Gx k heat.1,Gx k heat.2):=by
 unfold Wv
 by_cases a:k.1<0
 ·rw[if_pos a]
  by_cases f:heat.1=heat.2
  ·rw[f]
   split<;>rfl
  ·rw[if_pos ((ajE d _ _).2 (Int.mul_lt_mul_of_neg_left (by omega) a))]
 ·rw[if_neg a,if_neg (fun h=>by
   have g:=(ajE d _ _).1 h;have h2:=Int.mul_le_mul_of_nonneg_left e (show 0<=k.1 by omega)
   omega)]
def VV {n d:Int} (hd:0<d) (k:n.natAbs<=2147483647) (f:d<=2147483647):se n d=some (pw n d,0):=by
 obtain⟨g,h0,o,p,h2⟩:=BQ (n:=n) hd;have s:=(lC _).1 (Wa hd k f)
 have z:oy d 0=false:=by simp[oy]; omega
 have h:oy (g:Int) 0=false:=by simp[oy]; omega
 unfold se Fx
 by_cases a:n=0
 ·subst a
  have e:pw 0 d=(0,1):=by
   unfold pw
   have:(Nat.gcd (0:Int).natAbs d.natAbs:Int)=d:=by simp; omega
   rw[this,Int.ediv_self (by omega)];simp
  rw[Í (by rfl),Í z,Ï (by simp) (by simp),Í z,Int.tdiv_self (by omega),Ï (by omega) (by omega),Int.zero_tdiv,e];rfl
 ·rw[Ñ (by simpa[ine] using a),Í z];have a0:(Int.tmod n d).natAbs=n.natAbs % d.natAbs:=iv n d;have l:=ig n.natAbs (show 0<d.natAbs by omega);rw[akK ⟨by omega,by omega⟩,À]
  have r:d=((d.natAbs:Nat):Int):=by omega
  have q:Cs ((Int.tmod n d).natAbs:Int) d=some (g:Int):=by
   have:=akH (Int.tmod n d).natAbs d.natAbs;rw[<-r] at this;rw[this,a0,o];congr 2;rw[iw n.natAbs,Nat.gcd_rec d.natAbs n.natAbs]
  rw[q,À,Í h]
  have j:Int.tdiv n (g:Int)=(pw n d).1:=by
   conv=>lhs; rw[p]
   exact gP _ (by omega)
  have i:Int.tdiv d (g:Int)=(pw n d).2:=by
   conv=>lhs; rw[h2]
   exact gP _ (by omega)
  rw[j,i,Ï (by omega) (by omega),Í h,Ï (by omega) (by omega),Í (by simp[igt]; omega),Í (by simp[ilt]; omega),Í (by simp[igt]; omega)]
def aoy {x y:Int×Int} (d:sI x 1000 100) (a:sI y 1000 100):NA x y=some (subP x y,0):=by
 obtain⟨j,g,b3⟩:=Jp d a;have i:=oh d.num (show -100<=y.2/\y.2<=100 from⟨by have:=a.pos; omega,a.den⟩);have h2:=oh a.num (show -100<=x.2/\x.2<=100 from⟨by have:=d.pos; omega,d.den⟩);have h:=a.num;unfold NA Xz YC XA YD XF;rw[Ï (by omega) (by omega),À];dsimp only
 have e:(0-y.1)*x.2 = -(y.1*x.2):=by rw[Int.zero_sub,Int.neg_mul]
 rw[Ï (by omega) (by omega),e,Ï (by omega) (by omega),Ï (by omega) (by omega),Ï (by omega) (by omega)]
 have f:x.1*y.2 + -(y.1*x.2)=x.1*y.2-y.1*x.2:=by omega
 rw[f,VV g (by omega) (by omega),À,À];rfl
def akG {k:Int×Int} (a:sI k 200000 10000) {n:Int} (d : -10000<=n/\n<=10000):yv (n,1) k=some (Gx k n,0):=by
 have b:=JF a d;have p:=a.pos;have q:=a.den;unfold yv XB;have e:n*k.1=k.1*n:=Int.mul_comm _ _;dsimp only;rw[e,Int.one_mul,Ï (by omega) (by omega),Ï (by omega) (by omega),VV (by omega) (by omega) (by omega),À];rfl
def akF {k:Int×Int} (d:sI k 200000 10000) {heat:Int×Int} (e:j8 heat (-10000) 10000=true):Cr ((heat.1,1),(heat.2,1)) k=some (Wv k heat,0):=by
 simp only[j8,Bool.and_eq_true,decide_eq_true_eq] at e;have f:=d.pos;rw[af3 (by omega) e.2.1];unfold Cr Kh IU Qe;dsimp only;rw[akG d ⟨by omega,by omega⟩,akG d ⟨by omega,by omega⟩]
 by_cases a:k.1<0
 ·rw[Ñ (by simpa[ilt] using a),if_pos a];rfl
 ·rw[Í (by simpa[ilt] using a),if_neg a];rfl
def akB {r:Int×Int} (h:Lj r=true):Ct r=some (r.1 / r.2):=by
 have:=(lC r).1 h;have e:=Yy (n:=r.1) (d:=r.2) (by omega) (by omega);unfold wF HO at e;unfold Ct Kj Ru Qc;rw[e];rfl
def amH {r:Int×Int} (h:Lj r=true):IV r=some (Ud r):=by
 have d:=(lC r).1 h;unfold IV Qg ado acY
 have z:oy r.2 0=false:=by simp[oy]; omega
 have t:=Int.mul_tdiv_add_tmod r.1 r.2
 have i : -4000000000<=Int.tdiv r.1 r.2/\Int.tdiv r.1 r.2<=4000000000:=by
  have:=Int.natAbs_tdiv_le_natAbs r.1 r.2;omega
 have g : -r.2<Int.tmod r.1 r.2/\Int.tmod r.1 r.2<r.2:=by
  have f:=iv r.1 r.2;have e:=ig r.1.natAbs (show 0<r.2.natAbs by omega);omega
 rw[Í z,Ï (by omega) (by omega),Í z,ô];unfold Ud
 by_cases a:0<Int.tmod r.1 r.2
 ·rw[if_pos (by simpa[igt] using a),Ï (by omega) (by omega),À];congr 1
  have : -r.1 / r.2 = -(Int.tdiv r.1 r.2)-1:=by
   refine(gE (by omega)).2 ⟨?_,?_⟩
   ·rw[Int.sub_mul,Int.neg_mul,gb (Int.tdiv r.1 r.2)]; omega
   ·rw[Int.sub_mul,Int.neg_mul,gb (Int.tdiv r.1 r.2)]; omega
  omega
 ·rw[if_neg (by simpa[igt] using a),À];congr 1
  have : -r.1 / r.2 = -(Int.tdiv r.1 r.2):=by
   refine(gE (by omega)).2 ⟨?_,?_⟩
   ·rw[Int.neg_mul,gb (Int.tdiv r.1 r.2)]; omega
   ·rw[Int.neg_mul,gb (Int.tdiv r.1 r.2)]; omega
  omega
def aoI (b:ø) (g d:Int):Bool×Int:=if RZ b g [d]≠0 then(false,RZ b g [d]) else((Ŕ b g d).isSome,0)
def aoH {b:ø} (h:In b) (g d:Int):Cx b g d=some (aoI b g d):=by
 have a:=h.size.loans;unfold Cx Yf aoI;rw[aks h g (by simp),À]
 by_cases ha:RZ b g [d]=0
 ·rw[Í (by simp[ine,ha]),akp (by omega),À,if_neg (by simpa using ha)]
  cases Ŕ b g d<;>rfl
 ·rw[Ñ (by simp[ine,ha]),if_pos ha]
section
variable {ρ:Type}
def B7 {α σ:Type} (l:BY α) (g:Nat->σ) (r:BE ρ) {f:σ×Int->(σ×Int->BE ρ)->BE ρ} {k:σ} (P:Nat->Prop) (h0:g 0=k) (t:P 0)
 (h:∀(i:Nat) (a:α),i<l.length->l[i]?=some a->P i->∀d,f (g i,i) d=r\/(P (i+1)/\f (g i,i) d=d (g (i+1),(i:Int)+1)))
 (p:P l.length->∀d,f (g l.length,l.length) d=r):Ë f (k,0)=r:=by
 subst h0;refine wo (F:=fun _=>r) (fun x=>∃i:Nat,i<=l.length/\x=(g i,(i:Int))/\P i) (fun x=>l.length-x.2.toNat) (fun x o d q=>?_) ⟨0,d9 _,rfl,t⟩;obtain⟨i,hi,rfl,n⟩:=o;rcases dv i l.length with e|s
 ·rcases h i _ e (df e) n d with j|⟨j,h2⟩
  ·exact j
  ·rw[h2,q _ ⟨i+1,e,by simp,j⟩ (by simp; omega)]
 ·have:i=l.length:=by omega
  subst this;exact p n d
def Yg {l:BY Int} {f:Int->(Int->BE ρ)->BE ρ} {K k1:BE ρ} (h:∀(i:Nat) (a b:Int),l[i]?=some a->l[i+1]?=some b->∀d,f ((i:Int)+1) d=if b<=a then K else d ((i:Int)+1+1))
 (t:∀n:Nat,l.length<=n->∀d,f n d=k1):Ë f 1=if l.Pairwise (·<·) then k1 else K:=by
 have hb:=Jd (fun x:Int=>x) l;refine ð (fun x=>∃i:Nat,x=(i:Int)+1/\∀j a,j<=i->l[j]?=some a->lZ (fun x=>x) l j a=false) (fun x=>l.length-x.toNat) ?_ ⟨0,rfl,fun j a k _=>?_⟩
 ·rintro x ⟨i,rfl,hi⟩;rcases dv (i+1) l.length with p|q
  ·have ha:l[i]?=some l[i]:=df (by omega);have o:l[i+1]?=some l[i+1]:=df p
   by_cases e:l[i+1]<=l[i]
   ·refine .inl fun d=>?_;rw[h i _ _ ha o,if_pos e,if_neg];intro s;have:=hb.2 s (i+1) _ o;simp[lZ,ha,e] at this
   ·refine .inr ⟨(i:Int)+1+1,⟨i+1,by simp,fun j a k g=>?_⟩,by omega,fun d=>by rw[h i _ _ ha o,if_neg e]⟩;rcases dv i j with r|r
    ·have:j=i+1:=by omega
     subst this;rw[o] at g; cases g;simp[lZ,ha]; omega
    ·exact hi j a r g
  ·refine .inl fun d=>?_;have:=t (i+1) q d;simp only[Int.natCast_add,Int.cast_ofNat_Int] at this;rw[this,if_pos];refine hb.1 fun j a k=>hi j a ?_ k;have:=(dj.1 k).1;omega
 ·have:j=0:=by omega
  subst this; simp[lZ]
end
def mixE (b:ø) (l:BY Mx) (i:Nat) (x:Mx):Int :=
 if !(inP x.1 0 19999&&inP x.2.length 2 5) then 1 else
 if ¬x.2.Pairwise (·<·) then 1 else
 if x.2.any (fun g=>(î b g).isNone) then 5 else
 if x.2.any (fun g=>Ņ b g x.1 != 0) then 4 else
 if lZ (fun y=>y.1) l i x then 6 else
 if x.2.any (fun g=>(Ŕ b g x.1).isSome||(Ŕ b g (x.1+1)).isSome) then 9 else 0
def Jk:Nat->Nat
 |0=>1
 |n+1=>Jk n*(n+1)
def m9:BY Mx->Nat
 |[]=>1
 |x::r=>Jk x.2.length*m9 r
def BS:∀{l:BY Mx} {i:Nat} {x:Mx},l[i]?=some x->m9 (l.take (i+1))=m9 (l.take i)*Jk x.2.length
 |[],_,_,h=>by simp at h
 |y::l,0,x,h=>by simp at h; subst h; simp[m9]
 |y::l,i+1,x,h=>by
  simp only[fB] at h;simp only[gz,m9,BS h,Nat.mul_assoc]
def Rs:∀{n:Nat},n<=5->Jk n<=120
 |0,_|1,_|2,_|3,_|4,_|5,_=>by decide
 |n+6,h=>by omega
def Wf:∀{l:BY Mx} {n:Nat},l.length<=n->(∀x∈l,x.2.length<=5)->m9 l<=120 ^ n
 |[],n,_,_=>Nat.one_le_pow _ _ (by decide)
 |x::l,0,h,_=>by simp at h
 |x::l,n+1,h,a=>by
  have e:=Wf (l:=l) (n:=n) (by simpa using h) fun y d=>a y (dW _ d);have h2:=Rs (a x (by simp));rw[m9,Nat.pow_succ,Nat.mul_comm];exact fN e h2
def OB (b:ø) (l:BY Mx):BE Int:=Ĝ (fun i x=>KT (mixE b l i x)) 0 l
def ĭ (m:Ŋ):Int :=
 if ş m.1≠0 then ş m.1 else if 4<m.2.length then 2 else match OB m.1 m.2 with
 |some e=>e
 |none=>if 150<m9 m.2 then 2 else 0
def OI (l:BY è):BY (Int×Int):=l.foldl (fun m g=>UW (k:=tI) (v:=tI) g.1 g.2.1 m) []
def UX (x y n:Int):∀m:BY (Int×Int),sS (k:=tI) (v:=tI) x (UW (k:=tI) (v:=tI) y n m)=if x=y then some n else sS (k:=tI) (v:=tI) x m
 |[]=>by
  unfold UW sS ks sS
  by_cases h:x=y<;>simp[h]
 |e::m=>by
  unfold UW
  by_cases h:y=e.1
  ·have:ks tI y e.1=true:=by simp[ks,h]
   rw[this];simp only;unfold sS
   by_cases a:x=y
   ·subst a; simp[ks]
   ·have:ks tI x y=false:=by simp[ks,a]
    have h2:ks tI x e.1=false:=by simp[ks,<-h,a]
    rw[this,if_neg a];simp only[h2]
  ·have:ks tI y e.1=false:=by simp[ks,h]
   rw[this];simp only;unfold sS
   by_cases a:x=e.1
   ·subst a;rw[if_neg (fun e=>h e.symm)];simp[ks]
   ·have h2:ks tI x e.1=false:=by simp[ks,a]
    rw[h2];exact UX x y n m
def agc (x:Int) (l:BY è):sS (k:=tI) (v:=tI) x (OI l)=(l.reverse.find? fun g=>g.1==x).map fun g=>g.2.1:=by
 have key:∀r:BY è,sS (k:=tI) (v:=tI) x (OI r.reverse)=(r.find? fun g=>g.1==x).map fun g=>g.2.1:=by
  intro r
  induction r with
  |nil=>rfl
  |cons g r a =>
   rw[List.reverse_cons,OI,List.foldl_append];simp only[gD,List.foldl_nil];rw[UX,gh]
   by_cases h:x=g.1
   ·subst h; simp
   ·have:(g.1==x)=false:=by simp; exact fun e=>h e.symm
    rw[if_neg h,this];exact a
 have:=key l.reverse
 rwa [List.reverse_reverse] at this
def aiz {b:ø} (h:b.2.1.Pairwise fun a b=>a.1<b.1) (x:Int):sS (k:=tI) (v:=tI) x (OI b.2.1)=(î b x).map fun g=>g.2.1:=by
 rw[agc,LZ h]; rfl
def abj {ρ:Type} {b:ø} (h:b.2.1.Pairwise fun a b=>a.1<b.1) (x:Int) (f:Int->BE ρ) (g:BE ρ):Sk (k:=tI) (v:=tI) x (OI b.2.1) f g=match î b x with|some y=>f y.2.1|none=>g:=by
 unfold Sk;rw[aiz h]
 cases î b x<;>rfl
section
variable {ρ:Type} {b:ø}
def mix_L0 {l:BY Int} (j:l.length<=1000) (k0:Int->BE ρ) (k1:Unit->BE ρ):Ë (fun(v:Int) g=>oH l v (fun u=>g u) k0 k1) 1=if l.Pairwise (·<·) then k1 () else k0 1:=by
 refine Yg (fun i a c ha d f=>?_) (fun n h f=>?_)
 ·have hi:=(List.getElem?_eq_some_iff.1 d).1;unfold oH
  have e:((i:Int)+1)=((i+1:Nat):Int):=by omega
  rw[e,Ì hi,Ä d,Ï (by omega) (by omega),<-e,Int.add_sub_cancel,Ä ha,ô,Ï (by omega) (by omega)];simp
 ·unfold oH;rw[Í (by simp[ilt,Î]; omega)]
def mix_L1 (f:b.2.1.length<=1000) (k0:BY (Int×Int)->BE ρ):Ë (fun(v:Int×BY (Int×Int)) e=>oG b.2.1 (Õ b.2.1) v.1 v.2 (fun u v=>e (u,v)) k0) ((0:Int),[])=k0 (OI b.2.1):=by
 refine ï b.2.1 (fun i=>OI (b.2.1.take i)) _ rfl (fun i g hi a d=>?_) (fun d=>?_)
 ·try dsimp only
  unfold oG;rw[Ì hi,Ä a,Ê hi (by omega)];congr 2;rw[take_succ a,OI,OI,List.foldl_append];rfl
 ·try dsimp only
  unfold oG;rw[Ó,List.take_length]
def mix_L2 (hi:b.2.1.Pairwise fun a b=>a.1<b.1) {l:BY Int} (h:l.length<=1000) (X Y Z:BE ρ):Ë (fun(v:Int) f=>oF l (Õ l) (OI b.2.1) v (fun u=>f u) (fun z=>ifb (ige z (0:Int)) X Y) (fun _=>Z)) 0=if l.any (fun g=>(î b g).isNone) then X else Z:=by
 refine ē l _ (fun z=>ifb (ige z (0:Int)) X Y) X Z (fun j=>Ñ (by simp[ige]) _ _) (fun i a d ha e=>?_) (fun e=>?_)
 ·unfold oF;rw[Ì d,Ä ha,abj hi,Ê d (by omega)]
  cases î b a<;>rfl
 ·unfold oF;rw[Ó]
def mix_L3 (hi:b.2.1.Pairwise fun a b=>a.1<b.1) {l:BY Int} (p:l.length<=1000) (n:∀x∈l,∃g,î b x=some g) (d:Int) (X Y Z:BE ρ):Ë (fun(v:Int) k=>mc l (Õ l) d (OI b.2.1) v (fun u=>k u) (fun z=>ifb (ige z (0:Int)) X Y) (fun _=>Z)) 0=if l.any (fun g=>Ņ b g d != 0) then X else Z:=by
 refine ē l _ (fun z=>ifb (ige z (0:Int)) X Y) X Z (fun j=>Ñ (by simp[ige]) _ _) (fun i a e ha f=>?_) (fun f=>?_)
 ·unfold mc;rw[Ì e,Ä ha,abj hi,Ê e (by omega)];obtain⟨g,o⟩:=n a (List.mem_of_getElem? ha);unfold Ņ;rw[o];dsimp only;rw[ô]
  by_cases h:d<g.2.1<;>simp[ilt,h]
 ·unfold mc;rw[Ó]
def mix_L4 (h:ţ b) {l:BY Int} (s:l.length<=1000) (q:∀x∈l,∃g,î b x=some g) {d:Int} (hd:0<=d/\d<20000) (X Y Z:BE ρ):Ë (fun(v:Int) p=>ņ l (Õ l) b.1.1 b.1.2 b.2.1 b.2.2.1 b.2.2.2.1 b.2.2.2.2.1 b.2.2.2.2.2 d v (fun u=>p u) (fun z=>ifb (ige z (0:Int)) X Y) (fun _=>Z)) 0=if l.any (fun g=>(Ŕ b g d).isSome||(Ŕ b g (d+1)).isSome) then X else Z:=by
 refine ē l _ (fun z=>ifb (ige z (0:Int)) X Y) X Z (fun j=>Ñ (by simp[ige]) _ _) (fun i a f ha o=>?_) (fun o=>?_)
 ·unfold ņ;obtain⟨g,k⟩:=q a (List.mem_of_getElem? ha)
  have n:∀e,0<=e->e<=20000->Cx ((b.1.1,b.1.2),b.2.1,b.2.2.1,b.2.2.2.1,b.2.2.2.2.1,b.2.2.2.2.2) a e=some ((Ŕ b a e).isSome,0):=fun e h0 r=>by
   rw[show(((b.1.1,b.1.2),b.2.1,b.2.2.1,b.2.2.2.1,b.2.2.2.2.1,b.2.2.2.2.2):ø)=b from rfl,aoH ⟨h.size,fun g k=>by have:=(h.gaugeR k).2.1; unfold I64; omega⟩]
   have:RZ b a [e]=0:=by
    unfold RZ;rw[if_neg (by simp[(Λ b).2 h]),if_neg (by simp[C6,inP,h0,r]),vx h.ids,k]; rfl
   unfold aoI;rw[if_neg (by simp[this])]
  rw[Ì f,Ä ha,n d hd.1 (by omega),À,Ï (by omega) (by omega),n (d+1) (by omega) (by omega),À,Ê f (by omega)];dsimp only
  cases(Ŕ b a d).isSome<;>cases(Ŕ b a (d+1)).isSome<;>rfl
 ·unfold ņ;rw[Ó]
end
def alI {b:ø} (h:ţ b) {l:BY Mx} {i:Nat} {x:Mx} (o:l[i]?=some x) (q:i<=1000):IH b l i=some (mixE b l i x):=by
 unfold IH O6 mixE;rw[Ä o]
 by_cases d:inP x.1 0 19999=true/\inP (x.2.length:Int) 2 5=true
 ·obtain⟨d,h2⟩:=d;rw[if_neg (by simp[d,h2])];simp only[inP,dg,decide_eq_true_eq] at d h2
  have k:x.2.length<=1000:=by omega
  rw[Í (by simp[ilt]; omega),Í (by simp[ige]; omega),Í (by simp[ilt,Î]; omega),Í (by simp[igt,Î]; omega),mix_L0 k]
  by_cases f:x.2.Pairwise (·<·)
  ·rw[if_pos f,if_neg (by simpa using f)]
   try dsimp only
   rw[mix_L1 (by have:=h.nG; omega),mix_L2 h.ids k]
   by_cases a:(x.2.any fun g=>(î b g).isNone)=true
   ·rw[if_pos a,if_pos a]
   ·have p:∀y∈x.2,∃g,î b y=some g:=fun y j=>by
     simp only[dD,not_exists,not_and,Option.isNone_iff_eq_none] at a;exact Option.ne_none_iff_exists'.1 (a y j)
    rw[if_neg a,if_neg a,mix_L3 h.ids k p]
    by_cases n:(x.2.any fun g=>Ņ b g x.1 != 0)=true
    ·rw[if_pos n,if_pos n]
    ·rw[if_neg n,if_neg n,mix_L4 h k p (by omega)]
     cases i with
     |zero =>
      rw[Í (by simp[igt]),if_neg (show ¬lZ (fun y:Mx=>y.1) l 0 x=true by simp[lZ])]
      split<;>rfl
     |succ i =>
      obtain⟨hi,_⟩:=dj.1 o;have j:l[i]?=some l[i]:=df (by omega)
      have e:((i+1:Nat):Int)-1=i:=by omega
      rw[Ñ (by simp[igt]),Ï (by omega) (by omega),e,Ä j,ô];unfold lZ;simp only[Nat.add_sub_cancel,j,Option.any_some,Nat.succ_pos,decide_true,Bool.true_and,ile,decide_eq_true_eq]
      split
      ·rfl
      ·split<;>rfl
  ·rw[if_neg f,if_pos f]
 ·rw[if_pos (by simp only[eO]; cases h2:inP x.1 0 19999<;>cases f:inP (x.2.length:Int) 2 5<;>simp_all)]
  simp only[inP,dg,decide_eq_true_eq,not_and,Int.not_le] at d;simp only[ô,ilt,ige,igt,Î,decide_eq_true_eq]
  split
  ·rfl
  split
  ·rfl
  split
  ·rfl
  rw[if_pos (by have:=d (by omega); omega)]
def WH {b:ø} {l:BY Mx} {i:Nat} {x:Mx} (h:mixE b l i x=0):x.2.length<=5:=by
 unfold mixE at h
 split at h
 ·cases h
 ·rename_i a;simp[inP] at a;omega
def alV {n v:Nat} (j:n<=5) (g:v<=1000000000) {ρ:Type} (k0:Int->BE ρ):Ë (fun(u:Int×Int) f=>oI (aix n) u.1 u.2 (fun a b=>f (a,b)) k0) ((v:Int),(0:Int))=k0 ((v*Jk n:Nat):Int):=by
 refine B7 (List.range n) (fun i=>((v*Jk i:Nat):Int)) _ (fun _=>True) (by simp[Jk]) trivial (fun i a hi ha _ d=>.inr ⟨trivial,?_⟩) (fun _ d=>?_)
 ·rw[fm] at hi
  try dsimp only
  unfold oI;have h:=Rs (n:=i) (by omega);have hb:v*Jk i<=1000000000*120:=Nat.mul_le_mul g h;have h2:v*Jk i*(i+1)<=1000000000*120*6:=Nat.mul_le_mul hb (by omega)
  have e:((v*Jk i:Nat):Int)*((i:Int)+1)=((v*Jk i*(i+1):Nat):Int):=by simp
  rw[am6 hi,Ï (by omega) (by omega),e,Ï (by omega) (by omega),Ï (by omega) (by omega),Jk,Nat.mul_assoc]
 ·rw[fm]
  try dsimp only
  unfold oI;rw[Ó]
def Gy {b:ø} {l:BY Mx} {i:Nat} {x:Mx} (g:l[i]?=some x) (n:∀j y,j<i->l[j]?=some y->mixE b l j y=0) (p:mixE b l i x≠0):OB b l=some (mixE b l i x):=by
 have key:∀(m:BY Mx) (k:Nat),l.drop k=m->k<=i->Ĝ (fun i x=>KT (mixE b l i x)) k m=some (mixE b l i x):=by
  intro m
  induction m with
  |nil =>
   intro k d f;have:=List.drop_eq_nil_iff.1 d;have:=(dj.1 g).1;omega
  |cons y m h =>
   intro k d f
   have e:l[k]?=some y:=by
    have:(l.drop k)[0]?=some y:=by rw[d]; rfl
    simpa using this
   rw[Ĝ];rcases dv k i with a|o
   ·rw[n k y a e];simp only[KT,if_true];refine h (k+1) ?_ a;rw[<-List.tail_drop,d]; rfl
   ·have:k=i:=by omega
    subst this;rw[g] at e; cases e;simp[KT,p]
 exact key l 0 rfl (d9 _)
def EK {b:ø} {l:BY Mx} (d:∀j y,l[j]?=some y->mixE b l j y=0):OB b l=none:=by
 rw[OB,ź];intro j y a;rw[dQ,d j y a]; rfl
def oA {m:Ŋ} (k:In m.1) (u:m.2.length<=1000):iM m=some (ĭ m):=by
 unfold iM Pk ĭ;rw[CI k.size k.num,À]
 by_cases g:ş m.1=0
 ·have r:=(Λ _).1 g;rw[Í (by simp[ine,g]),if_neg (by simp[g])]
  by_cases p:4<m.2.length
  ·rw[Ñ (by simp[igt,Î]; omega),if_pos p]
  ·rw[Í (by simp[igt,Î]; omega),if_neg p];refine B7 m.2 (fun i=>((m9 (m.2.take i):Nat):Int)) _ (fun i=>∀j y,j<i->m.2[j]?=some y->mixE m.1 m.2 j y=0) (by simp[m9]) (fun j y h _=>by omega) (fun i x hi d e q=>?_) (fun e q=>?_)
   ·try dsimp only
    unfold tC;rw[Ì hi,Ä d,show(((m.1.1.1,m.1.1.2),m.1.2.1,m.1.2.2.1,m.1.2.2.2.1,m.1.2.2.2.2.1,m.1.2.2.2.2.2):ø)=m.1 from rfl,alI r d (by omega),À]
    by_cases f:mixE m.1 m.2 i x=0
    ·rw[Í (by simp[ine,f])]
     have t:∀y∈m.2.take i,y.2.length<=5:=fun y a=>by
      obtain⟨j,o,rfl⟩:=dw.1 a;rw[du] at o;rw[fk];exact WH (e j _ (by omega) (df (by omega)))
     have hb:=Wf (l:=m.2.take i) (n:=4) (by rw[du]; omega) t
     have s:(120:Nat) ^ 4=207360000:=by decide
     refine .inr ⟨fun j y o a=>?_,?_⟩
     ·rcases dv j i with h|h
      ·exact e j y h a
      ·have:j=i:=by omega
       subst this;rw[d] at a; cases a;exact f
     ·rw[alV (WH f) (by omega),Ê hi (by omega),BS d]
    ·refine .inl ?_;rw[Ñ (by simp[ine,f]),Gy d e f]
   ·try dsimp only
    unfold tC;rw[Ó,EK fun j y a=>e j y (List.getElem?_eq_some_iff.1 a).1 a,List.take_length];dsimp only;rw[ô];simp only[igt,decide_eq_true_eq]
    by_cases h:150<m9 m.2
    ·rw[if_pos (by omega),if_pos h]
    ·rw[if_neg (by omega),if_neg h]
 ·rw[Ñ (by simp[ine,g]),if_pos g]
def ZE {α:Type} [DecidableEq α] {l m:BY α} (f:l.length=m.length) (h:Ĝ (fun i a=>if m[i]?=some a then none else some false) 0 l=none):l=m:=by
 have:=ź.1 h;refine ip f fun i g h2=>?_;have d:=this i l[i] (df g);rw[dQ] at d
 split at d
 ·rename_i e;rw[df h2] at e;exact(Option.some.inj e).symm
 ·cases d
def ZD {α:Type} [DecidableEq α] {l m:BY α} {b:Bool} (h:Ĝ (fun i a=>if m[i]?=some a then none else some false) 0 l=some b):b=false/\l≠m:=by
 constructor
 ·have:∀(k:Nat) (x:BY α) (b:Bool),Ĝ (fun i a=>if m[i]?=some a then none else some false) k x=some b->b=false:=by
   intro k x
   induction x generalizing k with
   |nil=>intro b h; cases h
   |cons a t f =>
    intro b h;unfold Ĝ at h
    split at h
    ·rename_i c d
     split at d
     ·cases d
     ·cases d; cases h; rfl
    ·exact f _ _ h
  exact this _ _ _ h
 ·intro e;subst e;rw[ź.2 fun j a ha=>by rw[dQ,if_pos ha]] at h;cases h
def Sg {l m:BY Int} (k:l.length<=1000000):kD l m=some (decide (l=m)):=by
 unfold kD xB;rw[Î,Î]
 by_cases d:l.length=m.length
 ·rw[Í (by simp[ine,d])];refine ej (jv l (fun i a=>if m[i]?=some a then none else some false) some (some true) (fun i a hi ha g=>?_) (fun g=>?_)) ?_
  ·try dsimp only
   unfold lM;have f:m[i]?=some m[i]:=List.getElem?_eq_getElem (by omega);rw[Ì hi,Ä ha,Ä f,Ê hi (by omega),f,ô]
   by_cases h:a=m[i]
   ·simp[ine,h]
   ·have h':¬m[i]=a:=fun e=>h e.symm;simp[ine,h,h']
  ·try dsimp only
   unfold lM;rw[Ó]
  ·cases h:Ĝ (fun i a=>if m[i]?=some a then none else some false) 0 l with
   |none=>simp[ZE d h]
   |some b =>
    obtain⟨j,h2⟩:=ZD h;simp[j,h2]
 ·rw[Ñ (by simp[ine]; omega)];have:l≠m:=fun e=>d (by rw[e]);simp[this]
structure MixOk (b:ø) (x:Mx):Prop where
 day:0<=x.1/\x.1<20000
 len:2<=x.2.length/\x.2.length<=5
 asc:x.2.Pairwise (·<·)
 known:∀l∈x.2,∃g,î b l=some g/\g.2.1<=x.1
 home:∀l∈x.2,Ŕ b l x.1=none/\Ŕ b l (x.1+1)=none
def aar {b:ø} {l:BY Mx} {i:Nat} {x:Mx} (h:mixE b l i x=0):MixOk b x/\lZ (fun y=>y.1) l i x=false:=by
 unfold mixE at h
 split at h
 ·cases h
 rename_i n
 split at h
 ·cases h
 rename_i h2
 split at h
 ·cases h
 rename_i j
 split at h
 ·cases h
 rename_i f
 split at h
 ·cases h
 rename_i k
 split at h
 ·cases h
 rename_i e;simp only[inP,Bool.not_eq_true',Bool.and_eq_false_iff,not_or,Bool.not_eq_false,decide_eq_false_iff_not,Int.not_le,Bool.and_eq_true,decide_eq_true_eq] at n;simp only[List.any_eq_true,not_exists,not_and,Option.isNone_iff_eq_none] at j;simp only[List.any_eq_true,not_exists,not_and,bne_iff_ne,ne_eq,Decidable.not_not] at f;simp only[List.any_eq_true,not_exists,not_and,Bool.or_eq_true,not_or,Option.isSome_iff_ne_none,ne_eq,Decidable.not_not] at e;refine⟨⟨by omega,by omega,Decidable.not_not.1 h2,fun y a=>?_,e⟩,by simpa using k⟩;obtain⟨g,d⟩:=Option.ne_none_iff_exists'.1 (j y a);refine⟨g,d,?_⟩;have:=f y a;unfold Ņ at this;rw[d] at this;dsimp only at this
 split at this
 ·cases this
 ·omega
structure MOk (m:Ŋ):Prop where
 good:ţ m.1
 n4:m.2.length<=4
 mixE:∀i x,m.2[i]?=some x->mixE m.1 m.2 i x=0
 prod:m9 m.2<=150
def œ (m:Ŋ):ĭ m=0↔MOk m:=by
 unfold ĭ;constructor
 ·intro h
  split at h
  ·rename_i f; exact absurd h f
  rename_i f
  split at h
  ·cases h
  rename_i h2
  cases a:OB m.1 m.2 with
  |some e =>
   rw[a] at h;dsimp only at h;rw[OB] at a
   have key:∀(l:BY Mx) (k:Nat) (e:Int),Ĝ (fun i x=>KT (mixE m.1 m.2 i x)) k l=some e->e≠0:=by
    intro l
    induction l with
    |nil=>intro k e h; cases h
    |cons y l g =>
     intro k e h;rw[Ĝ] at h
     by_cases d:mixE m.1 m.2 k y=0
     ·rw[d] at h;exact g (k+1) e h
     ·simp only[KT,if_neg d,Option.some.injEq] at h;rw[<-h]; exact d
   exact absurd h (key _ _ _ a)
  |none =>
   rw[a] at h;dsimp only at h
   split at h
   ·cases h
   rename_i n;refine⟨(Λ _).1 (Decidable.not_not.1 f),by omega,fun i x j=>?_,by omega⟩;have:=(ź.1 a) i x j;rw[Nat.zero_add] at this;unfold KT at this
   split at this
   ·assumption
   ·cases this
 ·intro h;rw[if_neg (by simp[(Λ _).2 h.good]),if_neg (by have:=h.n4; omega),EK h.mixE];dsimp only;rw[if_neg (by have:=h.prod; omega)]
section
variable {m:Ŋ}
def MOk.mix (h:MOk m) {x:Mx} (a:x∈m.2):MixOk m.1 x:=by
 obtain⟨i,hi,rfl⟩:=dw.1 a;exact(aar (h.mixE i _ (df hi))).1
def MOk.days (h:MOk m):m.2.Pairwise fun a b=>a.1<b.1:=(Jd (fun y:Mx=>y.1) m.2).1 fun i x d=>(aar (h.mixE i x d)).2
def MOk.len5 (h:MOk m):∀x∈m.2,x.2.length<=5:=fun x a=>(h.mix a).len.2
def MOk.in_ (h:MOk m):In m.1:=⟨h.good.size,fun g a=>by have:=(h.good.gaugeR a).2.1; unfold I64; omega⟩
end
def aeq {l:BY Int} {i:Nat} (hi:i<l.length):(l[i]::(l.take i++l.drop (i+1))).Perm l:=by
 have h:l=l.take i++l[i]::l.drop (i+1):=by rw[<-dY hi,eI]
 exact List.Perm.trans (List.perm_middle.symm) (by rw[<-h])
def Ni:∀{n:Nat} {l x:BY Int},l.length=n->(x∈vu n l↔x.Perm l)
 |0,l,x,h=>by
  have:l=[]:=dJ.1 h;subst this;simp[vu]
 |n+1,l,x,h=>by
  rw[vu,if_neg (by omega)];simp only[dG,fj,dH];constructor
  ·rintro⟨i,hi,y,d,rfl⟩;have d:=(Ni (n:=n) (by simp; omega)).1 d;rw[eG,df hi];exact(d.cons _).trans (aeq hi)
  ·intro e
   cases x with
   |nil=>have:=e.length_eq; simp at this; omega
   |cons a x =>
    have ha:a∈l:=e.subset (by simp);obtain⟨i,hi,rfl⟩:=dw.1 ha;refine⟨i,hi,x,(Ni (n:=n) (by simp; omega)).2 ?_,by rw[eG,df hi]; rfl⟩;exact List.Perm.cons_inv (e.trans (aeq hi).symm)
def Yz {α β:Type} (f:α->BY β) (n:Nat):∀l:BY α,(∀a∈l,(f a).length=n)->(l.flatMap f).length=l.length*n
 |[],_=>by simp
 |a::l,h=>by
  rw[dF,di,h a (by simp),Yz f n l fun b hb=>h b (dW _ hb),dr,Nat.succ_mul]; omega
def Gu:∀{n:Nat} {l:BY Int},l.length=n->(vu n l).length=Jk n
 |0,_,_=>rfl
 |n+1,l,h=>by
  rw[vu,if_neg (by omega),Yz _ (Jk n) _ fun i hi=>by rw[dL]; exact Gu (by simp at hi ⊢; omega),fm,Jk,h,Nat.mul_comm]
def wJ:∀{ms:BY Mx} {w:Way},w∈ξ ms↔Į ms w
 |[],[]=>by simp[ξ,Į]
 |[],_::_=>by simp[ξ,Į]
 |m::ms,[]=>by simp[ξ,Į]
 |m::ms,l::ls=>by
  simp only[ξ,dG,dH,Į];constructor
  ·rintro⟨x,d,y,a,e⟩;cases e;exact⟨(Ni rfl).1 d,wJ.1 a⟩
  ·intro⟨f,h2⟩;exact⟨l,(Ni rfl).2 f,ls,wJ.2 h2,rfl⟩
def I4:∀ms:BY Mx,(ξ ms).length=m9 ms
 |[]=>rfl
 |m::ms=>by rw[ξ,Yz _ (m9 ms) _ fun x _=>by rw[dL,I4],Gu rfl,m9]
def Ł (ms:BY Mx):BY Way:=Ķ (uZ ms) (ξ ms)
def agm {α:Type} {k a:α->Int} {x:α} {l:BY α} (f:k x=a x) (h:∀y∈l,k y=a y):Yp k x l=Yp a x l:=by
 induction l with
 |nil=>rfl
 |cons y l d =>
  unfold Yp;rw[f,h y (by simp),d fun z e=>h z (List.mem_cons_of_mem _ e)]
def Q4 {α:Type} {k a:α->Int}:∀{l:BY α},(∀y∈l,k y=a y)->Ķ k l=Ķ a l
 |[],_=>rfl
 |x::l,h=>by
  have e:=Q4 fun y d=>h y (dW x d);show Yp k x (Ķ k l)=Yp a x (Ķ a l);rw[e];exact agm (h x (by simp)) fun y d=>h y (dW _ ((Ŏ (key:=a) l).mem.1 d))
def zh {ms:BY Mx} {w:Way}:w∈Ł ms↔Į ms w:=by
 rw[Ł,(Ŏ (ξ ms)).mem,wJ]
def ahv (ms:BY Mx):(Ł ms).length=m9 ms:=by rw[Ł,(Ŏ (ξ ms)).length,I4]
section
variable {m:Ŋ} {ρ:Type}
def MOk.wgt (h:MOk m) {w:Way} (d:Į m.2 w):ķ m w=some (uZ m.2 w) :=
 ahu d (by have:=h.n4; omega) fun x a=>by have:=h.len5 x a; omega
def Nu {α:Type} {f:BY α->α->(BY α->BE ρ)->BE ρ} (h:∀v y a,v.length<=1000000->f v y a=a (v++[y])):∀{xs:BY α} {v:BY α} {K:BY α->BE ρ},v.length+xs.length<=1000000->Bm f xs v K=K (v++xs)
 |[],v,K,_=>by simp[Bm]
 |x::xs,v,K,d=>by
  simp only[dr] at d;rw[Bm,h v x _ (by omega),Nu h (by simp; omega)]; simp
def ajB (h:MOk m):nW m.2=some (ξ m.2):=by
 unfold nW;rw[ä];simp only[Bool.and_eq_true,decide_eq_true_eq,List.all_eq_true];exact⟨by have:=h.n4; omega,fun x a=>by have:=h.len5 x a; omega⟩
def NH (h:MOk m):(ξ m.2).length<=150:=by rw[I4]; exact h.prod
def Zv (h:MOk m):ĸ (ξ m.2) (Õ (ξ m.2)) m=some (Ł m.2,m):=by
 have h2:∀w∈ξ m.2,ķ m w=some (uZ m.2 w):=fun w a=>h.wgt (wJ.1 a)
 have d:∀w∈ξ m.2,ę m w=uZ m.2 w:=fun w a=>by unfold ę; rw[h2 w a]; rfl
 rw[Î,ahJ (fun w a=>by rw[h2 w a,d w a]) (by have:=NH h; omega),Q4 d]; rfl
def NR (h:MOk m):uw m=some (Ł m.2):=by
 unfold uw WM;have e:=NH h;rw[ajB h,À,Nu (fun v y a d=>by unfold EP; rw[ä (Ò (by simp; omega))]) (by simp; omega),List.nil_append,Zv h];rfl
def aox (d:In m.1) (e:m.2.length<=1000):Nw m=some (if ĭ m≠0 then([],ĭ m) else(Ł m.2,0)):=by
 unfold Nw WT;rw[oA d e,À]
 by_cases a:ĭ m=0
 ·rw[Í (by simp[ine,a]),if_neg (by simp[a]),NR ((œ m).1 a)]; rfl
 ·rw[Ñ (by simp[ine,a]),if_pos a]
end
def aeO {ρ:Type} (n:Nat) (p:Nat->Bool) (g j:BE ρ) {f:Int->(Int->BE ρ)->BE ρ} (h:∀i:Nat,i<n->∀d,f i d=if p i then d ((i:Int)+1) else g) (k:∀d,f n d=j):Ë f 0=if (List.range n).all p then j else g:=by
 have:=ē (List.range n) (fun i=>!p i) (fun _=>g) g j (f:=f) (fun _=>rfl) (fun i a hi ha d=>by
  obtain⟨_,rfl⟩:=dj.1 ha;rw[fm] at hi;rw[h i hi d,List.getElem_range]
  cases p i<;>rfl) (fun d=>by rw[fm]; exact k d)
 rw[this]
 have e:(List.range n).any (fun i=>!p i)=!(List.range n).all p:=by rw[List.all_eq_not_any_not]; simp
 rw[e]
 cases(List.range n).all p<;>rfl
def jG:BY Mx->Way->Bool
 |[],[]=>true
 |m::ms,l::ls=>decide (Υ l=m.2)&&jG ms ls
 |_,_=>false
def Vq:∀{ms:BY Mx} {w:Way},(∀x∈ms,x.2.Pairwise (·<·))->(jG ms w=true↔Į ms w)
 |[],[],_=>by simp[jG,Į]
 |[],_::_,_=>by simp[jG,Į]
 |_::_,[],_=>by simp[jG,Į]
 |m::ms,l::ls,h=>by
  rw[jG,Į,dg,decide_eq_true_eq,Vq fun x d=>h x (dW _ d)];have f:=h m (by simp);refine and_congr ⟨fun e=>by rw[<-e]; exact(ÿ l).symm,fun e=>?_⟩ Iff.rfl;exact gn (fun a b _ _ g h2=>iy g h2) (ŕ l) (f.imp fun h=>Int.le_of_lt h) ((ÿ l).trans e)
def aiY {ms:BY Mx} {w:Way} (a:w.length=ms.length):jG ms w=(List.range ms.length).all fun i=>match ms[i]?,w[i]? with|some m,some l=>decide (Υ l=m.2)|_,_=>false:=by
 induction ms generalizing w with
 |nil =>
  have:w=[]:=dJ.1 a;subst this; rfl
 |cons m ms d =>
  cases w with
  |nil=>simp at a
  |cons l w =>
   rw[jG,d (by simpa using a),dr,List.range_succ_eq_map,fV,List.all_map];rfl
def row_eq {l m:BY Int} (d:l.length=m.length) (o:m.length<=5):(l.getD 0 0=m.getD 0 0/\l.getD 1 0=m.getD 1 0/\l.getD 2 0=m.getD 2 0/\l.getD 3 0=m.getD 3 0/\l.getD 4 0=m.getD 4 0)↔l=m:=by
 constructor
 ·intro⟨h0,n,h2,j,g⟩;refine ip d fun i hi a=>?_
  have e:∀k:Nat,l.getD k 0=m.getD k 0->k=i->l[i]=m[i]:=fun k f e=>by
   subst e;simpa[eG,df hi,df a] using f
  have:i=0\/i=1\/i=2\/i=3\/i=4:=by omega
  rcases this with h|h|h|h|h
  ·exact e 0 h0 h.symm
  ·exact e 1 n h.symm
  ·exact e 2 h2 h.symm
  ·exact e 3 j h.symm
  ·exact e 4 g h.symm
 ·rintro rfl; simp
def alH {m:Ŋ} (h:MOk m) {w:Way} (n:∀l∈w,l.length<=100000):IG m w=some (jG m.2 w):=by
 unfold IG O0;have D:=h.n4
 by_cases p:w.length=m.2.length
 ·rw[Í (by simp[ine,Î]; omega),aiY p];have r:∀i,i<m.2.length->∃x l,m.2[i]?=some x/\w[i]?=some l:=fun i hi=>⟨_,_,df hi,df (by omega)⟩;refine ej (aeO m.2.length (fun i=>match m.2[i]?,w[i]? with|some m,some l=>decide (Υ l=m.2)|_,_=>false) (some false) (some true) (fun i hi k=>?_) (fun k=>?_)) ?_
  ·obtain⟨x,l,j,a⟩:=r i hi
   try dsimp only
   unfold tj;have g:=h.len5 x (List.mem_of_getElem? j);have s:=n l (List.mem_of_getElem? a);rw[Ì (by omega),Ä a,Ä j,j,a];dsimp only
   by_cases d:l.length=x.2.length
   ·rw[Í (by simp[ine,Î]; omega)];unfold B9;rw[ä (Ò (by omega)),À,Nu (fun v y k C=>by unfold zW; rw[ä (Ò (by simp; omega))]) (by simp; omega),List.nil_append,ä (Ò (by omega))];unfold IF;rw[À,À,VZ];have o:=row_eq (l:=Υ l) (m:=x.2) (by rw[(ÿ l).length_eq]; exact d) g
    by_cases f:Υ l=x.2
    ·obtain⟨B,A,z,u,t⟩:=o.2 f;rw[B,A,z,u,t,Í (by simp[oy]),Ï (by omega) (by omega),if_pos (by simpa using f)]
    ·rw[Ñ,if_neg (by simpa using f)]
     cases hb:(!((oy ((Υ l).getD 0 0) (x.2.getD 0 0))&&((oy ((Υ l).getD 1 0) (x.2.getD 1 0))&&((oy ((Υ l).getD 2 0) (x.2.getD 2 0))&&((oy ((Υ l).getD 3 0) (x.2.getD 3 0))&&((oy ((Υ l).getD 4 0) (x.2.getD 4 0))&&true)))))) with
     |true=>rfl
     |false =>
      refine absurd (o.1 ?_) f;simpa[oy] using hb
   ·rw[Ñ (by simp[ine,Î]; omega),if_neg];intro e;simp only[decide_eq_true_eq] at e;have:=(ÿ l).length_eq;rw[e] at this;exact d this.symm
  ·try dsimp only
   unfold tj;rw[Í (by simp[ilt,Î]; omega)]
  ·cases(List.range m.2.length).all (fun i=>match m.2[i]?,w[i]? with|some m,some l=>decide (Υ l=m.2)|_,_=>false)<;>rfl
 ·rw[Ñ (by simp[ine,Î]; omega)];congr 1
  symm
  clear n
  have key:∀{ms:BY Mx} {w:Way},w.length≠ms.length->jG ms w=false:=by
   intro ms
   induction ms with
   |nil=>intro w h; cases w with|nil=>exact absurd rfl h|cons _ _=>rfl
   |cons x ms q =>
    intro w h
    cases w with
    |nil=>rfl
    |cons l w=>rw[jG,q (by simpa using h),Bool.and_false]
  exact key p
def pu (m:Ŋ) (w:Way):Int:=if ĭ m≠0 then ĭ m else if jG m.2 w then 0 else 1
def ab1 {m:Ŋ} (e:In m.1) (f:m.2.length<=1000) {w:Way} (d:∀l∈w,l.length<=100000):Bn m w=some (pu m w):=by
 unfold Bn Pc pu;rw[oA e f,À]
 by_cases a:ĭ m=0
 ·rw[Í (by simp[ine,a]),if_neg (by simp[a]),alH ((œ m).1 a) d,À]
  cases jG m.2 w<;>rfl
 ·rw[Ñ (by simp[ine,a]),if_pos a]
def FW {m:Ŋ} {w:Way}:pu m w=0↔MOk m/\Į m.2 w:=by
 unfold pu
 by_cases a:ĭ m=0
 ·have h:=(œ m).1 a;rw[if_neg (by simp[a])];have:=Vq (w:=w) fun x d=>(h.mix d).asc
  cases hi:jG m.2 w with
  |true=>simp[this.1 hi,h]
  |false =>
   exact⟨fun e=>absurd (show(1:Int)=0 from e) (by decide),fun e=>absurd (this.2 e.2) (by simp[hi])⟩
 ·rw[if_pos a];exact⟨fun e=>absurd e a,fun⟨e,_⟩=>absurd ((œ m).2 e) a⟩
section
variable {ρ:Type}
def ou {α β:Type} (l:BY α) (g:α->β) (K:BY β->BE ρ) {f:Int×BY β->(Int×BY β->BE ρ)->BE ρ}
 (h:∀(i:Nat) (a:α),i<l.length->l[i]?=some a->∀(v:BY β) d,v.length=i->f (i,v) d=d ((i:Int)+1,v++[g a])) (e:∀(v:BY β) d,f (l.length,v) d=K v):Ë f (0,[])=K (l.map g):=by
 refine ï l (fun i=>(l.take i).map g) _ rfl (fun i a hi ha d=>?_) (fun d=>?_)
 ·rw[h i a hi ha _ d (by simp; omega),take_succ ha,fp]; rfl
 ·rw[e,fI]
end
def ny (m:Ŋ) (w:Way) (d:Int) (l:BY Int):BY Int:=Υ (l.map fun x=>iQ m.2 w x d)
def ahh (m:Ŋ) (w:Way) (c:Cmp):Cmp:=(c.1,c.2.1,ny m w c.2.1 c.2.2.1,ny m w c.2.1 c.2.2.2.1,c.2.2.2.2)
def trP (m:Ŋ) (w:Way):ø :=
 (m.1.1,m.1.2.1,m.1.2.2.1.map (fun u=>(iQ m.2 w u.1 u.2,u.2)),m.1.2.2.2.1.map (fun l=>(iQ m.2 w l.1 l.2.1.1,l.2)),m.1.2.2.2.2.1.map (ahh m w),m.1.2.2.2.2.2.map (fun n=>(iQ m.2 w n.1 n.2,n.2)))
section
variable {ρ:Type} {m:Ŋ} {w:Way}
def MOk.who (h:MOk m) (e:Į m.2 w) (x d:Int):uW m w x d=some (iQ m.2 w x d) :=
 who_ok e (by have:=h.n4; omega) (fun y a=>by have:=h.len5 y a; omega) x d
def tr_L0 (h:MOk m) (f:Į m.2 w) (k0:BY (Int×Int)->BE ρ):Ë (fun(v:Int×BY (Int×Int)) e=>lG m w m.1.2.2.1 (Õ m.1.2.2.1) v.1 v.2 (fun a b=>e (a,b)) k0) ((0:Int),[])=k0 (m.1.2.2.1.map fun u=>(iQ m.2 w u.1 u.2,u.2)):=by
 have j:=h.good.nU
 refine ou m.1.2.2.1 (fun u:Int×Int=>((iQ m.2 w u.1 u.2,u.2):Int×Int)) k0 (fun i a hi ha v d g=>?_) (fun v d=>?_)<;>(try dsimp only)<;>unfold lG
 ·rw[Ì hi,Ä ha,h.who f,À,ä (Ò (by simp; omega)),Ê hi (by omega)]
 ·rw[Ó]
def tr_L1 (h:MOk m) (f:Į m.2 w) (k0:BY Jm->BE ρ):Ë (fun(v:Int×BY Jm) e=>lF m w m.1.2.2.2.1 (Õ m.1.2.2.2.1) v.1 v.2 (fun a b=>e (a,b)) k0) ((0:Int),[])=k0 (m.1.2.2.2.1.map fun l=>(iQ m.2 w l.1 l.2.1.1,l.2)):=by
 have j:=h.good.nL
 refine ou m.1.2.2.2.1 (fun l:Jm=>((iQ m.2 w l.1 l.2.1.1,l.2):Jm)) k0 (fun i a hi ha v d g=>?_) (fun v d=>?_)<;>(try dsimp only)<;>unfold lF
 ·rw[Ì hi,Ä ha,h.who f,À,ä (Ò (by simp; omega)),Ê hi (by omega)]
 ·rw[Ó]
def F7 (h:MOk m) (f:Į m.2 w) (d:Int) {l:BY Int} (j:l.length<=1000):jV l d m w=some (ny m w d l):=by
 unfold jV qZ;rw[ou l (fun x:Int=>(iQ m.2 w x d:Int)) (fun z=>à (ã z.length) (some (zn z))) (fun i a hi ha v e g=>?_) (fun v e=>?_),ä (Ò (by simp; omega)),VZ]; rfl
 ·try dsimp only
  unfold jE;rw[Ì hi,Ä ha,h.who f,À,ä (Ò (by simp; omega)),Ê hi (by omega)]
 ·try dsimp only
  unfold jE;rw[Ó]
def tr_L2 (h:MOk m) (d:Į m.2 w) (k0:BY Cmp->BE ρ):Ë (fun(v:Int×BY Cmp) j=>lE m w m.1.2.2.2.2.1 (Õ m.1.2.2.2.2.1) v.1 v.2 (fun a b=>j (a,b)) k0) ((0:Int),[])=k0 (m.1.2.2.2.2.1.map (ahh m w)):=by
 have l:=h.good.nC
 refine ou m.1.2.2.2.2.1 (ahh m w) k0 (fun i a hi ha v g k=>?_) (fun v g=>?_)<;>(try dsimp only)<;>unfold lE
 ·obtain⟨f,e⟩:=h.good.size.piles a (dk ha);rw[Ì hi,Ä ha,F7 h d _ f,À,F7 h d _ e,À,ä (Ò (by simp; omega)),Ê hi (by omega)];rfl
 ·rw[Ó]
def tr_L3 (h:MOk m) (f:Į m.2 w) (k0:BY (Int×Int)->BE ρ):Ë (fun(v:Int×BY (Int×Int)) e=>lD m w m.1.2.2.2.2.2 (Õ m.1.2.2.2.2.2) v.1 v.2 (fun a b=>e (a,b)) k0) ((0:Int),[])=k0 (m.1.2.2.2.2.2.map fun n=>(iQ m.2 w n.1 n.2,n.2)):=by
 have j:=h.good.nK
 refine ou m.1.2.2.2.2.2 (fun n:Int×Int=>((iQ m.2 w n.1 n.2,n.2):Int×Int)) k0 (fun i a hi ha v d g=>?_) (fun v d=>?_)<;>(try dsimp only)<;>unfold lD
 ·rw[Ì hi,Ä ha,h.who f,À,ä (Ò (by simp; omega)),Ê hi (by omega)]
 ·rw[Ó]
def sL (h:MOk m) (a:Į m.2 w):ji m w=some (trP m w):=by
 have d:=h.good.nG;unfold ji xd trP;rw[ä (Ò (by omega)),tr_L0 h a,tr_L1 h a,tr_L2 h a,tr_L3 h a]
end
def Ys {l:BY Int} {x:Int} (h:x∈l):∃k,l.findIdx? (·==x)=some k/\l[k]?=some x:=by
 cases a:l.findIdx? (·==x) with
 |none =>
  have:=eJ.1 a x h;simp at this
 |some k =>
  obtain⟨d,e,_⟩:=dR.1 a;exact⟨k,rfl,by rw[df d]; simpa using e⟩
def Nr {l:BY Int} {x:Int} (h:x∉l):l.findIdx? (·==x)=none:=by
 rw[eJ];intro y a;simp only[beq_eq_false_iff_ne];exact fun e=>h (e▸a)
def am7 {l:BY Int} (d:l.Nodup) {k:Nat} {x:Int} (h:l[k]?=some x):l.findIdx? (·==x)=some k:=by
 obtain⟨j,e,a⟩:=Ys (dk h);obtain⟨i,g⟩:=dj.1 h;obtain⟨h2,f⟩:=dj.1 a;rw[e,(List.getElem_inj d).1 (f.trans g.symm)]
def aea {d d0:Int} {l k:BY Int} (g:l.Nodup) (n:k.Nodup) (f:l.Perm k) (x:Int):stp d (d0,k) l (stp d (d0,l) k x)=x:=by
 unfold stp
 by_cases hd:d0<d
 ·simp only[if_pos hd]
  by_cases a:x∈k
  ·obtain⟨i,j,h2⟩:=Ys a;rw[j];dsimp only
   have hi:i<l.length:=by rw[f.length_eq]; exact(dj.1 h2).1
   have e:l[i]?=some (l.getD i 0):=by rw[eG,df hi]; rfl
   rw[am7 g e];dsimp only;rw[List.getD_eq_getElem?_getD,h2]; rfl
  ·rw[Nr a];dsimp only;rw[Nr fun h=>a (f.subset h)]
 ·simp only[if_neg hd]
def ahE {d:Int} {m:Mx} {l:BY Int} (e:l.Perm m.2) (x:Int):stp d m l x=x\/(m.1<d/\x∈m.2/\stp d m l x∈m.2):=by
 unfold stp
 by_cases hd:m.1<d
 ·simp only[if_pos hd]
  by_cases a:x∈l
  ·obtain⟨i,f,h2⟩:=Ys a;rw[f];dsimp only
   have hi:i<m.2.length:=by rw[<-e.length_eq]; exact(dj.1 h2).1
   exact .inr ⟨hd,e.subset a,by rw[eG,df hi]; exact fH hi⟩
  ·rw[Nr a];exact .inl rfl
 ·simp only[if_neg hd];exact .inl trivial
def am4:BY Mx->Way->Int->Int->Int
 |m::ms,l::ls,x,d=>am4 ms ls (stp d (m.1,l) m.2 x) d
 |_,_,x,_=>x
def aku {l:BY Int} (h:l.Pairwise (·<·)):l.Nodup:=h.imp fun h=>Int.ne_of_lt h
def ahp:∀{ms:BY Mx} {w:Way},Į ms w->(∀x∈ms,x.2.Nodup)->∀x d,iQ ms w (am4 ms w x d) d=x
 |[],[],_,_,x,d=>rfl
 |m::ms,l::ls,h,a,x,d=>by
  rw[am4,iQ,ahp h.2 fun y e=>a y (dW _ e)];exact aea (d0:=m.1) (h.1.nodup_iff.2 (a m (by simp))) (a m (by simp)) h.1 x
def adb:∀{ms:BY Mx} {w:Way},Į ms w->(∀x∈ms,x.2.Nodup)->∀x d,am4 ms w (iQ ms w x d) d=x
 |[],[],_,_,x,d=>rfl
 |m::ms,l::ls,h,a,x,d=>by
  rw[am4,iQ];have:=aea (d:=d) (d0:=m.1) (l:=m.2) (k:=l) (a m (by simp)) (h.1.nodup_iff.2 (a m (by simp))) h.1.symm (iQ ms ls x d);rw[show stp d (m.1,l) m.2 (stp d m l (iQ ms ls x d))=_ from this];exact adb h.2 (fun y e=>a y (dW _ e)) x d
def ahq:∀{ms:BY Mx} {w:Way} (Q:Int->Prop) {d:Int},Į ms w->(∀m∈ms,m.1<d->∀x∈m.2,Q x)->∀{x:Int},Q x->Q (iQ ms w x d)
 |[],[],Q,d,_,_,x,a=>a
 |m::ms,l::ls,Q,d,h,f,x,a=>by
  have:=ahq (x:=x) Q h.2 (fun y g=>f y (dW _ g)) a;rw[iQ];rcases ahE (d:=d) h.1 (iQ ms ls x d) with e|⟨j,_,i⟩
  ·rw[e]; exact this
  ·exact f m (by simp) j _ i
def Na:∀{ms:BY Mx} {w:Way} {d:Int},Į ms w->∀{x:Int},(∀m∈ms,m.1<d->x∉m.2)->iQ ms w x d=x
 |[],[],d,_,x,_=>rfl
 |m::ms,l::ls,d,h,x,a=>by
  rw[iQ,Na h.2 fun y f=>a y (dW _ f)];rcases ahE (d:=d) h.1 x with e|⟨i,g,_⟩
  ·exact e
  ·exact absurd g (a m (by simp) i)
def Zf:∀{ms:BY Mx} {w:Way} {d e:Int},Į ms w->ms.Pairwise (fun a b=>a.1<b.1)->d<=e->∀{x:Int},(∀m∈ms,d<=m.1->m.1<e->x∉m.2)->iQ ms w x e=iQ ms w x d
 |[],[],d,e,_,_,_,x,_=>rfl
 |m::ms,l::ls,d,e,h,j,p,x,k=>by
  rw[dN] at j;rcases gZ m.1 d with n|o
  ·rw[iQ,iQ,Zf h.2 j.2 p fun y g=>k y (dW _ g)]
   have q:∀y,stp e m l y=stp d m l y:=fun y=>by unfold stp; rw[if_pos n,if_pos (by omega)]
   exact q _
  ·have q:iQ (m::ms) (l::ls) x e=x:=Na h fun y g i=>by
    rcases dm.1 g with rfl|f
    ·exact k y (by simp) o i
    ·exact k y g (by have:=j.1 y f; omega) i
   have s:iQ (m::ms) (l::ls) x d=x:=Na h fun y g r=>by
    rcases dm.1 g with rfl|f
    ·omega
    ·have:=j.1 y f; omega
   rw[q,s]
def GC {b:ø} (hi:b.2.1.Pairwise fun a b=>a.1<b.1) {id day:Int}:mz (ŗ b) id day=0↔∃g,î b id=some g/\g.2.1<=day:=by
 rw[<-wT hi];unfold Ņ
 cases î b id with
 |none=>simp
 |some g =>
  dsimp only
  by_cases h:day<g.2.1
  ·rw[if_pos h]; simp; omega
  ·rw[if_neg h]; simp; omega
def F4 {b:ø} (hi:b.2.1.Pairwise fun a b=>a.1<b.1) {id day:Int}:ack (ŗ b) id day=0↔C6 day=true/\∃g,î b id=some g/\g.2.1<=day:=by
 unfold ack
 cases C6 day with
 |false=>simp
 |true=>simp[GC hi]
def abg {b:ø} (hi:b.2.1.Pairwise fun a b=>a.1<b.1) {i:Nat} {l:Jm}:MZ b (ŗ b) i l=0↔j8 l.2.1 0 20000=true/\inP l.2.2 0 1048576=true/\(∃g,î b l.1=some g/\g.2.1<=l.2.1.1) /\
 (∀x∈b.2.2.2.1.take i,x.1=l.1->¬(x.2.1.1<=l.2.1.2/\l.2.1.1<=x.2.1.2))/\∀u∈b.2.2.1,u.1=l.1->inP u.2 l.2.1.1 l.2.1.2=false:=by
 unfold MZ;rw[<-GC hi]
 cases j8 l.2.1 0 20000 with
 |false=>simp
 |true =>
  cases inP l.2.2 0 1048576 with
  |false=>simp
  |true =>
   by_cases h:mz (ŗ b) l.1 l.2.1.1=0
   ·simp only[h,dU,dA,if_false,bne_self_eq_false,true_and]
    split
    ·rename_i d;simp only[dD,dg,beq_iff_eq,decide_eq_true_eq] at d;obtain⟨x,f,n,k⟩:=d;exact⟨fun e=>absurd e (by decide),fun e=>absurd k (e.1 x f n)⟩
    ·rename_i d;simp only[dD,dg,beq_iff_eq,decide_eq_true_eq,not_exists,not_and] at d
     split
     ·rename_i h2;simp only[dD,dg,beq_iff_eq] at h2;obtain⟨u,j,n,k⟩:=h2;exact⟨fun e=>absurd e (by decide),fun e=>by have:=e.2 u j n; rw[k] at this; cases this⟩
     ·rename_i h2;simp only[dD,dg,beq_iff_eq,not_exists,not_and] at h2;exact⟨fun _=>⟨fun x f e ⟨p,q⟩=>d x f e p q,fun u j e=>by simpa using h2 u j e⟩,fun _=>rfl⟩
   ·simp[h]
def Uu {b:ø} (hi:b.2.1.Pairwise fun a b=>a.1<b.1) {c:Cmp}:vl b (ŗ b) c=0↔(∀x∈c.2.2.1++c.2.2.2.1,(∃g,î b x=some g/\g.2.1<=c.2.1)/\Ŕ b x c.2.1=none) /\
 (Þ c.2.2.1 c.2.2.2.1).length<=1/\(Þ c.2.2.2.1 c.2.2.1).length<=1/\(Þ c.2.2.1 c.2.2.2.1).length+(Þ c.2.2.2.1 c.2.2.1).length≠0:=by
 unfold vl;constructor
 ·intro h
  split at h
  ·cases h
  rename_i f
  split at h
  ·cases h
  rename_i h2
  split at h
  ·cases h
  rename_i i
  split at h
  ·cases h
  split at h
  ·cases h
  split at h
  ·cases h
  simp only[dD,not_exists,not_and,beq_iff_eq] at f h2;simp only[dD,not_exists,not_and,Option.isSome_iff_ne_none,ne_eq,Decidable.not_not] at i;refine⟨fun x d=>⟨(GC hi).1 ?_,i x d⟩,by omega,by omega,by omega⟩;rcases EN (ŗ b) x c.2.1 with e|e|e
  ·exact e
  ·exact absurd e (h2 x d)
  ·exact absurd e (f x d)
 ·intro⟨f,h2,i,k⟩;have j:∀x∈c.2.2.1++c.2.2.2.1,mz (ŗ b) x c.2.1=0:=fun x d=>(GC hi).2 (f x d).1;rw[if_neg,if_neg,if_neg,if_neg (by omega),if_neg (by omega),if_neg k]
  ·simp only[dD,not_exists,not_and,Option.isSome_iff_ne_none,ne_eq,Decidable.not_not];exact fun x d=>(f x d).2
  ·simp only[dD,not_exists,not_and,beq_iff_eq]
   exact fun x d e=>by rw[j x d] at e; cases e
  ·simp only[dD,not_exists,not_and,beq_iff_eq]
   exact fun x d e=>by rw[j x d] at e; cases e
def K5 {b:ø} {x d:Int}:Ŕ b x d=none↔∀l∈b.2.2.2.1,l.1=x->inP d l.2.1.1 l.2.1.2=false:=by
 unfold Ŕ;rw[List.find?_eq_none];simp
def zw {m:Ŋ} {w:Way} {d:Int} {l:BY Int} {y:Int}:y∈ny m w d l↔∃x∈l,iQ m.2 w x d=y:=by
 unfold ny;rw[(ÿ _).mem_iff,List.mem_map]
section
variable {m:Ŋ} {w:Way}
def MOk.nd (h:MOk m):∀x∈m.2,x.2.Nodup:=fun x a=>aku (h.mix a).asc
def MOk.inj (h:MOk m) (a:Į m.2 w) {d x y:Int} (e:iQ m.2 w x d=iQ m.2 w y d):x=y:=by
 rw[<-adb a h.nd x d,e,adb a h.nd]
def MOk.whoG (h:MOk m) (i:Į m.2 w) {d x:Int} (f:∃g,î m.1 x=some g/\g.2.1<=d):∃g,î m.1 (iQ m.2 w x d)=some g/\g.2.1<=d :=
 ahq (fun y=>∃g,î m.1 y=some g/\g.2.1<=d) i (fun y e hd z a=>by
  obtain⟨g,j,h2⟩:=(h.mix e).known z a
  exact⟨g,j,by omega⟩) f
def MOk.made (h:MOk m) (f:Į m.2 w) {x:Int} {g:è} (i:î m.1 x=some g):iQ m.2 w x g.2.1=x :=
 Na f fun y d hd e=>by
  obtain⟨g',a,h2⟩:=(h.mix d).known x e;rw[i] at a; cases a;omega
def MOk.loan (h:MOk m) (f:Į m.2 w) {l:Jm} (g:l∈m.1.2.2.2.1) {d:Int} (hd:inP d l.2.1.1 l.2.1.2=true):iQ m.2 w l.1 d=iQ m.2 w l.1 l.2.1.1:=by
 simp only[inP,dg,decide_eq_true_eq] at hd;refine Zf f h.days hd.1 fun y a i h2 e=>?_;have:=(K5.1 ((h.mix a).home _ e).1) l g rfl;simp only[inP,Bool.and_eq_false_iff,decide_eq_false_iff_not] at this;omega
def aiW (h:MOk m) (f:Į m.2 w) (d:Int) (A B:BY Int):(Þ (ny m w d A) (ny m w d B)).Perm ((Þ A B).map fun x=>iQ m.2 w x d):=by
 unfold Þ;refine((ÿ _).filter _).trans ?_;rw[List.filter_map];refine List.Perm.of_eq ?_;congr 1;refine List.filter_congr fun x g=>?_;simp only[Function.comp];congr 1;rw[Bool.eq_iff_iff,List.contains_iff_mem,List.contains_iff_mem,zw];exact⟨fun⟨y,a,e⟩=>h.inj f e▸a,fun a=>⟨x,a,rfl⟩⟩
def aen (h:MOk m) (i:Į m.2 w) {d:Int} {l:BY Int} (n:uH l=true) (p:∀x∈l,∃g,î m.1 x=some g/\g.2.1<=d):uH (ny m w d l)=true:=by
 obtain⟨u,h2,r⟩:=(zx l).1 n;refine(zx _).2 ⟨fun y j=>?_,?_,by unfold ny; rw[(ÿ _).length_eq,List.length_map]; exact r⟩
 ·obtain⟨x,k,rfl⟩:=zw.1 j;obtain⟨g,q,_⟩:=h.whoG i (p x k);obtain⟨t,s⟩:=iX q;have:=(h.good.gaugeR t).2.2.2.1;rw[<-s]; exact this
 ·have f:(ny m w d l).Nodup:=by
   unfold ny;rw[(ÿ _).nodup_iff];exact List.pairwise_map.2 (h2.imp fun o e=>by have:=h.inj i e; omega)
  exact((ŕ _).and f).imp fun⟨a,b⟩=>Int.lt_iff_le_and_ne.2 ⟨a,b⟩
def anr (h:MOk m) (f:Į m.2 w) {x d:Int} (ha:Ŕ m.1 x d=none):Ŕ (trP m w) (iQ m.2 w x d) d=none:=by
 rw[K5];intro i a e;obtain⟨l,g,rfl⟩:=dH.1 a
 cases hd:inP d l.2.1.1 l.2.1.2 with
 |false=>rfl
 |true =>
  rw[<-h.loan f g hd] at e;have:=K5.1 ha l g (h.inj f e);rw[hd] at this; cases this
def Ov {b:ø} (hi:b.2.1.Pairwise fun a b=>a.1<b.1):(Ø b).Nodup:=by
 unfold Ø List.Nodup;rw[List.pairwise_flatMap];refine⟨fun g _=>List.pairwise_map.2 ((sk b g).imp fun h e=>by cases e; omega),hi.imp fun j x i y f e=>?_⟩;obtain⟨d,_,rfl⟩:=List.mem_map.1 i;obtain⟨k,_,rfl⟩:=List.mem_map.1 f;simp only[Prod.mk.injEq] at e;omega
def zG {b:ø} {x d:Int}:(x,d)∈Ø b↔∃g∈b.2.1,g.1=x/\d∈Ü b g:=by
 unfold Ø;simp only[List.mem_flatMap,List.mem_map];constructor
 ·rintro⟨g,a,f,hd,e⟩;cases e;exact⟨g,a,rfl,hd⟩
 ·rintro⟨g,a,rfl,hd⟩;exact⟨g,a,d,hd,rfl⟩
def Cz (h:MOk m) (f:Į m.2 w) {d:Int} {A:BY Int} {x:Int}:(ny m w d A).contains (iQ m.2 w x d)=A.contains x:=by
 rw[eQ,dZ,dZ,zw];exact⟨fun⟨y,a,e⟩=>h.inj f e▸a,fun a=>⟨x,a,rfl⟩⟩
def anq (h:MOk m) (e:Į m.2 w) {x d:Int} (o:(x,d)∈Ø m.1):(iQ m.2 w x d,d)∈Ø (trP m w):=by
 obtain⟨g,l,rfl,hd⟩:=zG.1 o;have a:=sa h.good.ids l;obtain⟨g',k,_⟩:=h.whoG e (x:=g.1) (d:=d) ⟨g,a,(h.good.day l hd).1⟩;obtain⟨q,j⟩:=iX k;refine zG.2 ⟨g',q,j,ż.2 ?_⟩;rcases ż.1 hd with rfl|⟨c,p,i,rfl⟩|⟨n,f,i,rfl⟩
 ·rw[h.made e a,a] at k;cases k;exact .inl rfl
 ·refine .inr (.inl ⟨ahh m w c,dH.2 ⟨c,p,rfl⟩,?_,rfl⟩);rw[j];show(ny m w c.2.1 c.2.2.1).contains _≠(ny m w c.2.1 c.2.2.2.1).contains _;rw[Cz h e,Cz h e];exact i
 ·exact .inr (.inr ⟨_,dH.2 ⟨n,f,rfl⟩,by rw[j,i],rfl⟩)
def Zr (h:MOk m) (j:Į m.2 w) {y d:Int} (s:(y,d)∈Ø (trP m w)):∃x,iQ m.2 w x d=y/\(x,d)∈Ø m.1:=by
 obtain⟨g,k,rfl,hd⟩:=zG.1 s;have k:g∈m.1.2.1:=k;have o:=sa h.good.ids k;have q:iQ m.2 w (am4 m.2 w g.1 d) d=g.1:=ahp j h.nd _ _
 have fin:∀x,iQ m.2 w x d=g.1->(∃g',î m.1 x=some g')->(∀g':è,g'.1=x->d∈Ü m.1 g')->∃x,iQ m.2 w x d=g.1/\(x,d)∈Ø m.1:=fun x e ⟨g',A⟩ z=>by
  obtain⟨v,a⟩:=iX A;exact⟨x,e,zG.2 ⟨g',v,a,z g' a⟩⟩
 rcases ż.1 hd with e|⟨c',p,a,f⟩|⟨B,l,a,f⟩
 ·subst e;exact⟨g.1,h.made j o,zG.2 ⟨g,k,rfl,oz g⟩⟩
 ·obtain⟨c,r,rfl⟩:=dH.1 p;have f:c.2.1=d:=f;subst f;have a:(ny m w c.2.1 c.2.2.1).contains g.1≠(ny m w c.2.1 c.2.2.2.1).contains g.1:=a;rw[<-q,Cz h j,Cz h j] at a;refine fin _ q ?_ fun g' e=>ż.2 (.inr (.inl ⟨c,r,by rw[e]; exact a,rfl⟩))
  have:am4 m.2 w g.1 c.2.1∈c.2.2.1++c.2.2.2.1:=by
   rw[dl,<-dZ,<-dZ]
   cases t:c.2.2.1.contains (am4 m.2 w g.1 c.2.1) with
   |true=>exact .inl rfl
   |false =>
    rw[t] at a;exact .inr (by simpa using a)
  obtain⟨⟨g',e,_⟩,_⟩:=h.good.pile r this;exact⟨g',e⟩
 ·obtain⟨n,i,rfl⟩:=dH.1 l;have f:n.2=d:=f;have a:iQ m.2 w n.1 n.2=g.1:=a;subst f;obtain⟨_,g',e,_⟩:=(F4 h.good.ids).1 (h.good.looks n i);exact fin n.1 a ⟨g',e⟩ fun u e=>ż.2 (.inr (.inr ⟨n,i,e.symm,rfl⟩))
def alv (m:Ŋ) (w:Way) (n:Int×Int):Int×Int:=(iQ m.2 w n.1 n.2,n.2)
def amT (h:MOk m):(trP m w).2.1.Pairwise fun a b=>a.1<b.1:=h.good.ids
def tr_len (h:MOk m) (g:Į m.2 w):(Ø (trP m w)).length=(Ø m.1).length:=by
 have p:(Ø (trP m w)).length<=((Ø m.1).map (alv m w)).length:=fR (Ov (amT h)) fun n k=>by
  obtain⟨x,e,f⟩:=Zr (y:=n.1) (d:=n.2) h g k;exact dH.2 ⟨(x,n.2),f,Prod.ext e rfl⟩
 have h2:((Ø m.1).map (alv m w)).length<=(Ø (trP m w)).length:=by
  have j:((Ø m.1).map (alv m w)).Nodup:=by
   refine List.pairwise_map.2 ((Ov h.good.ids).imp ?_);intro a b i e;unfold alv at e;simp only[Prod.mk.injEq] at e;obtain⟨o,l⟩:=e;rw[l] at o;exact i (Prod.ext (h.inj g o) l)
  refine fR j fun n k=>?_;obtain⟨⟨x,d⟩,f,rfl⟩:=dH.1 k;exact anq h g f
 rw[dL] at p h2;omega
def wQ (h:MOk m) (j:Į m.2 w):ţ (trP m w):=by
 have a:=h.good;have f:=amT (w:=w) h;have X:ŗ (trP m w)=ŗ m.1:=rfl;have Z:∀x,î (trP m w) x=î m.1 x:=fun _=>rfl;have o:=tr_len h j;refine⟨a.film,a.nG,by simpa[trP] using a.nU,by simpa[trP] using a.nL,by simpa[trP] using a.nC,by simpa[trP] using a.nK,a.gauge,f,?_,?_,?_,?_,by rw[o]; exact a.nodes,by rw[o]; simpa[trP] using a.links⟩
 ·intro u' q;obtain⟨u,F,rfl⟩:=dH.1 q;obtain⟨C,B⟩:=(F4 a.ids).1 (a.uses u F);exact(F4 f).2 ⟨C,h.whoG j B⟩
 ·intro i O I
  obtain⟨l,P,rfl⟩:∃l,m.1.2.2.2.1[i]?=some l/\(iQ m.2 w l.1 l.2.1.1,l.2)=O:=by
   have:(m.1.2.2.2.1.map (fun l:Jm=>(iQ m.2 w l.1 l.2.1.1,l.2)))[i]?=some O:=I;rw[fc] at this
   cases d:m.1.2.2.2.1[i]? with
   |none=>rw[d] at this; cases this
   |some l=>rw[d] at this; exact⟨l,rfl,by simpa using this⟩
  have r:=dk P;obtain⟨C,B,e3,e4,e5⟩:=(abg a.ids).1 (a.loans i l P);refine(abg f).2 ⟨C,B,h.whoG j e3,fun R k ex z=>?_,fun u' q M=>?_⟩
  ·have k:R∈(m.1.2.2.2.1.map (fun l:Jm=>(iQ m.2 w l.1 l.2.1.1,l.2))).take i:=k;rw[<-List.map_take] at k;obtain⟨x,d,rfl⟩:=List.mem_map.1 k;have t:=List.mem_of_mem_take d;have s1:=(wp a t).1;have s2:=(wp a r).1;dsimp only at ex z
   have d1:inP (max x.2.1.1 l.2.1.1) x.2.1.1 x.2.1.2=true:=by simp[inP]; omega
   have d2:inP (max x.2.1.1 l.2.1.1) l.2.1.1 l.2.1.2=true:=by simp[inP]; omega
   rw[<-h.loan j t d1,<-h.loan j r d2] at ex;exact e4 x d (h.inj j ex) z
  ·obtain⟨u,F,rfl⟩:=List.mem_map.1 q;dsimp only at M ⊢
   cases hd:inP u.2 l.2.1.1 l.2.1.2 with
   |false=>rfl
   |true =>
    rw[<-h.loan j r hd] at M;have:=e5 u F (h.inj j M);rw[hd] at this; cases this
 ·intro i c' K
  obtain⟨c,Q,rfl⟩:∃c,m.1.2.2.2.2.1[i]?=some c/\ahh m w c=c':=by
   have:(m.1.2.2.2.2.1.map (ahh m w))[i]?=some c':=K;rw[fc] at this
   cases d:m.1.2.2.2.2.1[i]? with
   |none=>rw[d] at this; cases this
   |some l=>rw[d] at this; exact⟨l,rfl,by simpa using this⟩
  have s:=dk Q;obtain⟨n1,V,U,n4,T,n6,S⟩:=(ű c).1 (a.nums s);have v:=(Uu a.ids).1 (a.pilesOf s);have J:∀x∈c.2.2.1++c.2.2.2.1,∃g,î m.1 x=some g/\g.2.1<=c.2.1:=fun x d=>(v.1 x d).1;have A:JC (ahh m w c)=true:=(ű _).2 ⟨n1,V,U,n4,T,aen h j n6 fun x d=>J x (dX _ d),aen h j S fun x d=>J x (dT _ d)⟩;have E:=(aiW h j c.2.1 c.2.2.1 c.2.2.2.1).length_eq;have D:=(aiW h j c.2.1 c.2.2.2.1 c.2.2.1).length_eq;rw[dL] at E D
  have G:vl (trP m w) (ŗ (trP m w)) (ahh m w c)=0:=by
   refine(Uu f).2 ⟨fun y p=>?_,?_,?_,?_⟩
   ·have p:y∈ny m w c.2.1 c.2.2.1++ny m w c.2.1 c.2.2.2.1:=p
    obtain⟨x,d,rfl⟩:∃x∈c.2.2.1++c.2.2.2.1,iQ m.2 w x c.2.1=y:=by
     rcases dl.1 p with p|p
     ·obtain⟨x,d,e⟩:=zw.1 p;exact⟨x,dX _ d,e⟩
     ·obtain⟨x,d,e⟩:=zw.1 p;exact⟨x,dT _ d,e⟩
    exact⟨h.whoG j (J x d),anr h j (v.1 x d).2⟩
   ·show(Þ (ny m w c.2.1 c.2.2.1) (ny m w c.2.1 c.2.2.2.1)).length<=1;rw[E]; exact v.2.1
   ·show(Þ (ny m w c.2.1 c.2.2.2.1) (ny m w c.2.1 c.2.2.1)).length<=1;rw[D]; exact v.2.2.1
   ·show(Þ (ny m w c.2.1 c.2.2.1) (ny m w c.2.1 c.2.2.2.1)).length+(Þ (ny m w c.2.1 c.2.2.2.1) (ny m w c.2.1 c.2.2.1)).length≠0;rw[E,D]; exact v.2.2.2
  have h0:=a.compares i c Q;unfold lQ at h0 ⊢;rw[a.nums s] at h0;rw[A,G]
  have W:((trP m w).2.2.2.2.1.take i).any (fun x=>x.1==(ahh m w c).1)=(m.1.2.2.2.2.1.take i).any fun x=>x.1==c.1:=by
   show((m.1.2.2.2.2.1.map (ahh m w)).take i).any _=_;rw[<-List.map_take,List.any_map]; rfl
  rw[W];simp only[dU,dA,if_false] at h0 ⊢
  split at h0
  ·cases h0
  ·rename_i h1; rw[if_neg h1]
 ·intro n' H;obtain⟨n,Y,rfl⟩:=dH.1 H;obtain⟨C,B⟩:=(F4 a.ids).1 (a.looks n Y);exact(F4 f).2 ⟨C,h.whoG j B⟩
end
section
variable {L:BY Lk} {N:Nat}
def Zc (h:j7 L N):ow ((N:Int),L)=some (kQ L N,0):=by
 have h2:=h.n60;unfold ow uP;rw[mZ h,À];dsimp only;rw[Í (by rfl),wS h.links h.n1 (by omega),À]
 cases kQ L N<;>rfl
end
def adV (x y:BY Int):BY Int×BY Int×Int:=if !uH x then([],[],1) else if !uH y then([],[],1) else(Þ x y,Þ y x,0)
def akQ {x y:BY Int} (d:x.length<=100000) (a:y.length<=100000):qN x y=some (adV x y):=by
 unfold qN KC adV;rw[Ip (by omega),À]
 cases uH x with
 |false=>rfl
 |true =>
  rw[Ip (by omega),À]
  cases uH y with
  |false=>rfl
  |true =>
   rw[Bi (by omega) (by omega),À,Bi (by omega) (by omega),À];rfl
def less (b:ø) (ids:BY Int):ø:=(b.1,b.2.1,b.2.2.1,b.2.2.2.1,b.2.2.2.2.1.filter (fun c=>!ids.contains c.1),b.2.2.2.2.2)
section
variable {b:ø} {ids:BY Int}
def ţ.distinct (h:ţ b):b.2.2.2.2.1.Pairwise fun a c=>a.1≠c.1:=by
 rw[List.pairwise_iff_getElem];intro i j hi f g k;have e:=h.compares j _ (List.getElem?_eq_getElem f);unfold lQ at e
 have d:(b.2.2.2.2.1.take j).any (fun x=>x.1==b.2.2.2.2.1[j].1)=true:=by
  rw[dD];exact⟨b.2.2.2.2.1[i],dw.2 ⟨i,by rw[du]; omega,by rw[fk]⟩,by simp[k]⟩
 rw[d] at e
 (repeat' split at e)<;>first|omega|simp_all
def ajc {α β:Type} (f g:α->BY β):∀l:BY α,(∀a∈l,(f a).length<=(g a).length)->(l.flatMap f).length<=(l.flatMap g).length
 |[],_=>dh _
 |a::l,h=>by
  rw[dF,dF,di,di];have:=h a (by simp);have:=ajc f g l fun c d=>h c (by simp[d]);omega
def lt_len:∀{x y:BY Int},x.Pairwise (·<·)->(∀a∈x,a∈y)->x.length<=y.length:=by
 intro x y d h;exact(fR (d.imp fun h=>by omega) h)
def ţ.less (h:ţ b) (ids:BY Int):ţ (less b ids):=by
 have l:∀c∈(ZzM.less b ids).2.2.2.2.1,c∈b.2.2.2.2.1:=fun c o=>(d8.1 o).1;have p:(ZzM.less b ids).2.2.2.2.1.length<=b.2.2.2.2.1.length:=eh _ _
 have n:∀g,(Ü (ZzM.less b ids) g).length<=(Ü b g).length:=fun g=>lt_len (sk _ g) fun d hd=>by
  rcases ż.1 hd with e|⟨c,o,y,h2⟩|B
  ·exact ż.2 (.inl e)
  ·exact ż.2 (.inr (.inl ⟨c,l c o,y,h2⟩))
  ·exact ż.2 (.inr (.inr B))
 have f:(Ø (ZzM.less b ids)).length<=(Ø b).length:=ajc _ _ _ fun g _=>by rw[dL,dL]; exact n g
 have F:=h.nodes;have G:=h.nC;refine⟨h.film,h.nG,h.nU,h.nL,Nat.le_trans p h.nC,h.nK,h.gauge,h.ids,h.uses,h.loans,fun i c o=>?_,h.looks,Nat.le_trans f F,by omega⟩;have v:=l c (List.mem_of_getElem? o);obtain⟨j,D,t⟩:=List.mem_iff_getElem.1 v;have s:=h.compares j c (by rw[List.getElem?_eq_getElem D,t]);unfold lQ at s ⊢
 split at s
 ·omega
 rename_i y
 split at s
 ·omega
 rw[if_neg y,if_neg ?_]
 ·exact s
 ·intro r;obtain⟨x,A,E⟩:=dD.1 r;obtain⟨k,C,q⟩:=dw.1 A;rw[du] at C;rw[fk] at q;obtain⟨hi,u⟩:=dj.1 o;have z:=dP.1 ((h.distinct.sublist gS:(ZzM.less b ids).2.2.2.2.1.Pairwise fun a c=>a.1≠c.1)) k i (by omega) hi (by omega);rw[q,u] at z;exact z (eq_of_beq E)
end
abbrev zC:Cmp:=((0:Int),(0:Int),[],[],(0:Int),(0:Int),(0:Int),(0:Int))
section
variable {ρ α:Type}
def ajs (a:α) (K:BY α->BE ρ) (z:Int×BY α):BE ρ :=
 à ((ile (0:Int) z.1)&&(ile z.1 (í z.2))) (à ((ile (0:Int) z.1)&&(ile z.1 (í (List.take (Int.toNat z.1) z.2++List.replicate (List.length z.2-(Int.toNat z.1)) a++List.drop ((Int.toNat z.1)+(List.length z.2-(Int.toNat z.1))) z.2))))
  (K (List.take (Int.toNat z.1) (List.drop 0 (List.take (Int.toNat z.1) z.2++List.replicate (List.length z.2-(Int.toNat z.1)) a++List.drop ((Int.toNat z.1)+(List.length z.2-(Int.toNat z.1))) z.2)))))
def adt (a:α) (K:BY α->BE ρ) {i:Nat} {s:BY α} (h:i<=s.length):ajs a K ((i:Int),s)=K (s.take i):=by
 unfold ajs
 have e:((ile (0:Int) (i:Int))&&(ile (i:Int) (í s)))=true:=by simp[ile,í]; omega
 dsimp only;rw[ä e]
 have d:((ile (0:Int) (i:Int))&&(ile (i:Int) (í (List.take (Int.toNat (i:Int)) s++List.replicate (List.length s-(Int.toNat (i:Int))) a++List.drop ((Int.toNat (i:Int))+(List.length s-(Int.toNat (i:Int)))) s))))=true:=by
  simp[ile,í]; omega
 rw[ä d,dt,ic,dp,fW (by simp; omega),List.take_take,Nat.min_self]
def agz (p:α->Bool) {a:BY α} {F:Int->Int->BY α->(Int->Int->BY α->BE ρ)->BE ρ} {k0:Int×BY α->BE ρ} {K:BY α->BE ρ}
 (J:∀(i j:Nat) (s:BY α) (x:α),s.length=a.length->i<j->j<s.length->s[j]?=some x->x∈a->∀d,F i j s d=if p x then d ((i:Int)+1) ((j:Int)+1) (s.set i x) else d i ((j:Int)+1) s)
 (M:∀(i:Nat) (s:BY α) d,i<=s.length->s.length=a.length->F i s.length s d=k0 ((i:Int),s)) (G:∀(i:Nat) (s:BY α),i<=s.length->k0 ((i:Int),s)=K (s.take i))
 {z:Nat} (D:z<a.length) (E:∀x∈a.take z,p x=true) (I:∀c,a[z]?=some c->p c=false) :
 Ë (fun(v:Int×Int×BY α) C=>F v.1 v.2.1 v.2.2 (fun x y w=>C (x,y,w))) ((z:Int),((z:Int)+1),a)=K (a.filter p):=by
 refine ð (fun x:Int×Int×BY α=>∃i j:Nat,x.1=i/\x.2.1=j/\i<j/\j<=a.length/\x.2.2.length=a.length/\x.2.2.take i=(a.take j).filter p/\x.2.2.drop j=a.drop j) (fun x=>a.length-x.2.1.toNat) ?_
  ⟨z,z+1,rfl,by simp,by omega,by omega,rfl,?_,rfl⟩
 ·rintro⟨P,O,s⟩ ⟨i,j,B,h2,t,H,g,l,hd⟩;simp only at B h2 g l hd;subst B h2;rcases dv j a.length with n|n
  ·refine .inr ?_
   have o:s[j]?=some a[j]:=by
    have A:(s.drop j)[0]?=(a.drop j)[0]?:=by rw[hd]
    rw[eX,eX] at A;simpa[df n] using A
   have f:(a.take (j+1)).filter p=(a.take j).filter p++if p a[j] then[a[j]] else[]:=by
    rw[take_succ (df n),fg];congr 1
    cases h:p a[j]<;>simp[h]
   have k:s.drop (j+1)=a.drop (j+1):=by
    have:=congrArg (List.drop 1) hd;simpa[gk,Nat.add_comm] using this
   have u:=J i j s a[j] g t (by omega) o (fH n)
   cases h:p a[j] with
   |false =>
    refine⟨(i,(j:Int)+1,s),⟨i,j+1,rfl,by simp,by omega,by omega,g,?_,k⟩,by simp; omega,fun d=>by dsimp only; rw[u,h]; rfl⟩;rw[f,h]; simpa using l
   |true =>
    have r:i<s.length:=by omega
    refine⟨((i:Int)+1,(j:Int)+1,s.set i a[j]),⟨i+1,j+1,by simp,by simp,by omega,by omega,by simpa using g,?_,?_⟩,by simp; omega,fun d=>by dsimp only; rw[u,h]; rfl⟩
    ·show List.take (i+1) (s.set i a[j])=_;rw[f,h,List.take_add_one,ij,List.take_set_of_le (dh i),l];simp[r]
    ·show List.drop (j+1) (s.set i a[j])=_;rw[List.drop_set_of_lt (by omega)];exact k
  ·refine .inl fun d=>?_
   have q:j=s.length:=by omega
   try dsimp only
   rw[q,M i s _ (by omega) g,G i s (by omega),l,eo (by omega)]
 ·show List.take z a=(a.take (z+1)).filter p;have e:a[z]?=some a[z]:=df D;rw[take_succ e,fg,gQ.2 E];simp[I _ e]
def ads (p:α->Bool) {a:BY α} {o:Int->(Int->BE ρ)->BE ρ} {F:Int->Int->BY α->(Int->Int->BY α->BE ρ)->BE ρ} {k0:Int×BY α->BE ρ} {K:BY α->BE ρ} {kf:Int->BE ρ} {kend:BE ρ}
 (D:∀(i:Nat) (x:α),i<a.length->a[i]?=some x->∀d,o i d=if !p x then kf i else d ((i:Int)+1)) (n:∀d,o a.length d=kend) (e:kend=K a)
 (k:∀z:Nat,z<a.length->kf z=Ë (fun(v:Int×Int×BY α) t=>F v.1 v.2.1 v.2.2 (fun x y w=>t (x,y,w))) ((z:Int),((z:Int)+1),a))
 (B:∀(i j:Nat) (s:BY α) (x:α),s.length=a.length->i<j->j<s.length->s[j]?=some x->x∈a->∀d,F i j s d=if p x then d ((i:Int)+1) ((j:Int)+1) (s.set i x) else d i ((j:Int)+1) s)
 (C:∀(i:Nat) (s:BY α) d,i<=s.length->s.length=a.length->F i s.length s d=k0 ((i:Int),s)) (u:∀(i:Nat) (s:BY α),i<=s.length->k0 ((i:Int),s)=K (s.take i)):Ë o 0=K (a.filter p):=by
 rw[jn a (fun x=>!p x) kf kend D n]
 cases q:a.findIdx? (fun x=>!p x) with
 |none =>
  dsimp only;rw[e,List.filter_eq_self.2];intro x g;have:=List.findIdx?_eq_none_iff.1 q x g;simpa using this
 |some z =>
  obtain⟨f,l,h⟩:=List.findIdx?_eq_some_iff_getElem.1 q;dsimp only;rw[k z f];refine agz p B C u f (fun x g=>?_) (fun c r=>?_)
  ·obtain⟨j,A,rfl⟩:=dw.1 g;rw[du] at A;rw[fk];have:=h j (by omega);simpa using this
  ·rw[df f] at r;cases r;simpa using l
end
def lX (m:Ŋ) (w:Way):Bool:=kQ (Τ (trP m w)) ((Ø (trP m w)).length+1)
def kv (m:Ŋ):BY Way:=(Ł m.2).filter (lX m)
def LW (m:Ŋ):Way×Bool:=match (Ł m.2).find? (lX m) with|some w=>(w,true)|none=>([],false)
section
variable {m:Ŋ} {w:Way} {ρ:Type}
def In_tr (h:MOk m) (a:Į m.2 w):In (trP m w):=⟨(wQ h a).size,h.in_.num⟩
def Sf (h:MOk m) (a:Į m.2 w):jz (trP m w)=some ((((Ø (trP m w)).length:Int)+1,Τ (trP m w)),Nf (trP m w),0):=by
 rw[ab6 (In_tr h a),Y9,if_neg (by simp[(Λ _).2 (wQ h a)])]
def sj (h:MOk m) (a:Į m.2 w):ŭ m w=some (lX m w):=by
 unfold ŭ zX;rw[sL h a,À,Sf h a,À];have:=Zc (wQ h a).sys;simp only[Int.natCast_add,Int.cast_ofNat_Int] at this;rw[this]; rfl
def qS {i:Nat} (hi:(Ł m.2)[i]?=some w):Į m.2 w:=zh.1 (dk hi)
def sJ (h:MOk m):(Ł m.2).length<=150:=by rw[ahv]; exact h.prod
def ai7 (h:MOk m):II m=some (kv m):=by
 unfold II WR;have G:=NH h;have C:=sJ h;have t:((((m.1.1.1,m.1.1.2),m.1.2.1,m.1.2.2.1,m.1.2.2.2.1,m.1.2.2.2.2.1,m.1.2.2.2.2.2),m.2):Ŋ)=m:=rfl;rw[ajB h,À,Nu (fun v y e E=>by unfold E4; rw[ä (Ò (by simp; omega))]) (by simp; omega),List.nil_append,Zv h,À]
 refine ads (a:=Ł m.2) (lX m) (K:=fun l=>some l) (k0:=ajs [] fun l=>some l) (kf:=fun n=>ifb (ieq n (-1:Int)) (some (Ł m.2)) (ck (n+(1:Int)) fun u=>Ë (fun(d:Int×Int×BY Way) f=>nI m.1.1.1 m.1.1.2 m.1.2.1 m.1.2.2.1 m.1.2.2.2.1 m.1.2.2.2.2.1 m.1.2.2.2.2.2 m.2 d.1 d.2.1 d.2.2 (fun q p o=>f (q,p,o)) (ajs [] fun l=>some l)) (n,u,Ł m.2)))
  (F:=fun a b c e=>nI m.1.1.1 m.1.1.2 m.1.2.1 m.1.2.2.1 m.1.2.2.2.1 m.1.2.2.2.2.1 m.1.2.2.2.2.2 m.2 a b c e (ajs [] fun l=>some l)) (kend:=some (Ł m.2)) (fun i x hi g e=>?_) (fun e=>?_) rfl (fun z A=>?_) (fun i j s x B D k g r e=>?_) (fun i s e hi B=>?_) (fun i s hi=>adt _ _ hi)
 ·try dsimp only
  unfold xf;rw[Ì hi,ś hi,Ă g,t,sj h (qS g),À,Ê hi (by omega),ô];rfl
 ·try dsimp only
  unfold xf;rw[Ó]
 ·rw[Í (by simp[ieq]),Ê A (by omega)]
 ·try dsimp only
  unfold nI;rw[Ì k,show í s=((s.length:Nat):Int) from rfl,ś k,Ă g,t,sj h (zh.1 r),À];cases lX m x
  ·simp only[fK,dU,æ,dA,if_false];rw[Ê k (by omega)]
  ·simp only[fK,dU,ku,if_true];rw[ś (by omega),Ă (df (by omega)),Ê (show i<s.length by omega) (by omega),Ê k (by omega),dt]
 ·try dsimp only
  unfold nI;rw[Ó]
def uC (h:MOk m):ą m=some (LW m):=by
 unfold ą xg;have g:=sJ h;have f:((((m.1.1.1,m.1.1.2),m.1.2.1,m.1.2.2.1,m.1.2.2.2.1,m.1.2.2.2.2.1,m.1.2.2.2.2.2),m.2):Ŋ)=m:=rfl;rw[NR h,À];refine Eq.trans (jv (Ł m.2) (fun _ w=>if lX m w then some (w,true) else none) (fun z=>some (z.1,z.2)) (some ([],false)) (fun i x hi a d=>?_) (fun d=>?_)) ?_
 ·try dsimp only
  unfold lH;rw[Ì hi,Ä a,f,sj h (qS a),À,Ê hi (by omega),ô]
  cases lX m x<;>rfl
 ·try dsimp only
  unfold lH;rw[Ó]
 ·rw[LY,LW]
  have key:∀l:BY Way,l.findSome? (fun w=>if lX m w then some (w,true) else none)=(l.find? (lX m)).map fun w=>(w,true):=by
   intro l
   induction l with
   |nil=>rfl
   |cons x l e =>
    rw[gR,gh]
    cases h:lX m x with
    |true=>rfl
    |false=>exact e
  rw[key]
  cases(Ł m.2).find? (lX m)<;>rfl
def m8 (m:Ŋ):Bool:=(Ł m.2).any (lX m)
def yj (m:Ŋ):(LW m).2=m8 m:=by
 unfold LW m8
 cases h:(Ł m.2).find? (lX m) with
 |none =>
  symm
  rw[ee]
  exact fun x a=>by simpa using(eD.1 h) x a
 |some w =>
  symm
  rw[dD];exact⟨w,fP h,fS h⟩
def abt (m:Ŋ):kv m=[]↔m8 m=false:=by
 unfold kv m8;rw[List.filter_eq_nil_iff,List.any_eq_false]
def anm (d:In m.1) (e:m.2.length<=1000):Rt m=some (if ĭ m≠0 then([],ĭ m) else(kv m,0)):=by
 unfold Rt acS;rw[oA d e,À]
 by_cases a:ĭ m=0
 ·rw[Í (by simp[ine,a]),if_neg (by simp[a]),ai7 ((œ m).1 a)]; rfl
 ·rw[Ñ (by simp[ine,a]),if_pos a]
def yd (m:Ŋ):Way×Int:=if ĭ m≠0 then([],ĭ m) else if m8 m then((LW m).1,0) else([],5)
def aca (d:In m.1) (e:m.2.length<=1000):Bo m=some (yd m):=by
 unfold Bo Pg yd;rw[oA d e,À]
 by_cases a:ĭ m=0
 ·rw[Í (by simp[ine,a]),if_neg (by simp[a]),uC ((œ m).1 a),À,yj]
  cases m8 m<;>rfl
 ·rw[Ñ (by simp[ine,a]),if_pos a]
def aoa (m:Ŋ) (p:Cmp->Bool):Ŋ:=((m.1.1,m.1.2.1,m.1.2.2.1,m.1.2.2.2.1,m.1.2.2.2.2.1.filter p,m.1.2.2.2.2.2),m.2)
def vw (m:Ŋ) (ids:BY Int):Ŋ:=aoa m fun c=>ids.contains c.1
def acF (A:m.1.2.2.2.2.1.length<=1000) {ids:BY Int} (hi:ids.length<=1000000):Cg m ids=some (vw m ids):=by
 unfold Cg WN;rw[ä (Ò (by omega))]
 refine ads (a:=m.1.2.2.2.2.1) (fun c=>ids.contains c.1) (K:=fun l=>some ((m.1.1,m.1.2.1,m.1.2.2.1,m.1.2.2.2.1,l,m.1.2.2.2.2.2),m.2)) (k0:=ajs zC fun l=>some ((m.1.1,m.1.2.1,m.1.2.2.1,m.1.2.2.2.1,l,m.1.2.2.2.2.2),m.2))
  (kf:=fun k=>ifb (ieq k (-1:Int)) (some m) (ck (k+(1:Int)) fun r=>Ë (fun(d:Int×Int×BY Cmp) g=>nH ids d.1 d.2.1 d.2.2 (fun p o n=>g (p,o,n)) (ajs zC fun l=>some ((m.1.1,m.1.2.1,m.1.2.2.1,m.1.2.2.2.1,l,m.1.2.2.2.2.2),m.2))) (k,r,m.1.2.2.2.2.1)))
  (F:=fun a b c f=>nH ids a b c f (ajs zC fun l=>some ((m.1.1,m.1.2.1,m.1.2.2.1,m.1.2.2.2.1,l,m.1.2.2.2.2.2),m.2))) (kend:=some m) (fun i x e q f=>?_) (fun f=>?_) rfl (fun z t=>?_) (fun i j s x v y h q u f=>?_) (fun i s f hi v=>?_) (fun i s hi=>adt _ _ hi)
 ·try dsimp only
  unfold xe;rw[Ì e,ś e,Ă q,ŝ hi,À,Ê e (by omega),ô];rfl
 ·try dsimp only
  unfold xe;rw[Ó]
 ·rw[Í (by simp[ieq]),Ê t (by omega)]
 ·try dsimp only
  unfold nH;rw[Ì h,show í s=((s.length:Nat):Int) from rfl,ś h,Ă q,ŝ hi,À];cases ids.contains x.1
  ·simp only[fK,dU,æ,dA,if_false];rw[Ê h (by omega)]
  ·simp only[fK,dU,ku,if_true];rw[ś (by omega),Ă (df (by omega)),Ê (show i<s.length by omega) (by omega),Ê h (by omega),dt]
 ·try dsimp only
  unfold nH;rw[Ó]
end
section
variable {b:ø}
def No (h:ţ b) (g:è) {f t u:Int} (d:f<=t) (h2:t<=u):jH b g f u=jH b g f t+jH b g t u:=by
 obtain⟨n,rfl⟩:∃n:Nat,u=t+n:=⟨(u-t).toNat,by omega⟩;clear h2
 induction n with
 |zero=>simp[Bf]
 |succ n a =>
  have e:t+((n+1:Nat):Int)=(t+n)+1:=by omega
  rw[e,QX h g (show f<=t+(n:Int) by omega),QX h g (show t<=t+(n:Int) by omega),a];omega
def FM (h:ţ b) {g:è} (a:g∈b.2.1) {f t:Int} (d:0<=f):0<=jH b g f t:=(jT h a d).1
def iT (b:ø) (id d:Int):Int:=match i8 (Ø b) id d with|some j=>(j:Int)+1|none=>0
def sR (h:ţ b) {i:Nat} {g:è} (e:b.2.1[i]?=some g) {k:Nat} {d:Int} (a:(Ü b g)[k]?=some d):iT b g.1 d=(off b i:Int)+k+1:=by
 unfold iT;rw[WD h e a];simp only;omega
structure wO (b:ø) (p:Int->Int) (g:è):Prop where
 hi:p (iT b g.1 g.2.1)<=p 0+(g.2.2.1+g.2.2.2.1.2)
 lo:p 0+(g.2.2.1+g.2.2.2.1.1)<=p (iT b g.1 g.2.1)
 down:∀d e,d∈Ü b g->e∈Ü b g->d<=e->p (iT b g.1 e)<=p (iT b g.1 d)
 loss:∀d e,d∈Ü b g->e∈Ü b g->d<=e->p (iT b g.1 d)<=p (iT b g.1 e)+jH b g d e
def Iy (h:ţ b) {i:Nat} {g:è} (j:b.2.1[i]?=some g) {p:Int->Int}:(∀l∈ö b g,p l.2.1<=p l.1+l.2.2)↔wO b p g:=by
 have B:=dk j;obtain⟨O,z⟩:=RB h B
 have h0:iT b g.1 g.2.1=(off b i:Int)+1:=by
  have:=sR h j (k:=0) (d:=g.2.1) (by rw[z]; rfl);rw[this];omega
 constructor
 ·intro q;have M:=q _ ((ľ h j).2 (.inl rfl));have K:=q _ ((ľ h j).2 (.inr (.inl rfl)));simp only at M K
  have step:∀(k:Nat) (d e:Int),(Ü b g)[k]?=some d->(Ü b g)[k+1]?=some e->p (iT b g.1 e)<=p (iT b g.1 d)/\p (iT b g.1 d)<=p (iT b g.1 e)+jH b g d e:=by
   intro k d e hd a;have r:=q _ ((ľ h j).2 (.inr (.inr ⟨k,d,e,hd,a,.inl rfl⟩)));have o:=q _ ((ľ h j).2 (.inr (.inr ⟨k,d,e,hd,a,.inr rfl⟩)));simp only at r o;rw[sR h j hd,sR h j a]
   have v:(off b i:Int)+((k+1:Nat):Int)+1=(off b i:Int)+k+2:=by omega
   rw[v];exact⟨by omega,o⟩
  have pair:∀(n k:Nat) (d e:Int),(Ü b g)[k]?=some d->(Ü b g)[k+n]?=some e->p (iT b g.1 e)<=p (iT b g.1 d)/\p (iT b g.1 d)<=p (iT b g.1 e)+jH b g d e:=by
   intro n
   induction n with
   |zero =>
    intro k d e hd a;rw[gJ,hd] at a;cases a;rw[Bf g (dV _)];omega
   |succ n I =>
    intro k d e hd a;have t:=(dj.1 a).1;have s:(Ü b g)[k+n]?=some ((Ü b g)[k+n]'(by omega)):=df (by omega);obtain⟨r,o⟩:=I k d _ hd s;obtain⟨a3,y⟩:=step (k+n) _ e s a
    have H:d<=(Ü b g)[k+n]'(by omega):=by
     obtain⟨A,u⟩:=dj.1 hd;rcases fM n with rfl|P
     ·rw[<-u]; exact Int.le_of_eq (by congr 1)
     ·have:=(dP.1 (sk b g)) k (k+n) A (by omega) (by omega);rw[u] at this; omega
    have G:(Ü b g)[k+n]'(by omega)<=e:=by
     obtain⟨D,E⟩:=dj.1 a;have:=(dP.1 (sk b g)) (k+n) (k+(n+1)) (by omega) D (by omega);rw[E] at this; omega
    have:=No h g H G;omega
  have any:∀d e,d∈Ü b g->e∈Ü b g->d<=e->p (iT b g.1 e)<=p (iT b g.1 d)/\p (iT b g.1 d)<=p (iT b g.1 e)+jH b g d e:=by
   intro d e hd a f;obtain⟨k,F,rfl⟩:=dw.1 hd;obtain⟨m,s,rfl⟩:=dw.1 a
   have J:k<=m:=by
    rcases dv m k with t|C
    ·have:=(dP.1 (sk b g)) m k s F t; omega
    ·exact C
   exact pair (m-k) k _ _ (df F) (by rw[show k+(m-k)=m by omega]; exact df s)
  exact⟨by rw[h0]; omega,by rw[h0]; omega,fun d e hd a f=>(any d e hd a f).1,fun d e hd a f=>(any d e hd a f).2⟩
 ·intro x l q;rcases(ľ h j).1 q with rfl|rfl|⟨k,d,e,hd,a,rfl|rfl⟩
  ·have:=x.hi; rw[h0] at this; simp only; omega
  ·have:=x.lo; rw[h0] at this; simp only; omega
  ·have f:d<=e:=by
    obtain⟨r,o⟩:=dj.1 hd;obtain⟨a3,y⟩:=dj.1 a;have:=(dP.1 (sk b g)) k (k+1) r a3 (by omega);rw[o,y] at this; omega
   have:=x.down d e (dk hd) (dk a) f;rw[sR h j hd,sR h j a] at this
   have v:(off b i:Int)+((k+1:Nat):Int)+1=(off b i:Int)+k+2:=by omega
   rw[v] at this;simp only;omega
  ·have f:d<=e:=by
    obtain⟨r,o⟩:=dj.1 hd;obtain⟨a3,y⟩:=dj.1 a;have:=(dP.1 (sk b g)) k (k+1) r a3 (by omega);rw[o,y] at this; omega
   have:=x.loss d e (dk hd) (dk a) f;rw[sR h j hd,sR h j a] at this
   have v:(off b i:Int)+((k+1:Nat):Int)+1=(off b i:Int)+k+2:=by omega
   rw[v] at this;simp only;exact this
def ah4 (h:ţ b) {p:Int->Int}:Pot (Τ b) p↔(∀g∈b.2.1,wO b p g)/\∀c∈b.2.2.2.2.1,p (cx b c)<=p (cy b c)+(wW b c).2/\p (cy b c)+(wW b c).1<=p (cx b c):=by
 constructor
 ·intro f;refine⟨fun g j=>?_,fun c e=>?_⟩
  ·obtain⟨i,hi,rfl⟩:=dw.1 j;exact(Iy h (df hi)).1 fun l a=>f l.1 l.2.1 l.2.2 (qK.2 (.inl ⟨i,_,df hi,a⟩))
  ·have n:=f _ _ _ (qK.2 (.inr ⟨c,e,.inl rfl⟩));have o:=f _ _ _ (qK.2 (.inr ⟨c,e,.inr rfl⟩));omega
 ·rintro⟨j,e⟩ u v m a;rcases qK.1 a with⟨i,g,d,a⟩|⟨c,k,a⟩
  ·exact(Iy h d).2 (j g (dk d)) (u,v,m) a
  ·obtain⟨n,o⟩:=e c k;rcases a with a|a
   ·obtain⟨rfl,rfl,rfl⟩:u=cy b c/\v=cx b c/\m=(wW b c).2:=by simpa using a
    exact n
   ·obtain⟨rfl,rfl,rfl⟩:u=cx b c/\v=cy b c/\m = -(wW b c).1:=by simpa using a
    omega
end
def am1:BY Int->Int
 |[]=>0
 |[a]=>a
 |a::b::t=>max a (am1 (b::t))
def aat:∀{l:BY Int},l≠[]->(∀a∈l,a<=am1 l)/\am1 l∈l
 |[],h=>absurd rfl h
 |[a],_=>⟨fun x d=>by rw[dq] at d; rw[d]; exact dV _,by simp[am1]⟩
 |a::b::t,_=>by
  obtain⟨f,h2⟩:=aat (l:=b::t) (by simp);have e:am1 (a::b::t)=max a (am1 (b::t)):=rfl;rw[e];constructor
  ·intro x d;rcases dm.1 d with rfl|d
   ·omega
   ·have:=f x d; omega
  ·rcases Int.le_total a (am1 (b::t)) with h|h
   ·rw[Int.max_eq_right h]; exact dW _ h2
   ·rw[Int.max_eq_left h]; exact List.mem_cons_self
section
variable {b:ø}
def ah2 (b:ø) (f:Int->Int->Int) (z:Int) (v:Int):Int:=if v=0 then z else match (Ø b)[(v-1).toNat]? with|some n=>f n.1 n.2|none=>0
def Oa (f:Int->Int->Int) (z:Int):ah2 b f z 0=z:=by unfold ah2; rw[if_pos rfl]
def ZL (h:ţ b) (f:Int->Int->Int) (z:Int) {g:è} (n:g∈b.2.1) {d:Int} (hd:d∈Ü b g):ah2 b f z (iT b g.1 d)=f g.1 d:=by
 obtain⟨i,hi,rfl⟩:=List.mem_iff_getElem.1 n;obtain⟨k,l,rfl⟩:=List.mem_iff_getElem.1 hd;have a:=List.getElem?_eq_getElem hi;have j:=List.getElem?_eq_getElem l;rw[sR h a j];unfold ah2
 have e:((off b i:Int)+k+1-1).toNat=off b i+k:=by omega
 rw[if_neg (by omega),e,Nj a j]
def abW (b:ø) (l:BY Int) (d:Int):Int:=match l with|[]=>0|x::_=>iT b x d
def afw (l:BY Int) (d:Int):atP (Ø b) l d=abW b l d:=by
 unfold atP abW iT
 cases l<;>rfl
def ajv (c:Cmp):cx b c=abW b (Þ c.2.2.1 c.2.2.2.1) c.2.1:=afw _ _
def aju (c:Cmp):cy b c=abW b (Þ c.2.2.2.1 c.2.2.1) c.2.1:=afw _ _
def aeT (h:ţ b) {c:Cmp} (l:c∈b.2.2.2.2.1) {x:Int} (f:x∈Þ c.2.2.1 c.2.2.2.1\/x∈Þ c.2.2.2.1 c.2.2.1):∃g∈b.2.1,g.1=x/\c.2.1∈Ü b g:=by
 have d:(x∈c.2.2.1/\x∉c.2.2.2.1)\/(x∈c.2.2.2.1/\x∉c.2.2.1):=by
  rcases f with f|f
  ·exact .inl (lf.1 f)
  ·exact .inr (lf.1 f)
 have n:x∈c.2.2.1++c.2.2.2.1:=by rw[dl]; exact d.imp (·.1) (·.1)
 obtain⟨⟨g,o,_⟩,_⟩:=h.pile l n;obtain⟨j,i⟩:=iX o;refine⟨g,j,i,ż.2 (.inr (.inl ⟨c,l,?_,rfl⟩))⟩;rw[i];intro k;rw[eQ,dZ,dZ] at k;rcases d with⟨a,e⟩|⟨a,e⟩
 ·exact e (k.1 a)
 ·exact e (k.2 a)
def fill (b:ø) (p:Int->Int) (g:è) (d:Int):Int:=am1 ((Ü b g).map fun e=>if d<=e then p (iT b g.1 e) else p (iT b g.1 e)-jH b g e d)
def Rp {p:Int->Int} {g:è} (d:Int):(∀e∈Ü b g,(if d<=e then p (iT b g.1 e) else p (iT b g.1 e)-jH b g e d)<=fill b p g d)/\∃e∈Ü b g,fill b p g d=if d<=e then p (iT b g.1 e) else p (iT b g.1 e)-jH b g e d:=by
 have a:((Ü b g).map fun e=>if d<=e then p (iT b g.1 e) else p (iT b g.1 e)-jH b g e d)≠[]:=by
  intro h;have:=List.map_eq_nil_iff.1 h;have h2:=oz (b:=b) g;rw[this] at h2;cases h2
 obtain⟨j,h2⟩:=aat a;refine⟨fun e f=>j _ (dH.2 ⟨e,f,rfl⟩),?_⟩;obtain⟨e,f,i⟩:=dH.1 h2;exact⟨e,f,i.symm⟩
def ae8 (h:ţ b) {p:Int->Int} {g:è} (l:g∈b.2.1) (f:wO b p g) {d:Int} (hd:d∈Ü b g):fill b p g d=p (iT b g.1 d):=by
 obtain⟨k,e,i,h2⟩:=Rp (b:=b) (p:=p) (g:=g) d;have j:=k d hd;rw[if_pos (dV _)] at j
 have n:fill b p g d<=p (iT b g.1 d):=by
  rw[h2]
  split
  ·rename_i a;exact f.down d e hd i a
  ·rename_i a;have:=f.loss e d i hd (by omega);omega
 omega
def abB (h:ţ b) {p:Int->Int} {g:è} (a:g∈b.2.1) (C:wO b p g) {d e:Int} (h0:g.2.1<=d) (j:d<=e):fill b p g e<=fill b p g d/\fill b p g d<=fill b p g e+jH b g d e:=by
 obtain⟨z,x,n,v⟩:=Rp (b:=b) (p:=p) (g:=g) d;obtain⟨s,y,l,r⟩:=Rp (b:=b) (p:=p) (g:=g) e;have A:=(h.gaugeR a).2.2.2.2.1;have B:=FM h a (f:=d) (t:=e) (by omega);have D:=h.day a n;have o:=h.day a l;constructor
 ·have q:=z y l;rw[r]
  by_cases i:e<=y
  ·rw[if_pos i];rw[if_pos (by omega)] at q;exact q
  ·rw[if_neg i]
   by_cases k:d<=y
   ·rw[if_pos k] at q;have:=FM h a (f:=y) (t:=e) o.2.1;omega
   ·rw[if_neg k] at q;have:=No h g (f:=y) (t:=d) (u:=e) (by omega) j;omega
 ·have q:=s x n;rw[v]
  by_cases i:d<=x
  ·rw[if_pos i]
   by_cases k:e<=x
   ·rw[if_pos k] at q;omega
   ·rw[if_neg k] at q;have:=No h g (f:=d) (t:=x) (u:=e) i (by omega);have:=FM h a (f:=d) (t:=x) (by omega);omega
  ·rw[if_neg i];rw[if_neg (by omega)] at q;have:=No h g (f:=x) (t:=d) (u:=e) (by omega) j;omega
end
section
variable {b:ø} {c:Cmp}
def ag4 {a:ø} (h':ţ a) {l:BY Int} {day:Int} (f:Int->Int->Int) (z:Int) (d:∀x∈l,∃g∈a.2.1,g.1=x/\day∈Ü a g):ah2 a f z (abW a l day)=match l with|[]=>z|x::_=>f x day:=by
 unfold abW
 cases l with
 |nil=>exact Oa f z
 |cons x t =>
  obtain⟨g,e,rfl,hd⟩:=d x (by simp);exact ZL h' f z e hd
end
section
variable {L:BY Lk} {N:Nat}
def Wl.app {u v:Int} {vs:BY Int} {d:Int} (i:Wl L (fun x=>x=u) vs v d) {a:BY Int} {w e:Int} (h2:Wl L (fun x=>x=v) a w e):∃xs,Wl L (fun x=>x=u) xs w (d+e):=by
 induction h2 with
 |nil h=>subst h; exact⟨vs,by rw[gG]; exact i⟩
 |step j g f =>
  obtain⟨xs,hi⟩:=f;have:=Wl.step hi g;rw[Int.add_assoc] at this;exact⟨_,this⟩
def dst (L:BY Lk) (N:Nat) (s t:Int):Int:=gv (BF L N s) t
def ajo (h:j7 L N) (g:adQ L N) (n:kQ L N=true) {s t:Int} (a:0<=s/\s<N) (f:0<=t/\t<N):dst L N s t<=9007199254740992:=by
 have h2:=h.n60;obtain⟨p,l⟩:=(mu h.links (by omega)).1 n;obtain⟨vs,d,k,hd⟩:=g.from' s a.1 a.2;obtain⟨o,e,j,q⟩:=g.to t f.1 f.2;obtain⟨xs,i⟩:=Wl.app k j;have:=(FV h.links (by omega) l a).low t xs _ (amY.2 i);unfold dst;omega
def dst_ne (h:j7 L N) (d:adQ L N) (f:kQ L N=true) {s t:Int} (e:0<=s/\s<N) (a:0<=t/\t<N):dst L N s t≠š:=by
 have:=ajo h d f e a;unfold š;omega
def ajn (h:j7 L N) (j:adQ L N) (k:kQ L N=true) {s t:Int} (d:0<=s/\s<N) (a:0<=t/\t<N) {p:Int->Int} (e:Pot L p):p t-p s<=dst L N s t:=by
 have h2:=h.n60;obtain⟨vs,g⟩:=(FV h.links (by omega) e d).att t a.1 a.2 (dst_ne h j k d a);obtain⟨u,i,f⟩:=(amY.1 g).pot e;subst i;exact f
def ajm (h:j7 L N) (f:adQ L N) (a:kQ L N=true) {x y:Int} (e:0<=x/\x<N) (d:0<=y/\y<N) : -(dst L N x y)<=dst L N y x:=by
 have h2:=h.n60;obtain⟨p,g⟩:=(mu h.links (by omega)).1 a;have j:=ajn h f a e d g;have i:=ajn h f a d e g;omega
def dst_bd (h:j7 L N) (d:adQ L N) (f:kQ L N=true) {s t:Int} (e:0<=s/\s<N) (a:0<=t/\t<N) : -9007199254740992<=dst L N s t/\dst L N s t<=9007199254740992:=by
 have i:=ajo h d f e a;have g:=ajo h d f a e;have a3:=ajm h d f a e;omega
end
def ahP (f:Int->Int->Int) (z:Int) (l:BY Int) (d:Int):Int:=match l with|[]=>z|x::_=>f x d
def agy (f:Int->Int->Int) (z:Int) (c:Cmp):Int:=ahP f z (Þ c.2.2.1 c.2.2.2.1) c.2.1-ahP f z (Þ c.2.2.2.1 c.2.2.1) c.2.1
structure aoC (b:ø) (f:Int->Int->Int) (z:Int) (g:è):Prop where
 hi:f g.1 g.2.1<=z+(g.2.2.1+g.2.2.2.1.2)
 lo:z+(g.2.2.1+g.2.2.2.1.1)<=f g.1 g.2.1
 down:∀d e,g.2.1<=d->d<=e->f g.1 e<=f g.1 d
 loss:∀d e,g.2.1<=d->d<=e->f g.1 d<=f g.1 e+jH b g d e
structure Hist (b:ø) (f:Int->Int->Int) (z:Int):Prop where
 gauge:∀g∈b.2.1,aoC b f z g
 cmp:∀c∈b.2.2.2.2.1,(wW b c).1<=agy f z c/\agy f z c<=(wW b c).2
def ajh {b:ø} (h:ţ b) {p:Int->Int} (l:∀g∈b.2.1,wO b p g):∃f:Int->Int->Int,(∀g∈b.2.1,aoC b f (p 0) g)/\∀g∈b.2.1,∀d∈Ü b g,f g.1 d=p (iT b g.1 d):=by
 let f:Int->Int->Int:=fun id d=>match î b id with|some g=>fill b p g d|none=>0
 have i:∀g∈b.2.1,∀d,f g.1 d=fill b p g d:=fun g a d=>by
  show(match î b g.1 with|some g=>fill b p g d|none=>0)=_;rw[sa h.ids a]
 refine⟨f,fun g a=>?_,fun g a d hd=>by rw[i g a]; exact ae8 h a (l g a) hd⟩;have k:=l g a
 have n:f g.1 g.2.1=p (iT b g.1 g.2.1):=by rw[i g a]; exact ae8 h a k (oz g)
 refine⟨by rw[n]; exact k.hi,by rw[n]; exact k.lo,fun d e h0 j=>?_,fun d e h0 j=>?_⟩
 ·rw[i g a,i g a];exact(abB h a k h0 j).1
 ·rw[i g a,i g a];exact(abB h a k h0 j).2
def Zy {b:ø} {f:Int->Int->Int} {p:Int->Int} (h:∀g∈b.2.1,∀d∈Ü b g,f g.1 d=p (iT b g.1 d)) {l:BY Int} {day:Int} (i:∀x∈l,∃g∈b.2.1,g.1=x/\day∈Ü b g):p (abW b l day)=ahP f (p 0) l day:=by
 cases l with
 |nil=>rfl
 |cons x t =>
  obtain⟨g,e,rfl,a⟩:=i x (by simp);exact(h g e day a).symm
def ajr {b:ø} {f:Int->Int->Int} {p:Int->Int} (e:∀g∈b.2.1,∀d∈Ü b g,f g.1 d=p (iT b g.1 d)) {c:Cmp}
 (h:∀x,x∈Þ c.2.2.1 c.2.2.2.1\/x∈Þ c.2.2.2.1 c.2.2.1->∃g∈b.2.1,g.1=x/\c.2.1∈Ü b g):p (cx b c)-p (cy b c)=agy f (p 0) c:=by
 unfold agy;rw[ajv,aju,Zy e (fun x a=>h x (.inl a)),Zy e (fun x a=>h x (.inr a))]
def Ut {b:ø} (h:ţ b) (f:Int->Int->Int) (z:Int) {l:BY Int} {day:Int} (a:∀x∈l,∃g∈b.2.1,g.1=x/\day∈Ü b g):ah2 b f z (abW b l day)=ahP f z l day:=by
 rw[ag4 h f z a];unfold ahP
 cases l<;>rfl
def ah1 {b:ø} (h:ţ b) {f:Int->Int->Int} {z:Int} {c:Cmp} (d:∀x,x∈Þ c.2.2.1 c.2.2.2.1\/x∈Þ c.2.2.2.1 c.2.2.1->∃g∈b.2.1,g.1=x/\c.2.1∈Ü b g):ah2 b f z (cx b c)-ah2 b f z (cy b c)=agy f z c:=by
 unfold agy;rw[ajv,aju,Ut h f z (fun x a=>d x (.inl a)),Ut h f z (fun x a=>d x (.inr a))]
def af1 {b:ø} (h:ţ b) {f:Int->Int->Int} {z:Int} {g:è} (j:g∈b.2.1) (i:aoC b f z g):wO b (ah2 b f z) g:=by
 have q:∀d∈Ü b g,ah2 b f z (iT b g.1 d)=f g.1 d:=fun d hd=>ZL h f z j hd;have l:=q g.2.1 (oz g);refine⟨?_,?_,fun d e hd k a=>?_,fun d e hd k a=>?_⟩
 ·rw[l,Oa]; exact i.hi
 ·rw[l,Oa]; exact i.lo
 ·rw[q d hd,q e k]; exact i.down d e (h.day j hd).1 a
 ·rw[q d hd,q e k]; exact i.loss d e (h.day j hd).1 a
section
variable {b:ø} {c:Cmp}
def alk (h:ţ b) {p:Int->Int} (j:Pot (Τ b) p):∃f,Hist b f (p 0)/\∀g∈b.2.1,∀d∈Ü b g,f g.1 d=p (iT b g.1 d):=by
 obtain⟨k,n⟩:=(ah4 h).1 j;obtain⟨f,l,e⟩:=ajh h k;refine⟨f,⟨l,fun c a=>?_⟩,e⟩;have:=ajr e (c:=c) (fun x i=>aeT h a i);have:=n c a;omega
def alN (h:ţ b) {f:Int->Int->Int} {z:Int} (a:Hist b f z):Pot (Τ b) (ah2 b f z):=by
 refine(ah4 h).2 ⟨fun g d=>af1 h d (a.gauge g d),fun c e=>?_⟩;have:=ah1 (f:=f) (z:=z) h (c:=c) (fun x i=>aeT h e i);have:=a.cmp c e;omega
def aal (h:ţ b):kQ (Τ b) ((Ø b).length+1)=true↔∃f z,Hist b f z:=by
 have:=h.sys.n60;rw[mu h.sys.links (by omega)];constructor
 ·rintro⟨p,a⟩;obtain⟨f,e,_⟩:=alk h a;exact⟨f,_,e⟩
 ·rintro⟨f,z,d⟩;exact⟨_,alN h d⟩
end
def alU {m:Ŋ} (h:ţ m.1) (p:Cmp->Bool):(aoa m p).1=less m.1 ((m.1.2.2.2.2.1.filter fun c=>!p c).map fun c=>c.1):=by
 unfold aoa less;dsimp only;congr 5;refine List.filter_congr fun c k=>?_;rw[Bool.eq_iff_iff,Bool.not_eq_true',Bool.eq_false_iff,ne_eq,List.contains_iff_mem,List.mem_map];constructor
 ·rintro d ⟨c',f,e⟩;obtain⟨n,h2⟩:=d8.1 f
  have:c'=c:=by
   obtain⟨i,hi,rfl⟩:=dw.1 n;obtain⟨j,g,rfl⟩:=dw.1 k;have hd:=dP.1 h.distinct;rcases Nat.lt_trichotomy i j with a|a|a
   ·exact absurd e (hd i j hi g a)
   ·subst a; rfl
   ·exact absurd e.symm (hd j i g hi a)
  rw[this,d] at h2;cases h2
 ·intro l
  cases d:p c with
  |true=>rfl
  |false=>exact absurd ⟨c,d8.2 ⟨k,by simp[d]⟩,rfl⟩ l
def MOk.few {m:Ŋ} (h:MOk m) (p:Cmp->Bool):MOk (aoa m p):=by
 refine⟨?_,h.n4,h.mixE,h.prod⟩;rw[alU h.good];exact h.good.less _
section
variable {m:Ŋ} {ρ:Type}
def T8 (h:MOk m) (ids:BY Int):ą (vw m ids)=some (LW (vw m ids)):=uC (h.few _)
def Bj (b:ø) (id d:Int):Int:=if !C6 d then 1 else if (î b id).isNone then 5 else 0
def Yl (o:m.1.2.1.length<=1000) (id d:Int):wz m id d=some (Bj m.1 id d):=by
 unfold wz OU Bj
 by_cases h:C6 d=true
 ·have h':=h;simp only[C6,inP,dg,decide_eq_true_eq] at h';rw[h,Í (by simp[ilt]; omega),Í (by simp[igt]; omega),if_neg (by simp)];refine ej (ē m.1.2.1 (fun g=>g.1==id) (fun z=>ifb (!(ige z (0:Int))) (some 5) (some 0)) (some 0) (some 5) (fun j=>Í (by simp[ige]) _ _) (fun i a hi ha k=>?_) (fun k=>?_)) ?_
  ·try dsimp only
   unfold ti;rw[Ì hi,Ä ha,Ê hi (by omega),ô]
  ·try dsimp only
   unfold ti;rw[Ó]
  ·unfold î
   cases f:m.1.2.1.find? (fun g=>g.1==id) with
   |none =>
    rw[if_neg]
    ·rfl
    rw[dD];rintro⟨g,n,e⟩;exact absurd e (by simpa using(eD.1 f) g n)
   |some g =>
    rw[if_pos]
    ·rfl
    have l:=fS f;exact dD.2 ⟨g,fP f,l⟩
 ·have h':=h;simp only[C6,inP,dg,decide_eq_true_eq,not_and,Int.not_le] at h';rw[if_pos (by simp[h])];rw[ô,ô];simp only[ilt,igt,decide_eq_true_eq]
  split
  ·rfl
  ·rw[if_pos (by have:=h' (by omega); omega)]
def RY (label:Int) (c:Cmp):Bool:=(Þ c.2.2.1 c.2.2.2.1).contains label||(Þ c.2.2.2.1 c.2.2.1).contains label
def K7 (m:Ŋ) (label:Int):Bool×Int:=if ĭ m≠0 then(false,ĭ m) else if Bj m.1 label 0≠0 then(false,Bj m.1 label 0) else(!m8 (aoa m (RY label)),0)
def ab5 (r:In m.1) (M:m.2.length<=1000) (label:Int):qu m label=some (K7 m label):=by
 unfold qu xh K7;rw[oA r M,À]
 by_cases g:ĭ m=0
 ·have h:=(œ m).1 g;have V:=h.good.nC;rw[Í (by simp[ine,g]),if_neg (by simp[g]),Yl r.size.gauges,À]
  by_cases t:Bj m.1 label 0=0
  ·rw[Í (by simp[ine,t]),if_neg (by simp[t]),ä (Ò (by omega))]
   have f:∀c∈m.1.2.2.2.2.1,qN c.2.2.1 c.2.2.2.1=some (Þ c.2.2.1 c.2.2.2.1,Þ c.2.2.2.1 c.2.2.1,0)/\(Þ c.2.2.1 c.2.2.2.1).length<=1000000/\(Þ c.2.2.2.1 c.2.2.1).length<=1000000:=fun c g=>by
    obtain⟨S,R⟩:=h.good.size.piles c g;have e:=(ű c).1 (h.good.nums g);have U:=rV c.2.2.1 c.2.2.2.1;have T:=rV c.2.2.2.1 c.2.2.1;refine⟨?_,by omega,by omega⟩;rw[akQ (by omega) (by omega),adV,e.2.2.2.2.2.1,e.2.2.2.2.2.2]; rfl
   have Q:∀l,l=m.1.2.2.2.2.1.filter (RY label)->Æ (ą ((m.1.1,m.1.2.1,m.1.2.2.1,m.1.2.2.2.1,l,m.1.2.2.2.2.2),m.2)) (fun d=>some ((!d.2),(0:Int)))=some (!m8 (aoa m (RY label)),0):=fun l O=>by
    subst O;have:=uC (h.few (RY label));unfold aoa at this ⊢;rw[this,À,yj]
   refine ej (ads (a:=m.1.2.2.2.2.1) (RY label) (K:=fun l=>Æ (ą ((m.1.1,m.1.2.1,m.1.2.2.1,m.1.2.2.2.1,l,m.1.2.2.2.2.2),m.2)) fun d=>some ((!d.2),(0:Int))) (k0:=ajs zC fun l=>Æ (ą ((m.1.1,m.1.2.1,m.1.2.2.1,m.1.2.2.2.1,l,m.1.2.2.2.2.2),m.2)) fun d=>some ((!d.2),(0:Int)))
    (kf:=fun v=>ifb (ieq v (-1:Int)) (Æ (ą m) fun n=>some ((!n.2),(0:Int))) (ck (v+(1:Int)) fun C=>Ë (fun(k:Int×Int×BY Cmp) p=>Δ label k.1 k.2.1 k.2.2 (fun B A y=>p (B,A,y)) (ajs zC fun l=>Æ (ą ((m.1.1,m.1.2.1,m.1.2.2.1,m.1.2.2.2.1,l,m.1.2.2.2.2.2),m.2)) fun d=>some ((!d.2),(0:Int)))) (v,C,m.1.2.2.2.2.1)))
    (F:=fun a b c o=>Δ label a b c o (ajs zC fun l=>Æ (ą ((m.1.1,m.1.2.1,m.1.2.2.1,m.1.2.2.2.1,l,m.1.2.2.2.2.2),m.2)) fun d=>some ((!d.2),(0:Int)))) (kend:=Æ (ą m) fun n=>some ((!n.2),(0:Int))) (fun i x hi q o=>?_) (fun o=>?_) rfl (fun z J=>?_) (fun i j s x r P u q D o=>?_) (fun i s o hi r=>?_) (fun i s hi=>adt _ _ hi)) (Q _ rfl)
   ·try dsimp only
    unfold lJ;obtain⟨I,H,G⟩:=f x (List.mem_of_getElem? q);rw[Ì hi,ś hi,Ă q,I,À,ŝ H,À,ŝ G,À];unfold RY
    cases(Þ x.2.2.1 x.2.2.2.1).contains label<;>cases(Þ x.2.2.2.1 x.2.2.1).contains label<;>simp only[ku,æ,dU,fK,Bool.or_true,Bool.or_false,if_true,dA,if_false]<;>first|rfl|rw[Ê hi (by omega)]
   ·try dsimp only
    unfold lJ;rw[Ó]
   ·rw[Í (by simp[ieq]),Ê J (by omega)]
   ·try dsimp only
    unfold Δ;obtain⟨I,H,G⟩:=f x D;have E:s[i]?=some s[i]:=List.getElem?_eq_getElem (by omega);rw[Ì u,show í s=((s.length:Nat):Int) from rfl,ś u,Ă q,I,À,ŝ H,À,ŝ G,À];unfold RY
    cases(Þ x.2.2.1 x.2.2.2.1).contains label<;>cases(Þ x.2.2.2.1 x.2.2.1).contains label<;>simp only[ku,æ,dU,fK,Bool.or_true,Bool.or_false,if_true,dA,if_false]<;>first|rw[Ê u (by omega)]|rw[ś (by omega),Ă E,Ê (show i<s.length by omega) (by omega),Ê u (by omega),dt]
   ·try dsimp only
    unfold Δ;rw[Ó]
  ·rw[Ñ (by simp[ine,t]),if_pos t]
 ·rw[Ñ (by simp[ine,g]),if_pos g]
def adj (m:Ŋ):BY Int:=m.1.2.2.2.2.1.map fun c=>c.1
def ajz (m:Ŋ):Nat->BY Int->BY Int
 |0,l=>l
 |i+1,l=>ajz m i (if m8 (vw m (l.take i++l.drop (i+1))) then l else l.take i++l.drop (i+1))
def aoE (m:Ŋ):BY Int×Int:=if ĭ m≠0 then([],ĭ m) else if m8 m then([],5) else(ajz m (adj m).length (adj m),0)
def aoD (y:In m.1) (z:m.2.length<=1000):Nx m=some (aoE m):=by
 unfold Nx WY aoE;rw[oA y z,À]
 by_cases j:ĭ m=0
 ·have h:=(œ m).1 j;have E:=h.good.nC;have A:((((m.1.1.1,m.1.1.2),m.1.2.1,m.1.2.2.1,m.1.2.2.2.1,m.1.2.2.2.2.1,m.1.2.2.2.2.2),m.2):Ŋ)=m:=rfl;rw[Í (by simp[ine,j]),if_neg (by simp[j]),uC h,À,yj]
  cases m8 m with
  |true=>rfl
  |false =>
   simp only[æ,dA,if_false]
   have D:(adj m).length=m.1.2.2.2.2.1.length:=by unfold adj; simp
   refine ej (ou m.1.2.2.2.2.1 (fun c=>c.1) (fun r=>ck ((Õ r)-(1:Int)) fun n6=>Ë (fun(e:BY Int×Int) f=>ri m.1.1.1 m.1.1.2 m.1.2.1 m.1.2.2.1 m.1.2.2.2.1 m.1.2.2.2.2.1 m.1.2.2.2.2.2 m.2 e.1 e.2 (fun o n=>f (o,n)) (fun k=>some (k,(0:Int)))) (r,n6)) (fun i a hi ha v p C=>?_) (fun v p=>?_)) ?_
   ·try dsimp only
    unfold xi;rw[Ì hi,Ä ha,ä (Ò (by simp; omega)),Ê hi (by omega)]
   ·try dsimp only
    unfold xi;rw[Ó]
   ·show(ck ((Õ (adj m))-(1:Int)) fun n6=>Ë _ (adj m,n6))=_;rw[Î,Ï (by omega) (by omega)];refine ð (fun x:BY Int×Int=>∃i:Nat,x.2=(i:Int)-1/\i<=x.1.length/\x.1.length<=40/\ajz m i x.1=ajz m (adj m).length (adj m)) (fun x=>(x.2+1).toNat) ?_ ⟨_,rfl,Nat.le_refl _,by dsimp only; omega,rfl⟩;rintro⟨l,B⟩ ⟨i,t,q,g,d⟩;simp only at t q g d;subst t
    cases i with
    |zero =>
     refine .inl fun p=>?_
     try dsimp only
     unfold ri;rw[Í (by simp[ige]),<-d]; rfl
    |succ i =>
     have u:((i+1:Nat):Int)-1=i:=by omega
     have s:(l.take i++l.drop (i+1)).length=l.length-1:=by simp; omega
     rw[ajz] at d;refine .inr ⟨(if m8 (vw m (l.take i++l.drop (i+1))) then l else l.take i++l.drop (i+1),(i:Int)-1),⟨i,rfl,?_,?_,d⟩,by simp only[u]; omega,fun p=>?_⟩
     ·dsimp only; split<;>omega
     ·dsimp only; split<;>omega
     ·try dsimp only
      unfold ri;rw[u,Ñ (by simp[ige]),ä (by simp[ile,í]; omega),Ï (by omega) (by omega),ä (by simp[ile,í]; omega),Int.toNat_natCast,show Int.toNat ((i:Int)+1)=i+1 by omega,Sj (by simp; omega) (by simp; omega),À,A,acF (by omega) (by omega),À,T8 h,À,yj,ô,Ï (by omega) (by omega),Ï (by omega) (by omega)]
      cases m8 (vw m (l.take i++l.drop (i+1)))<;>rfl
 ·rw[Ñ (by simp[ine,j]),if_pos j]
end
def Ē:BY Int->Nat->BY Int
 |[],_=>[]
 |x::l,s=>if s % 2=1 then x::Ē l (s / 2) else Ē l (s / 2)
def RG:∀{l:BY Int} {s i:Nat} {x:Int},l[i]?=some x->Ē (l.take (i+1)) s=Ē (l.take i) s++if s / 2 ^ i % 2=1 then[x] else[]
 |[],_,_,_,h=>by simp at h
 |y::l,s,0,x,h=>by
  simp at h; subst h;simp[Ē]
 |y::l,s,i+1,x,h=>by
  simp only[fB] at h;have:=RG (s:=s / 2) h;simp only[gz,Ē,this,Nat.pow_succ',<-Nat.div_div_eq_div_mul]
  split<;>rfl
def qQ:∀(l:BY Int) (s:Nat),(Ē l s).length<=l.length
 |[],_=>dh _
 |x::l,s=>by
  have:=qQ l (s / 2);unfold Ē
  split<;>simp only[dr]<;>omega
def bit_i {s i:Nat} (e:s<9223372036854775808) (hi:i<=60):ieq (andI .i64 (i5 .i64 (s:Int) (i:Int)) (1:Int)) (1:Int)=decide (s / 2 ^ i % 2=1):=by
 have d:i5 .i64 (s:Int) (i:Int)=((s / 2 ^ i:Nat):Int):=by
  unfold i5;have:IntKind.i64.bits=64:=rfl;rw[this,Int.toNat_natCast,Nat.min_eq_left (by omega),Int.fdiv_eq_ediv_of_nonneg _ (Int.le_of_lt (Int.pow_pos (by decide)))];push_cast; rfl
 rw[d];unfold andI akW
 have hb:(BitVec.ofInt 64 ((s / 2 ^ i:Nat):Int) &&& BitVec.ofInt 64 1).toNat=s / 2 ^ i % 2:=by
  rw[BitVec.toNat_and,gO,show BitVec.ofInt 64 1=1#64 from rfl,BitVec.toNat_ofNat];rw[show(1#64).toNat=1 from rfl,Nat.and_one_is_mod,Nat.mod_mod_of_dvd _ (by decide)]
 show ieq (IntKind.i64.wrap ((BitVec.ofInt 64 ((s / 2 ^ i:Nat):Int) &&& BitVec.ofInt 64 1).toNat:Int)) 1=_;have a:s / 2 ^ i % 2<2:=Nat.mod_lt _ (by decide);rw[hb];generalize s / 2 ^ i % 2=q at a;rw[aho (by omega)];unfold ieq;rw[Bool.eq_iff_iff,beq_iff_eq,decide_eq_true_eq];omega
def anz (s x:Nat):Bool:=s &&& x==s
def sub_i {s x:Nat} (d:s<9223372036854775808) (f:x<9223372036854775808):ieq (K6 .i64 (s:Int) (x:Int)) (0:Int)=anz s x:=by
 unfold K6 akW;show ieq (IntKind.i64.wrap ((BitVec.ofInt 64 (s:Int) &&& ~~~ BitVec.ofInt 64 (x:Int)).toNat:Int)) 0=_
 have e:(BitVec.ofInt 64 (s:Int) &&& ~~~ BitVec.ofInt 64 (x:Int)).toNat<9223372036854775808:=by
  rw[BitVec.toNat_and];refine Nat.lt_of_le_of_lt Nat.and_le_left ?_;rw[gO,BitVec.toNat_ofNat,Nat.mod_eq_of_lt (by omega)]; exact d
 rw[aho e];unfold ieq anz;rw[Bool.eq_iff_iff,beq_iff_eq,beq_iff_eq]
 have h2:(((BitVec.ofInt 64 (s:Int) &&& ~~~ BitVec.ofInt 64 (x:Int)).toNat:Nat):Int)=0↔∀i,i<64->s.testBit i=true->x.testBit i=true:=by
  rw[Int.natCast_eq_zero,<-BitVec.toNat_zero (w:=64),BitVec.toNat_inj];constructor
  ·intro h i hi a;have:=congrArg (fun b:BitVec 64=>b.getLsbD i) h;simp only[BitVec.getLsbD_and,BitVec.getLsbD_not,gO,BitVec.getLsbD_ofNat,BitVec.getLsbD_zero,hi,decide_true,eR,a] at this;simpa using this
  ·intro h;apply BitVec.eq_of_getLsbD_eq;intro i hi;simp only[BitVec.getLsbD_and,BitVec.getLsbD_not,gO,BitVec.getLsbD_ofNat,BitVec.getLsbD_zero,hi,decide_true,eR]
   cases a:s.testBit i with
   |false=>simp
   |true=>rw[h i hi a]; simp
 rw[h2];constructor
 ·intro h;refine Nat.eq_of_testBit_eq fun i=>?_;rw[Nat.testBit_and]
  cases a:s.testBit i with
  |false=>rfl
  |true =>
   rcases dv i 64 with hi|hi
   ·rw[h i hi a]; rfl
   ·have:s<2 ^ i:=dC d (dE (by decide) (Nat.pow_le_pow_right (by decide) hi));rw[Nat.testBit_lt_two_pow this] at a; cases a
 ·intro h i _ a;rw[<-h,Nat.testBit_and,dg] at a;exact a.2
def ahg:BY Int->BY Int->Int
 |[],[]=>0
 |[],_=>-1
 |_,[]=>1
 |x::l,y::m=>if x<y then -1 else if y<x then 1 else ahg l m
def L7 (m:Ŋ) (ids:BY Int) (st:BY Int×Nat×BY Nat) (s:Nat):BY Int×Nat×BY Nat :=
 if st.1.length<(Ē ids s).length\/((Ē ids s).length=st.1.length/\0<=ahg (Ē ids s) st.1) then st else
 if st.2.2.any (anz s) then st else if m8 (vw m (Ē ids s)) then(st.1,st.2.1,st.2.2++[s]) else(Ē ids s,s,st.2.2)
def L8 (m:Ŋ) (ids:BY Int) (n:Nat):BY Int×Nat×BY Nat:=(List.range n).foldl (L7 m ids) (ids,2 ^ ids.length-1,[])
def akx (m:Ŋ) (ids:BY Int):BY Int×Int :=
 if ĭ m≠0 then([],ĭ m) else if 8<ids.length then([],2) else if !ids.all (fun i=>(adj m).contains i) then([],5) else if ¬ids.Pairwise (·<·) then([],6) else
 if m8 (vw m (Ē ids (2 ^ ids.length-1))) then([],5) else(Ē ids (L8 m ids (2 ^ ids.length-1)).2.1,0)
section
variable {m:Ŋ} {ρ:Type}
def I6 {l:BY Int} (g:l.length<=60) {s:Nat} (e:s<9223372036854775808):jw l (s:Int)=some (Ē l s):=by
 unfold jw JO;refine ï l (fun i=>Ē (l.take i) s) _ rfl (fun i x hi a d=>?_) (fun d=>?_)
 ·try dsimp only
  unfold pZ;have f:=qQ (l.take i) s
  have:(l.take i).length=i:=by rw[du]; omega
  rw[Ì hi,Ä a,ä (by simp[ile]),bit_i e (by omega),ô,RG a]
  by_cases h:s / 2 ^ i % 2=1
  ·rw[if_pos (by simpa using h),if_pos h,ä (Ò (by simp; omega)),Ê hi (by omega)]
  ·rw[if_neg (by simpa using h),if_neg h,Ê hi (by omega),dB]
 ·try dsimp only
  unfold pZ;rw[Ó,List.take_length]
def ald (o:m.1.2.2.2.2.1.length<=1000) {ids:BY Int} (hi:ids.length<=1000) (K:Int->BE ρ) (Z:BE ρ):Ë (fun(v:Int) g=>iE ids (Õ ids) m.1.2.2.2.2.1 v (fun u=>g u) K (fun _=>Z)) 0=if ids.all (fun i=>(adj m).contains i) then Z else K 5:=by
 have:=ē ids (fun i=>!(adj m).contains i) (fun _=>K 5) (K 5) Z (f:=fun v g=>iE ids (Õ ids) m.1.2.2.2.2.1 v (fun u=>g u) K (fun _=>Z)) (fun _=>rfl) (fun i x a l e=>?_) (fun e=>?_)
 ·rw[this,List.all_eq_not_any_not]
  cases ids.any (fun i=>!(adj m).contains i)<;>rfl
 ·try dsimp only
  unfold iE;rw[Ì a,Ä l];refine Eq.trans (ē m.1.2.2.2.2.1 (fun c=>c.1==x) (fun k=>ifb (!(ige k (0:Int))) (K (5:Int)) (ck ((i:Int)+(1:Int)) fun n6=>e n6)) (e ((i:Int)+1)) (K 5) (fun j=>by rw[Í (by simp[ige]),Ê a (by omega)]) (fun j c h n d=>?_) (fun d=>?_)) ?_
  ·try dsimp only
   unfold mE;rw[Ì h,Ä n,Ê h (by omega),ô]
  ·try dsimp only
   unfold mE;rw[Ó]
  ·have:(adj m).contains x=m.1.2.2.2.2.1.any fun c=>c.1==x:=by
    unfold adj;rw[Bool.eq_iff_iff,List.contains_iff_mem,List.mem_map,List.any_eq_true];simp
   rw[this]
   cases m.1.2.2.2.2.1.any (fun c=>c.1==x)<;>rfl
 ·try dsimp only
  unfold iE;rw[Ó]
def alc {l:BY Int} (j:l.length<=1000) (k0:Int->BE ρ) (k1:Unit->BE ρ):Ë (fun(v:Int) g=>jL l v (fun u=>g u) k0 k1) 1=if l.Pairwise (·<·) then k1 () else k0 6:=by
 refine Yg (fun i a c ha d f=>?_) (fun n h f=>?_)
 ·have hi:=(List.getElem?_eq_some_iff.1 d).1;unfold jL
  have e:((i:Int)+1)=((i+1:Nat):Int):=by omega
  rw[e,Ì hi,Ä d,Ï (by omega) (by omega),<-e,Int.add_sub_cancel,Ä ha,ô,Ï (by omega) (by omega)];simp
 ·unfold jL;rw[Í (by simp[ilt,Î]; omega)]
def I1 (h:MOk m) (ids:BY Int) {w:Way} (a:Į m.2 w):ŭ (vw m ids) w=some (lX (vw m ids) w):=sj (h.few _) a
def alb (h:MOk m) {ids:BY Int} (hi:ids.length<=60) {s:Nat} (g:s<9223372036854775808) (X Z:BE ρ):Ë (fun(v:Int) f=>jK (Ł m.2) (Õ (Ł m.2)) m.1.1.1 m.1.1.2 m.1.2.1 m.1.2.2.1 m.1.2.2.2.1 m.1.2.2.2.2.1 m.1.2.2.2.2.2 m.2 ids (s:Int) v (fun u=>f u) (fun z=>ifb z.2 X Z) (fun _=>Z)) 0=if m8 (vw m (Ē ids s)) then X else Z:=by
 have j:((((m.1.1.1,m.1.1.2),m.1.2.1,m.1.2.2.1,m.1.2.2.2.1,m.1.2.2.2.2.1,m.1.2.2.2.2.2),m.2):Ŋ)=m:=rfl;have k:=sJ h;have l:=qQ ids s;refine ē (Ł m.2) (lX (vw m (Ē ids s))) (fun _=>X) X Z (fun _=>rfl) (fun i x a d e=>?_) (fun e=>?_)
 ·try dsimp only
  unfold jK;rw[Ì a,Ä d,I6 hi g,À,j,acF h.good.size.compares (by omega),À,I1 h _ (qS d),À,Ê a (by omega),ô,Bool.not_not];rfl
 ·try dsimp only
  unfold jK;rw[Ó]
def ak8 (h:MOk m) {ids:BY Int} (hi:ids.length<=60) {s:Nat} (n:s<9223372036854775808) {op:BY Int} (r:op.length<=1000) (k0 k1:BY Int->BE ρ):Ë (fun(v:Int×BY Int) l=>Ř (s:Int) (Ł m.2) (Õ (Ł m.2)) ids m.1.1.1 m.1.1.2 m.1.2.1 m.1.2.2.1 m.1.2.2.2.1 m.1.2.2.2.2.1 m.1.2.2.2.2.2 m.2 v.1 v.2 (fun a b=>l (a,b)) k0 k1) ((0:Int),op)=if m8 (vw m (Ē ids s)) then k0 (op++[(s:Int)]) else k1 op:=by
 have o:((((m.1.1.1,m.1.1.2),m.1.2.1,m.1.2.2.1,m.1.2.2.2.1,m.1.2.2.2.2.1,m.1.2.2.2.2.2),m.2):Ŋ)=m:=rfl;have p:=sJ h;have q:=qQ ids s;refine Ik (Ł m.2) (fun _=>op) _ (fun i=>∀w∈(Ł m.2).take i,lX (vw m (Ē ids s)) w=false) rfl (fun w d=>by simp at d) (fun i x f g j k=>?_) (fun j k=>?_)
 ·try dsimp only
  unfold Ř;rw[Ì f,Ä g,I6 hi n,À,o,acF h.good.size.compares (by omega),À,I1 h _ (qS g),À,Ê f (by omega),ä (Ò (by simp; omega)),ô,Bool.not_not]
  cases e:lX (vw m (Ē ids s)) x with
  |true =>
   refine .inl ?_;have:m8 (vw m (Ē ids s))=true:=dD.2 ⟨x,dk g,e⟩;rw[this]; rfl
  |false =>
   refine .inr ⟨fun w d=>?_,rfl⟩;rw[take_succ g] at d;rcases dl.1 d with d|d
   ·exact j w d
   ·rw[dq.1 d]; exact e
 ·rw[fI] at j
  try dsimp only
  unfold Ř
  have:m8 (vw m (Ē ids s))=false:=ee.2 fun w d=>by rw[show lX (vw m (Ē ids s)) w=false from j w d]; simp
  rw[Ó,this]; rfl
def ak9 {s:Nat} (j:s<9223372036854775808) {op:BY Nat} (k:op.length<=1000) (e:∀x∈op,x<9223372036854775808) (X Z:BE ρ):Ë (fun(v:Int) h=>ř (s:Int) (Õ (op.map fun(x:Nat)=>(x:Int))) (op.map fun(x:Nat)=>(x:Int)) v (fun u=>h u) (fun _=>X) (fun _=>Z)) 0=if op.any (anz s) then X else Z:=by
 refine ē op (anz s) (fun _=>X) X Z (fun _=>rfl) (fun i x hi f g=>?_) (fun g=>?_)
 ·try dsimp only
  unfold ř
  have d:(op.map fun(x:Nat)=>(x:Int))[i]?=some (x:Int):=by rw[fc,f]; rfl
  have a:i<(op.map fun(x:Nat)=>(x:Int)).length:=by simpa using hi
  rw[Ì a,ś a,Ă d,sub_i j (e x (dk f)),Ê hi (by omega),ô]
 ·try dsimp only
  unfold ř;rw[Î,Í (by simp[ilt])]
def an1 {l m:BY Int} (h:l.length=m.length) (d:∀(i:Nat) (x y:Int),l[i]?=some x->m[i]?=some y->x=y):ahg l m=0:=by
 induction l generalizing m with
 |nil=>cases m with|nil=>rfl|cons _ _=>cases h
 |cons x l f =>
  cases m with
  |nil=>cases h
  |cons y m =>
   have e:=d 0 x y rfl rfl;subst e;rw[ahg,if_neg (by omega),if_neg (by omega)];exact f (by simpa using h) fun i a b ha hb=>d (i+1) a b ha hb
def lex_at {l m:BY Int} {i:Nat} {x y:Int} (f:l[i]?=some x) (d:m[i]?=some y) (g:∀(j:Nat) (a b:Int),j<i->l[j]?=some a->m[j]?=some b->a=b) (k:x≠y):ahg l m=if x<y then -1 else 1:=by
 induction l generalizing m i with
 |nil=>simp at f
 |cons a l h =>
  cases m with
  |nil=>simp at d
  |cons b m =>
   cases i with
   |zero =>
    simp at f d; subst f d;rw[ahg]
    split
    ·rfl
    ·rw[if_pos (by omega)]
   |succ i =>
    have e:=g 0 a b (by omega) rfl rfl;subst e;rw[ahg,if_neg (by omega),if_neg (by omega)];exact h (by simpa using f) (by simpa using d) fun j a b n ha hb=>g (j+1) a b (by omega) ha hb
def ala {l k:BY Int} (h:k.length=l.length) (B:l.length<=1000) (X Y:BE ρ):Ë (fun(v:Int) o=>ŵ l k (Õ k) v (fun u=>o u) (fun z=>ifb (ige z (0:Int)) X Y) (fun _=>X)) 0=if 0<=ahg k l then X else Y:=by
 have:=ð (r:=if 0<=ahg k l then X else Y) (f:=fun v o=>ŵ l k (Õ k) v (fun u=>o u) (fun z=>ifb (ige z (0:Int)) X Y) (fun _=>X)) (x:=(0:Int)) (fun x=>∃i:Nat,x=i/\i<=k.length/\∀(j:Nat) (a b:Int),j<i->k[j]?=some a->l[j]?=some b->a=b) (fun x=>k.length-x.toNat) ?_ ⟨0,rfl,d9 _,fun j a b y=>by omega⟩
 ·exact this
 ·rintro x ⟨i,rfl,hi,s⟩;rcases dv i k.length with e|A
  ·have q:k[i]?=some k[i]:=df e;have p:l[i]?=some l[i]:=df (by omega)
   have t:∀g,ŵ l k (Õ k) (i:Int) g (fun z=>ifb (ige z (0:Int)) X Y) (fun _=>X)=if k[i]=l[i] then g ((i:Int)+1) else if k[i]<l[i] then Y else X:=fun g=>by
    unfold ŵ;rw[Ì e,Ä q,Í (by simp[ige,Î]; omega),Ä p,ajD,À,Ê e (by omega)]
    by_cases d:k[i]<l[i]
    ·rw[if_pos d,if_neg (by omega),if_pos d]; rfl
    ·rw[if_neg d]
     by_cases h2:l[i]<k[i]
     ·rw[if_pos h2,if_neg (by omega),if_neg d]; rfl
     ·rw[if_neg h2,if_pos (by omega)]; rfl
   by_cases n:k[i]=l[i]
   ·refine .inr ⟨(i:Int)+1,⟨i+1,by simp,e,fun j a b y ha hb=>?_⟩,by omega,fun g=>by rw[t,if_pos n]⟩;rcases dv j i with d|d
    ·exact s j a b d ha hb
    ·have:j=i:=by omega
     subst this;rw[q] at ha; rw[p] at hb;cases ha; cases hb;exact n
   ·refine .inl fun g=>?_;rw[t,if_neg n,lex_at q p s n]
    by_cases d:k[i]<l[i]
    ·rw[if_pos d,if_pos d]; rfl
    ·rw[if_neg d,if_neg d]; rfl
  ·refine .inl fun g=>?_
   have:i=k.length:=by omega
   subst this;unfold ŵ;rw[Ó,an1 h fun j a b ha hb=>s j a b (List.getElem?_eq_some_iff.1 ha).1 ha hb];rfl
abbrev stI (st:BY Int×Nat×BY Nat) (n:Nat):BY Int×Int×Int×BY Int:=(st.1,(st.2.1:Int),(n:Int),st.2.2.map fun(x:Nat)=>(x:Int))
def afS (h:MOk m) {ids:BY Int} (hi:ids.length<=8) {n N:Nat} (H:n<N) (I:N<=256) {st:BY Int×Nat×BY Nat} (J:st.1.length<=8) (G:st.2.2.length<=n) (C:∀x∈st.2.2,x<n) (i:BY Int->Int->Int->BY Int->BE ρ) (k0:Int×BY Int->BE ρ) :
 Ŷ (Ł m.2) (N:Int) ids m.1.1.1 m.1.1.2 m.1.2.1 m.1.2.2.1 m.1.2.2.2.1 m.1.2.2.2.2.1 m.1.2.2.2.2.2 m.2 (stI st n).1 (stI st n).2.1 (stI st n).2.2.1 (stI st n).2.2.2 i k0=i (stI (L7 m ids st n) (n+1)).1 (stI (L7 m ids st n) (n+1)).2.1 (stI (L7 m ids st n) (n+1)).2.2.1 (stI (L7 m ids st n) (n+1)).2.2.2:=by
 have F:=qQ ids n;dsimp only;unfold Ŷ
 have o:∀x∈st.2.2,x<9223372036854775808:=fun x E=>by have:=C x E; omega
 have D:(st.2.2.map fun(x:Nat)=>(x:Int)).length<=1000:=by rw[dL]; omega
 have p:∀f:Int->BE ρ,ck ((n:Int)+(1:Int)) f=f ((n+1:Nat):Int):=fun f=>by rw[Ï (by omega) (by omega)]; simp
 rw[Ñ (by simp[ilt]; omega),I6 (by omega) (by omega),À];unfold L7
 by_cases e:st.1.length<(Ē ids n).length
 ·rw[Ñ (by simp[igt,Î]; omega),if_pos (.inl e),p]
 ·rw[Í (by simp[igt,Î]; omega)]
  have d:∀K K2:BE ρ,Ë (fun(t:Int) k=>ř (n:Int) (Õ (st.2.2.map fun(x:Nat)=>(x:Int))) (st.2.2.map fun(x:Nat)=>(x:Int)) t (fun u=>k u) (fun _=>ck ((n:Int)+(1:Int)) fun B=>i st.1 (st.2.1:Int) B (st.2.2.map fun(x:Nat)=>(x:Int))) (fun _=>Ë (fun(j:Int×BY Int) l=>Ř (n:Int) (Ł m.2) (Õ (Ł m.2)) ids m.1.1.1 m.1.1.2 m.1.2.1 m.1.2.2.1 m.1.2.2.2.1 m.1.2.2.2.2.1 m.1.2.2.2.2.2 m.2 j.1 j.2 (fun y v=>l (y,v)) (fun s=>ck ((n:Int)+(1:Int)) fun A=>i st.1 (st.2.1:Int) A s) (fun r=>ck ((n:Int)+(1:Int)) fun z=>i (Ē ids n) (n:Int) z r)) ((0:Int),st.2.2.map fun(x:Nat)=>(x:Int)))) (0:Int) =
   (fun q=>i (stI q (n+1)).1 (stI q (n+1)).2.1 (stI q (n+1)).2.2.1 (stI q (n+1)).2.2.2) (if st.2.2.any (anz n) then st else if m8 (vw m (Ē ids n)) then(st.1,st.2.1,st.2.2++[n]) else(Ē ids n,n,st.2.2)):=fun _ _=>by
   rw[ak8 h (by omega) (by omega) D,ak9 (by omega) (by omega) o,p,p,p]
   cases st.2.2.any (anz n) with
   |true=>rfl
   |false =>
    cases m8 (vw m (Ē ids n)) with
    |true=>simp
    |false=>rfl
  by_cases g:(Ē ids n).length=st.1.length
  ·rw[Ñ (by simp[ieq,Î]; omega),d none none,Í (show ilt (Õ (Ē ids n)) (Õ st.1)=false by simp[ilt,Î]; omega),ala g (by omega),p]
   by_cases a:0<=ahg (Ē ids n) st.1
   ·rw[if_pos a,if_pos (.inr ⟨g,a⟩)]
   ·rw[if_neg a,if_neg (show ¬(st.1.length<(Ē ids n).length\/((Ē ids n).length=st.1.length/\0<=ahg (Ē ids n) st.1)) from fun h=>h.elim e fun h=>a h.2)]
  ·rw[Í (by simp[ieq,Î]; omega),d none none,if_neg (show ¬(st.1.length<(Ē ids n).length\/((Ē ids n).length=st.1.length/\0<=ahg (Ē ids n) st.1)) from fun h=>h.elim e fun h=>g h.1)]
def ak4 {ids:BY Int} {n:Nat} {st:BY Int×Nat×BY Nat} (hi:ids.length<=8) (e:st.1.length<=8) (h2:st.2.2.length<=n) (d:∀x∈st.2.2,x<n):(L7 m ids st n).1.length<=8/\(L7 m ids st n).2.2.length<=n+1/\∀x∈(L7 m ids st n).2.2,x<n+1:=by
 have f:=qQ ids n;unfold L7
 split
 ·exact⟨e,by omega,fun x a=>by have:=d x a; omega⟩
 split
 ·exact⟨e,by omega,fun x a=>by have:=d x a; omega⟩
 split
 ·refine⟨e,by simp; omega,fun x a=>?_⟩;rcases dl.1 a with a|a
  ·have:=d x a; omega
  ·rw[dq.1 a]; omega
 ·exact⟨by dsimp only; omega,by dsimp only; omega,fun x a=>by have:=d x a; omega⟩
def aee {ids:BY Int} (hi:ids.length<=8):∀n,(L8 m ids n).1.length<=8/\(L8 m ids n).2.2.length<=n/\∀x∈(L8 m ids n).2.2,x<n
 |0=>⟨hi,dh _,fun x a=>by cases a⟩
 |n+1=>by
  obtain⟨e,h2,d⟩:=aee hi n;have:=ak4 (m:=m) hi e h2 d;unfold L8 at this ⊢;rw[List.range_succ,List.foldl_append];exact this
def pow8 {n:Nat} (h:n<=8):1<=2 ^ n/\2 ^ n<=256:=⟨Nat.one_le_pow _ _ (by decide),Nat.pow_le_pow_right (by decide) h⟩
def ae6 {ids:BY Int} (hi:ids.length<=8):∀n,n<=256->(L8 m ids n).2.1<=256
 |0,_=>by have:=(pow8 hi).2; show 2 ^ ids.length-1<=256; omega
 |n+1,d=>by
  have a:=ae6 hi n (by omega);unfold L8 at a ⊢;rw[List.range_succ,List.foldl_append];show(L7 m ids _ n).2.1<=256;unfold L7
  split
  ·exact a
  split
  ·exact a
  split
  ·exact a
  ·dsimp only; omega
def adR (C:In m.1) (E:m.2.length<=1000) {ids:BY Int} (F:ids.length<=1000000):uz m ids=some (akx m ids):=by
 unfold uz Ae akx;rw[oA C E,À]
 by_cases l:ĭ m=0
 ·have h:=(œ m).1 l;rw[Í (by simp[ine,l]),if_neg (by simp[l])]
  by_cases y:8<ids.length
  ·rw[Ñ (by simp[igt,Î]; omega),if_pos y]
  ·have hi:ids.length<=8:=by omega
   obtain⟨K,J⟩:=pow8 hi;rw[Í (by simp[igt,Î]; omega),if_neg y,ald h.good.size.compares (by omega)]
   cases ids.all (fun i=>(adj m).contains i) with
   |false=>rfl
   |true =>
    rw[if_pos rfl,if_neg (by simp),alc (by omega)]
    by_cases o:ids.Pairwise (·<·)
    ·have u:shlI .i64 (1:Int) (Õ ids)=((2 ^ ids.length:Nat):Int):=by
      unfold shlI;rw[Î,Int.toNat_natCast,Nat.min_eq_left (by show ids.length<=64; omega),Int.one_mul,show((2:Int) ^ ids.length)=((2 ^ ids.length:Nat):Int) by simp,aho (by omega)]
     have I:((2 ^ ids.length:Nat):Int)-1=((2 ^ ids.length-1:Nat):Int):=by omega
     rw[if_pos o,if_neg (by simpa using o),NR h,À,ä (by simp[ile,Î]),u,Ï (by omega) (by omega),I]
     have loop:Ë (fun(e:BY Int×Int×Int×BY Int) j=>Ŷ (Ł m.2) ((2 ^ ids.length-1:Nat):Int) ids m.1.1.1 m.1.1.2 m.1.2.1 m.1.2.2.1 m.1.2.2.2.1 m.1.2.2.2.2.1 m.1.2.2.2.2.2 m.2 e.1 e.2.1 e.2.2.1 e.2.2.2 (fun t r q p=>j (t,r,q,p)) (fun f=>Æ (jw ids f.1) fun g=>some (g,(0:Int)))) (ids,((2 ^ ids.length-1:Nat):Int),(0:Int),[])=some (Ē ids (L8 m ids (2 ^ ids.length-1)).2.1,0):=by
      refine ð (fun x=>∃n:Nat,n<=2 ^ ids.length-1/\x=stI (L8 m ids n) n) (fun x=>2 ^ ids.length-1-x.2.2.1.toNat) ?_ ⟨0,d9 _,rfl⟩;rintro x ⟨n,D,rfl⟩;obtain⟨B,A,z⟩:=aee (m:=m) hi n;rcases dv n (2 ^ ids.length-1) with k|G
      ·refine .inr ⟨stI (L8 m ids (n+1)) (n+1),⟨n+1,k,rfl⟩,by dsimp only; omega,fun v=>?_⟩;have:=afS h hi k (by omega) B A z (fun a b c d=>v (a,b,c,d)) (fun f=>Æ (jw ids f.1) fun g=>some (g,(0:Int)));rw[this];unfold L8;rw[List.range_succ,List.foldl_append]; rfl
      ·have:n=2 ^ ids.length-1:=by omega
       subst this;refine .inl fun v=>?_;have M:=ae6 (m:=m) hi (2 ^ ids.length-1) (by omega);dsimp only;unfold Ŷ;rw[Í (by simp[ilt])];dsimp only;rw[I6 (by omega) (by omega)]; rfl
     have H:=alb h (ids:=ids) (by omega) (s:=2 ^ ids.length-1) (by omega) (some ([],(5:Int))) (some (Ē ids (L8 m ids (2 ^ ids.length-1)).2.1,0));rw[loop,H]
     split<;>rfl
    ·rw[if_neg o,if_pos o]
 ·rw[Ñ (by simp[ine,l]),if_pos l]
end
def Vw (b:ø) (x d:Int):Int:=match i8 (Ø b) x d with|some j=>(j:Int)+1|none=>0
def Sh (b:ø) (n:Int×Int):Int×Int:=if ş b≠0 then(0,ş b) else if Vw b n.1 n.2=0 then(0,5) else(Vw b n.1 n.2,0)
def Si {b:ø} (h:In b) (n:Int×Int):si b n=some (Sh b n):=by
 have e:=JD h.size;unfold si QU Sh;rw[CI h.size h.num,À]
 by_cases a:ş b=0
 ·rw[Í (by simp[ine,a]),if_neg (show ¬(ş b≠0) from fun h=>h a),WB h.size,À,show ù (Ø b) n=ù (Ø b) (n.1,n.2) from rfl,acb (by omega),À];unfold Vw
  cases d:i8 (Ø b) n.1 n.2 with
  |none=>rfl
  |some j =>
   have:=(l6 d).1;simp only;rw[Í (by simp[ilt]),Ï (by omega) (by omega),if_neg (by omega)]
 ·rw[Ñ (by simp[ine,a]),if_pos a]
def uU (b:ø) (n:Int×Int):ø:=(b.1,b.2.1,b.2.2.1,b.2.2.2.1,b.2.2.2.2.1,b.2.2.2.2.2++[n])
def aiI {b:ø} (h:ţ b) (n:Int×Int):jp (uU b n):=by
 have a:=h.size;have:=h.nK;exact⟨a.gauges,a.uses,a.loans,a.compares,by simp[uU]; omega,a.piles⟩
def aoB (b:ø) (n:Int×Int):ø×Int:=if ş b≠0 then(ams,ş b) else if ş (uU b n)≠0 then(ams,ş (uU b n)) else(uU b n,0)
def aoA {b:ø} (h:In b) (n:Int×Int):NE b n=some (aoB b n):=by
 have e:=h.size;have s:=e.gauges; have h2:=e.uses; have r:=e.loans; have q:=e.compares; have p:=e.looks;unfold NE Yd aoB;rw[CI e h.num,À]
 by_cases f:ş b=0
 ·have k:=(Λ b).1 f;rw[Í (by simp[ine,f]),Ò (by omega),Am.iff_true,Ò (by omega),Am.iff_true,Ò (by omega),Am.iff_true,Ò (by omega),Am.iff_true,Ò (by omega),Am.iff_true,if_neg (show ¬(ş b≠0) from fun h=>h f)];refine ï b.2.2.2.2.1 (fun _=>b.2.2.2.2.1) _ rfl (fun i d hi hd j=>?_) (fun j=>?_)
  ·dsimp only;unfold yb;obtain⟨o,l⟩:=e.piles d (List.mem_of_getElem? hd)
   have g:b.2.2.2.2.1.set i d=b.2.2.2.2.1:=by
    obtain⟨h,rfl⟩:=dj.1 hd;exact List.set_getElem_self h
   rw[Ì hi,ś hi,Ă hd,Ò (by omega),Am.iff_true,Ò (by omega),Am.iff_true,ś hi,Ă hd,dt];rw[show(d.1,d.2.1,d.2.2.1,d.2.2.2)=d from rfl,g,ś hi,Ž hd,Ê hi (by omega)];rw[show(d.1,d.2.1,d.2.2.1,d.2.2.2.1,d.2.2.2.2)=d from rfl,g]
  ·try dsimp only
   unfold yb;rw[Ó];dsimp only;rw[Ò (by simp only[List.length_singleton]; omega),Am.iff_true];rw[show Ω (b.1,b.2.1,b.2.2.1,b.2.2.2.1,b.2.2.2.2.1,b.2.2.2.2.2++[n])=Ω (uU b n) from rfl,CI (aiI k n) h.num,À]
   by_cases a:ş (uU b n)=0
   ·rw[Í (by simp[ine,a]),if_neg (show ¬(ş (uU b n)≠0) from fun h=>h a)];rfl
   ·rw[Ñ (by simp[ine,a]),if_pos a];rfl
 ·rw[Ñ (by simp[ine,f]),if_pos f];rfl
def CJ (b:ø) (n:Int×Int):ø×Int:=if Vw b n.1 n.2≠0 then(b,0) else if ş (uU b n)≠0 then(ams,ş (uU b n)) else(uU b n,0)
structure Room (B:ø):Prop where
 good:ţ B
 op:kQ (Τ B) ((Ø B).length+1)=true
 num:∀g∈B.2.1,I64 g.2.2.2.2.1.1
def an2 (B:ø) (n:Int×Int):0<=Vw B n.1 n.2/\Vw B n.1 n.2<((Ø B).length+1:Nat):=by
 unfold Vw
 cases h:i8 (Ø B) n.1 n.2 with
 |none=>dsimp only; omega
 |some j=>have:=(l6 h).1; dsimp only; omega
def dstR (B:ø) (s t:Int):Int:=dst (Τ B) ((Ø B).length+1) s t
def ivR (B:ø) (n:Int×Int):Int×Int:=(-(dstR B (Vw B n.1 n.2) 0),dstR B 0 (Vw B n.1 n.2))
def Vv {ρ α:Type} {l:BY α} {i:Int} (h0:0<=i) {a:α} (h:l[i.toNat]?=some a) (f:α->BE ρ):é l i f=f a:=by
 obtain⟨n,rfl⟩:=Int.eq_ofNat_of_zero_le h0;exact Ä (by simpa using h) f
def jY (x:BY Int) (y:BY Int) (l:Lk):BY Int:=if gv x l.2.1=š then y else y.set l.1.toNat (min (gv y l.1) (l.2.2+gv x l.2.1))
def VH (L:BY Lk) (N:Nat) (x:BY Int):BY Int:=L.foldl (jY x) (List.replicate N š)
def exL (L:BY Lk) (N:Nat) (to:Int):Nat->BY Int
 |0=>(List.replicate N š).set to.toNat 0
 |k+1=>VH L N (exL L N to k)
def nq (L:BY Lk) (N:Nat) (to:Int) (most:Nat):BY (BY Int):=(List.range (most+1)).map (exL L N to)
section
variable {L:BY Lk} {N:Nat}
def KR (x y:BY Int) (l:Lk):(jY x y l).length=y.length:=by unfold jY; split<;>simp
def KS (x:BY Int):∀(M:BY Lk) (y:BY Int),(M.foldl (jY x) y).length=y.length
 |[],y=>rfl
 |l::M,y=>by rw[gD,KS x M,KR]
def agv (x:BY Int):(VH L N x).length=N:=by unfold VH; rw[KS]; simp
def adp (to:Int) (k:Nat):(exL L N to k).length=N:=by
 cases k with
 |zero=>simp[exL]
 |succ k=>exact agv _
def Lim (B:Int) (x:BY Int):Prop:=∀v:Int,gv x v≠š->-B<=gv x v/\gv x v<=B
def gv_out {x:BY Int} {v:Int} (h:¬v.toNat<x.length):gv x v=0:=by
 unfold gv;rw[List.getElem?_eq_none (by omega)];rfl
def QY {B:Int} (d:0<=B):Lim B (List.replicate N š):=by
 intro v a
 by_cases h:v.toNat<N
 ·exfalso; apply a;unfold gv;rw[List.getElem?_replicate,if_pos h];rfl
 ·rw[gv_out (by simpa using h)]; omega
def aiT {B:Int} {y:BY Int} (f:Lim B y) {u:Int} (i:0<=u) (g:u.toNat<y.length) {a:Int} (ha:a≠š->-B<=a/\a<=B):Lim B (y.set u.toNat a):=by
 intro v d
 by_cases h:v.toNat=u.toNat
 ·have:gv (y.set u.toNat a) v=a:=by
   unfold gv;rw[h,List.getElem?_set_self g];rfl
  rw[this] at d ⊢;exact ha d
 ·have:gv (y.set u.toNat a) v=gv y v:=by
   unfold gv;rw[List.getElem?_set_ne (fun e=>h e.symm)]
  rw[this] at d ⊢;exact f v d
def aeP (e:j7 L N) {B:Int} (n:0<=B) (i:B<=1000000000000000000) {x y:BY Int} (g:Lim B x) (a:Lim (B+4503599627370496) y) (k:y.length=N) {l:Lk} (d:l∈L):Lim (B+4503599627370496) (jY x y l):=by
 unfold jY
 split
 ·exact a
 ·rename_i h;have j:=e.inr l d;have h2:=e.most l d;have o:=g _ h;refine aiT a j.1.1 (by omega) fun ha=>?_
  by_cases f:gv y l.1=š
  ·rw[f] at ha ⊢
   have:min š (l.2.2+gv x l.2.1)=l.2.2+gv x l.2.1:=by unfold š; omega
   rw[this]; omega
  ·have:=a _ f;omega
def aeQ (g:j7 L N) {B:Int} (i:0<=B) (a:B<=1000000000000000000) {x:BY Int} (e:Lim B x):∀(M:BY Lk),(∀l∈M,l∈L)->∀y:BY Int,y.length=N->Lim (B+4503599627370496) y->Lim (B+4503599627370496) (M.foldl (jY x) y)
 |[],_,y,_,d=>d
 |l::M,h,y,f,d=>by
  rw[gD];exact aeQ g i a e M (fun m j=>h m (by simp[j])) _ (by rw[KR,f]) (aeP g i a e d f (h l (by simp)))
def FO (d:j7 L N) {to:Int} (a:0<=to/\to<N):∀k:Nat,k<=200->Lim (k*4503599627370496) (exL L N to k)
 |0,_=>by
  unfold exL;exact aiT (QY (by omega)) a.1 (by simp; omega) (fun _=>by omega)
 |k+1,f=>by
  have:=aeQ d (B:=k*4503599627370496) (by omega) (by omega) (FO d a k (by omega)) L (fun _ h=>h) (List.replicate N š) (by simp) (QY (by omega));unfold exL VH
  have e:(((k+1:Nat):Int)*4503599627370496)=(k:Int)*4503599627370496+4503599627370496:=by push_cast; omega
  rw[e];exact this
def abA {ρ:Type} (n:N<=1000) (K:BY Int->BE ρ) {f:Int×BY Int->(Int×BY Int->BE ρ)->BE ρ}
 (k:∀(v:Int×BY Int) j,f v j=BZ (N:Int) v.1 v.2 (fun g e=>j (g,e)) K):Ë f ((0:Int),List.replicate N (0:Int))=K (List.replicate N š):=by
 refine ï (List.replicate N (0:Int)) (fun i=>List.replicate i š++List.replicate (N-i) (0:Int)) _ (by simp) (fun i a hi ha l=>?_) (fun l=>?_)
 ·rw[k];dsimp only;unfold BZ;rw[List.length_replicate] at hi
  have d:(List.replicate i š++List.replicate (N-i) (0:Int)).length=N:=by simp; omega
  have h:ilt (i:Int) (N:Int)=true:=decide_eq_true (by omega);rw[Ñ h,show í (List.replicate i š++List.replicate (N-i) (0:Int))=(N:Int) by unfold í; rw[d],Ź (by omega) (by omega),kR (by rw[d]; omega),Ï (by omega) (by omega)];congr 2;rw[Int.toNat_natCast];rw[List.set_append_right _ _ (by simp),List.length_replicate,Nat.sub_self];rw[show N-i=(N-(i+1))+1 by omega,List.replicate_succ,List.set_cons_zero,List.replicate_succ'];simp
 ·rw[k];dsimp only;unfold BZ;rw[List.length_replicate];have h:ilt (N:Int) (N:Int)=false:=decide_eq_false (by omega);rw[Í h];simp
def okN (a:N<=1000) {ρ:Type} (x:BE ρ):à ((ile (0:Int) (N:Int))&&(ã (Int.toNat (N:Int)))) x=x:=by
 rw[ä];rw[dt,Ò (by omega),Bool.and_true];exact decide_eq_true (by omega)
def aiS {ρ:Type} (n:j7 L N) {B:Int} (u:0<=B) (t:B<=1000000000000000000) {x:BY Int} (r:Lim B x) (q:x.length=N) (K:BY Int->BE ρ) :
 Ë (fun(e:pc) f=>HI x L (Õ L) e.1 e.2 (fun j h=>f (j,h)) K) ((0:Int),List.replicate N š)=K (VH L N x):=by
 have s:=n.len;refine ï L (fun i=>(L.take i).foldl (jY x) (List.replicate N š)) _ rfl (fun i l hi k p=>?_) (fun p=>?_)
 ·try dsimp only
  unfold HI;have o:=List.mem_of_getElem? k;have d:=n.inr l o;have h2:=n.most l o;rw[Ì hi,Ä k,yh d.2.1 (by omega),take_succ k,List.foldl_append,Ê hi (by omega)]
  have a:((L.take i).foldl (jY x) (List.replicate N š)).length=N:=by rw[KS]; simp
  generalize (L.take i).foldl (jY x) (List.replicate N š)=y at a ⊢
  by_cases g:gv x l.2.1=š
  ·rw[Í (by rw[g]; rfl)];simp only[List.foldl_cons,List.foldl_nil];unfold jY;rw[if_pos g]
  ·have v:=r _ g;rw[Ñ (bne_iff_ne.2 g),show í y=(N:Int) by unfold í; rw[a],Ź d.1.1 d.1.2,kR (by omega),yh d.2.1 (by omega),Ï (by omega) (by omega),Ź d.1.1 d.1.2,kR (by omega),Ê hi (by omega)];simp only[List.foldl_cons,List.foldl_nil];unfold jY;rw[if_neg g,Yq]
 ·try dsimp only
  unfold HI;rw[Ó,List.take_length];rfl
def alX {ρ:Type}:@XK ρ=@BZ ρ:=rfl
def KP (to:Int) (m:Nat):(nq L N to m).length=m+1:=by simp[nq]
def KQ {to:Int} {m k:Nat} (a:k<=m):(nq L N to m)[k]?=some (exL L N to k):=by
 unfold nq;rw[List.getElem?_map,List.getElem?_range (by omega)];rfl
def alW (e:j7 L N) {to:Int} (d:0<=to/\to<N) {most:Nat} (k:most<=100):IX ((N:Int),L) to (most:Int)=some (nq L N to most):=by
 have l:=e.n60
 unfold IX Qi
 dsimp only;rw[okN (by omega),Int.toNat_natCast];refine(abA (by omega) _ (fun v h=>by rw[Î,List.length_replicate])).trans ?_;rw[show í (List.replicate N š)=(N:Int) by simp[í],Ź d.1 d.2,kR (by simp; omega)];refine ï (List.replicate most ()) (fun i=>nq L N to i) _ (by simp[nq,exL]) (fun i a hi ha g=>?_) (fun g=>?_)
 ·try dsimp only
  unfold Nl;rw[List.length_replicate] at hi;have f:ilt (i:Int) (most:Int)=true:=decide_eq_true (by omega);rw[Ñ f,Î,KP]
  have j:(((i+1:Nat):Int)-1)=(i:Int):=by omega
  rw[j,Ï (by omega) (by omega),show í (nq L N to i)=((i+1:Nat):Int) by unfold í; rw[KP],Ź (by omega) (by omega),Int.toNat_natCast,Ž (KQ (Nat.le_refl i)),okN (by omega),Int.toNat_natCast];rw[alX];refine(abA (by omega) _ (fun v h=>by rw[Î,List.length_replicate])).trans ?_;refine(aiS e (B:=i*4503599627370496) (by omega) (by omega) (FO e d i (by omega)) (adp _ _) _).trans ?_;rw[ä (Ò (by simp only[KP,List.length_singleton]; omega)),Ï (by omega) (by omega)];congr 2;unfold nq;rw[List.range_succ (n:=i+1),List.map_append];rfl
 ·try dsimp only
  unfold Nl;rw[List.length_replicate];have f:ilt (most:Int) (most:Int)=false:=decide_eq_false (by omega);rw[Í f]
def WF (L:BY Lk) (x:BY Int) (good:Int->Bool) (u a:Int):BE Nat:=L.findIdx? fun l=>l.1==u&&(decide (gv x l.2.1≠š)&&good (a+l.2.2+gv x l.2.1))
def pK (L:BY Lk) (rest:Nat->BY Int) (good:Int->Bool):Nat->Int->Int->BY Int->BY Int
 |0,_,_,out=>out
 |k+1,u,sum,out=>match WF L (rest k) good u sum with
  |some i=>pK L rest good k (L[i]?.getD (0,0,0)).2.1 (sum+(L[i]?.getD (0,0,0)).2.2) (out++[(i:Int)])
  |none=>pK L rest good k u sum out
def folL {ρ:Type} (good:Int->Bool) (c0:Int) (r:BY (BY Int)) (v:BY Lk) (u:Int) (e:Int) (v1:Int) (v2:Int) (a:BY Int) (n:Int->Int->Int->BY Int->BE ρ) (k0:Int×Int×BY Int->BE ρ):BE ρ :=
 ifb (ilt v2 u) (é v v2 fun d=>ifb (ieq d.1 e) (ck (c0-(1:Int)) fun s=>é r s fun t=>é t d.2.1 fun q=>ifb (ine q (1152921504606846976:Int)) (ck (v1+d.2.2) fun l=>ck (c0-(1:Int)) fun k=>é r k fun p=>é p d.2.1 fun o=>ck (l+o) fun j=>ifb (good j) (à (ã ((List.length a)+(List.length ([v2])))) (ck (v1+d.2.2) fun i=>k0 (d.2.1,i,(a++([v2]))))) (ck (v2+(1:Int)) fun h=>n e v1 h a)) (ck (v2+(1:Int)) fun g=>n e v1 g a)) (ck (v2+(1:Int)) fun f=>n e v1 f a)) (k0 (e,v1,a))
def an8 {ρ:Type} (D:j7 L N) (good:Int->Bool) {rest:BY (BY Int)} {k:Nat} {x:BY Int} (s:rest[k]?=some x) (S:k<=100) (G:Lim 1000000000000000000 x) (J:x.length=N) {u e:Int} (Q : -1000000000000000000<=e/\e<=1000000000000000000) {out:BY Int} (R:out.length<=1000)
 (K:Int×Int×BY Int->BE ρ):Ë (fun(v:Int×Int×Int×BY Int) I=>folL good ((k+1:Nat):Int) rest L (Õ L) v.1 v.2.1 v.2.2.1 v.2.2.2 (fun a b c d=>I (a,b,c,d)) K) (u,e,(0:Int),out) =
  match WF L x good u e with|some i=>K ((L[i]?.getD (0,0,0)).2.1,e+(L[i]?.getD (0,0,0)).2.2,out++[(i:Int)])|none=>K (u,e,out):=by
 have M:=D.len;refine ð (fun v=>∃i:Nat,i<=L.length/\v=(u,e,(i:Int),out)/\∀j l,j<i->L[j]?=some l->(l.1==u&&(decide (gv x l.2.1≠š)&&good (e+l.2.2+gv x l.2.1)))=false) (fun v=>L.length-v.2.2.1.toNat) ?_ ⟨0,by omega,rfl,fun j l h=>by omega⟩;rintro v ⟨i,hi,rfl,C⟩
 have H:(((k+1:Nat):Int)-1)=(k:Int):=by omega
 rcases dv i L.length with h2|h2
 ·have f:L[i]?=some L[i]:=df h2;generalize L[i]=l at f;have p:=dk f;have t:=D.inr l p;have U:=D.most l p
  have n:(l.1==u&&(decide (gv x l.2.1≠š)&&good (e+l.2.2+gv x l.2.1)))=false->∃y,(∃i:Nat,i<=L.length/\y=(u,e,(i:Int),out)/\∀j l,j<i->L[j]?=some l->(l.1==u&&(decide (gv x l.2.1≠š)&&good (e+l.2.2+gv x l.2.1)))=false)/\(L.length-y.2.2.1.toNat<L.length-((u,e,(i:Int),out):Int×Int×Int×BY Int).2.2.1.toNat)/\y=(u,e,(i:Int)+1,out):=fun g =>
   ⟨_,⟨i+1,h2,by rw[show((i+1:Nat):Int)=(i:Int)+1 by push_cast; rfl],fun j m q p=>by
    rcases hZ.1 q with h|rfl
    ·exact C j m h p
    ·rw[f] at p; cases p; exact g⟩,by simp; omega,rfl⟩
  by_cases g:(l.1==u&&(decide (gv x l.2.1≠š)&&good (e+l.2.2+gv x l.2.1)))=true
  ·refine .inl fun F=>?_
   have o:WF L x good u e=some i:=by
    unfold WF;rw[List.findIdx?_eq_some_iff_getElem];obtain⟨T,rfl⟩:=List.getElem?_eq_some_iff.1 f;exact⟨h2,g,fun j q=>by have:=C j _ q (List.getElem?_eq_getElem (by omega)); rw[this]; simp⟩
   rw[o];simp only[Bool.and_eq_true,beq_iff_eq,decide_eq_true_eq] at g;have O:=G _ g.2.1;dsimp only;unfold folL
   rw[Ì h2,Ä f,Ñ (by simp[g.1]),H,Ï (by omega) (by omega),Ä s,yh t.2.1 (by omega),Ñ (bne_iff_ne.2 g.2.1),Ï (by omega) (by omega),Ï (by omega) (by omega),Ä s,yh t.2.1 (by omega),Ï (by omega) (by omega),Ñ g.2.2,
    ä (Ò (by simp; omega)),Ï (by omega) (by omega),f]
   rfl
  ·have r:=Bool.not_eq_true _▸g;obtain⟨y,B,A,rfl⟩:=n r;refine .inr ⟨_,B,A,fun F=>?_⟩;dsimp only;unfold folL;rw[Ì h2,Ä f,Ê h2 (by omega)]
   by_cases E:l.1=u
   ·rw[Ñ (by simp[E]),H,Ï (by omega) (by omega),Ä s,yh t.2.1 (by omega)]
    by_cases z:gv x l.2.1=š
    ·rw[Í (by rw[z]; rfl)]
    ·have O:=G _ z
     have P:good (e+l.2.2+gv x l.2.1)=false:=by simpa[E,z] using r
     rw[Ñ (bne_iff_ne.2 z),Ï (by omega) (by omega),Ï (by omega) (by omega),Ä s,yh t.2.1 (by omega),Ï (by omega) (by omega),Í P]
   ·rw[Í (by simpa using E)]
 ·refine .inl fun F=>?_
  obtain rfl:i=L.length:=by omega
  have o:WF L x good u e=none:=by
   unfold WF;rw[List.findIdx?_eq_none_iff];intro l f;obtain⟨j,q,rfl⟩:=List.mem_iff_getElem.1 f;exact C j _ q (List.getElem?_eq_getElem q)
  rw[o];dsimp only;unfold folL;rw[Ó]
def folM {ρ:Type} (good:Int->Bool) (c0:BY (BY Int)) (l:BY Lk) (n:Int) (v1:Int) (v2:Int) (k:BY Int) (o:Int->Int->Int->BY Int->BE ρ) (k0:BY Int->BE ρ):BE ρ :=
 ifb (igt v1 (0:Int)) (Ë (fun(a:Int×Int×Int×BY Int) e=>folL good v1 c0 l (Õ l) a.1 a.2.1 a.2.2.1 a.2.2.2 (fun i h g f=>e (i,h,g,f)) (fun d=>ck (v1-(1:Int)) fun j=>o d.1 j d.2.1 d.2.2)) (n,v2,(0:Int),k)) (k0 k)
def an7 {ρ:Type} (q:j7 L N) (good:Int->Bool) {rest:BY (BY Int)} {R:Nat->BY Int} {k0:Nat} (h:k0<=100) (t:∀k,k<k0->rest[k]?=some (R k)) (s:∀k,k<k0->Lim 900000000000000000 (R k)/\(R k).length=N) (u:Int) (K:BY Int->BE ρ) :
 Ë (fun(v:Int×Int×Int×BY Int) l=>folM good rest L v.1 v.2.1 v.2.2.1 v.2.2.2 (fun a b c d=>l (a,b,c,d)) K) (u,(k0:Int),(0:Int),[])=K (pK L R good k0 u 0 []):=by
 have key:=wo (f:=fun(v:Int×Int×Int×BY Int) l=>folM good rest L v.1 v.2.1 v.2.2.1 v.2.2.2 (fun a b c d=>l (a,b,c,d)) K) (F:=fun v=>K (pK L R good v.2.1.toNat v.1 v.2.2.1 v.2.2.2))
  (fun v=>∃k:Nat,v.2.1=k/\k<=k0/\(-(((k0-k:Nat):Int)*4503599627370496)<=v.2.2.1/\v.2.2.1<=((k0-k:Nat):Int)*4503599627370496)/\v.2.2.2.length<=k0-k) (fun v=>v.2.1.toNat) (fun v n A h=>?_) (x:=(u,(k0:Int),0,[])) ⟨k0,rfl,dh _,by simp,by simp⟩
 ·rw[key]; simp
 ·obtain⟨u,B,j,out⟩:=v;obtain⟨k,e,D,h2,z⟩:=n;dsimp only at e h2 z h ⊢;subst e;rw[Int.toNat_natCast] at h ⊢;unfold folM
  cases k with
  |zero =>
   rw[Í (by rfl)];rfl
  |succ k =>
   rw[Ñ (decide_eq_true (by omega))];have p:=s k (by omega)
   have g:Lim 1000000000000000000 (R k):=fun v n=>by have:=p.1 v n; omega
   refine(an8 q good (t k (by omega)) (by omega) g p.2 (by omega) (by omega) _).trans ?_;unfold pK
   have r:(((k+1:Nat):Int)-1)=(k:Int):=by omega
   cases o:WF L (R k) good u j with
   |none =>
    dsimp only;rw[r,Ï (by omega) (by omega),h _ ⟨k,rfl,by omega,by dsimp only; omega,by dsimp only; omega⟩ (by simp)];simp
   |some i =>
    have hi:i<L.length:=by
     unfold WF at o;exact(List.findIdx?_eq_some_iff_getElem.1 o).1
    have y:L[i]?=some L[i]:=List.getElem?_eq_getElem hi;have C:=q.most L[i] (List.getElem_mem _);dsimp only;rw[y];simp only[Option.getD_some];rw[r,Ï (by omega) (by omega),h _ ⟨k,rfl,by omega,by dsimp only; omega,by simp; omega⟩ (by simp)];simp
end
def Ey (L:BY Lk):Int->Int->BY Int->Int×Int×Bool
 |u,s,[]=>(u,s,true)
 |u,s,i::t=>if (L[i.toNat]?.getD (0,0,0)).1=u then Ey L (L[i.toNat]?.getD (0,0,0)).2.1 (s+(L[i.toNat]?.getD (0,0,0)).2.2) t else(0,0,false)
def Ew (L:BY Lk) (i:Int):Bool:=decide (i<0)||decide ((L.length:Int)<=i)
def mQ (L:BY Lk) (l:BY Int):Int:=if 80<l.length then 2 else if l.any (Ew L) then 1 else 0
def afg (u:Int) (w:Int×Int×Bool):Int:=if w.2.2=true/\w.1=u/\w.2.1<0 then 0 else 8
def Ţ (L:BY Lk) (l:BY Int):Int :=
 if mQ L l≠0 then mQ L l else match l with
 |[]=>8
 |i::_=>afg (L[i.toNat]?.getD (0,0,0)).1 (Ey L (L[i.toNat]?.getD (0,0,0)).1 0 l)
section
variable {L:BY Lk} {N:Nat}
def ago (N:Int) (f:L.length<=1000) (l:BY Int):yw (N,L) l=some (mQ L l):=by
 unfold yw Fy mQ;dsimp only;rw[Î]
 by_cases h:80<l.length
 ·rw[Ñ (decide_eq_true (by omega)),if_pos h]
 ·rw[Í (decide_eq_false (by omega)),if_neg h,<-Î l];refine(ē l (Ew L) (fun z=>ifb (ige z 0) (some 1) (some 0)) (some 1) (some 0) (fun j=>by rw[show ige (j:Int) 0=true from decide_eq_true (by omega)]; rfl) (fun i a hi ha e=>?_) (fun e=>?_)).trans ?_
  ·try dsimp only
   unfold oq Ew;rw[Ì hi,Ä ha,Ê hi (by omega),Î,ô,ô]
   by_cases d:a<0
   ·simp[ilt,d]
   ·by_cases h2:(L.length:Int)<=a
    ·simp[ilt,ige,d,h2]
    ·simp[ilt,ige,d,h2]
  ·try dsimp only
   unfold oq;rw[Ó]
  ·cases l.any (Ew L)<;>rfl
def adi {l:BY Int} (h:mQ L l=0):l.length<=80/\∀i∈l,0<=i/\i.toNat<L.length:=by
 unfold mQ at h
 split at h
 ·omega
 ·rename_i a
  split at h
  ·omega
  ·rename_i h2;refine⟨by omega,fun i hi=>?_⟩;have:=ee.1 (eP.2 h2) i hi;simp[Ew] at this;omega
def ano (C:j7 L N) (u:Int) {l:BY Int} (h:mQ L l=0):NB ((N:Int),L) u l=some (Ey L u 0 l):=by
 obtain⟨E,hi⟩:=adi h;unfold NB XI;dsimp only
 have:=wo (f:=fun(p:Int×Int×Int) g=>xF l (Õ l) L p.1 p.2.1 p.2.2 (fun u8 z q=>g (u8,z,q)) (fun o=>some (o.1,o.2.1,o.2.2)) (fun y=>some (y.1,y.2,true)))
  (F:=fun v=>some (Ey L v.1 v.2.1 (l.drop v.2.2.toNat))) (fun v=>∃i:Nat,v.2.2=i/\i<=l.length/\(-(i*4503599627370496)<=v.2.1/\v.2.1<=i*4503599627370496)) (fun v=>l.length-v.2.2.toNat) (fun v A D t=>?_) (x:=(u,(0:Int),(0:Int))) ⟨0,rfl,by omega,by simp⟩
 ·exact this
 ·obtain⟨w,s,n⟩:=v;obtain⟨i,e,G,h2⟩:=A;dsimp only at e h2 t ⊢;subst e;rw[Int.toNat_natCast] at t ⊢;unfold xF;rcases Nat.lt_or_ge i l.length with d|d
  ·have ha:l[i]?=some l[i]:=List.getElem?_eq_getElem d;have hd:l.drop i=l[i]::l.drop (i+1):=List.drop_eq_getElem_cons d;rw[hd];have r:=hi l[i] (List.getElem_mem _);generalize l[i]=a at ha r;have j:L[a.toNat]?=some L[a.toNat]:=List.getElem?_eq_getElem r.2;have B:=C.most _ (List.mem_of_getElem? j);generalize L[a.toNat]=x at j B;rw[Ì d,Ä ha,Vv r.1 j];unfold Ey;rw[j];simp only[Option.getD_some]
   by_cases k:x.1=w
   ·rw[Í (by rw[k]; exact bne_self_eq_false' _),if_pos k,Ï (by omega) (by omega),Ê d (by omega),t _ ⟨i+1,by push_cast; rfl,d,by dsimp only; push_cast; omega⟩ (by simp; omega)];simp
   ·rw[Ñ (bne_iff_ne.2 k),if_neg k]
  ·obtain rfl:i=l.length:=by omega
   rw[Ó,List.drop_length];rfl
def ai3 {ρ α:Type} (x:α) (t:BY α) (f:α->BE ρ):é (x::t) (0:Int) f=f x:=rfl
def Uj (f:j7 L N) (l:BY Int):ox ((N:Int),L) l=some (Ţ L l):=by
 have k:=f.len;unfold ox uQ Ţ;rw[mZ f,À,Í (by rfl),ago _ (by omega),À]
 by_cases h:mQ L l=0
 ·rw[Í (by rw[h]; rfl),if_neg (by simp[h])]
  cases l with
  |nil=>rw[Î]; rfl
  |cons i t =>
   have g:=(adi h).2 i (by simp);have d:L[i.toNat]?=some L[i.toNat]:=List.getElem?_eq_getElem g.2;generalize L[i.toNat]=x at d;rw[Î,Í (beq_eq_false_iff_ne.2 (by simp; omega)),ai3,Vv g.1 d,ano f x.1 h,À];dsimp only;rw[d];dsimp only[Option.getD_some];generalize Ey L x.1 0 (i::t)=w;obtain⟨e,a,ok⟩:=w;unfold afg;dsimp only
   cases ok with
   |false=>rw[Ñ (by rfl),if_neg (by simp)]
   |true =>
    rw[Í (by rfl)]
    by_cases h2:e=x.1
    ·rw[Í (by rw[h2]; exact bne_self_eq_false' _)]
     by_cases j:a<0
     ·rw[Í (decide_eq_false (by omega)),if_pos ⟨rfl,h2,j⟩]
     ·rw[Ñ (decide_eq_true (by omega)),if_neg (fun h=>j h.2.2)]
    ·rw[Ñ (bne_iff_ne.2 h2),if_neg (fun h=>h2 h.2.1)]
 ·rw[Ñ (bne_iff_ne.2 h),if_pos h]
end
def agF {L:BY Lk} {N:Nat} (h:j7 L N) (a:kQ L N=true):pq ((N:Int),L)=some ([],5):=by
 have d:=h.n60;unfold pq HL;rw[mZ h,À,Í (by rfl),wS h.links h.n1 (by omega),À,if_pos a];rfl
def afG (b:ø) (n:Int×Int):Prop:=∃g∈b.2.1,g.1=n.1/\n.2∈Ü b g
def Yr {b:ø} (h:ţ b) {n:Int×Int}:Vw b n.1 n.2≠0↔afG b n:=by
 unfold Vw;constructor
 ·intro a
  cases l:i8 (Ø b) n.1 n.2 with
  |none=>rw[l] at a; simp at a
  |some j =>
   have o:=List.mem_of_getElem? (l6 l).2;unfold Ø at o;obtain⟨g,f,hd⟩:=List.mem_flatMap.1 o;obtain⟨d,hd,e⟩:=List.mem_map.1 hd;simp only[Prod.mk.injEq] at e;obtain⟨r,rfl⟩:=e;exact⟨g,f,r,hd⟩
 ·rintro⟨g,f,e,hd⟩;obtain⟨i,hi,rfl⟩:=List.mem_iff_getElem.1 f;obtain⟨k,p,q⟩:=List.mem_iff_getElem.1 hd;rw[<-e,WD h (List.getElem?_eq_getElem hi) (by rw[List.getElem?_eq_getElem p,q])];dsimp only;omega
def aiJ {b:ø} (n:Int×Int) (h':ţ (uU b n)):afG (uU b n) n:=by
 have a:=h'.looks n (by simp[uU]);unfold ack at a
 split at a
 ·omega
 obtain⟨g,f,_⟩:=JG h' a;obtain⟨d,e⟩:=iX f;refine⟨g,d,e,?_⟩;unfold Ü;rw[wU];unfold abF uU;simp only[List.mem_append,List.mem_map,List.mem_filter];exact .inr ⟨n,⟨.inr (by simp),by simp[e]⟩,rfl⟩
def ahH {b:ø} {n:Int×Int} (e:(CJ b n).2=0):(CJ b n=(b,0)/\Vw b n.1 n.2≠0)\/(CJ b n=(uU b n,0)/\ţ (uU b n)/\Vw b n.1 n.2=0):=by
 unfold CJ at e ⊢
 split
 ·rename_i h; exact .inl ⟨rfl,h⟩
 ·rename_i a;rw[if_neg a] at e
  split
  ·rename_i h2; rw[if_pos h2] at e; exact absurd e h2
  ·rename_i h2; exact .inr ⟨rfl,(Λ _).1 (by simpa using h2),by simpa using a⟩
def aiK {b:ø} {n:Int×Int} {f:Int->Int->Int} {z:Int}:Hist (uU b n) f z↔Hist b f z :=
 ⟨fun h=>⟨fun g a=>by have:=h.gauge g a; exact⟨this.hi,this.lo,this.down,this.loss⟩,h.cmp⟩,fun h=>⟨fun g a=>by have:=h.gauge g a; exact⟨this.hi,this.lo,this.down,this.loss⟩,h.cmp⟩⟩
inductive Wk (L:List Lk) (to:Int):Nat->Int->Int->Prop
 |nil:Wk L to 0 to 0
 |step {k:Nat} {v w m d:Int}:(v,w,m)∈L->Wk L to k w d->Wk L to (k+1) v (m+d)
section
variable {L:BY Lk} {N:Nat}
def Wk.snoc {u v m:Int} (g:(u,v,m)∈L):∀{k:Nat} {s d:Int},Wk L u k s d->Wk L v (k+1) s (d+m):=by
 intro k s d h
 induction h with
 |nil =>
  have:=Wk.step g (Wk.nil (L:=L) (to:=v))
  have e:m+0=0+m:=by omega
  rw[e] at this;exact this
 | @step k a w f d i h2 ih =>
  have:=Wk.step i ih
  have e:f+(d+m)=f+d+m:=by omega
  rw[e] at this;exact this
def Wk.bd (a:j7 L N) {t:Int} {k:Nat} {s d:Int} (h:Wk L t k s d) : -(k*4503599627370496)<=d/\d<=k*4503599627370496:=by
 induction h with
 |nil=>omega
 | @step k v w m d e h2 ih =>
  have:=a.most _ e;dsimp only at this;push_cast;omega
def adk {v:Int} (h0:0<=v) (a:v<N):gv (List.replicate N š) v=š:=by
 unfold gv;rw[List.getElem?_replicate,if_pos (by omega)];rfl
def alD {B:Int} (d:B<=1100000000000000000) {x:BY Int} (a:Lim B x) (v:Int):gv x v<=š:=by
 by_cases h:gv x v=š
 ·omega
 ·have:=a v h; unfold š; omega
def IE (k:j7 L N) {B:Int} (r:0<=B) (f:B<=1000000000000000000) {x:BY Int} (o:Lim B x) {v:Int} (h0:0<=v) (D:v<N) :
 ∀(M:BY Lk),(∀l∈M,l∈L)->∀y:BY Int,y.length=N->Lim (B+4503599627370496) y ->
  gv (M.foldl (jY x) y) v<=gv y v/\(∀w m,(v,w,m)∈M->gv x w≠š->gv (M.foldl (jY x) y) v<=m+gv x w) /\
  (gv (M.foldl (jY x) y) v=gv y v\/∃w m,(v,w,m)∈M/\gv x w≠š/\gv (M.foldl (jY x) y) v=m+gv x w)
 |[],_,y,_,_=>⟨dV _,fun _ _ h=>by simp at h,.inl rfl⟩
 |l::M,q,y,p,n=>by
  rw[gD];have d:=q l (by simp);obtain⟨E,z,u⟩:=IE k r f o h0 D M (fun m j=>q m (by simp[j])) (jY x y l) (by rw[KR,p]) (aeP k r f o n p d);have C:=k.inr l d;have A:=alD (by omega) n
  -- the element behind one link
  have key:gv (jY x y l) v<=gv y v/\(l.1=v->gv x l.2.1≠š->gv (jY x y l) v<=l.2.2+gv x l.2.1)/\(gv (jY x y l) v=gv y v\/(l.1=v/\gv x l.2.1≠š/\gv (jY x y l) v=l.2.2+gv x l.2.1)):=by
   unfold jY
   by_cases i:gv x l.2.1=š
   ·rw[if_pos i];exact⟨dV _,fun _ h=>absurd i h,.inl rfl⟩
   ·rw[if_neg i,pP C.1.1 h0 (by omega)]
    by_cases g:v=l.1
    ·rw[if_pos g,g];refine⟨by omega,fun _ _=>by omega,?_⟩
     by_cases F:gv y l.1<=l.2.2+gv x l.2.1
     ·exact .inl (by omega)
     ·exact .inr ⟨rfl,i,by omega⟩
    ·rw[if_neg g];exact⟨dV _,fun h=>absurd h.symm g,.inl rfl⟩
  obtain⟨k1,t,s⟩:=key;refine⟨by omega,fun w m j a=>?_,?_⟩
  ·rcases dm.1 j with h|h
   ·subst h;have:=t rfl a;dsimp only at this;omega
   ·exact z w m h a
  ·rcases u with h|⟨w,m,h,a,e⟩
   ·rcases s with h'|⟨h',a,e⟩
    ·exact .inl (h.trans h')
    ·refine .inr ⟨l.2.1,l.2.2,?_,a,h.trans e⟩;rw[<-h']; simp
   ·exact .inr ⟨w,m,by simp[h],a,e⟩
def YH (f:j7 L N) {to:Int} (l:0<=to/\to<N):∀k:Nat,k<=200->∀v:Int,0<=v->v<N ->
 (gv (exL L N to k) v≠š->Wk L to k v (gv (exL L N to k) v))/\∀d,Wk L to k v d->gv (exL L N to k) v<=d/\gv (exL L N to k) v≠š
 |0,_,v,h0,i=>by
  unfold exL;rw[pP l.1 h0 (by simp; omega)]
  by_cases j:v=to
  ·subst j;rw[if_pos rfl];refine⟨fun _=>.nil,fun d hd=>?_⟩;cases hd;exact⟨dV _,by decide⟩
  ·rw[if_neg j,adk h0 i];refine⟨fun h=>absurd rfl h,fun d hd=>?_⟩;cases hd;exact absurd rfl j
 |k+1,C,v,h0,i=>by
  have g:=FO f l k (by omega);obtain⟨z,q,p⟩:=IE f (B:=k*4503599627370496) (by omega) (by omega) g h0 i L (fun _ h=>h) (List.replicate N š) (by simp) (QY (by omega));have n:=YH f l k (by omega);unfold exL VH;refine⟨fun s=>?_,fun d hd=>?_⟩
  ·rcases p with h|⟨w,m,h,r,e⟩
   ·rw[adk h0 i] at h; exact absurd h s
   ·rw[e];have a:=(f.inr _ h).2;exact .step h ((n w a.1 a.2).1 r)
  ·have hb:=Wk.bd f hd
   cases hd with
   | @step x u w m d h h2 =>
    have a:=(f.inr _ h).2;obtain⟨y,o⟩:=(n w a.1 a.2).2 d h2;have:=q w m h o;refine⟨by omega,?_⟩
    have A:(m+d)<=1000000000000000000:=by push_cast at hb; omega
    intro t;rw[t] at this;unfold š at this;omega
def alY (g:j7 L N) {to:Int} (j:0<=to/\to<N) {k:Nat} (l:k+1<=200) {u:Int} (d:0<=u/\u<N) (f:gv (exL L N to (k+1)) u≠š) :
 ∃w m,(u,w,m)∈L/\gv (exL L N to k) w≠š/\gv (exL L N to (k+1)) u=m+gv (exL L N to k) w:=by
 have a:=FO g j k (by omega);obtain⟨_,_,i⟩:=IE g (B:=k*4503599627370496) (by omega) (by omega) a d.1 d.2 L (fun _ h=>h) (List.replicate N š) (by simp) (QY (by omega));have e:exL L N to (k+1)=L.foldl (jY (exL L N to k)) (List.replicate N š):=rfl;rw[e] at f ⊢;rcases i with h|h
 ·rw[adk d.1 d.2] at h; exact absurd h f
 ·exact h
def Rh (n:j7 L N) {to:Int} (h:0<=to/\to<N) (good:Int->Bool):∀(k:Nat),k<=200->∀(u a:Int) (out:BY Int),0<=u->u<N->gv (exL L N to k) u≠š->good (a+gv (exL L N to k) u)=true ->
 ∃q,pK L (exL L N to) good k u a out=out++q/\q.length=k/\(∀i∈q,Ew L i=false)/\∃s,Ey L u a q=(to,s,true)/\good s=true
 |0,_,u,a,out,h0,t,r,f=>by
  have J:u=to:=by
   have g:=((YH n h 0 (by omega) u h0 t).1 r);generalize gv (exL L N to 0) u=y at g;cases g;rfl
  subst J
  have e:gv (exL L N u 0) u=0:=by
   unfold exL;rw[pP h.1 h0 (by simp; omega),if_pos rfl]
  rw[e,gG] at f;exact⟨[],by simp[pK],rfl,by simp,a,rfl,f⟩
 |k+1,M,u,a,out,h0,t,r,f=>by
  obtain⟨w,m,K,g,e⟩:=alY n h M ⟨h0,t⟩ r;unfold pK WF
  cases z:L.findIdx? (fun l=>l.1==u&&(decide (gv (exL L N to k) l.2.1≠š)&&good (a+l.2.2+gv (exL L N to k) l.2.1))) with
  |none =>
   have:=eJ.1 z (u,w,m) K;rw[e,<-Int.add_assoc] at f;simp[g,f] at this
  |some i =>
   obtain⟨hi,o,_⟩:=List.findIdx?_eq_some_iff_getElem.1 z;have d:L[i]?=some L[i]:=List.getElem?_eq_getElem hi;have A:=List.mem_of_getElem? d;generalize L[i]=x at o d A;simp only[Bool.and_eq_true,beq_iff_eq,decide_eq_true_eq] at o;obtain⟨I,H,G⟩:=o;have v:=(n.inr x A).2;obtain⟨q,F,E,D,s,C,B⟩:=Rh n h good k (by omega) x.2.1 (a+x.2.2) (out++[(i:Int)]) v.1 v.2 H G;dsimp only;rw[d];simp only[Option.getD_some];refine⟨(i:Int)::q,by rw[F]; simp,by simp[E],fun j p=>?_,s,?_,B⟩
   ·rcases dm.1 p with rfl|p
    ·simp[Ew]; omega
    ·exact D j p
   ·unfold Ey;rw[Int.toNat_natCast,d];simp only[Option.getD_some];rw[if_pos I];exact C
def alF {P:Int->Prop} {B:Int} (h:∃d,P d) (f:∀d,P d->B<=d):∃d,P d/\∀e,P e->d<=e:=by
 obtain⟨d0,h0⟩:=h
 have:∀(n:Nat) (d:Int),P d->(d-B).toNat<=n->∃d,P d/\∀e,P e->d<=e:=by
  intro n
  induction n with
  |zero=>intro d hd j; exact⟨d,hd,fun e a=>by have:=f e a; have:=f d hd; omega⟩
  |succ n i =>
   intro d hd j
   by_cases g:∃e,P e/\e<d
   ·obtain⟨e,a,k⟩:=g;exact i e a (by have:=f e a; omega)
   ·exact⟨d,hd,fun e a=>by
     rcases gZ e d with q|q
     ·exact absurd ⟨e,a,q⟩ g
     ·exact q⟩
 exact this _ d0 h0 (dh _)
def Wl.cutK {S:Int->Prop} {vs:BY Int} {u d:Int} (h:Wl L S vs u d):∀x∈u::vs,∃a g k f,Wl L S a x g/\(x::a) <:+ (u::vs)/\Wk L u k x f/\d=g+f/\k<=vs.length:=by
 induction h with
 | @nil v l =>
  intro x e;simp at e;subst e;exact⟨[],0,0,0,.nil l,List.suffix_refl _,.nil,by omega,by simp⟩
 | @step vs u v m d j i ih =>
  intro x e;rcases dm.1 e with rfl|e
  ·exact⟨u::vs,d+m,0,0,.step j i,List.suffix_refl _,.nil,by omega,by simp⟩
  ·obtain⟨a,g,k,f,p,o,n,r,q⟩:=ih x e;exact⟨a,g,k+1,f+m,p,o.trans (List.suffix_cons _ _),n.snoc i,by omega,by simp; omega⟩
def af9 (n:j7 L N) (x:kQ L N=false):∃(k:Nat) (v d:Int),1<=k/\k<=N/\(0<=v/\v<N)/\Wk L v k v d/\d<0:=by
 have R:=n.n60;apply Classical.byContradiction;intro D
 have y:∀{k:Nat} {v d:Int},1<=k->k<=N->(0<=v/\v<N)->Wk L v k v d->0<=d:=fun {k v d} s h2 F E=>by
  rcases gZ d 0 with q|q
  ·exact absurd ⟨k,v,d,s,h2,F,E,q⟩ D
  ·exact q
 have r:∀l∈L,-4503599627370496<=l.2.2:=fun l p=>(n.most l p).1
 let P:Int->Int->Prop:=fun v d=>∃vs,Wl L (fun u=>0<=u/\u<N) vs v d/\(v::vs).Nodup
 have h:∀v:Int,0<=v/\v<N->∃d,P v d/\∀e,P v e->d<=e:=fun v f=>alF (B:=-(60*4503599627370496)) ⟨0,[],.nil f,by simp⟩ (by
  rintro d ⟨vs,s,h2⟩;have Q:=s.lowM r;have O:=s.short n.inr (fun w i=>i) h2
  have:((vs.length:Nat):Int)*4503599627370496<=60*4503599627370496:=by omega
  omega)
 have z:kQ L N=true:=by
  refine(mu n.links (by omega)).2 ⟨fun v=>if f:0<=v/\v<(N:Int) then Classical.choose (h v f) else 0,fun u v m p=>?_⟩;have g:=n.inr _ p;dsimp only at g;obtain⟨⟨vs,i,j⟩,C⟩:=Classical.choose_spec (h u g.1);obtain⟨_,o⟩:=Classical.choose_spec (h v g.2);have K:(if f:0<=u/\u<(N:Int) then Classical.choose (h u f) else 0)=Classical.choose (h u g.1):=dif_pos g.1;have J:(if f:0<=v/\v<(N:Int) then Classical.choose (h v f) else 0)=Classical.choose (h v g.2):=dif_pos g.2;dsimp only;rw[K,J];generalize Classical.choose (h u g.1)=a at *;generalize Classical.choose (h v g.2)=b at *
  by_cases f:v∈u::vs
  ·obtain⟨t,M,k,U,I,H,G,T,S⟩:=i.cutK v f;have A:=i.short n.inr (fun w i=>i) j;have:=y (by omega) (by omega) g.2 (G.snoc p);have:=o M ⟨t,I,j.sublist H.sublist⟩;omega
  ·have:=o (a+m) ⟨u::vs,i.step p,fD.2 ⟨f,j⟩⟩;omega
 rw[x] at z;cases z
def mY (L:BY Lk) (N:Nat) (k:Nat) (l:Lk):Bool:=decide (gv (exL L N l.1 k) l.2.1≠š)&&decide (l.2.2+gv (exL L N l.1 k) l.2.1<0)
def ag7 (a:j7 L N) (e:kQ L N=false):∃k,k<N/\∃l∈L,mY L N k l=true:=by
 have o:=a.n60;obtain⟨k,v,d,q,h2,j,i,p⟩:=af9 a e
 cases i with
 |nil=>omega
 | @step k v w m d g h =>
  have f:=a.inr _ g;obtain⟨r,n⟩:=(YH a j k (by omega) w f.2.1 f.2.2).2 d h;refine⟨k,by omega,(v,w,m),g,?_⟩;simp only[mY,dg,decide_eq_true_eq];exact⟨n,by omega⟩
def abK (j:j7 L N) {k:Nat} (E:k<N) {l:Lk} (z:l∈L) (hb:mY L N k l=true) :
 ∃q,pK L (exL L N l.1) (fun n=>ilt n 0) (k+1) l.1 0 []=q/\q.length=k+1/\(∀i∈q,Ew L i=false)/\Ţ L q=0/\∃u s,Ey L u 0 q=(u,s,true)/\s<0:=by
 have D:=j.n60;have a:=j.inr _ z;simp only[mY,dg,decide_eq_true_eq] at hb;have e:=FO j a.1 k (by omega);obtain⟨_,C,_⟩:=IE j (B:=k*4503599627370496) (by omega) (by omega) e a.1.1 a.1.2 L (fun _ h=>h) (List.replicate N š) (by simp) (QY (by omega));have h2:gv (exL L N l.1 (k+1)) l.1<=l.2.2+gv (exL L N l.1 k) l.2.1:=C l.2.1 l.2.2 z hb.1
 have p:gv (exL L N l.1 (k+1)) l.1≠š:=fun h=>by rw[h] at h2; unfold š at h2; omega
 obtain⟨q,x,v,o,s,d,A⟩:=Rh j a.1 (fun n=>ilt n 0) (k+1) (by omega) l.1 0 [] a.1.1 a.1.2 p (by rw[Int.zero_add]; exact decide_eq_true (by omega));rw[ew] at x;have y:s<0:=of_decide_eq_true A;refine⟨q,x,v,o,?_,l.1,s,d,y⟩
 have g:q.any (Ew L)=false:=by
  rw[ee]
  exact fun i hi=>by rw[o i hi]; simp
 cases q with
 |nil=>simp at v
 |cons i t =>
  have hi:=o i (by simp);simp only[Ew,gN,decide_eq_false_iff_not] at hi;have F:L[i.toNat]?=some L[i.toNat]:=df (by omega)
  have f:(L[i.toNat]?.getD (0,0,0)).1=l.1:=by
   unfold Ey at d
   by_cases h:(L[i.toNat]?.getD (0,0,0)).1=l.1
   ·exact h
   ·rw[if_neg h] at d; simp at d
  have r:mQ L (i::t)=0:=by
   unfold mQ;rw[if_neg (by omega),g];rfl
  unfold Ţ;rw[r,if_neg (by simp)];dsimp only;rw[f,d];unfold afg;dsimp only;rw[if_pos ⟨rfl,rfl,y⟩]
end
def ad1 {L:BY Lk} {p:Int->Int} (e:Pot L p):∀(l:BY Int) (u s:Int),(∀i∈l,0<=i/\i.toNat<L.length)->(Ey L u s l).2.2=true->p (Ey L u s l).1-p u<=(Ey L u s l).2.1-s
 |[],u,s,_,_=>by simp[Ey]
 |i::t,u,s,hi,a=>by
  have h:=hi i (by simp);have d:L[i.toNat]?=some L[i.toNat]:=List.getElem?_eq_getElem h.2;have f:=List.mem_of_getElem? d;generalize L[i.toNat]=x at d f;unfold Ey at a ⊢;rw[d] at a ⊢;simp only[Option.getD_some] at a ⊢
  split at a
  ·rename_i g;rw[if_pos g];have n:=e x.1 x.2.1 x.2.2 f;have h2:=ad1 e t x.2.1 (s+x.2.2) (fun j k=>hi j (by simp[k])) a;rw[g] at n;omega
  ·cases a
section
variable {L:BY Lk} {N:Nat}
def al5 {ρ:Type} (c0:BY (BY Int)) (a:BY Lk):@A6 ρ c0 a=folM (fun n=>ilt n 0) c0 a:=rfl
def zm (L:BY Lk) (N:Nat):BY (BY (BY Int)):=(List.range N).map fun(n:Nat)=>nq L N n N
def afO {L:BY Lk} {N n:Nat} (h:n<N):(zm L N)[n]?=some (nq L N n N):=by
 unfold zm;rw[List.getElem?_map,List.getElem?_range h];rfl
def acm {ρ:Type} (l:j7 L N) (K:BY (BY (BY Int))->BE ρ) :
 Ë (fun(d:Int×BY (BY (BY Int))) f=>pb (Õ (List.replicate N ([]:th))) (N:Int) L d.1 d.2 (fun k j=>f (k,j)) K) ((0:Int),(List.replicate N ([]:th)))=K (zm L N):=by
 have p:=l.n60;refine ï (List.replicate N ()) (fun i=>((List.range i).map fun(n:Nat)=>nq L N n N)++List.replicate (N-i) ([]:BY (BY Int))) _ (by simp) (fun i a hi ha o=>?_) (fun o=>?_)
 ·try dsimp only
  unfold pb;rw[List.length_replicate] at hi;rw[Î,List.length_replicate,Ñ (decide_eq_true (by omega)),alW l ⟨by omega,by omega⟩ (by omega),À]
  have g:(((List.range i).map fun(n:Nat)=>nq L N n N)++List.replicate (N-i) ([]:BY (BY Int))).length=N:=by simp; omega
  rw[show í (((List.range i).map fun(n:Nat)=>nq L N n N)++List.replicate (N-i) ([]:BY (BY Int)))=(N:Int) by unfold í; rw[g],Ź (by omega) (by omega),Int.toNat_natCast]
  have h:(((List.range i).map fun(n:Nat)=>nq L N n N)++List.replicate (N-i) ([]:BY (BY Int)))[i]?=some []:=by
   rw[gi (by simp),ii,if_pos (by simp; omega)]
  rw[Ž h,Ï (by omega) (by omega)];congr 2;rw[gL _ _ (by simp),fE,fp]
  have e:N-i=(N-(i+1))+1:=by omega
  rw[e,gA];simp
 ·try dsimp only
  unfold pb;rw[Î,List.length_replicate,List.length_replicate,Í (decide_eq_false (by omega))];unfold zm;simp
def ZC {ρ:Type} (d:j7 L N) {k:Nat} (F:k<N) (k0:Unit->BE ρ) (k1:Int×BY Int->BE ρ) (o:Unit->BE ρ) :
 Ë (fun(p:Int) f=>o9 ((k:Int)+1) L (Õ L) (N:Int) L (zm L N) p (fun q=>f q) k0 k1 o) (0:Int) =
  match L.find? (mY L N k) with|some l=>k1 (0,pK L (exL L N l.1) (fun n=>ilt n 0) (k+1) l.1 0 [])|none=>o ():=by
 have G:=d.n60;have D:=d.len;rw[Nv];refine(jn L (mY L N k) (fun j=>match L[j.toNat]? with|some l=>k1 (0,pK L (exL L N l.1) (fun n=>ilt n 0) (k+1) l.1 0 [])|none=>o ()) (o ()) (fun i l hi t y=>?_) (fun y=>?_)).trans ?_
 ·try dsimp only
  unfold o9;have v:=List.mem_of_getElem? t;have a:=d.inr l v;have C:=d.most l v
  have r:((l.1.toNat:Nat):Int)=l.1:=by omega
  have x:(zm L N)[l.1.toNat]?=some (nq L N l.1 N):=by rw[afO (by omega),r]
  have s:í (zm L N)=(N:Int):=by simp[í,zm]
  have g:=FO d a.1 k (by omega) l.2.1;rw[Ì hi,Ä t,s,Ź a.1.1 a.1.2,Ž x,show((k:Int)+1-1)=(k:Int) by omega,Ï (by omega) (by omega),Ä (KQ (by omega)),yh a.2.1 (by rw[adp]; omega)];unfold mY
  by_cases e:gv (exL L N l.1 k) l.2.1=š
  ·rw[Ñ (beq_iff_eq.2 e),Ê hi (by omega),if_neg (by simp[e])]
  ·have hb:=g e;rw[Í (beq_eq_false_iff_ne.2 e),Ï (by omega) (by omega)]
   by_cases h2:l.2.2+gv (exL L N l.1 k) l.2.1<0
   ·rw[Í (decide_eq_false (by omega)),Í (decide_eq_false (by omega)),Ź a.1.1 a.1.2,Ž x,if_pos (by simp[e,h2]),al5,dt,t];have u:∀j,j<k+1->(nq L N l.1 N)[j]?=some (exL L N l.1 j):=fun j E=>KQ (by omega)
    have A:∀j,j<k+1->Lim 900000000000000000 (exL L N l.1 j)/\(exL L N l.1 j).length=N:=fun j E=>⟨fun w B=>by
     have:=FO d a.1 j (by omega) w B; omega,adp _ _⟩
    have:=an7 d (fun n=>ilt n 0) (rest:=nq L N l.1 N) (R:=exL L N l.1) (k0:=k+1) (by omega) u A l.1 (fun z=>k1 (0,z));rw[show(((k+1:Nat):Int))=(k:Int)+1 by push_cast; rfl] at this;exact this
   ·rw[Ñ (decide_eq_true (by omega)),Ê hi (by omega),if_neg (by simp[e,h2])]
 ·try dsimp only
  unfold o9;rw[Ó]
 ·cases h:L.findIdx? (mY L N k) with
  |none=>rfl
  |some j=>dsimp only; rw[Int.toNat_natCast]
def akR (d:j7 L N) (i:kQ L N=false):∃(K:Nat) (l:Lk),K<N/\(∀k,k<K->∀x∈L,mY L N k x=false)/\L.find? (mY L N K)=some l/\pq ((N:Int),L)=some (pK L (exL L N l.1) (fun n=>ilt n 0) (K+1) l.1 0 [],0):=by
 have G:=d.n60;obtain⟨y,E,B,q,t⟩:=ag7 d i
 -- the first number of links
 have r:∃K,K<=y/\(∃l∈L,mY L N K l=true)/\∀k,k<K->∀x∈L,mY L N k x=false:=by
  have:∀n:Nat,(∀k,k<n->∀x∈L,mY L N k x=false)\/∃K,K<n/\(∃l∈L,mY L N K l=true)/\∀k,k<K->∀x∈L,mY L N k x=false:=by
   intro n
   induction n with
   |zero=>exact .inl fun k o=>by omega
   |succ n D =>
    rcases D with h|⟨K,u,h2⟩
    ·by_cases j:∃l∈L,mY L N n l=true
     ·exact .inr ⟨n,by omega,j,h⟩
     ·refine .inl fun k o x g=>?_;rcases gC (Nat.le_of_lt_succ o) with u|rfl
      ·exact h k u x g
      ·exact eP.2 fun e=>j ⟨x,g,e⟩
    ·exact .inr ⟨K,by omega,h2⟩
  rcases this (y+1) with h|⟨K,u,h2,F⟩
  ·have:=h y (by omega) B q;rw[t] at this; cases this
  ·exact⟨K,by omega,h2,F⟩
 obtain⟨K,H,⟨A,p,s⟩,a⟩:=r
 obtain⟨l,z⟩:∃l,L.find? (mY L N K)=some l:=by
  cases h:L.find? (mY L N K) with
  |none=>have:=eD.1 h A p; exact absurd s this
  |some l=>exact⟨l,rfl⟩
 refine⟨K,l,by omega,a,z,?_⟩;unfold pq HL;rw[mZ d,À,Í (by rfl),wS d.links d.n1 (by omega),À,if_neg (by simp[i]),Í (by rfl),okN (by omega),Int.toNat_natCast];refine(acm d _).trans ?_;refine ð (fun v=>∃k:Nat,k<=K/\v=(k:Int)+1) (fun v=>(K+2)-v.toNat) ?_ ⟨0,by omega,rfl⟩;rintro v ⟨k,o,rfl⟩;rcases Nat.lt_or_eq_of_le o with h|rfl
 ·refine .inr ⟨((k+1:Nat):Int)+1,⟨k+1,h,rfl⟩,by omega,fun C=>?_⟩;unfold t8;refine(ZC d (by omega) _ _ _).trans ?_
  have f:L.find? (mY L N k)=none:=eD.2 fun x j=>by rw[a k h x j]; simp
  rw[f];dsimp only;rw[Ï (by omega) (by omega)];congr 1
 ·refine .inl fun C=>?_;unfold t8;refine(ZC d (by omega) _ _ _).trans ?_;rw[z]
end
def ahM (L:BY Lk) (N:Nat):BY (Int×Int):=(List.range N).map fun(n:Nat)=>(-(dst L N n 0),dst L N 0 n)
section
variable {L:BY Lk} {N:Nat}
def afR {n:Nat} (h:n<N):(ahM L N)[n]?=some (-(dst L N n 0),dst L N 0 n):=by
 unfold ahM;rw[List.getElem?_map,List.getElem?_range h];rfl
def amD (g:j7 L N) (l:adQ L N) (j:kQ L N=true):wE ((N:Int),L)=some (ahM L N,0):=by
 have r:=g.n60;have p:=g.n1;unfold wE Qo;rw[amx g (fun n o=>by simp at o) (by simp),À,if_pos j,Í (by rfl),abX g.links g.n1 (by omega) j ⟨by omega,by omega⟩,À,okN (by omega),Int.toNat_natCast];have d:(BF L N 0).length=N:=RX 0;refine ï (List.replicate N ()) (fun i=>((List.range i).map fun(n:Nat)=>dst L N n 0)++List.replicate (N-i) (0:Int)) _ (by simp) (fun i a hi ha k=>?_) (fun k=>?_)
 ·try dsimp only
  unfold t7;rw[List.length_replicate] at hi;rw[Î,List.length_replicate,Ñ (decide_eq_true (by omega)),abX g.links g.n1 (by omega) j ⟨by omega,by omega⟩,À,yh (by omega) (by rw[RX]; simp; omega)]
  have h:(((List.range i).map fun(n:Nat)=>dst L N n 0)++List.replicate (N-i) (0:Int)).length=N:=by simp; omega
  rw[show í (((List.range i).map fun(n:Nat)=>dst L N n 0)++List.replicate (N-i) (0:Int))=(N:Int) by unfold í; rw[h],Ź (by omega) (by omega),Int.toNat_natCast]
  have f:(((List.range i).map fun(n:Nat)=>dst L N n 0)++List.replicate (N-i) (0:Int))[i]?=some 0:=by
   rw[gi (by simp),ii,if_pos (by simp; omega)]
  rw[Ž f,Ï (by omega) (by omega)];congr 2;rw[gL _ _ (by simp),fE,fp]
  have e:N-i=(N-(i+1))+1:=by omega
  rw[e,gA];simp[dst]
 ·try dsimp only
  unfold t7;rw[Î,List.length_replicate,List.length_replicate,Í (decide_eq_false (by omega))]
  have q:((List.range N).map fun(n:Nat)=>dst L N n 0)++List.replicate (N-N) (0:Int)=(List.range N).map fun(n:Nat)=>dst L N n 0:=by simp
  rw[q];refine ï (List.replicate N ()) (fun i=>(List.range i).map fun(n:Nat)=>(-(dst L N n 0),dst L N 0 n)) _ (by simp) (fun i a hi ha k=>?_) (fun k=>?_)
  ·try dsimp only
   unfold tZ;rw[List.length_replicate] at hi
   have f:((List.range N).map fun(n:Nat)=>dst L N n 0)[i]?=some (dst L N i 0):=by
    rw[fc,gy hi]; rfl
   have hb:=dst_bd g l j (s:=(i:Int)) (t:=0) ⟨by omega,by omega⟩ ⟨by omega,by omega⟩;rw[Î,d,Ñ (decide_eq_true (by omega)),show í ((List.range N).map fun(n:Nat)=>dst L N n 0)=(N:Int) by simp[í],Ź (by omega) (by omega),dt,Ž f,Ï (by omega) (by omega),yh (by omega) (by rw[d]; simp; omega),ä (Ò (by simp only[dL,fm,dS]; omega)),Ï (by omega) (by omega),Int.zero_sub];congr 2;rw[fE,fp];rfl
  ·try dsimp only
   unfold tZ;rw[Î,d,List.length_replicate,Í (decide_eq_false (by omega))];rfl
end
abbrev nT (m:Ŋ) (w:Way):Nat:=(Ø (trP m w)).length+1
abbrev sT (m:Ŋ) (w:Way):BY Lk:=Τ (trP m w)
def Es (L:BY Lk) (N:Nat):BY Int:=((pq ((N:Int),L)).getD ([],0)).1
def abL {L:BY Lk} {N:Nat} (f:j7 L N) (a:kQ L N=false):pq ((N:Int),L)=some (Es L N,0)/\Ţ L (Es L N)=0/\(Es L N).length<=N:=by
 obtain⟨K,l,j,_,h,g⟩:=akR f a;obtain⟨q,d,k,_,i,_⟩:=abK f j (fP h) (fS h)
 have e:Es L N=q:=by unfold Es; rw[g,d]; rfl
 rw[e];exact⟨by rw[g,d],i,by omega⟩
section
variable {m:Ŋ} {w:Way} {ρ:Type}
def ad9 (n:Nat):(((n:Int)+1,Τ (trP m w)):Sys)=(((n+1:Nat):Int),Τ (trP m w)):=by simp
def afE (m:Ŋ):BY (BY Int)×Int:=if ĭ m≠0 then([],ĭ m) else if m8 m then([],5) else((Ł m.2).map fun w=>Es (sT m w) (nT m w),0)
def amN (l:In m.1) (n:m.2.length<=1000):IJ m=some (afE m):=by
 unfold IJ Pe afE;rw[oA l n,À]
 by_cases e:ĭ m=0
 ·have h:=(œ m).1 e;have p:=sJ h;have o:((((m.1.1.1,m.1.1.2),m.1.2.1,m.1.2.2.1,m.1.2.2.2.1,m.1.2.2.2.2.1,m.1.2.2.2.2.2),m.2):Ŋ)=m:=rfl;rw[Í (by simp[ine,e]),if_neg (by simp[e]),NR h,À];refine Ik (Ł m.2) (fun i=>((Ł m.2).take i).map fun w=>Es (sT m w) (nT m w)) _ (fun i=>∀w∈(Ł m.2).take i,lX m w=false) rfl (fun w a=>by simp at a) (fun i x hi d f k=>?_) (fun f k=>?_)
  ·try dsimp only
   unfold tz;have j:=wQ h (qS d);rw[Ì hi,Ä d,o,sL h (qS d),À,Sf h (qS d),À];dsimp only;rw[ad9]
   cases g:lX m x with
   |true =>
    refine .inl ?_;rw[agF j.sys g,À];have:m8 m=true:=dD.2 ⟨x,dk d,g⟩;rw[this]; rfl
   |false =>
    refine .inr ⟨fun w a=>?_,?_⟩
    ·rw[take_succ d] at a;rcases dl.1 a with a|a
     ·exact f w a
     ·rw[dq.1 a]; exact g
    ·rw[(abL j.sys g).1,À,Í (by rfl),ä (Ò (by simp; omega)),Ê hi (by omega),take_succ d,fp]; rfl
  ·rw[fI] at f
   try dsimp only
   unfold tz
   have:m8 m=false:=ee.2 fun w a=>by rw[show lX m w=false from f w a]; simp
   rw[Ó,fI,this]; rfl
 ·rw[Ñ (by simp[ine,e]),if_pos e]
def yB (m:Ŋ) (a:BY (BY Int)):Bool:=(List.range (Ł m.2).length).all fun i=>match (Ł m.2)[i]?,a[i]? with|some w,some c=>decide (Ţ (sT m w) c=0)|_,_=>false
def oe (m:Ŋ) (a:BY (BY Int)):Int:=if ĭ m≠0 then ĭ m else if a.length≠(Ł m.2).length then 8 else if yB m a then 0 else 8
def Ji (l:In m.1) (n:m.2.length<=1000) (a:BY (BY Int)):lh m a=some (oe m a):=by
 unfold lh uK oe;rw[oA l n,À]
 by_cases f:ĭ m=0
 ·have h:=(œ m).1 f;have p:=sJ h;have o:((((m.1.1.1,m.1.1.2),m.1.2.1,m.1.2.2.1,m.1.2.2.2.1,m.1.2.2.2.2.1,m.1.2.2.2.2.2),m.2):Ŋ)=m:=rfl;rw[Í (by simp[ine,f]),if_neg (by simp[f]),NR h,À]
  by_cases j:a.length=(Ł m.2).length
  ·rw[Í (by simp[ine,Î]; omega),if_neg (by simp[j])];refine ej (aeO (Ł m.2).length (fun i=>match (Ł m.2)[i]?,a[i]? with|some w,some c=>decide (Ţ (sT m w) c=0)|_,_=>false) (some 8) (some 0) (fun i hi k=>?_) (fun k=>?_)) ?_
   ·have e:(Ł m.2)[i]?=some (Ł m.2)[i]:=df hi;have d:a[i]?=some a[i]:=df (by omega)
    try dsimp only
    unfold ke;rw[Ì hi,Ä e,o,sL h (qS e),À,Sf h (qS e),À,Ä d];dsimp only;rw[ad9,Uj (wQ h (qS e)).sys,À,e,d,ô,Ê hi (by omega)];dsimp only
    by_cases g:Ţ (sT m (Ł m.2)[i]) a[i]=0
    ·rw[if_neg (by simp[ine,g]),if_pos (by simpa using g)]
    ·rw[if_pos (by simp[ine,g]),if_neg (by simpa using g)]
   ·try dsimp only
    unfold ke;rw[Ó]
   ·unfold yB
    cases(List.range (Ł m.2).length).all fun i=>match (Ł m.2)[i]?,a[i]? with|some w,some c=>decide (Ţ (sT m w) c=0)|_,_=>false<;>rfl
  ·rw[Ñ (by simp[ine,Î]; omega),if_pos j]
 ·rw[Ñ (by simp[ine,f]),if_pos f]
def BL (m:Ŋ) (w:Way):Bool×Int:=if pu m w≠0 then(false,pu m w) else(lX m w,0)
def adT (e:In m.1) (g:m.2.length<=1000) (d:∀l∈w,l.length<=100000):uA m w=some (BL m w):=by
 unfold uA Af BL;rw[ab1 e g d,À]
 by_cases a:pu m w=0
 ·obtain⟨h,f⟩:=FW.1 a;rw[Í (by simp[ine,a]),if_neg (by simp[a]),sj h f]; rfl
 ·rw[Ñ (by simp[ine,a]),if_pos a]
def WhoP (m:Ŋ) (w:Way) (x d:Int):Int×Int:=if pu m w≠0 then(0,pu m w) else if Bj m.1 x d≠0 then(0,Bj m.1 x d) else(iQ m.2 w x d,0)
def aow (f:In m.1) (j:m.2.length<=1000) (g:∀l∈w,l.length<=100000) (x d:Int):YB m w x d=some (WhoP m w x d):=by
 unfold YB acQ WhoP;rw[ab1 f j g,À]
 by_cases a:pu m w=0
 ·obtain⟨h,i⟩:=FW.1 a;rw[Í (by simp[ine,a]),if_neg (by simp[a]),Yl f.size.gauges,À]
  by_cases e:Bj m.1 x d=0
  ·rw[Í (by simp[ine,e]),if_neg (by simp[e]),h.who i]; rfl
  ·rw[Ñ (by simp[ine,e]),if_pos e]
 ·rw[Ñ (by simp[ine,a]),if_pos a]
def Q0 (b:ø) (n:Int×Int):(Int×Int)×Int:=if (CJ b n).2≠0 then((0,0),(CJ b n).2) else(ivR (CJ b n).1 n,0)
def ahG {b:ø} (h:Room b) {n:Int×Int} (e:(CJ b n).2=0):Room (CJ b n).1/\afG (CJ b n).1 n:=by
 rcases ahH e with⟨a,h2⟩|⟨a,h2,_⟩
 ·rw[a];exact⟨h,(Yr h.good).1 h2⟩
 ·rw[a];refine⟨⟨h2,?_,h.num⟩,aiJ n h2⟩;obtain⟨f,z,d⟩:=(aal h.good).1 h.op;exact(aal h2).2 ⟨f,z,aiK.2 d⟩
def QZ {B:ø} (h:Room B) {n:Int×Int} (j:afG B n) (K:(Int×Int)×Int->BE ρ) :
 (Æ (si B n) fun i=>Æ (jz B) fun g=>Æ (wE g.1) fun a=>ifb (ine a.2 (0:Int)) (K (((0:Int),(0:Int)),a.2)) (é a.1 i.1 fun l=>K (l,(0:Int))))=K (ivR B n,0):=by
 have f:In B:=⟨h.good.size,h.num⟩;have hi:=(Yr h.good).2 j;have o:=an2 B n;have d:=amD h.good.sys h.good.tied h.op;rw[Si f,À,Sh,if_neg (by simp[(Λ _).2 h.good]),if_neg hi,ab6 f,À,Y9,if_neg (by simp[(Λ _).2 h.good])];dsimp only;rw[show((((Ø B).length:Int)+1,Τ B):Sys)=((((Ø B).length+1:Nat):Int),Τ B) by simp,d,À,Í (by rfl)];obtain⟨k,e⟩:∃k:Nat,Vw B n.1 n.2=k:=⟨(Vw B n.1 n.2).toNat,by omega⟩;rw[e,Ä (afR (by omega))];unfold ivR dstR;rw[e]
def aiU {b:ø} (h:Room b) (n:Int×Int):Ch b n=some (Q0 b n):=by
 have d:In b:=⟨h.good.size,h.num⟩;have a:=(Λ _).2 h.good;unfold Ch JM Q0;rw[Si d,À]
 by_cases hi:Vw b n.1 n.2=0
 ·have f:(Sh b n).2=5:=by unfold Sh; rw[if_neg (by simp[a]),if_pos hi]
  rw[Ñ (by simp[ine,f]),aoA d,À,aoB,if_neg (by simp[a])]
  by_cases h2:ş (uU b n)=0
  ·have e:CJ b n=(uU b n,0):=by unfold CJ; rw[if_neg (by simp[hi]),if_neg (by simp[h2])]
   obtain⟨r1,r2⟩:=ahG h (n:=n) (by rw[e]);rw[e] at r1 r2;rw[if_neg (by simp[h2]),Í (by rfl),QZ r1 r2,e,if_neg (by simp)]
  ·have e:CJ b n=(ams,ş (uU b n)):=by unfold CJ; rw[if_neg (by simp[hi]),if_pos h2]
   rw[if_pos h2,Ñ (by simp[ine,h2]),e,if_pos h2]
 ·have f:(Sh b n).2=0:=by unfold Sh; rw[if_neg (by simp[a]),if_neg hi]
  have e:CJ b n=(b,0):=by unfold CJ; rw[if_pos hi]
  rw[Í (by simp[ine,f]),<-Si d,QZ h ((Yr h.good).1 hi),e,if_neg (by simp)]
def aje {α β:Type} {f:α->BE β}:∀{l:BY α} {i:Nat} {x:α} {e:β},l[i]?=some x->(∀w∈l.take i,f w=none)->f x=some e->l.findSome? f=some e
 |[],_,_,_,h,_,_=>by simp at h
 |y::l,0,x,e,h,_,a=>by simp at h; subst h; rw[gR,a]
 |y::l,i+1,x,e,h,d,a=>by
  rw[gR,d y (by simp)];exact aje (by simpa using h) (fun w g=>d w (by simp[g])) a
abbrev Fnd:=BY (Int×(Int×Int))
def hullP (s t:Int×Int):Int×Int:=(min s.1 t.1,max s.2 t.2)
def an9 (m:Ŋ) (label d:Int) (M:Fnd) (w:Way):Fnd :=
 UW (k:=tI) (v:=Ã) (iQ m.2 w label d) (match sS (k:=tI) (v:=Ã) (iQ m.2 w label d) M with|some s=>hullP (Q0 (trP m w) (iQ m.2 w label d,d)).1 s|none=>(Q0 (trP m w) (iQ m.2 w label d,d)).1) M
def IC (m:Ŋ) (label d:Int) (l:BY Way):Fnd:=l.foldl (an9 m label d) []
def ak0 (m:Ŋ) (label d:Int) (w:Way):Int:=(Q0 (trP m w) (iQ m.2 w label d,d)).2
def adU (m:Ŋ) (label d:Int):BY (Int×Int×Int)×Int :=
 if ĭ m≠0 then([],ĭ m) else if Bj m.1 label d≠0 then([],Bj m.1 label d) else if kv m=[] then([],5) else
 match (kv m).findSome? fun w=>KT (ak0 m label d w) with
 |some e=>([],e)
 |none=>(m.1.2.1.filterMap fun g=>(sS (k:=tI) (v:=Ã) g.1 (IC m label d (kv m))).map fun s=>(g.1,s),0)
def Nt (a:w∈kv m):Į m.2 w/\lX m w=true:=by
 obtain⟨d,h2⟩:=d8.1 a;exact⟨zh.1 d,h2⟩
def aeZ (h:MOk m):(kv m).length<=150:=dE (eh _ _) (sJ h)
def anJ (h:MOk m) (a:Į m.2 w) (d:lX m w=true):Room (trP m w):=⟨wQ h a,d,h.in_.num⟩
def akO (B:In m.1) (F:m.2.length<=1000) (label d:Int):Ci m label d=some (adU m label d):=by
 unfold Ci JR adU;rw[oA B F,À]
 by_cases r:ĭ m=0
 ·have h:=(œ m).1 r;have J:=B.size.gauges;have I:=aeZ h;rw[Í (by simp[ine,r]),if_neg (by simp[r]),Yl J,À]
  by_cases t:Bj m.1 label d=0
  ·rw[Í (by simp[ine,t]),if_neg (by simp[t]),ai7 h,À]
   by_cases a:kv m=[]
   ·rw[Ñ (by simp[ieq,Î,a]),if_pos a]
   ·have:(kv m).length≠0:=fun e=>a (dJ.1 e);rw[Í (by simp[ieq,Î,a]),if_neg a];have key:∀(l:BY Way),(∀w∈l,KT (ak0 m label d w)=none)->l.findSome? (fun w=>KT (ak0 m label d w))=none:=fun l H=>List.findSome?_eq_none_iff.2 H;refine Ik (kv m) (fun i=>IC m label d ((kv m).take i)) _ (fun i=>∀w∈(kv m).take i,KT (ak0 m label d w)=none) rfl (fun w f=>by simp at f) (fun i x hi o p E=>?_) (fun p E=>?_)
    ·obtain⟨u,D⟩:=Nt (dk o);have j:=anJ h u D
     try dsimp only
     unfold p9;rw[Ì hi,Ä o,show((((m.1.1.1,m.1.1.2),m.1.2.1,m.1.2.2.1,m.1.2.2.2.1,m.1.2.2.2.2.1,m.1.2.2.2.2.2),m.2):Ŋ)=m from rfl,h.who u,À,sL h u,À,aiU j,À]
     by_cases n:ak0 m label d x=0
     ·refine .inr ⟨fun w f=>?_,?_⟩
      ·rw[take_succ o] at f;rcases dl.1 f with f|f
       ·exact p w f
       ·rw[dq.1 f,n]; rfl
      ·unfold ak0 at n
       have z:IC m label d ((kv m).take (i+1))=an9 m label d (IC m label d ((kv m).take i)) x:=by rw[take_succ o,IC,List.foldl_append]; rfl
       rw[Í (by simp[ine,n]),z];unfold an9 Sk
       cases sS (k:=tI) (v:=Ã) (iQ m.2 x label d) (IC m label d ((kv m).take i)) with
       |none=>dsimp only; rw[Ê hi (by omega)]
       |some s =>
        dsimp only;rw[Ê hi (by omega),Yq,ai2]; rfl
     ·refine .inl ?_
      have A:(kv m).findSome? (fun w=>KT (ak0 m label d w))=some (ak0 m label d x):=by
       exact aje o p (by simp[KT,n])
      rw[A];unfold ak0 at n ⊢;rw[Ñ (by simp[ine,n])]
    ·rw[fI] at p
     try dsimp only
     unfold p9;rw[Ó,key _ p,List.take_length];dsimp only;refine ï m.1.2.1 (fun i=>(m.1.2.1.take i).filterMap fun g=>(sS (k:=tI) (v:=Ã) g.1 (IC m label d (kv m))).map fun s=>(g.1,s)) _ rfl (fun i g hi C y=>?_) (fun y=>?_)
     ·try dsimp only
      unfold p8;have G:((m.1.2.1.take i).filterMap fun g=>(sS (k:=tI) (v:=Ã) g.1 (IC m label d (kv m))).map fun s=>(g.1,s)).length<=1000:=Nat.le_trans (List.length_filterMap_le _ _) (by rw[List.length_take]; omega);rw[Ì hi,Ä C,take_succ C,List.filterMap_append];unfold Sk
      cases q:sS (k:=tI) (v:=Ã) g.1 (IC m label d (kv m)) with
      |none=>simp only[List.filterMap_cons,q,Option.map_none,List.filterMap_nil,dB]; rw[Ê hi (by omega)]
      |some s =>
       simp only[List.filterMap_cons,q,eA,List.filterMap_nil];rw[ä (Ò (by rw[dS]; omega)),Ê hi (by omega)]
     ·try dsimp only
      unfold p8;rw[Ó,List.take_length]
  ·rw[Ñ (by simp[ine,t]),if_pos t]
 ·rw[Ñ (by simp[ine,r]),if_pos r]
end
def abe {ρ α:Type} [DecidableEq α] {l m:BY α} (n:l.length=m.length) (K:Bool->BE ρ) {f:Int->(Int->BE ρ)->BE ρ}
 (h:∀(i:Nat) (a b:α),i<l.length->l[i]?=some a->m[i]?=some b->∀d,f i d=if a=b then d ((i:Int)+1) else K false) (k:∀d,f l.length d=K true):Ë f 0=K (decide (l=m)):=by
 refine ej (jv l (fun i a=>if m[i]?=some a then none else some false) K (K true) (fun i a hi ha d=>?_) k) ?_
 ·have j:m[i]?=some m[i]:=df (by omega);rw[h i a _ hi ha j,j]
  by_cases g:a=m[i]
  ·simp[g]
  ·have:¬m[i]=a:=fun e=>g e.symm;simp[g,this]
 ·cases h:Ĝ (fun i a=>if m[i]?=some a then none else some false) 0 l with
  |none=>simp[ZE n h]
  |some b =>
   obtain⟨o,h2⟩:=ZD h;simp[o,h2]
def K8 {a b:Way} (n:a.length<=1000000) (k:∀l∈a,l.length<=1000000):iY a b=some (decide (a=b)):=by
 unfold iY Ao;rw[Î,Î]
 by_cases d:a.length=b.length
 ·rw[Í (by simp[ine,d])];refine abe d some (fun i x y hi f j g=>?_) (fun g=>?_)
  ·try dsimp only
   unfold mL;rw[Ì hi,Ä f,Ä j,Sg (k x (List.mem_of_getElem? f)),À,Ê hi (by omega),ô]
   by_cases h:x=y<;>simp[h]
  ·try dsimp only
   unfold mL;rw[Ó]
 ·rw[Ñ (by simp[ine]; omega)];have:a≠b:=fun e=>d (by rw[e]);simp[this]
def adS {a b:BY Way} (n:a.length<=1000000) (k:∀w∈a,w.length<=1000000/\∀l∈w,l.length<=1000000):jj a b=some (decide (a=b)):=by
 unfold jj xu;rw[Î,Î]
 by_cases d:a.length=b.length
 ·rw[Í (by simp[ine,d])];refine abe d some (fun i x y hi f j g=>?_) (fun g=>?_)
  ·try dsimp only
   unfold lK;have:=k x (List.mem_of_getElem? f);rw[Ì hi,Ä f,Ä j,K8 this.1 this.2,À,Ê hi (by omega),ô]
   by_cases h:x=y<;>simp[h]
  ·try dsimp only
   unfold lK;rw[Ó]
 ·rw[Ñ (by simp[ine]; omega)];have:a≠b:=fun e=>d (by rw[e]);simp[this]
def ajJ {L:BY Lk} {p:Int->Int} (d:Pot L p) (c:BY Int):Ţ L c≠0:=by
 unfold Ţ
 by_cases h2:mQ L c=0
 case neg=>rw[if_pos h2]; exact h2
 rw[if_neg (by simp[h2])];have hi:=(adi h2).2
 cases c with
 |nil=>exact(by decide:(8:Int)≠0)
 |cons i t =>
  dsimp only;unfold afg
  split
  ·rename_i a;have:=ad1 d (i::t) (L[i.toNat]?.getD (0,0,0)).1 0 hi a.1;rw[a.2.1] at this;have:=a.2.2;omega
  ·decide
def ajI {m:Ŋ} {w:Way} (h:MOk m) (d:Į m.2 w) {c:BY Int} (g:Ţ (sT m w) c=0):lX m w=false:=by
 rw[eP];intro f;have a:=wQ h d;have i:=a.sys.n60;obtain⟨p,e⟩:=(mu a.sys.links (by omega)).1 f;exact ajJ e c g
def ah3 {m:Ŋ} (h:MOk m) {a:BY (BY Int)} (f:yB m a=true):∀w∈Ł m.2,lX m w=false:=by
 intro w e;obtain⟨i,hi,rfl⟩:=dw.1 e;have:=dM.1 f i (fj.2 hi);rw[df hi] at this
 cases d:a[i]? with
 |none=>rw[d] at this; cases this
 |some c =>
  rw[d] at this;exact ajI h (zh.1 e) (of_decide_eq_true this)
def ZM {m:Ŋ} (h:MOk m) (e:m8 m=false):yB m ((Ł m.2).map fun w=>Es (sT m w) (nT m w))=true:=by
 refine dM.2 fun i hi=>?_;rw[fj] at hi;have d:(Ł m.2)[i]?=some (Ł m.2)[i]:=df hi;have a:(Ł m.2)[i]∈Ł m.2:=fH hi;rw[fc,d];have f:=ee.1 e _ a;exact decide_eq_true (abL (wQ h (zh.1 a)).sys (eP.2 f)).2.1
def exM (l:BY Cmp):Ŋ:=(((0,2),[(1,0,1000,(-5,5),(1,10),1),(2,0,1000,(-50,50),(1,4),0),(3,0,1100,(-1,1),(0,1),0)],[(1,10)],[(1,(20,29),3)],(7,10,[1],[2],-20,1,100,200)::l,[]),[(12,[2,3])])
def ex8:Cmp:=(8,15,[2],[1],100,1,0,0)
def ex9:Cmp:=(9,15,[3],[],1100,0,0,0)
def ajj {l:BY Cmp} (f:l.length<=10) (e:∀c∈l,c.2.2.1.length<=10/\c.2.2.2.1.length<=10):In (exM l).1:=by
 refine⟨⟨by simp[exM],by simp[exM],by simp[exM],by simp[exM]; omega,by simp[exM],fun c a=>?_⟩,fun g d=>?_⟩
 ·rcases dm.1 (show c∈(7,10,[1],[2],-20,1,100,200)::l from a) with rfl|a
  ·exact⟨by decide,by decide⟩
  ·have:=e c a; omega
 ·simp only[exM,dm,ir,or_false] at d
  rcases d with rfl|rfl|rfl<;>exact⟨by decide,by decide⟩
def w0:ĭ (exM [])=0/\ĭ (exM [ex8])=0/\ĭ (exM [ex8,ex9])=0:=by decide +kernel
def w1:Ł (exM []).2=[[[2,3]],[[3,2]]]:=by decide +kernel
def w2:kv (exM [])=[[[2,3]],[[3,2]]]:=by decide +kernel
def w3:yd (exM [ex8])=([[3,2]],0):=by decide +kernel
def w4:adU (exM [ex8]) 2 15=([(3,1099,1101)],0):=by decide +kernel
def w5:aoE (exM [ex8,ex9])=([8,9],0):=by decide +kernel
def w6:akx (exM [ex8,ex9]) [7,8,9]=([8,9],0):=by decide +kernel
def w7:K7 (exM [ex8,ex9]) 2=(false,0):=by decide +kernel
def w8:m8 (exM [ex8,ex9])=false:=by decide +kernel
def w9:WhoP (exM [ex8,ex9]) [[3,2]] 2 13=(3,0):=by decide +kernel
def afU:ι=some true:=by
 have d:In (exM []).1:=ajj (by decide) (by simp);have e:In (exM [ex8]).1:=ajj (by decide) (by decide);have a:In (exM [ex8,ex9]).1:=ajj (by decide) (by decide)
 have n:∀l,(exM l).2.length<=1000:=fun l=>by simp[exM]
 have h0:=(œ _).1 w0.1;have h2:=(œ _).1 w0.2.2;have o:Ŭ []=some (exM []):=rfl;have k:Ŭ [((8:Int),(15:Int),[(2:Int)],[(1:Int)],(100:Int),(1:Int),(0:Int),(0:Int))]=some (exM [ex8]):=rfl;have j:Ŭ [((8:Int),(15:Int),[(2:Int)],[(1:Int)],(100:Int),(1:Int),(0:Int),(0:Int)),((9:Int),(15:Int),[(3:Int)],[],(1100:Int),(0:Int),(0:Int),(0:Int))]=some (exM [ex8,ex9]):=rfl
 have g:afE (exM [ex8,ex9])=((Ł (exM [ex8,ex9]).2).map (fun w=>Es (sT (exM [ex8,ex9]) w) (nT (exM [ex8,ex9]) w)),0):=by
  unfold afE; rw[if_neg (by simp[w0.2.2]),w8]; rfl
 have q:oe (exM [ex8,ex9]) ((Ł (exM [ex8,ex9]).2).map fun w=>Es (sT (exM [ex8,ex9]) w) (nT (exM [ex8,ex9]) w))=0:=by
  unfold oe;rw[if_neg (by simp[w0.2.2]),if_neg (by simp),ZM h2 w8]; rfl
 have p:∀c,oe (exM []) c=8:=fun c=>by
  unfold oe;rw[if_neg (by simp[w0.1])]
  split
  ·rfl
  ·rw[if_neg];intro h;have:=ah3 h0 h [[2,3]] (by rw[w1]; simp)
   have i:[[2,3]]∈kv (exM []):=by rw[w2]; simp
   rw[(Nt i).2] at this;cases this
 unfold ι EO;rw[o,À,aox d (n _),À,if_neg (by simp[w0.1]),À,anm d (n _),À,if_neg (by simp[w0.1]),k,À,aca e (n _),À,À,akO e (n _),À,j,À,aoD a (n _),À,adR a (n _) (by simp),À,ab5 a (n _),À,w1,w2,w3,w4,w5,w6,w7];rw[amN a (n _),À,g,Í (by rfl),Í (by rfl),Í (by rfl),Í (by rfl),Í (by rfl),Í (by rfl),Í (by rfl),Í (by simp[ine,Î]),Í (by simp[ine,Î]),Í (by rfl)];rw[show ∀f:Way->BE Bool,é [[[2,3]],[[3,2]]] (1:Int) f=f [[3,2]] from fun f=>rfl];dsimp only;rw[aow a (n _) (by decide),À,w9,Í (by rfl),Í (by rfl),Í (by rfl),Ji a (n _),À,q,Í (by rfl),À,Ji d (n _),À,p,Í (by rfl)];rw[K8 (by decide) (by decide),À,Ñ (by rfl),Ñ (by simp[ieq,Î])];rw[show ∀f:Int×Int×Int->BE Bool,é [((3:Int),(1099:Int),(1101:Int))] (0:Int) f=f (3,1099,1101) from fun f=>rfl];dsimp only;rw[Ñ (by rfl),Sg (by decide),À,Ñ (by rfl),À];rfl
end Go.Proofs.ZzM
end
