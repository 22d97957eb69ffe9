/- lemmas -/
import Derived.Test.YtbiecdpaididoaaGreatDoorPlA
import Derived.Test.YtbiecdpaididoaaGreatDoorMdTA
set_option linter.all false
noncomputable section
namespace Go.Proofs.ZzM
open Go Go.Am
def rP (n lo hi:Int):gS n lo hi=some (inP n lo hi):=by
 unfold gS Ug inP ige ile
 cases h:decide (lo<=n)<;>simp_all
def J8 (n:Int):oX n=some (yd n):=by
 unfold oX PT;rw[rP]; rfl
def pj (s:Int×Int) (lo hi:Int):Ζ s lo hi=some (Ÿ s lo hi):=by
 unfold Ζ Aa Ÿ ile
 cases decide (lo<=s.1)<;>cases decide (s.1<=s.2)<;>rfl
def Z6 {l:NO Int} (d:l.length<=1000000) (x:Int):B0 l x=some (l.contains x):=by
 unfold B0 PS;refine Eq.trans (Ę l (fun a=>a==x) (fun _=>some true) (some true) (some false) (fun _=>rfl) (fun i a hi ha c=>?_) (fun c=>?_)) ?_
 ·try dsimp only
  unfold ou;rw[Ð hi,Æ ha,È hi (by omega),û]
 ·try dsimp only
  unfold ou;rw[Ý]
 ·have:l.any (fun a=>a==x)=l.contains x:=by
   rw[cN,dI,dt];constructor
   ·rintro⟨a,ha,e⟩; rw[<-eq_of_beq e]; exact ha
   ·intro h; exact⟨x,h,by simp⟩
  rw[this]
  cases l.contains x<;>rfl
def RX {a b:NO Int} {i:Nat} {x:Int} (h:a[i]?=some x):â (a.take (i+1)) b=â (a.take i) b++if b.contains x then[] else[x]:=by
 rw[take_succ h,â,â,List.filter_append];congr 1
 cases c:b.contains x<;>simp only[dw,c,cJ,Bool.not_false,bW,if_false,if_true,dD]
def J7 {a b:NO Int} (ha:a.length<=1000000) (hb:b.length<=1000000):fM a b=some (â a b):=by
 unfold fM LM;refine ĥ a (fun i=>â (a.take i) b) _ rfl (fun i x hi c d=>?_) (fun d=>?_)
 ·try dsimp only
  unfold lR
  have e:(â (a.take i) b).length<=1000000:=by
   have:=kI (a.take i) b;rw[bY] at this;omega
  rw[Ð hi,Æ c,Z6 hb,À,RX c]
  cases b.contains x with
  |true=>rw[Ñ (by rfl),È hi (by omega)]; simp
  |false=>rw[Û (by rfl),Æ c,É (by simp only[cm]; omega),Am.iff_true,È hi (by omega)]; simp
 ·try dsimp only
  unfold lR;rw[Ý,List.take_length]
def AK (a b:NO Int):Int:=(â a b).head?.getD 0
def zH {a b:NO Int} (ha:a.length<=1000000) (hb:b.length<=1000000):jT a b=some (AK a b):=by
 unfold jT PQ AK;rw[J7 ha hb,À,á]
 cases h:â a b with
 |nil=>rfl
 |cons x t =>
  rw[Ñ (by simp[ieq]; omega)];exact Æ (i:=0) rfl _
def Cd {b:ã} (d:b.2.1.length<=1000000) (id:Int):kO b id=some (match b.2.1.findIdx? (fun g=>g.1==id) with|some j=>(j:Int)|none=>-1):=by
 unfold kO LN;refine Eq.trans (Γ b.2.1 (fun g=>g.1==id) (fun z=>some z) (some (-1)) (fun i a hi ha c=>?_) (fun c=>?_)) ?_
 ·try dsimp only
  unfold lS;rw[Ð hi,Æ ha,È hi (by omega),û]
 ·try dsimp only
  unfold lS;rw[Ý]
 ·cases List.findIdx? (fun g:æ=>g.1==id) b.2.1<;>rfl
def sm {b:ã} {id:Int}:(∃j g,b.2.1.findIdx? (fun g=>g.1==id)=some j/\b.2.1[j]?=some g/\ķ b id=some g)\/(b.2.1.findIdx? (fun g=>g.1==id)=none/\ķ b id=none):=by
 unfold ķ;rw[Jz]
 cases h:b.2.1.findIdx? (fun g=>g.1==id) with
 |none=>exact .inr ⟨rfl,rfl⟩
 |some j =>
  obtain⟨a,_,_⟩:=cq.1 h;exact .inl ⟨j,_,rfl,bG a,bG a⟩
def ō (b:ã) (id a:Int):Int:=match ķ b id with|some g=>if a<g.2.1 then 4 else 0|none=>5
def yr {b:ã} (d:b.2.1.length<=1000000) (id a:Int):ix b id a=some (ō b id a):=by
 unfold ix Hg ō;rw[Cd d,À];rcases sm (b:=b) (id:=id) with⟨j,g,c,h2,e⟩|⟨c,h2⟩
 ·rw[c,e]
  try dsimp only
  rw[Ñ (by simp[ilt]),Æ h2,û]
  by_cases hd:a<g.2.1
  ·rw[if_pos (by simpa[ilt] using hd),if_pos hd]
  ·rw[if_neg (by simpa[ilt] using hd),if_neg hd]
 ·rw[c,h2];rfl
def uS {b:ã} (hi:b.2.1.Pairwise fun a b=>a.1<b.1) (id c:Int):ō b id c=ο (Ġ b) id c:=by
 unfold ō ο;rw[m8 hi]
 cases ķ b id<;>rfl
def QZ {b:ã} (p:b.2.2.2.1.length<=1000000) (id d:Int):ru b id d=some (match χ b id d with|some l=>(l,true)|none=>((0,(0,0),0),false)):=by
 unfold ru LL;refine Ux b.2.2.2.1 (fun _=>((0:Int),(0:Int),(0:Int),(0:Int))) _ (fun i=>∀l∈b.2.2.2.1.take i,(l.1==id&&inP d l.2.1.1 l.2.1.2)=false) rfl (by simp) (fun i a hi ha g m=>?_) (fun g m=>?_)
 ·try dsimp only
  unfold lQ;rw[Ð hi,Æ ha]
  by_cases f:(a.1==id&&inP d a.2.1.1 a.2.1.2)=true
  ·refine .inl ?_;have c:=f;simp only[inP,bH,beq_iff_eq,decide_eq_true_eq] at c;rw[Û (by simp[ieq,c.1]),Û (by simp[ile,c.2.1]),Û (by simp[ile,c.2.2])]
   have n:χ b id d=some a:=by
    unfold χ;obtain⟨k,rfl⟩:=List.getElem?_eq_some_iff.1 ha;rw[List.find?_eq_some_iff_getElem];refine⟨f,i,k,rfl,fun j q=>?_⟩;have:=g b.2.2.2.1[j] (List.mem_iff_getElem.2 ⟨j,by rw[List.length_take]; omega,by rw[List.getElem_take]⟩);simp[this]
   rw[n]
  ·refine .inr ⟨fun l e=>?_,?_⟩
   ·rw[take_succ ha,bJ,bK] at e;rcases e with e|rfl
    ·exact g l e
    ·simpa using f
   ·have c:=f;simp only[inP,bH,beq_iff_eq,decide_eq_true_eq] at c
    by_cases h:a.1=id
    ·by_cases h2:a.2.1.1<=d
     ·rw[Û (by simp[ieq,h]),Û (by simp[ile,h2]),Ñ (by simp[ile]; exact Int.lt_of_not_ge fun o=>c ⟨h,h2,o⟩),È hi (by omega)]
     ·rw[Û (by simp[ieq,h]),Ñ (by simp[ile]; omega),È hi (by omega)]
    ·rw[Ñ (by simp[ieq,h]),È hi (by omega)]
 ·try dsimp only
  unfold lQ;rw[Ý]
  have:χ b id d=none:=by
   unfold χ;rw[List.find?_eq_none];intro l e;have:=g l (by rw[List.take_length]; exact e);simp[this]
  rw[this]
def Yl {b:ã} (f:b.2.2.1.length<=1000000) (id c:Int):xP b id c=some (AF b id c):=by
 unfold xP LD;refine Eq.trans (Ę b.2.2.1 (fun u=>u.1==id&&u.2==c) (fun _=>some true) (some true) (some false) (fun _=>rfl) (fun i a hi ha e=>?_) (fun e=>?_)) ?_
 ·try dsimp only
  unfold lI;rw[Ð hi,Æ ha,Æ ha,È hi (by omega)]
  cases d:(a.1==id) with
  |false=>have:ieq a.1 id=false:=d; simp[this]
  |true =>
   have:ieq a.1 id=true:=d;rw[this]
   cases h2:(a.2==c) with
   |false=>have:ieq a.2 c=false:=h2; simp[this]
   |true=>have:ieq a.2 c=true:=h2; simp[this]
 ·try dsimp only
  unfold lI;rw[Ý]
 ·unfold AF
  cases b.2.2.1.any _<;>rfl
def Wo (a b:Nat):sH a b=some ((Nat.gcd a b:Nat):Int):=by
 unfold sH PX;refine ė (fun x:Int×Int=>∃c d:Nat,x=((c:Int),(d:Int))/\Nat.gcd c d=Nat.gcd a b) (fun x=>x.2.toNat) ?_ ⟨a,b,rfl,rfl⟩;rintro x ⟨c,d,rfl,e⟩
 cases d with
 |zero =>
  refine .inl fun f=>?_;rw[Nat.gcd_zero_right] at e;unfold ov;simp[e,ine]
 |succ d =>
  refine .inr ⟨(((d+1:Nat):Int),((c % (d+1):Nat):Int)),⟨d+1,c % (d+1),rfl,?_⟩,?_,fun f=>?_⟩
  ·rw[<-e,fG c (d+1),Nat.gcd_rec (d+1) c,fG]
  ·have:=fj c (fi d);simp only[bU];omega
  ·unfold ov
   have g:ine ((d+1:Nat):Int) 0=true:=by simp[ine]; omega
   have h2:š ((d+1:Nat):Int) 0=false:=by simp[š]; omega
   simp only[g,Û Ñ h2];congr 1
def Wr {n:Int} (h : -9223372036854775807<=n/\n<=9223372036854775807):xS n=some (n.natAbs:Int):=by
 unfold xS PZ
 by_cases a:n<0
 ·rw[Û (by simpa[ilt] using a),Õ (by omega) (by omega)];congr 1;omega
 ·rw[Ñ (by simpa[ilt] using a)];congr 1;omega
def Wj (r:Int×Int):sF r=some (yE r):=by
 unfold sF Hr yE
 by_cases c:1<=r.2
 ·rw[Ñ (by simp[ilt]; omega)]
  by_cases h2:r.2<=2147483647
  ·rw[Ñ (by simp[igt]; omega)]
   by_cases f:r.1 < -2147483647
   ·rw[Û (by simp[ilt]; omega)]
    have:¬((r.1.natAbs:Int)<=2147483647):=by omega
    simp[this]
   ·rw[Ñ (by simp[ilt]; omega)]
    by_cases e:2147483647<r.1
    ·rw[Û (by simp[igt]; omega)]
     have:¬((r.1.natAbs:Int)<=2147483647):=by omega
     simp[this]
    ·rw[Ñ (by simp[igt]; omega),Wr ⟨by omega,by omega⟩,À]
     have a:r.2=((r.2.natAbs:Nat):Int):=by omega
     have d:((r.1.natAbs:Int)<=2147483647):=by omega
     rw[a,Wo,À,<-a];congr 1;rw[cN];simp only[ieq,beq_iff_eq,c,h2,d,decide_true,cX,decide_eq_true_eq];omega
  ·rw[Û (by simp[igt]; omega)];simp[h2]
 ·rw[Û (by simp[ilt]; omega)];simp[c]
def Wh (g:æ):sv g=some (i6 g):=by
 unfold sv He i6;rw[Wj,rP,rP,J8,rP,pj,rP];simp only[À]
 have e:igt g.2.2.2.2.1.2 100=!decide (g.2.2.2.2.1.2<=100):=by
  rw[cN]; simp[igt]
 rw[e]
 cases yE g.2.2.2.2.1<;>cases inP g.2.2.2.2.1.1 (-1000) 1000<;>cases decide (g.2.2.2.2.1.2<=100)<;>cases inP g.1 1 1099511627776<;>cases yd g.2.1<;>cases inP g.2.2.1 1 1125899906842624<;>cases Ÿ g.2.2.2.1 (-1073741824) 1073741824<;>rfl
def NW {l:NO Int}:∀(m:NO Int) (j:Nat) (x:Bool),ĉ (oc l) j m=some x->x=false:=by
 intro m
 induction m with
 |nil=>intro j x h; cases h
 |cons a m d =>
  intro j x h;unfold ĉ at h
  cases c:oc l j a with
  |none=>rw[c] at h; exact d _ _ h
  |some y =>
   rw[c] at h;cases h;unfold oc at c
   split at c
   ·cases c; rfl
   ·split at c
    ·cases c; rfl
    ·cases c
def QY {l:NO Int} (f:l.length<=1000000):rt l=some (kZ l):=by
 unfold rt LJ;refine Eq.trans (Τ l (oc l) some (some (decide (l.length<=6))) (fun i a hi ha d=>?_) (fun d=>?_)) ?_
 ·try dsimp only
  unfold lO;rw[Ð hi,Æ ha,rP,À];unfold oc
  cases inP a 1 1099511627776 with
  |false=>rfl
  |true =>
   simp only[cJ,ð,bW,if_false];rcases dV i with h0|h0
   ·subst h0
    have:igt ((0:Nat):Int) 0=false:=by simp[igt]
    rw[Ñ this,È hi (by omega)];simp[vH]
   ·obtain⟨q,c⟩:=vW hi h0
    have e:igt (i:Int) 0=true:=by simp[igt]; omega
    rw[Û e,Æ ha,ES h0 (by omega),xF h0 c];simp only[vH,h0,decide_true,Bool.true_and,c,Option.any_some];unfold ile
    cases h2:decide (a<=q) with
    |true=>rfl
    |false =>
     rw[ð,È hi (by omega)];rfl
 ·try dsimp only
  unfold lO;rw[Ý,á];simp[ile];omega
 ·unfold kZ
  cases h:ĉ (oc l) 0 l with
  |none=>rfl
  |some x=>rw[NW _ _ _ h]
def We {c:Cmp} (d:c.2.2.1.length<=1000000) (a:c.2.2.2.1.length<=1000000):sq c=some (vf c):=by
 unfold sq Ha vf;rw[QY d,QY a,rP,J8,rP,rP,pj];simp only[À]
 cases kZ c.2.2.1<;>cases kZ c.2.2.2.1<;>cases inP c.1 1 1099511627776<;>cases yd c.2.1<;>cases inP c.2.2.2.2.1 (-1125899906842624) 1125899906842624<;>cases inP c.2.2.2.2.2.1 0 1073741824<;>cases Ÿ c.2.2.2.2.2.2 (-10000) 10000<;>rfl
def Ke (b:ã) (u:Int×Int):Int:=if !yd u.2 then 1 else ō b u.1 u.2
def Pb {b:ã} (hi:b.2.1.Pairwise fun a b=>a.1<b.1) (u:Int×Int):Ke b u=Q8 (Ġ b) u.1 u.2:=by
 unfold Ke Q8;rw[uS hi]
def Qx (e:Int):Nm Int:=if e=0 then none else some e
def zl {α:Type} (E:Nat->α->Int):∀(k:Nat) (l:NO α),ĉ (fun i a=>Qx (E i a)) k l=(l.mapIdx fun i a=>E (i+k) a).find? (fun e=>e != 0)
 |_,[]=>rfl
 |k,a::t=>by
  unfold ĉ;rw[zl E (k+1) t,List.mapIdx_cons,List.find?_cons];unfold Qx
  by_cases h:E k a=0
  ·simp only[h,if_true,bX];have:((0:Int) != 0)=false:=rfl;rw[this]
   have e:(fun(i:Nat) (a:α)=>E (i+(k+1)) a)=fun i a=>E (i+1+k) a:=by
    funext i a;congr 1;omega
   rw[e]
  ·simp only[h,if_false,bX]
   have:(E k a != 0)=true:=by simpa using h
   rw[this]
def ED {α:Type} (E:Nat->α->Int) (l:NO α):ĉ (fun i a=>Qx (E i a)) 0 l=(l.mapIdx E).find? (fun e=>e != 0):=zl E 0 l
def EE {α:Type} (E:α->Int) (l:NO α):ĉ (fun _ a=>Qx (E a)) 0 l=(l.map E).find? (fun e=>e != 0):=by
 rw[zl (fun _ a=>E a) 0 l];congr 1
 exact List.ext_getElem (by simp) fun i c h2=>by simp
def Yh {b:ã} (f:b.2.1.length<=1000) (h2:b.2.2.1.length<=1000):xN b=some (((b.2.2.1.map (Ke b)).find? (fun e=>e != 0)).getD 0):=by
 unfold xN Lx;refine Eq.trans (Τ b.2.2.1 (fun _ u=>Qx (Ke b u)) some (some 0) (fun i a hi ha d=>?_) (fun d=>?_)) ?_
 ·try dsimp only
  unfold lB;rw[Ð hi,Æ ha,J8,À];unfold Ke Qx
  cases yd a.2 with
  |false=>rfl
  |true =>
   rw[Ñ (by rfl),Æ ha,Æ ha,yr (b:=((b.1.1,b.1.2),b.2.1,b.2.2.1,b.2.2.2.1,b.2.2.2.2.1,b.2.2.2.2.2)) (by simp only; omega),À,È hi (by omega)];have e:ō ((b.1.1,b.1.2),b.2.1,b.2.2.1,b.2.2.2.1,b.2.2.2.2.1,b.2.2.2.2.2) a.1 a.2=ō b a.1 a.2:=rfl;rw[e]
   by_cases c:ō b a.1 a.2=0
   ·rw[Ñ (by simp[ine,c])]; simp[c]
   ·rw[Û (by simp[ine,c])]; simp[c]
 ·try dsimp only
  unfold lB;rw[Ý]
 ·rw[EE]
  cases List.find? (fun e=>e != 0) (b.2.2.1.map (Ke b))<;>rfl
def Gc (b:ã) (i:Nat) (l:AD):Int :=
 if !Ÿ l.2.1 0 20000 then 1 else if !inP l.2.2 0 1048576 then 1 else if ō b l.1 l.2.1.1 != 0 then ō b l.1 l.2.1.1 else
 if (b.2.2.2.1.take i).any (fun x=>x.1==l.1&&(decide (x.2.1.1<=l.2.1.2)&&decide (l.2.1.1<=x.2.1.2))) then 9 else
 if b.2.2.1.any (fun u=>u.1==l.1&&inP u.2 l.2.1.1 l.2.1.2) then 9 else 0
def UD {b:ã} (hi:b.2.1.Pairwise fun a b=>a.1<b.1) (i:Nat) (l:AD):Gc b i l=Eg b (Ġ b) i l:=by
 unfold Gc Eg;rw[uS hi]
def Wg {b:ã} (z:b.2.1.length<=1000) (h2:b.2.2.1.length<=1000) (y:b.2.2.2.1.length<=1000):su b=some (((b.2.2.2.1.mapIdx (Gc b)).find? (fun e=>e != 0)).getD 0):=by
 unfold su Hc;refine Eq.trans (Τ b.2.2.2.1 (fun i l=>Qx (Gc b i l)) some (some 0) (fun i l hi t h=>?_) (fun h=>?_)) ?_
 ·try dsimp only
  unfold jA;rw[Ð hi,Æ t,pj,À];unfold Gc Qx
  cases Ÿ l.2.1 0 20000 with
  |false=>rfl
  |true =>
  rw[Ñ (by rfl),rP,À]
  cases inP l.2.2 0 1048576 with
  |false=>rfl
  |true =>
  rw[Ñ (by rfl),yr (b:=((b.1.1,b.1.2),b.2.1,b.2.2.1,b.2.2.2.1,b.2.2.2.2.1,b.2.2.2.2.2)) (by simp only; omega),À];have e:ō ((b.1.1,b.1.2),b.2.1,b.2.2.1,b.2.2.2.1,b.2.2.2.2.1,b.2.2.2.2.2) l.1 l.2.1.1=ō b l.1 l.2.1.1:=rfl;rw[e]
  by_cases o:ō b l.1 l.2.1.1=0
  ·rw[Ñ (by simp[ine,o])]
   have n:(b.2.2.2.1.take i).length=i:=by rw[bY]; omega
   have d:Ó (fun(q:Int) k=>gK b.2.2.1 l.1 l.2.1.1 l.2.1.2 q (fun r=>k r) (fun p=>(some p:Nm Int)) (fun _=>ck ((i:Int)+(1:Int)) fun s=>h s)) (0:Int)=if b.2.2.1.any (fun u=>u.1==l.1&&inP u.2 l.2.1.1 l.2.1.2) then some 9 else h ((i:Int)+1):=by
    refine Ę b.2.2.1 _ (fun _=>some 9) (some 9) (h ((i:Int)+1)) (fun _=>rfl) (fun j a g ha c=>?_) (fun c=>?_)
    ·try dsimp only
     unfold gK;rw[Ð g,Æ ha,Æ ha,rP,À,È g (by omega)]
     cases m:(a.1==l.1) with
     |false=>have:ieq a.1 l.1=false:=m; simp[this]
     |true =>
      have:ieq a.1 l.1=true:=m;rw[this]
      cases inP a.2 l.2.1.1 l.2.1.2<;>simp
    ·try dsimp only
     unfold gK;rw[Ý];dsimp only;rw[È hi (by omega)]
   try dsimp only
   rw[d];refine cB (Ę (b.2.2.2.1.take i) (fun x=>x.1==l.1&&(decide (x.2.1.1<=l.2.1.2)&&decide (l.2.1.1<=x.2.1.2))) (fun _=>some 9) (some 9) (if b.2.2.1.any (fun u=>u.1==l.1&&inP u.2 l.2.1.1 l.2.1.2) then some 9 else h ((i:Int)+1)) (fun _=>rfl) (fun j a g ha c=>?_) (fun c=>?_)) ?_
   ·try dsimp only
    unfold jz;rw[n] at g
    have f:b.2.2.2.1[j]?=some a:=by rwa [fh g] at ha
    rw[Û (show ilt (j:Int) (i:Int)=true by simp[ilt]; omega),Æ f,Æ f,Æ f,È g (by omega)]
    cases m:(a.1==l.1) with
    |false=>have:ieq a.1 l.1=false:=m; simp[this]
    |true =>
     have:ieq a.1 l.1=true:=m;rw[this]
     cases w:decide (a.2.1.1<=l.2.1.2)<;>cases v:decide (l.2.1.1<=a.2.1.2)<;>simp[ile,w,v,û]<;>simp_all
   ·try dsimp only
    unfold jz;rw[n,Ñ (show ilt (i:Int) (i:Int)=false by simp[ilt])]
   ·simp only[o]
    cases List.any (b.2.2.2.1.take i) _<;>cases b.2.2.1.any _<;>rfl
  ·rw[Û (by simp[ine,o])]; simp[o]
 ·try dsimp only
  unfold jA;rw[Ý]
 ·rw[ED (Gc b)]
  cases(b.2.2.2.1.mapIdx (Gc b)).find? (fun e=>e != 0)<;>rfl
def tC (b:ã) (c:Cmp):Int :=
 if (c.2.2.1++c.2.2.2.1).any (fun id=>ō b id c.2.1==5) then 5 else
 if (c.2.2.1++c.2.2.2.1).any (fun id=>ō b id c.2.1 != 0) then 4 else
 if (c.2.2.1++c.2.2.2.1).any (fun id=>(χ b id c.2.1).isSome) then 9 else
 if 1<(â c.2.2.1 c.2.2.2.1).length then 1 else if 1<(â c.2.2.2.1 c.2.2.1).length then 1 else
 if (â c.2.2.1 c.2.2.2.1).length+(â c.2.2.2.1 c.2.2.1).length=0 then 1 else 0
def Xa {b:ã} (hi:b.2.1.Pairwise fun a b=>a.1<b.1) (c:Cmp):tC b c=tD b (Ġ b) c:=by
 unfold tC tD;simp only[uS hi]
 by_cases d:(c.2.2.1++c.2.2.2.1).any (fun id=>ο (Ġ b) id c.2.1==5)=true
 ·rw[if_pos d,if_pos d]
 ·rw[if_neg d,if_neg d]
  have e:(c.2.2.1++c.2.2.2.1).any (fun id=>ο (Ġ b) id c.2.1 != 0)=(c.2.2.1++c.2.2.2.1).any (fun id=>ο (Ġ b) id c.2.1==4):=by
   rw[cN,dI,dI];constructor
   ·rintro⟨x,g,h⟩;refine⟨x,g,?_⟩;rcases CP (Ġ b) x c.2.1 with f|f|f
    ·rw[f] at h; cases h
    ·rw[f]; rfl
    ·exact absurd (dI.2 ⟨x,g,by rw[f]; rfl⟩) d
   ·rintro⟨x,g,h⟩;refine⟨x,g,?_⟩;rw[eq_of_beq h]; rfl
  rw[e]
def NL {b:ã} {id d:Int}:(ō b id d==5)=(b.2.1.findIdx? (fun g=>g.1==id)).isNone:=by
 unfold ō;rcases sm (b:=b) (id:=id) with⟨j,g,a,h2,c⟩|⟨a,h2⟩
 ·rw[a,c]
  try dsimp only
  split<;>rfl
 ·rw[a,h2]; rfl
set_option maxHeartbeats 1000000 in
def Nn {b:ã} (G:b.2.1.length<=1000) (F:b.2.2.2.1.length<=1000) {c:Cmp} (E:c.2.2.1.length<=1000) (D:c.2.2.2.1.length<=1000):Ω b c=some (tC b c):=by
 unfold Ω om tC;rw[É (by omega),Am.iff_true,List.nil_append,É (by omega),Am.iff_true]
 have z:(c.2.2.1++c.2.2.2.1).length<=2000:=by rw[bI]; omega
 generalize C:c.2.2.1++c.2.2.2.1=P at z
 have q:∀{i:Nat},i<P.length->((ile (0:Int) (i:Int))&&(ilt (i:Int) (Ć P)))=true:=fun {i} hi=>by simp[ile,ilt,Ć]; omega
 have o:Ó (fun(m:Int) h=>ľ b.1.1 b.1.2 b.2.1 b.2.2.1 b.2.2.2.1 b.2.2.2.2.1 b.2.2.2.2.2 c.2.1 P m (fun n=>h n) (fun l=>some l) (fun _=>Â (fM c.2.2.1 c.2.2.2.1) fun f=>Â (fM c.2.2.2.1 c.2.2.1) fun d=>ifb (igt (ß f) (1:Int)) (some (1:Int)) (ifb (igt (ß d) (1:Int)) (some (1:Int)) (ck ((ß f)+(ß d)) fun p=>ifb (ieq p (0:Int)) (some (1:Int)) (some (0:Int)))))) (0:Int) =
  some (if P.any (fun id=>(χ b id c.2.1).isSome) then 9 else if 1<(â c.2.2.1 c.2.2.2.1).length then 1 else if 1<(â c.2.2.2.1 c.2.2.1).length then 1 else if (â c.2.2.1 c.2.2.2.1).length+(â c.2.2.2.1 c.2.2.1).length=0 then 1 else 0):=by
  refine cB (Ę P (fun id=>(χ b id c.2.1).isSome) (fun _=>some 9) (some 9) (some (if 1<(â c.2.2.1 c.2.2.2.1).length then 1 else if 1<(â c.2.2.2.1 c.2.2.1).length then 1 else if (â c.2.2.1 c.2.2.2.1).length+(â c.2.2.2.1 c.2.2.1).length=0 then 1 else 0)) (fun _=>rfl) (fun i a hi ha r=>?_) (fun r=>?_)) ?_
  ·try dsimp only
   unfold ľ;rw[Ð hi,jq (q hi),Ě ha,QZ (b:=((b.1.1,b.1.2),b.2.1,b.2.2.1,b.2.2.2.1,b.2.2.2.2.1,b.2.2.2.2.2)) (by simp only; omega),À,È hi (by omega)];have e:χ ((b.1.1,b.1.2),b.2.1,b.2.2.1,b.2.2.2.1,b.2.2.2.2.1,b.2.2.2.2.2) a c.2.1=χ b a c.2.1:=rfl;rw[e]
   cases χ b a c.2.1<;>rfl
  ·try dsimp only
   unfold ľ;rw[Ý];dsimp only;have B:=kI c.2.2.1 c.2.2.2.1;have A:=kI c.2.2.2.1 c.2.2.1;rw[J7 (by omega) (by omega),À,J7 (by omega) (by omega),À];simp only[á]
   by_cases x:1<(â c.2.2.1 c.2.2.2.1).length
   ·rw[Û (by simp[igt]; omega),if_pos x]
   ·rw[Ñ (by simp[igt]; omega),if_neg x]
    by_cases w:1<(â c.2.2.2.1 c.2.2.1).length
    ·rw[Û (by simp[igt]; omega),if_pos w]
    ·rw[Ñ (by simp[igt]; omega),if_neg w,Õ (by omega) (by omega)]
     by_cases v:(â c.2.2.1 c.2.2.2.1).length+(â c.2.2.2.1 c.2.2.1).length=0
     ·rw[Û (by simp[ieq]; omega),if_pos v]
     ·rw[Ñ (by simp[ieq]; omega),if_neg v]
  ·cases P.any _<;>rfl
 have k:Ó (fun(t:Int) s=>Ũ b.1.1 b.1.2 b.2.1 b.2.2.1 b.2.2.2.1 b.2.2.2.2.1 b.2.2.2.2.2 c.2.1 P t (fun u=>s u) (fun y=>some y) (fun _=>Ó (fun(m:Int) h=>ľ b.1.1 b.1.2 b.2.1 b.2.2.1 b.2.2.2.1 b.2.2.2.2.1 b.2.2.2.2.2 c.2.1 P m (fun n=>h n) (fun l=>some l) (fun _=>Â (fM c.2.2.1 c.2.2.2.1) fun f=>Â (fM c.2.2.2.1 c.2.2.1) fun d=>ifb (igt (ß f) (1:Int)) (some (1:Int)) (ifb (igt (ß d) (1:Int)) (some (1:Int)) (ck ((ß f)+(ß d)) fun p=>ifb (ieq p (0:Int)) (some (1:Int)) (some (0:Int)))))) (0:Int))) (0:Int) =
  some (if P.any (fun id=>ō b id c.2.1 != 0) then 4 else if P.any (fun id=>(χ b id c.2.1).isSome) then 9 else if 1<(â c.2.2.1 c.2.2.2.1).length then 1 else if 1<(â c.2.2.2.1 c.2.2.1).length then 1 else if (â c.2.2.1 c.2.2.2.1).length+(â c.2.2.2.1 c.2.2.1).length=0 then 1 else 0):=by
  rw[o];refine cB (Ę P (fun id=>ō b id c.2.1 != 0) (fun _=>some 4) (some 4) (some (if P.any (fun id=>(χ b id c.2.1).isSome) then 9 else if 1<(â c.2.2.1 c.2.2.2.1).length then 1 else if 1<(â c.2.2.2.1 c.2.2.1).length then 1 else if (â c.2.2.1 c.2.2.2.1).length+(â c.2.2.2.1 c.2.2.1).length=0 then 1 else 0)) (fun _=>rfl) (fun i a hi ha r=>?_) (fun r=>?_)) ?_
  ·try dsimp only
   unfold Ũ;rw[Ð hi,jq (q hi),Ě ha,yr (b:=((b.1.1,b.1.2),b.2.1,b.2.2.1,b.2.2.2.1,b.2.2.2.2.1,b.2.2.2.2.2)) (by simp only; omega),À,È hi (by omega)];have e:ō ((b.1.1,b.1.2),b.2.1,b.2.2.1,b.2.2.2.1,b.2.2.2.2.1,b.2.2.2.2.2) a c.2.1=ō b a c.2.1:=rfl;rw[e,û]
  ·try dsimp only
   unfold Ũ;rw[Ý]
  ·cases P.any (fun id=>ō b id c.2.1 != 0)<;>rfl
 rw[k];refine cB (Ę P (fun id=>ō b id c.2.1==5) (fun _=>some 5) (some 5) (some (if P.any (fun id=>ō b id c.2.1 != 0) then 4 else if P.any (fun id=>(χ b id c.2.1).isSome) then 9 else if 1<(â c.2.2.1 c.2.2.2.1).length then 1 else if 1<(â c.2.2.2.1 c.2.2.1).length then 1 else if (â c.2.2.1 c.2.2.2.1).length+(â c.2.2.2.1 c.2.2.1).length=0 then 1 else 0)) (fun _=>rfl) (fun i a hi ha r=>?_) (fun r=>?_)) ?_
 ·try dsimp only
  unfold fS;rw[Ð hi,jq (q hi),Ě ha,Cd (b:=((b.1.1,b.1.2),b.2.1,b.2.2.1,b.2.2.2.1,b.2.2.2.2.1,b.2.2.2.2.2)) (by simp only; omega),À,È hi (by omega),NL]
  try dsimp only
  cases List.findIdx? (fun g:æ=>g.1==a) b.2.1 with
  |none=>rfl
  |some j =>
   have:ilt (j:Int) 0=false:=by simp[ilt]
   rw[Ñ this]; rfl
 ·try dsimp only
  unfold fS;rw[Ý]
 ·cases P.any (fun id=>ō b id c.2.1==5)<;>rfl
structure Pre (b:ã):Prop where
 size:ŏ b
 gauge:∀g∈b.2.1,i6 g=true
 cmp:∀c∈b.2.2.2.2.1,yd c.2.1=true/\(â c.2.2.1 c.2.2.2.1).length<=1/\(â c.2.2.2.1 c.2.2.1).length<=1
 look:∀n∈b.2.2.2.2.2,yd n.2=true
def Lh {c:Cmp} (h:vf c=true):yd c.2.1=true:=by
 have:=((Ŕ c).1 h).2.1;simp[yd,inP,this.1,this.2]
def ť.pre {b:ã} (h:ť b):Pre b :=
 ⟨h.size,h.gauge,fun c a=>⟨Lh (h.nums a),(h.lefts a).1,(h.lefts a).2.1⟩,fun n d=>(by have:=(Ci h (h.looks n d)).1; simp[yd,inP,this.1,this.2])⟩
def IP {a b:NO Int} (h:(â a b).length<=1) {id:Int} (h0:id≠0):AK a b=id↔id∈a/\id∉b:=by
 rw[<-iW];unfold AK
 cases c:â a b with
 |nil =>
  simp only[List.head?_nil,Option.getD_none,dh,iff_false];exact fun e=>h0 e.symm
 |cons x t =>
  have:t=[]:=by
   rw[c] at h;simp only[bO] at h;exact bT.1 (by omega)
  subst this;simp only[List.head?_cons,dQ,bK];exact eq_comm
def BD (b:ã) (g:æ) (d:Int):Bool :=
 g.2.1==d||b.2.2.2.2.1.any (fun c=>c.2.1==d&&(AK c.2.2.1 c.2.2.2.1==g.1||AK c.2.2.2.1 c.2.2.1==g.1))||b.2.2.2.2.2.any (fun n=>n.1==g.1&&n.2==d)
def Yk {b:ã} (o:ŏ b) (g:æ) (d:Int):xO b g d=some (BD b g d):=by
 have f:=o.compares;have h2:=o.looks;unfold xO LC BD
 cases p:(g.2.1==d) with
 |true =>
  have:ieq g.2.1 d=true:=p;rw[Û this];simp
 |false =>
  have:ieq g.2.1 d=false:=p;rw[Ñ this]
  have e:Ó (fun(k:Int) h=>iK d b.2.2.2.2.2 g.1 k (fun l=>h l) (fun j=>some j) (fun _=>some false)) (0:Int)=some (b.2.2.2.2.2.any (fun n=>n.1==g.1&&n.2==d)):=by
   refine cB (Ę b.2.2.2.2.2 (fun n=>n.1==g.1&&n.2==d) (fun _=>some true) (some true) (some false) (fun _=>rfl) (fun i a hi ha m=>?_) (fun m=>?_)) ?_
   ·try dsimp only
    unfold iK;rw[Ð hi,Æ ha,Æ ha,È hi (by omega)]
    cases f:(a.1==g.1) with
    |false=>have:ieq a.1 g.1=false:=f; simp[this]
    |true =>
     have:ieq a.1 g.1=true:=f;rw[this]
     cases h2:(a.2==d) with
     |false=>have:ieq a.2 d=false:=h2; simp[this]
     |true=>have:ieq a.2 d=true:=h2; simp[this]
   ·try dsimp only
    unfold iK;rw[Ý]
   ·cases b.2.2.2.2.2.any _<;>rfl
  rw[e];refine cB (Ę b.2.2.2.2.1 (fun c=>c.2.1==d&&(AK c.2.2.1 c.2.2.2.1==g.1||AK c.2.2.2.1 c.2.2.1==g.1)) (fun _=>some true) (some true) (some (b.2.2.2.2.2.any (fun n=>n.1==g.1&&n.2==d))) (fun _=>rfl) (fun i a hi ha m=>?_) (fun m=>?_)) ?_
  ·have r:=o.piles a (bR ha)
   try dsimp only
   unfold lH;rw[Ð hi,Æ ha,zH (by omega) (by omega),zH (by omega) (by omega),È hi (by omega)];simp only[À]
   cases f:(a.2.1==d) with
   |false=>have:ieq a.2.1 d=false:=f; simp[this]
   |true =>
    have:ieq a.2.1 d=true:=f;rw[this]
    cases h2:(AK a.2.2.1 a.2.2.2.1==g.1) with
    |true=>have:ieq (AK a.2.2.1 a.2.2.2.1) g.1=true:=h2; simp[this]
    |false =>
     have:ieq (AK a.2.2.1 a.2.2.2.1) g.1=false:=h2;rw[this]
     cases q:(AK a.2.2.2.1 a.2.2.1==g.1) with
     |true=>have:ieq (AK a.2.2.2.1 a.2.2.1) g.1=true:=q; simp[this]
     |false=>have:ieq (AK a.2.2.2.1 a.2.2.1) g.1=false:=q; simp[this]
  ·try dsimp only
   unfold lH;rw[Ý]
  ·cases b.2.2.2.2.1.any _<;>rfl
def V6 {b:ã} (h:Pre b) {g:æ} (m:g∈b.2.1) {d:Int}:BD b g d=true↔d∈ê b g:=by
 have a:g.1≠0:=by
  have:=((nH g).1 (h.gauge g m)).2.2.2.1;omega
 rw[rG];unfold BD;simp only[Bool.or_eq_true,List.any_eq_true,Bool.and_eq_true,beq_iff_eq,or_assoc];refine or_congr eq_comm (or_congr ?_ Iff.rfl);constructor
 ·rintro⟨c,f,e,i⟩;obtain⟨_,k,j⟩:=h.cmp c f;refine⟨c,f,?_,e⟩;rw[IP k a,IP j a] at i;intro l;rw[cN,dt,dt] at l;rcases i with⟨x,y⟩|⟨x,y⟩
  ·exact y (l.1 x)
  ·exact y (l.2 x)
 ·rintro⟨c,f,i,e⟩;obtain⟨_,k,j⟩:=h.cmp c f;refine⟨c,f,e,?_⟩;rw[IP k a,IP j a]
  by_cases ha:g.1∈c.2.2.1
  ·by_cases hb:g.1∈c.2.2.2.1
   ·exact absurd (by rw[cN,dt,dt]; exact⟨fun _=>hb,fun _=>ha⟩) i
   ·exact .inl ⟨ha,hb⟩
  ·by_cases hb:g.1∈c.2.2.2.1
   ·exact .inr ⟨hb,ha⟩
   ·exact absurd (by rw[cN,dt,dt]; exact⟨fun x=>absurd x ha,fun x=>absurd x hb⟩) i
def nx (v:Int) (D:NO Int):Int:=D.foldl (fun m d=>if v<d then min m d else m) 20001
def T1 (v:Int) (D:NO Int) (d:Int):nx v (D++[d])=if v<d then min (nx v D) d else nx v D:=by
 unfold nx;rw[List.foldl_append];rfl
def IR (v:Int):∀D:NO Int,nx v D<=20001/\(∀d∈D,v<d->nx v D<=d)/\(nx v D=20001\/(nx v D∈D/\v<nx v D)):=by
 suffices H:∀(n:Nat) (D:NO Int),D.length=n->nx v D<=20001/\(∀d∈D,v<d->nx v D<=d)/\(nx v D=20001\/(nx v D∈D/\v<nx v D)) from fun D=>H _ D rfl
 intro n
 induction n with
 |zero =>
  intro D j;rw[bT.1 j];exact⟨df _,by simp,.inl rfl⟩
 |succ n i =>
  intro g e
  obtain⟨D,d,rfl⟩:∃D d,g=D++[d]:=by
   rcases List.eq_nil_or_concat g with rfl|⟨L,b,rfl⟩
   ·simp at e
   ·exact⟨L,b,by simp⟩
  obtain⟨k,h2,a⟩:=i D (by simpa using e);rw[T1]
  by_cases hd:v<d
  ·rw[if_pos hd];refine⟨by omega,fun x c f=>?_,?_⟩
   ·rcases bJ.1 c with c|c
    ·have:=h2 x c f; omega
    ·rw[bK] at c; omega
   ·rcases Int.le_total (nx v D) d with h|h
    ·rw[Int.min_eq_left h];rcases a with a|a
     ·exact .inl a
     ·exact .inr ⟨by simp[a.1],a.2⟩
    ·rw[Int.min_eq_right h];exact .inr ⟨by simp,hd⟩
  ·rw[if_neg hd];refine⟨k,fun x c f=>?_,?_⟩
   ·rcases bJ.1 c with c|c
    ·exact h2 x c f
    ·rw[bK] at c; omega
   ·rcases a with a|a
    ·exact .inl a
    ·exact .inr ⟨by simp[a.1],a.2⟩
def Zk {D:NO Int} (m:D.length<=1000000) (v:Int) (K:Int->Nm (NO (Int×Int))) :
 Ó (fun(c:Int×Int) d=>gM v D c.1 c.2 (fun f e=>d (f,e)) K) ((20001:Int),(0:Int))=K (nx v D):=by
 refine ė (fun x:Int×Int=>∃k:Nat,k<=D.length/\x=(nx v (D.take k),(k:Int))) (fun x=>D.length-x.2.toNat) ?_ ⟨0,by omega,rfl⟩;rintro x ⟨k,l,rfl⟩;rcases ce k D.length with a|j
 ·refine .inr ⟨(nx v (D.take (k+1)),((k+1:Nat):Int)),⟨k+1,a,rfl⟩,by simp only[Int.toNat_natCast]; omega,fun g=>?_⟩;have ha:D[k]?=some D[k]:=List.getElem?_eq_getElem a;unfold gM;have i:Ć D=((D.length:Nat):Int):=rfl;rw[Ð a,i,ς a,Ě ha,take_succ ha,T1]
  by_cases h:v<D[k]
  ·rw[Û (by simpa[igt] using h),ς a,Ě ha,È a (by omega),if_pos h,UU];simp
  ·rw[Ñ (by simpa[igt] using h),È a (by omega),if_neg h];simp
 ·have:k=D.length:=by omega
  subst this;refine .inl fun g=>?_;unfold gM;rw[Ý,List.take_length]
def SV (b:ã) (g:æ) (D:NO Int) (v:Int):NO Int:=(Kz D).filter fun d=>decide (v<d)&&BD b g d
def E8 {b:ã} {g:æ} {D:NO Int} (m:∀d∈D,d<=20000) (v:Int):SV b g D v=if nx v D<20001 then(if BD b g (nx v D) then nx v D::SV b g D (nx v D) else SV b g D (nx v D)) else[]:=by
 obtain⟨n,h2,f⟩:=IR v D;refine OW ((uT D).sublist List.filter_sublist) ?_ fun x=>?_
 ·split
  ·split
   ·rw[cf];refine⟨fun a ha=>?_,(uT D).sublist List.filter_sublist⟩;have:=(dW.1 ha).2;simp at this;omega
   ·exact(uT D).sublist List.filter_sublist
  ·exact List.Pairwise.nil
 ·have i:∀v x,x∈SV b g D v↔x∈D/\v<x/\BD b g x=true:=by
   intro v x;unfold SV;rw[List.mem_filter,rU];simp
  rw[i]
  split
  ·rename_i k
   have j:nx v D∈D/\v<nx v D:=by
    rcases f with f|f
    ·omega
    ·exact f
   split
   ·rename_i ha;rw[bL,i];constructor
    ·rintro⟨a,c,e⟩;have:=h2 x a c;rcases Int.lt_or_eq_of_le this with h|h
     ·exact .inr ⟨a,h,e⟩
     ·exact .inl h.symm
    ·rintro(rfl|⟨a,c,e⟩)
     ·exact⟨j.1,j.2,ha⟩
     ·exact⟨a,by omega,e⟩
   ·rename_i ha;rw[i];constructor
    ·rintro⟨a,c,e⟩;have:=h2 x a c;rcases Int.lt_or_eq_of_le this with h|h
     ·exact⟨a,h,e⟩
     ·rw[<-h] at e; exact absurd e ha
    ·rintro⟨a,c,e⟩;exact⟨a,by omega,e⟩
  ·rename_i l;constructor
   ·rintro⟨a,c,e⟩;have:=h2 x a c;have:=m x a;omega
   ·intro h; cases h
def Yc {b:ã} {g:æ} {D:NO Int} (v:Int):(SV b g D v).length<=D.length :=
 bP (cZ _ _) (vS D)
set_option maxHeartbeats 1000000 in
def XM {b:ã} (c:ŏ b) {i:Nat} {g:æ} (p:b.2.1[i]?=some g) {D:NO Int} (u:D.length<=1000000) (j:∀d∈D,d<=20000) {out:NO (Int×Int)} (z:out.length+D.length<=1000000000) (K:NO (Int×Int)->Nm (NO (Int×Int))) :
 Ó (fun(f:Int×NO (Int×Int)) h=>gN (i:Int) b.1.1 b.1.2 b.2.1 b.2.2.1 b.2.2.2.1 b.2.2.2.2.1 b.2.2.2.2.2 D f.1 f.2 (fun m l=>h (m,l)) K) ((-1:Int),out)=K (out++(SV b g D (-1)).map fun d=>((g.1,d):Int×Int)):=by
 refine ė (fun x:Int×NO (Int×Int)=>x.2++(SV b g D x.1).map (fun d=>((g.1,d):Int×Int))=out++(SV b g D (-1)).map fun d=>((g.1,d):Int×Int)) (fun x=>(20001-x.1).toNat) ?_ rfl;rintro⟨v,o⟩ hI;simp only at hI
 by_cases n:v<20001
 ·obtain⟨A,h2,k⟩:=IR v D
  have t:v<nx v D:=by
   rcases k with k|k
   ·omega
   ·exact k.2
  refine .inr ⟨(nx v D,if nx v D<20001/\BD b g (nx v D)=true then o++[(g.1,nx v D)] else o),?_,by simp only; omega,fun q=>?_⟩
  ·rw[<-hI];simp only;rw[E8 j v]
   by_cases ha:nx v D<20001
   ·rw[if_pos ha]
    cases r:BD b g (nx v D) with
    |true=>rw[if_pos ⟨ha,rfl⟩,if_pos rfl]; simp
    |false=>rw[if_neg (by simp),if_neg (by simp)]
   ·rw[if_neg (by omega),if_neg ha]
    have:SV b g D (nx v D)=[]:=by
     have e:=E8 (b:=b) (g:=g) j (nx v D);rw[e,if_neg];obtain⟨y,w,a⟩:=IR (nx v D) D;rcases a with a|a
     ·omega
     ·have:=j _ a.1; omega
    rw[this]
  ·unfold gN;rw[Û (by simpa[ilt] using n)];refine Eq.trans (Zk u v _) ?_;dsimp only
   by_cases ha:nx v D<20001
   ·rw[Û (by simpa[ilt] using ha),Æ p,Yk (b:=((b.1.1,b.1.2),b.2.1,b.2.2.1,b.2.2.2.1,b.2.2.2.2.1,b.2.2.2.2.2)) ⟨c.gauges,c.uses,c.loans,c.compares,c.looks,c.piles⟩,À];have e:BD ((b.1.1,b.1.2),b.2.1,b.2.2.1,b.2.2.2.1,b.2.2.2.2.1,b.2.2.2.2.2) g (nx v D)=BD b g (nx v D):=rfl;rw[e]
    cases r:BD b g (nx v D) with
    |true =>
     have s:o.length<=1000000000:=by
      have:=congrArg List.length hI;simp only[bI,cr] at this;have:=Yc (b:=b) (g:=g) (D:=D) (-1);omega
     rw[Û rfl,Æ p,É (by simp only[cm]; omega),Am.iff_true,if_pos ⟨ha,rfl⟩]
    |false=>rw[Ñ rfl,if_neg (by simp)]
   ·rw[Ñ (by simpa[ilt] using ha),if_neg (by omega)]
 ·refine .inl fun q=>?_;unfold gN;rw[Ñ (by simpa[ilt] using n)]
  have:SV b g D v=[]:=by
   rw[E8 j,if_neg];obtain⟨y,w,a⟩:=IR v D;rcases a with a|a
   ·omega
   ·have:=j _ a.1; omega
  rw[this] at hI;simp only[dH,b6] at hI;rw[hI]
def rN (b:ã):NO Int:=b.2.1.map (fun g=>g.2.1)++b.2.2.2.2.1.map (fun c=>c.2.1)++b.2.2.2.2.2.map fun n=>n.2
def OY {b:ã} (a:ŏ b):(rN b).length<=3000:=by
 have d:=a.gauges; have h2:=a.compares; have c:=a.looks;simp only[rN,bI,cr];omega
def Pre.days {b:ã} (h:Pre b):∀d∈rN b,0<=d/\d<=20000:=by
 intro d hd;simp only[rN,bJ,dc] at hd;rcases hd with(⟨g,e,rfl⟩|⟨c,f,rfl⟩)|⟨n,a,rfl⟩
 ·have:=((nH g).1 (h.gauge g e)).2.2.2.2.1;omega
 ·have:=(h.cmp c f).1;simp only[yd,inP,bH,decide_eq_true_eq] at this;exact this
 ·have:=h.look n a;simp only[yd,inP,bH,decide_eq_true_eq] at this;exact this
def V8 {b:ã} (h:Pre b) {g:æ} (f:g∈b.2.1):SV b g (rN b) (-1)=ê b g:=by
 refine OW ((uT _).sublist List.filter_sublist) (JJ b g) fun x=>?_;unfold SV;rw[List.mem_filter,rU,Bool.and_eq_true,V6 h f,decide_eq_true_eq];constructor
 ·exact fun a=>a.2.2
 ·intro a
  have d:x∈rN b:=by
   simp only[rN,bJ,dc];rcases rG.1 a with e|⟨c,j,_,e⟩|⟨n,i,_,e⟩
   ·exact .inl (.inl ⟨g,f,e.symm⟩)
   ·exact .inl (.inr ⟨c,j,e⟩)
   ·exact .inr ⟨n,i,e⟩
  have:=h.days x d;exact⟨d,by omega,a⟩
def IY {α:Type} (f:α->Int) (l:NO α) (s:NO Int) (i:Nat) {a:α} (ha:l[i]?=some a):s++(l.take (i+1)).map f=(s++(l.take i).map f)++[f a]:=by
 rw[take_succ ha,ff,bS]; rfl
def Fh {b:ã} (h:Pre b):gk b=some (Ø b):=by
 have m:=h.size.gauges; have h2:=h.size.compares; have l:=h.size.looks;have k:=OY h.size;unfold gk Hl;refine ĥ b.2.1 (fun i=>(b.2.1.take i).map (fun g=>g.2.1)) _ rfl (fun i a hi ha e=>?_) (fun e=>?_)
 ·try dsimp only
  unfold jJ;have:=IY (fun g:æ=>g.2.1) b.2.1 [] i ha;simp only[List.nil_append] at this;rw[Ð hi,Æ ha,É (by simp only[List.length_map,List.length_take,List.length_singleton]; omega),Am.iff_true,È hi (by omega),this]
 ·try dsimp only
  unfold jJ;rw[Ý,List.take_length];dsimp only;refine ĥ b.2.2.2.2.1 (fun i=>b.2.1.map (fun g=>g.2.1)++(b.2.2.2.2.1.take i).map (fun c=>c.2.1)) _ (by simp) (fun i a hi ha e=>?_) (fun e=>?_)
  ·try dsimp only
   unfold jI;rw[Ð hi,Æ ha,É (by simp only[List.length_append,List.length_map,List.length_take,List.length_singleton]; omega),Am.iff_true,È hi (by omega),IY (fun c:Cmp=>c.2.1) b.2.2.2.2.1 _ i ha]
  ·try dsimp only
   unfold jI;rw[Ý,List.take_length];dsimp only;refine ĥ b.2.2.2.2.2 (fun i=>b.2.1.map (fun g=>g.2.1)++b.2.2.2.2.1.map (fun c=>c.2.1)++(b.2.2.2.2.2.take i).map (fun n=>n.2)) _ (by simp) (fun i a hi ha e=>?_) (fun e=>?_)
   ·try dsimp only
    unfold jH;rw[Ð hi,Æ ha,É (by simp only[List.length_append,List.length_map,List.length_take,List.length_singleton]; omega),Am.iff_true,È hi (by omega),IY (fun n:Int×Int=>n.2) b.2.2.2.2.2 _ i ha]
   ·try dsimp only
    unfold jH;rw[Ý,List.take_length];dsimp only;rw[show b.2.1.map (fun g=>g.2.1)++b.2.2.2.2.1.map (fun c=>c.2.1)++b.2.2.2.2.2.map (fun n=>n.2)=rN b from rfl];refine ĥ b.2.1 (fun i=>(b.2.1.take i).flatMap fun g=>(ê b g).map fun d=>((g.1,d):Int×Int)) _ rfl (fun i g hi f e=>?_) (fun e=>?_)
    ·try dsimp only
     unfold jG;rw[Ð hi]
     have j:((b.2.1.take i).flatMap fun g=>(ê b g).map fun d=>((g.1,d):Int×Int)).length<=2001000:=by
      have:=oU (fun g:æ=>(ê b g).map fun d=>((g.1,d):Int×Int)) 2001 (fun g=>by rw[cr]; exact yc h.size g) (b.2.1.take i);rw[bY] at this;have:min i b.2.1.length*2001<=1000*2001:=b5 _ (by omega);omega
     refine cB (XM h.size f (by omega) (fun d hd=>(h.days d hd).2) (by omega) _) ?_;rw[È hi (by omega),V8 h (bR f),take_succ f,dE];simp
    ·try dsimp only
     unfold jG;rw[Ý,List.take_length];rfl
def Vk {k:Int×Int} (d:0<k.2) (m n:Int):0<YP (wo k m) (wo k n)↔k.1*n<k.1*m:=by
 obtain⟨g,q,_,p,o⟩:=rW (n:=k.1*m) d;obtain⟨h,h0,_,l,h2⟩:=rW (n:=k.1*n) d
 have a:(wo k n).1*(wo k m).2<(wo k m).1*(wo k n).2↔k.1*n<k.1*m:=by
  have i:(wo k n).1*(wo k m).2*((g:Int)*h)=k.1*n*k.2:=by
   show(jd (k.1*n) k.2).1*(jd (k.1*m) k.2).2*((g:Int)*h)=k.1*n*k.2
   calc _=((jd (k.1*n) k.2).1*h)*((jd (k.1*m) k.2).2*g):=by ac_rfl
    _=_:=by rw[<-l,<-o]
  have f:(wo k m).1*(wo k n).2*((g:Int)*h)=k.1*m*k.2:=by
   show(jd (k.1*m) k.2).1*(jd (k.1*n) k.2).2*((g:Int)*h)=k.1*m*k.2
   calc _=((jd (k.1*m) k.2).1*g)*((jd (k.1*n) k.2).2*h):=by ac_rfl
    _=_:=by rw[<-p,<-h2]
  have j:0<(g:Int)*h:=Int.mul_pos (by omega) (by omega);constructor
  ·intro c;have:=Int.mul_lt_mul_of_pos_right c j;rw[i,f] at this;exact Int.lt_of_mul_lt_mul_right this (by omega)
  ·intro c;have:=Int.mul_lt_mul_of_pos_right c d;rw[<-i,<-f] at this;exact Int.lt_of_mul_lt_mul_right this (by omega)
 rw[<-a];unfold YP
 by_cases e:wo k m=wo k n
 ·rw[if_pos e,e];omega
 ·rw[if_neg e]
  split
  ·omega
  ·split<;>omega
def Rq {k:Int×Int} (c:0<k.2) {heat:Int×Int} (d:heat.1<=heat.2):IK k heat=if k.1<0 then(wo k heat.2,wo k heat.1) else(wo k heat.1,wo k heat.2):=by
 unfold IK
 by_cases a:k.1<0
 ·rw[if_pos a]
  by_cases e:heat.1=heat.2
  ·rw[e]
   split<;>rfl
  ·rw[if_pos ((Vk c _ _).2 (Int.mul_lt_mul_of_neg_left (by omega) a))]
 ·rw[if_neg a,if_neg (fun h=>by
   have f:=(Vk c _ _).1 h;have h2:=Int.mul_le_mul_of_nonneg_left d (show 0<=k.1 by omega)
   omega)]
def Ig {n d:Int} (hd:0<d) (j:n.natAbs<=2147483647) (c:d<=2147483647):kP n d=some (jd n d,0):=by
 obtain⟨g,h0,l,m,h2⟩:=rW (n:=n) hd;have q:=(fQ _).1 (Iq hd j c)
 have z:š d 0=false:=by simp[š]; omega
 have f:š (g:Int) 0=false:=by simp[š]; omega
 unfold kP DC
 by_cases a:n=0
 ·subst a
  have e:jd 0 d=(0,1):=by
   unfold jd
   have:(Nat.gcd (0:Int).natAbs d.natAbs:Int)=d:=by simp; omega
   rw[this,Int.ediv_self (by omega)];simp
  rw[Ñ (by rfl),Ñ z,Õ (by simp) (by simp),Ñ z,Int.tdiv_self (by omega),Õ (by omega) (by omega),Int.zero_tdiv,e];rfl
 ·rw[Û (by simpa[ine] using a),Ñ z];have a0:(Int.tmod n d).natAbs=n.natAbs % d.natAbs:=fF n d;have k:=fj n.natAbs (show 0<d.natAbs by omega);rw[Wr ⟨by omega,by omega⟩,À]
  have p:d=((d.natAbs:Nat):Int):=by omega
  have o:sH ((Int.tmod n d).natAbs:Int) d=some (g:Int):=by
   have:=Wo (Int.tmod n d).natAbs d.natAbs;rw[<-p] at this;rw[this,a0,l];congr 2;rw[fG n.natAbs,Nat.gcd_rec d.natAbs n.natAbs]
  rw[o,À,Ñ f]
  have i:Int.tdiv n (g:Int)=(jd n d).1:=by
   conv=>lhs; rw[m]
   exact eY _ (by omega)
  have h:Int.tdiv d (g:Int)=(jd n d).2:=by
   conv=>lhs; rw[h2]
   exact eY _ (by omega)
  rw[i,h,Õ (by omega) (by omega),Ñ f,Õ (by omega) (by omega),Ñ (by simp[igt]; omega),Ñ (by simp[ilt]; omega),Ñ (by simp[igt]; omega)]
def Z5 {x y:Int×Int} (c:lg x 1000 100) (a:lg y 1000 100):B3 x y=some (subP x y,0):=by
 obtain⟨i,f,b3⟩:=yy c a;have h:=iB c.num (show -100<=y.2/\y.2<=100 from⟨by have:=a.pos; omega,a.den⟩);have h2:=iB a.num (show -100<=x.2/\x.2<=100 from⟨by have:=c.pos; omega,c.den⟩);have g:=a.num;unfold B3 PU JD PV JE PY;rw[Õ (by omega) (by omega),À];dsimp only
 have e:(0-y.1)*x.2 = -(y.1*x.2):=by rw[Int.zero_sub,Int.neg_mul]
 rw[Õ (by omega) (by omega),e,Õ (by omega) (by omega),Õ (by omega) (by omega),Õ (by omega) (by omega)]
 have d:x.1*y.2 + -(y.1*x.2)=x.1*y.2-y.1*x.2:=by omega
 rw[d,Ig f (by omega) (by omega),À,À];rfl
def Wn {k:Int×Int} (a:lg k 200000 10000) {n:Int} (c : -10000<=n/\n<=10000):oY (n,1) k=some (wo k n,0):=by
 have b:=yO a c;have p:=a.pos;have q:=a.den;unfold oY PW;have e:n*k.1=k.1*n:=Int.mul_comm _ _;dsimp only;rw[e,Int.one_mul,Õ (by omega) (by omega),Õ (by omega) (by omega),Ig (by omega) (by omega) (by omega),À];rfl
def Wk {k:Int×Int} (c:lg k 200000 10000) {heat:Int×Int} (d:Ÿ heat (-10000) 10000=true):sG ((heat.1,1),(heat.2,1)) k=some (IK k heat,0):=by
 simp only[Ÿ,Bool.and_eq_true,decide_eq_true_eq] at d;have e:=c.pos;rw[Rq (by omega) d.2.1];unfold sG Hs xQ LQ;dsimp only;rw[Wn c ⟨by omega,by omega⟩,Wn c ⟨by omega,by omega⟩]
 by_cases a:k.1<0
 ·rw[Û (by simpa[ilt] using a),if_pos a];rfl
 ·rw[Ñ (by simpa[ilt] using a),if_neg a];rfl
def Wi {r:Int×Int} (h:yE r=true):sI r=some (r.1 / r.2):=by
 have:=(fQ r).1 h;have e:=Jy (n:=r.1) (d:=r.2) (by omega) (by omega);unfold nQ DK at e;unfold sI Hu EJ LP;rw[e];rfl
def Yj {r:Int×Int} (h:yE r=true):xR r=some (Bz r):=by
 have c:=(fQ r).1 h;unfold xR LV Ou Ui
 have z:š r.2 0=false:=by simp[š]; omega
 have t:=Int.mul_tdiv_add_tmod r.1 r.2
 have g : -4000000000<=Int.tdiv r.1 r.2/\Int.tdiv r.1 r.2<=4000000000:=by
  have:=Int.natAbs_tdiv_le_natAbs r.1 r.2;omega
 have f : -r.2<Int.tmod r.1 r.2/\Int.tmod r.1 r.2<r.2:=by
  have e:=fF r.1 r.2;have d:=fj r.1.natAbs (show 0<r.2.natAbs by omega);omega
 rw[Ñ z,Õ (by omega) (by omega),Ñ z,û];unfold Bz
 by_cases a:0<Int.tmod r.1 r.2
 ·rw[if_pos (by simpa[igt] using a),Õ (by omega) (by omega),À];congr 1
  have : -r.1 / r.2 = -(Int.tdiv r.1 r.2)-1:=by
   refine(ez (by omega)).2 ⟨?_,?_⟩
   ·rw[Int.sub_mul,Int.neg_mul,dT (Int.tdiv r.1 r.2)]; omega
   ·rw[Int.sub_mul,Int.neg_mul,dT (Int.tdiv r.1 r.2)]; omega
  omega
 ·rw[if_neg (by simpa[igt] using a),À];congr 1
  have : -r.1 / r.2 = -(Int.tdiv r.1 r.2):=by
   refine(ez (by omega)).2 ⟨?_,?_⟩
   ·rw[Int.neg_mul,dT (Int.tdiv r.1 r.2)]; omega
   ·rw[Int.neg_mul,dT (Int.tdiv r.1 r.2)]; omega
  omega
structure aad (b:ã) (c:Cmp):Prop where
 ok:O6 b c
 ids:b.2.1.Pairwise fun a b=>a.1<b.1
 pile:∀x∈c.2.2.1++c.2.2.2.1,∃g,ķ b x=some g
def ť.cmpIn {b:ã} (h:ť b) {c:Cmp} (a:c∈b.2.2.2.2.1):aad b c:=⟨h.cmp a,h.ids,fun x d=>by obtain⟨⟨g,e,_⟩,_⟩:=h.pile a d; exact⟨g,e⟩⟩
def O6.ne {b:ã} {c:Cmp} (h:O6 b c):∀x∈c.2.2.1++c.2.2.2.1,x≠0:=by
 intro x a;have d:=(Ŕ c).1 h.nums;have e:=((KN _).1 d.2.2.2.2.2.1).1;have h2:=((KN _).1 d.2.2.2.2.2.2).1;rcases bJ.1 a with a|a
 ·have:=e x a; omega
 ·have:=h2 x a; omega
def Nl {b:ã} (i:ŏ b) (hi:b.2.1.Pairwise fun a b=>a.1<b.1) {p q:NO Int} (h:∀x∈p,x≠0/\∃g,ķ b x=some g):nI b (AK p q)=some (vV (Ġ b) (â p q)):=by
 have m:=i.gauges;unfold nI Hd
 cases c:â p q with
 |nil =>
  have:AK p q=0:=by unfold AK; rw[c]; rfl
  rw[this];rfl
 |cons x t =>
  have e:AK p q=x:=by unfold AK; rw[c]; rfl
  have k:x∈p:=(iW.1 (show x∈â p q by rw[c]; simp)).1;obtain⟨h0,g,f⟩:=h x k;rw[e,Ñ (by simpa[ieq] using h0),Cd (by omega),À];rcases sm (b:=b) (id:=x) with⟨j,g',h2,d,l⟩|⟨h2,d⟩
  ·rw[h2]
   try dsimp only
   rw[Æ d];unfold vV;dsimp only;rw[m8 hi,l]
  ·rw[d] at f; cases f
def SY {b:ã} (e:ŏ b) {c:Cmp} (h:aad b c):oW b c=some (ĝ b c):=by
 have d:=(Ŕ c).1 h.ok.nums;have ha:=Ă d.2.2.2.2.2.1;have hb:=Ă d.2.2.2.2.2.2;have i:∀x∈c.2.2.1,x≠0/\∃g,ķ b x=some g:=fun x a=>⟨h.ok.ne x (by simp[a]),h.pile x (by simp[a])⟩;have f:∀x∈c.2.2.2.1,x≠0/\∃g,ķ b x=some g:=fun x a=>⟨h.ok.ne x (by simp[a]),h.pile x (by simp[a])⟩;unfold oW Du;rw[zH (by omega) (by omega),À,Nl e h.ids i,À,zH (by omega) (by omega),À,Nl e h.ids f,À,Z5 h.ok.r1 h.ok.r2,À]
 try dsimp only
 rw[Wk (heat:=c.2.2.2.2.2.2) (Ck h.ok.r1 h.ok.r2) d.2.2.2.2.1,À];rfl
def Wp {b:ã} {c:Cmp} (d:c.2.2.1.length<=1000) (a:c.2.2.2.1.length<=1000) (h:0<=b.1.1) (h2:b.1.1<=1000000) (g:0<=b.1.2) (f:b.1.2<=1000000):sE b c=some (gj b c):=by
 unfold sE Ho gj
 have e:∀n:Nat,HL 0 ((n:Int)-1)=((n-1:Nat):Int):=by
  intro n;unfold HL
  split<;>omega
 have bd:∀(n:Nat) (x:Int),n<=1000->0<=x->x<=1000000->0<=((n-1:Nat):Int)*x/\((n-1:Nat):Int)*x<=1000000000:=by
  intro n x j h0 i;refine⟨eI (by omega) h0,?_⟩;have:=dR (show((n-1:Nat):Int)<=1000 by omega) i h0 (by omega);omega
 have m:=bd _ _ d h h2;have l:=bd _ _ d g f;have b3:=bd _ _ a h h2;have k:=bd _ _ a g f;simp only[á];rw[Õ (by omega) (by omega),Õ (by omega) (by omega)];simp only[e];rw[Õ (by omega) (by omega),Õ (by omega) (by omega),Õ (by omega) (by omega),Õ (by omega) (by omega),Õ (by omega) (by omega),Õ (by omega) (by omega)]
def Ym {b:ã} (f:ŏ b) (g:0<=b.1.1/\b.1.1<=b.1.2/\b.1.2<=1000000) {c:Cmp} (h:aad b c):nM b c=some (vT b c):=by
 have a:=(Ŕ c).1 h.ok.nums;have ha:=Ă a.2.2.2.2.2.1;have hb:=Ă a.2.2.2.2.2.2;obtain⟨e,d,m,l,b3⟩:=zP g h.ok;have k:=sW e;have j:=oT d;have i:=oV (b:=b) (c:=c) (by omega) (by omega) (by omega) (by omega) (by omega) (by omega);have hd:=a.2.2.1;unfold nM LG vT;rw[SY f h,À,Wp (by omega) (by omega) (by omega) (by omega) (by omega) (by omega),À,Wi d.rat,Yj e.rat];simp only[À];rw[Õ (by omega) (by omega),Õ (by omega) (by omega),Õ (by omega) (by omega),Õ (by omega) (by omega),Õ (by omega) (by omega),Õ (by omega) (by omega)]
section
variable {b:ã}
def Yo (h:ť b) {id:Int} {g:æ} (i:ķ b id=some g) {f t:Int} (q:0<=f/\f<=100000) (C:t<=100000):nP b id f t=some (la b g f t):=by
 have F:=h.nG;have D:=h.nU;have E:=h.nL;obtain⟨a,k⟩:=i7 i;unfold nP LK;rw[Cd (by omega),À];rcases sm (b:=b) (id:=id) with⟨j,g',h2,n,r⟩|⟨h2,n⟩
 ·rw[h2]
  have:g'=g:=by rw[i] at r; exact(Option.some.inj r).symm
  subst this
  try dsimp only
  rw[Æ n];refine ė (fun x:Int×Int=>f<=x.2/\(x.2<=t\/x.2=f)/\x.1=la b g' f x.2) (fun x=>(t-x.2).toNat) ?_ ⟨df _,.inr rfl,(Ee g' (df _)).symm⟩;rintro⟨s,d⟩ ⟨c,m,p⟩;simp only at c m p;subst p
  by_cases hd:d<t
  ·refine .inr ⟨(la b g' f (d+1),d+1),⟨by simp only; omega,.inl (by simp only; omega),rfl⟩,by simp only; omega,fun v=>?_⟩;have e:=Ur h g' c;have B:=kF h a (f:=f) (t:=d) q.1;have u:=kF h a (f:=f) (t:=d+1) q.1;unfold lP;rw[Û (by simpa[ilt] using hd),QZ (b:=((b.1.1,b.1.2),b.2.1,b.2.2.1,b.2.2.2.1,b.2.2.2.2.1,b.2.2.2.2.2)) (by simp only; omega),À];have A:χ ((b.1.1,b.1.2),b.2.1,b.2.2.1,b.2.2.2.1,b.2.2.2.2.1,b.2.2.2.2.2) id d=χ b id d:=rfl;rw[A];unfold OA at e;rw[k] at e
   cases ha:χ b id d with
   |some l =>
    rw[ha] at e;simp only at e;rw[Û rfl]
    try dsimp only
    rw[<-e,Õ (by omega) (by omega),Õ (by omega) (by omega)]
   |none =>
    rw[ha] at e;simp only at e;rw[Ñ rfl,Yl (b:=((b.1.1,b.1.2),b.2.1,b.2.2.1,b.2.2.2.1,b.2.2.2.2.1,b.2.2.2.2.2)) (by simp only; omega),À];have z:AF ((b.1.1,b.1.2),b.2.1,b.2.2.1,b.2.2.2.1,b.2.2.2.2.1,b.2.2.2.2.2) id d=AF b id d:=rfl;rw[z]
    cases o:AF b id d with
    |true =>
     rw[o,if_pos rfl] at e;rw[Û rfl]
     try dsimp only
     rw[<-e,Õ (by omega) (by omega),Õ (by omega) (by omega)]
    |false =>
     rw[o,if_neg (by simp)] at e;rw[Ñ rfl,Õ (by omega) (by omega),e,Int.add_zero]
  ·refine .inl fun v=>?_;unfold lP;rw[Ñ (by simpa[ilt] using hd)]
   have:la b g' f d=la b g' f t:=by
    rcases Int.lt_or_le t f with w|y
    ·have:d=f:=by omega
     rw[this,Ee g' (df _),Ee g' (by omega)]
    ·have:d=t:=by omega
     rw[this]
   rw[this]
 ·rw[n] at i; cases i
end
def No {b:ã} (h:Pre b) (n:Int×Int):ε b n=some (idxP b n.1 n.2):=by
 have d:=G4 h.size;unfold ε Hm;rw[Fh h,À];refine Eq.trans (Γ (Ø b) (fun m=>decide (n.1=m.1)&&decide (n.2=m.2)) (fun z=>some (z+1)) (some 0) (fun i a hi ha c=>?_) (fun c=>?_)) ?_
 ·try dsimp only
  unfold jK;rw[Ð hi,Æ ha,È hi (by omega),È hi (by omega),û,Bool.and_true]
  have e:(š a.1 n.1&&š a.2 n.2)=(decide (n.1=a.1)&&decide (n.2=a.2)):=by
   rw[cN];simp only[š,bH,decide_eq_true_eq];exact and_congr eq_comm eq_comm
  rw[e]
 ·try dsimp only
  unfold jK;rw[Ý]
 ·unfold idxP f0
  cases List.findIdx? (fun m=>decide (n.1=m.1)&&decide (n.2=m.2)) (Ø b)<;>rfl
def UV {b:ã} (h:Pre b) (p q:NO Int) (d:Int):idxP b (AK p q) d=atP (Ø b) (â p q) d:=by
 unfold idxP atP AK
 cases f:â p q with
 |nil =>
  simp only[List.head?_nil,Option.getD_none]
  have:f0 (Ø b) 0 d=none:=by
   unfold f0;rw[List.findIdx?_eq_none_iff];intro n a;obtain⟨g,c,a⟩:=List.mem_flatMap.1 a;obtain⟨e,_,rfl⟩:=List.mem_map.1 a;have:=((nH g).1 (h.gauge g c)).2.2.2.1
   have:¬((0:Int)=g.1):=by omega
   simp[this]
  rw[this]
 |cons x t=>rfl
section
variable {b:ã}
def Xh {k:Nat} (e:k<(Ø b).length):∃(i:Nat) (g:æ) (j:Nat) (d:Int),b.2.1[i]?=some g/\(ê b g)[j]?=some d/\k=off b i+j/\(Ø b)[k]?=some (g.1,d):=by
 obtain⟨i,g,j,c,h2,a⟩:=Xf (b:=b) b.2.1.length (bE _) k (by rw[Zj]; exact e);have hd:(ê b g)[j]?=some (ê b g)[j]:=bG h2;exact⟨i,g,j,_,c,hd,a,by rw[a]; exact IU c hd⟩
def Ri (h:ť b) {i j:Nat} {g g':æ} (hi:b.2.1[i]?=some g) (e:b.2.1[j]?=some g') (f:g.1=g'.1):i=j/\g=g':=by
 obtain⟨d,rfl⟩:=bN.1 hi;obtain⟨h2,rfl⟩:=bN.1 e;have c:=dm.1 h.ids;rcases Nat.lt_trichotomy i j with a|rfl|a
 ·have:=c i j d h2 a; omega
 ·exact⟨rfl,rfl⟩
 ·have:=c j i h2 d a; omega
def kL (b:ã) (i:Nat) (g:æ) (k:Nat):NO Lk :=
 if k<=off b i then[] else[(0,(off b i:Int)+1,g.2.2.1+g.2.2.2.1.2),((off b i:Int)+1,0,-(g.2.2.1+g.2.2.2.1.1))] ++
  (List.range (min (k-off b i-1) ((ê b g).length-1))).flatMap fun(k:Nat)=>[((off b i:Int)+1+k,(off b i:Int)+1+k+1,0),((off b i:Int)+1+k+1,(off b i:Int)+1+k,la b g ((ê b g)[k]?.getD 0) ((ê b g)[k+1]?.getD 0))]
def Š (b:ã) (i:Nat) (g:æ) (k:Nat):NO (Int×Int) :=
 if k<=off b i then[] else[(1,(i:Int)),(1,(i:Int))]++(List.range (min (k-off b i-1) ((ê b g).length-1))).flatMap fun _=>[(2,(i:Int)),(2,(i:Int))]
def Sd (h:ť b) {i:Nat} {g:æ} (a:b.2.1[i]?=some g):kL b i g (Ø b).length=õ b g/\Š b i g (Ø b).length=ó b i g:=by
 have d:=TZ h a;have c:=eA (sS (b:=b) g)
 have e:min ((Ø b).length-off b i-1) ((ê b g).length-1)=(ê b g).length-1:=by omega
 unfold kL Š õ ó;rw[if_neg (by omega),if_neg (by omega),e,QQ h a];exact⟨rfl,rfl⟩
def MB {i:Nat} {g:æ} {k:Nat} (a:k<off b i\/off b i+(ê b g).length<=k) (c:0<(ê b g).length):kL b i g (k+1)=kL b i g k/\Š b i g (k+1)=Š b i g k:=by
 unfold kL Š;rcases a with a|a
 ·rw[if_pos (by omega),if_pos (by omega),if_pos (by omega),if_pos (by omega)];exact⟨rfl,rfl⟩
 ·have e:min (k+1-off b i-1) ((ê b g).length-1)=min (k-off b i-1) ((ê b g).length-1):=by omega
  rw[if_neg (by omega),if_neg (by omega),if_neg (by omega),if_neg (by omega),e];exact⟨rfl,rfl⟩
def MC {i:Nat} {g:æ}:kL b i g (off b i+1)=kL b i g (off b i)++[(0,(off b i:Int)+1,g.2.2.1+g.2.2.2.1.2),((off b i:Int)+1,0,-(g.2.2.1+g.2.2.2.1.1))]/\Š b i g (off b i+1)=Š b i g (off b i)++[(1,(i:Int)),(1,(i:Int))]:=by
 unfold kL Š;rw[if_neg (by omega),if_pos (Nat.le_refl _),if_neg (by omega),if_pos (Nat.le_refl _),show off b i+1-off b i-1=0 by omega,Nat.zero_min];exact⟨by simp,by simp⟩
def Oq {i:Nat} {g:æ} {j:Nat} (a:j+1<(ê b g).length):kL b i g (off b i+(j+1)+1)=kL b i g (off b i+(j+1))++[((off b i:Int)+1+j,(off b i:Int)+1+j+1,0),((off b i:Int)+1+j+1,(off b i:Int)+1+j,la b g ((ê b g)[j]?.getD 0) ((ê b g)[j+1]?.getD 0))] /\
 Š b i g (off b i+(j+1)+1)=Š b i g (off b i+(j+1))++[(2,(i:Int)),(2,(i:Int))]:=by
 unfold kL Š;rw[if_neg (by omega),if_neg (by omega),if_neg (by omega),if_neg (by omega),show min (off b i+(j+1)+1-off b i-1) ((ê b g).length-1)=j+1 by omega,show min (off b i+(j+1)-off b i-1) ((ê b g).length-1)=j by omega,mQ,mQ];exact⟨by simp,by simp⟩
def Sc (i:Nat) (g:æ) (k:Nat) (hd:(ê b g).length<=59):(kL b i g k).length<=120/\(Š b i g k).length<=120:=by
 unfold kL Š;constructor
 ·split
  ·simp
  ·rw[bI,ř _ _ (fun _=>rfl)];simp only[bO,bV]; omega
 ·split
  ·simp
  ·rw[bI,ř _ _ (fun _=>rfl)];simp only[bO,bV]; omega
set_option maxHeartbeats 1000000 in
def Tl (h:ť b) {i:Nat} {g:æ} (z:b.2.1[i]?=some g) {L:NO Lk} {S:NO (Int×Int)} (hL:L.length<=100000) (hS:S.length<=100000) (K:NO Lk×NO (Int×Int)->Nm (NO Lk×NO (Int×Int))) :
 Ó (fun(o:Int×NO Lk×NO (Int×Int)) r=>kz (Ø b) (i:Int) b.1.1 b.1.2 b.2.1 b.2.2.1 b.2.2.2.1 b.2.2.2.2.1 b.2.2.2.2.2 g.1 g.2.1 g.2.2.1 g.2.2.2.1.1 g.2.2.2.1.2 o.1 o.2.1 o.2.2 (fun C B A=>r (C,B,A)) K) ((0:Int),L,S)=K (L++õ b g,S++ó b i g):=by
 have hN:=h.nodes;have c:=bR z;have M:=B8 h c;have W:=eA (sS (b:=b) g);have Q:=h.gaugeR c;have r1:=Q.2.2.2.2.2.1;have r2:=Q.2.2.2.2.2.2.1;obtain⟨Z,s⟩:=MO h c;refine ĥ (Ø b) (fun k=>(L++kL b i g k,S++Š b i g k)) _ (by simp[kL,Š]) (fun k n f x U=>?_) (fun U=>?_)
 ·try dsimp only
  unfold kz;have gl:=Sc (b:=b) i g k M;rw[Ð f,Æ x];obtain⟨V,g',j,d,O,h2,T,R⟩:=Xh f
  have w:n=(g'.1,d):=by rw[x] at R; exact Option.some.inj R
  by_cases a:n.1=g.1
  ·obtain⟨I,J⟩:=Ri h O z (by rw[w] at a; exact a);subst J;have H:V=i:=I;rw[H] at T O;rw[Ñ (by simp[ine,a]),Æ x]
   have y:n.2=d:=by rw[w]
   rw[y]
   cases j with
   |zero =>
    have q:d=g'.2.1:=by rw[s] at h2; simpa using h2.symm
    have p:k=off b i:=by omega
    rw[Û (by simp[ieq,q])];obtain⟨m,l⟩:=MC (b:=b) (i:=i) (g:=g');rw[<-p] at m l;rw[È f (by omega),Õ (by omega) (by omega),È f (by omega),Õ (by omega) (by omega),Õ (by omega) (by omega),É (by simp only[bI,bO,bV]; omega),Am.iff_true,É (by simp only[bI,bO,bV]; omega),Am.iff_true,È f (by omega),m,l]
    have P:0-g'.2.2.1-g'.2.2.2.1.1 = -(g'.2.2.1+g'.2.2.2.1.1):=by omega
    rw[P];simp only[bS]
   |succ j =>
    have G:=(bN.1 h2).1
    have q:d≠g'.2.1:=by
     have u:=JJ b g';rw[s] at h2 u;rw[List.getElem?_cons_succ] at h2;have:=(cf.1 u).1 d (bR h2);omega
    rw[Ñ (by simpa[ieq] using q)]
    have e:(ê b g')[j]?=some ((ê b g')[j]?.getD 0):=by rw[bG (by omega)]; rfl
    have N:d=(ê b g')[j+1]?.getD 0:=by rw[h2]; rfl
    have D:=IU O e;have Y:=h.day c (bR e);have d2:=h.day c (bR h2);have p:k=off b i+(j+1):=T;obtain⟨m,l⟩:=Oq (b:=b) (i:=i) (g:=g') G;rw[<-p] at m l
    have F:((k:Int)-1)=((off b i+j:Nat):Int):=by omega
    have lb:=kF h c (t:=d) Y.2.1;rw[ES (by omega) (by omega),F,Æ D,Æ x,y]
    try dsimp only
    rw[show nP ((b.1.1,b.1.2),b.2.1,b.2.2.1,b.2.2.2.1,b.2.2.2.2.1,b.2.2.2.2.2) g'.1 ((ê b g')[j]?.getD 0) d=nP b g'.1 ((ê b g')[j]?.getD 0) d from rfl,Yo h (Er h.ids c) ⟨by omega,by omega⟩ (by omega),À,È f (by omega),È f (by omega),É (by simp only[bI,bO,bV]; omega),Am.iff_true,É (by simp only[bI,bO,bV]; omega),Am.iff_true,È f (by omega),m,l,<-N]
    have P:(off b i:Int)+1+(j:Int)=(k:Int):=by omega
    rw[P];simp only[bS]
  ·rw[Û (by simp[ine,a]),È f (by omega)]
   have v:k<off b i\/off b i+(ê b g).length<=k:=by
    rcases ce k (off b i) with E|X
    ·exact .inl E
    ·rcases ce k (off b i+(ê b g).length) with hlt2|hge2
     ·have:=IU z (k:=k-off b i) (bG (by omega));rw[show off b i+(k-off b i)=k by omega,x] at this;exact absurd (by rw[Option.some.inj this]) a
     ·exact .inr hge2
   obtain⟨m,l⟩:=MB v W;rw[m,l]
 ·try dsimp only
  unfold kz;rw[Ý];obtain⟨m,l⟩:=Sd h z;rw[m,l]
end
def MG {α β:Type} {e:Nat->α->Nm β}:∀{l:NO α} {k i:Nat} {a:α} {b:β},(∀j c,j<i->l[j]?=some c->e (k+j) c=none)->l[i]?=some a->e (k+i) a=some b->ĉ e k l=some b
 |[],_,_,_,_,_,ha,_=>by simp at ha
 |c::t,k,0,a,b,_,ha,hb=>by
  simp only[List.getElem?_cons_zero,Option.some.injEq] at ha;subst ha;unfold ĉ;rw[Nat.add_zero] at hb;rw[hb]
 |c::t,k,i+1,a,b,h,ha,hb=>by
  unfold ĉ;have h0:=h 0 c (by omega) rfl;rw[Nat.add_zero] at h0;rw[h0];refine MG (i:=i) (fun j d f hd=>?_) (by simpa using ha) (by rw[<-hb]; congr 1; omega);have:=h (j+1) d (by omega) (by simpa using hd);rw[<-this];congr 1;omega
def vD {ρ α β:Type} (l:NO α) (e:Nat->α->Nm β) (s:β->Nm ρ) (r:Nm ρ) {f:Int->(Int->Nm ρ)->Nm ρ}
 (h:∀(i:Nat) (a:α),i<l.length->l[i]?=some a->∀m,f i m=match e i a with|some b=>s b|none=>m ((i:Int)+1))
 (u:(∀j a,l[j]?=some a->e j a=none)->∀m,f l.length m=r):Ó f 0=match ĉ e 0 l with|some b=>s b|none=>r:=by
 refine ė (fun x:Int=>∃i:Nat,i<=l.length/\x=i/\∀j a,j<i->l[j]?=some a->e j a=none) (fun x=>l.length-x.toNat) ?_ ⟨0,by omega,rfl,fun j a q=>by omega⟩;rintro x ⟨i,hi,rfl,p⟩;rcases ce i l.length with g|v
 ·have ha:l[i]?=some l[i]:=bG g
  cases o:e i l[i] with
  |some b =>
   refine .inl fun m=>?_;rw[h i _ g ha,o,MG (k:=0) (b:=b) (fun j c q o=>by rw[bX]; exact p j c q o) ha (by rw[bX]; exact o)]
  |none =>
   refine .inr ⟨((i+1:Nat):Int),⟨i+1,g,rfl,fun j a q d=>?_⟩,by simp only[bU]; omega,fun m=>?_⟩
   ·rcases ce j i with t|t
    ·exact p j a t d
    ·have:j=i:=by omega
     subst this;rw[ha] at d;rw[<-Option.some.inj d]; exact o
   ·rw[h i _ g ha,o];simp
 ·have:i=l.length:=by omega
  subst this;refine .inl fun m=>?_;have n:∀j a,l[j]?=some a->e j a=none:=fun j a d=>p j a (bN.1 d).1 d;rw[u n m,ŋ.2 fun j a d=>by rw[bX]; exact n j a d]
def MM {e:Int}:Qx e=none↔e=0:=by
 unfold Qx
 split<;>simp_all
section
variable {b:ã}
def HN (h:ť b):∀i,((b.2.1.take i).flatMap (õ b)).length<=1440/\(((b.2.1.take i).mapIdx (ó b)).flatten).length<=1440:=by
 have f:=h.nG
 have gl:∀g∈b.2.1,(õ b g).length<=120/\∀i,(ó b i g).length<=120:=by
  intro g c;have:=B8 h c;constructor
  ·unfold õ;rw[List.length_append,ř _ _ (fun _=>rfl)];simp only[List.length_cons,List.length_nil]; omega
  ·intro i;unfold ó;rw[List.length_append,ř _ _ (fun _=>rfl)];simp only[List.length_cons,List.length_nil]; omega
 have a:∀i,i<=b.2.1.length->((b.2.1.take i).flatMap (õ b)).length<=i*120/\(((b.2.1.take i).mapIdx (ó b)).flatten).length<=i*120:=by
  intro i
  induction i with
  |zero=>intro _; simp
  |succ i d =>
   intro hi;have d:=d (by omega);have c:b.2.1[i]?=some b.2.1[i]:=bG hi;have h2:=gl _ (bR c);have j:=h2.2 i;rw[ź _ c,take_succ c,dE,eW,bI,bI];simp only[cj,eO,b6,fk,fw];omega
 intro i;rcases ce b.2.1.length i with e|e
 ·rw[cA (by omega)];have:=a b.2.1.length (bE _);rw[eR] at this;omega
 ·have:=a i e;omega
set_option maxHeartbeats 1000000 in
def Z4 (h:ť b):sw b=some (fK b,BK b):=by
 have o:=h.nC;have n:=h.nG;unfold sw PR;rw[Fh h.pre,À];refine ĥ b.2.1 (fun i=>((b.2.1.take i).flatMap (õ b),((b.2.1.take i).mapIdx (ó b)).flatten)) _ rfl (fun i g hi e j=>?_) (fun j=>?_)
 ·try dsimp only
  unfold ot;have d:=HN h i;rw[Ð hi,Æ e];refine Eq.trans (Tl h e (by omega) (by omega) _) ?_;rw[È hi (by omega),ź _ e,take_succ e,List.flatMap_append,List.flatten_append];simp only[List.flatMap_cons,List.flatMap_nil,List.append_nil,List.flatten_cons,List.flatten_nil]
 ·try dsimp only
  unfold ot;rw[Ý,List.take_length];dsimp only;have d:=HN h b.2.1.length;rw[List.take_length] at d;refine ĥ b.2.2.2.2.1 (fun i=>(b.2.1.flatMap (õ b)++(b.2.2.2.2.1.take i).flatMap (ĭ b),(b.2.1.mapIdx (ó b)).flatten++((b.2.2.2.2.1.take i).mapIdx fun i _=>[((3:Int),(i:Int)),((3:Int),(i:Int))]).flatten)) _ (by simp) (fun i c hi f j=>?_) (fun j=>?_)
  ·try dsimp only
   unfold oq;have a:=List.mem_of_getElem? f;have k:=(Ŕ c).1 (h.nums a);have ha:=Ă k.2.2.2.2.2.1;have hb:=Ă k.2.2.2.2.2.2;have l:=SU (b:=b) i (by omega);have m:=uU h a;rw[Ð hi,Æ f,zH (by omega) (by omega),À];rw[show ε ((b.1.1,b.1.2),b.2.1,b.2.2.1,b.2.2.2.1,b.2.2.2.2.1,b.2.2.2.2.2) (AK c.2.2.1 c.2.2.2.1,c.2.1)=ε b (AK c.2.2.1 c.2.2.2.1,c.2.1) from rfl,No h.pre,À,zH (by omega) (by omega),À];rw[show ε ((b.1.1,b.1.2),b.2.1,b.2.2.1,b.2.2.2.1,b.2.2.2.2.1,b.2.2.2.2.2) (AK c.2.2.2.1 c.2.2.1,c.2.1)=ε b (AK c.2.2.2.1 c.2.2.1,c.2.1) from rfl,No h.pre,À];rw[show nM ((b.1.1,b.1.2),b.2.1,b.2.2.1,b.2.2.2.1,b.2.2.2.2.1,b.2.2.2.2.2) c=nM b c from rfl,Ym h.size h.film (h.cmpIn a),À];rw[Õ (by omega) (by omega),É (by simp only[List.length_append,List.length_cons,List.length_nil]; omega),Am.iff_true,É (by simp only[List.length_append,List.length_cons,List.length_nil]; omega),Am.iff_true,È hi (by omega)];rw[ź _ f,take_succ f,List.flatMap_append,List.flatten_append,UV h.pre,UV h.pre];simp only[List.flatMap_cons,List.flatMap_nil,List.append_nil,List.flatten_cons,List.flatten_nil,List.append_assoc];rw[Int.zero_sub];rfl
  ·try dsimp only
   unfold oq;rw[Ý,List.take_length];rfl
def fX (b:ã) (i:Nat) (c:Cmp):Int:=if !vf c then 1 else if (b.2.2.2.2.1.take i).any (fun x=>x.1==c.1) then 6 else tC b c
def H4 (hi:b.2.1.Pairwise fun a b=>a.1<b.1) (i:Nat) (c:Cmp):fX b i c=gV b (Ġ b) i c:=by
 unfold fX gV;rw[Xa hi]
def Y5 (b:ã):Int:=match (b.2.2.2.2.1.mapIdx (fX b)).find? (fun e=>e != 0) with
 |some e=>e
 |none=>match (b.2.2.2.2.2.map (Ke b)).find? (fun e=>e != 0) with
  |some e=>e
  |none=>if 59<(Ø b).length then 2 else if 300<2*b.2.1.length+2*((Ø b).length-b.2.1.length:Int)+2*b.2.2.2.2.1.length then 2 else 0
def U5 {α:Type} {l:NO α} {E:α->Int} (h:(l.map E).find? (fun e=>e != 0)=none):∀a∈l,E a=0:=by
 intro a ha;have:=cR.1 h (E a) (dc.2 ⟨a,ha,rfl⟩);simpa using this
def Sh {α:Type} {l:NO α} {E:Nat->α->Int} (h:(l.mapIdx E).find? (fun e=>e != 0)=none):∀i a,l[i]?=some a->E i a=0:=by
 intro i a ha;obtain⟨hi,rfl⟩:=bN.1 ha;have:=cR.1 h (E i l[i]) (fg.2 ⟨i,hi,rfl⟩);simpa using this
def yi {i:Nat} {c:Cmp} (h:fX b i c=0):vf c=true/\(â c.2.2.1 c.2.2.2.1).length<=1/\(â c.2.2.2.1 c.2.2.1).length<=1:=by
 unfold fX at h
 split at h
 ·omega
 rename_i a
 split at h
 ·omega
 unfold tC at h
 (repeat' split at h)<;>first|omega|exact⟨by simpa using a,by omega,by omega⟩
set_option maxHeartbeats 4000000 in
def Y4 (K:SX b) (s:0<=b.1.1/\b.1.1<=b.1.2/\b.1.2<=1000000) (nG:b.2.1.length<=12) (nU:b.2.2.1.length<=40) (nL:b.2.2.2.1.length<=12) (nC:b.2.2.2.2.1.length<=40) (nK:b.2.2.2.2.2.length<=10)
 (T:∀g∈b.2.1,i6 g=true) (hi:b.2.1.Pairwise fun a b=>a.1<b.1) (V:∀u∈b.2.2.1,Ke b u=0) (Y:∀i l,b.2.2.2.1[i]?=some l->Gc b i l=0) :
 Ó (fun(D:Int) t=>Ρ b.1.1 b.1.2 b.2.1 b.2.2.1 b.2.2.2.1 b.2.2.2.2.1 b.2.2.2.2.2 D (fun F=>t F) (fun C=>some C) (fun _=>Ó (fun(E:Int) v=>Ο b.1.1 b.1.2 b.2.1 b.2.2.1 b.2.2.2.1 b.2.2.2.2.1 b.2.2.2.2.2 E (fun G=>v G) (fun B=>some B) (fun _=>Â (gk b) fun I=>ifb (igt (ß I) (59:Int)) (some (2:Int)) (Â (sw b) fun H=>ifb (igt (ß H.1) (300:Int)) (some (2:Int)) (some (0:Int))))) (0:Int))) (0:Int)=some (Y5 b):=by
 unfold Y5
 refine cB (vD b.2.2.2.2.1 (fun i c=>Qx (fX b i c)) some (some (match (b.2.2.2.2.2.map (Ke b)).find? (fun e=>e != 0) with
  |some e=>e
  |none=>if 59<(Ø b).length then 2 else if 300<2*b.2.1.length+2*((Ø b).length-b.2.1.length:Int)+2*b.2.2.2.2.1.length then 2 else 0)) (fun i c z k S=>?_) (fun Q S=>?_)) ?_
 ·try dsimp only
  unfold Ρ;have Z:=K c (List.mem_of_getElem? k);rw[Ð z,Æ k,We (by omega) (by omega),À];unfold fX Qx
  cases L:vf c with
  |false=>rfl
  |true =>
   have W:=CH L;rw[Ñ (by rfl)]
   have w:(b.2.2.2.2.1.take i).length=i:=by rw[bY]; omega
   refine cB (Ę (b.2.2.2.2.1.take i) (fun x=>x.1==c.1) (fun _=>some 6) (some 6) (if tC b c=0 then S ((i:Int)+1) else some (tC b c)) (fun _=>rfl) (fun j a m ha r=>?_) (fun r=>?_)) ?_
   ·try dsimp only
    unfold jL;rw[w] at m
    have R:b.2.2.2.2.1[j]?=some a:=by rwa [fh m] at ha
    rw[Û (show ilt (j:Int) (i:Int)=true by simp[ilt]; omega),Æ R,Æ k,È m (by omega),û]
   ·try dsimp only
    unfold jL;rw[w,Ñ (show ilt (i:Int) (i:Int)=false by simp[ilt])];dsimp only;rw[Æ k,show Ω ((b.1.1,b.1.2),b.2.1,b.2.2.1,b.2.2.2.1,b.2.2.2.2.1,b.2.2.2.2.2) c=Ω b c from rfl,Nn (by omega) (by omega) (by omega) (by omega),À,È z (by omega)]
    by_cases d:tC b c=0
    ·rw[Ñ (by simp[ine,d]),if_pos d]
    ·rw[Û (by simp[ine,d]),if_neg d]
   ·cases U:(b.2.2.2.2.1.take i).any (fun x=>x.1==c.1) with
    |true=>simp
    |false =>
     by_cases d:tC b c=0
     ·simp[d]
     ·simp[d]
 ·try dsimp only
  unfold Ρ;rw[Ý];dsimp only;have h:∀i c,b.2.2.2.2.1[i]?=some c->fX b i c=0:=fun i c k=>MM.1 (Q i c k);refine Eq.trans (vD b.2.2.2.2.2 (fun _ u=>Qx (Ke b u)) some (some (if 59<(Ø b).length then 2 else if 300<2*b.2.1.length+2*((Ø b).length-b.2.1.length:Int)+2*b.2.2.2.2.1.length then 2 else 0)) (fun i a y ha r=>?_) (fun M r=>?_)) ?_
  ·try dsimp only
   unfold Ο;rw[Ð y,Æ ha,J8,À];unfold Ke Qx
   cases yd a.2 with
   |false=>rfl
   |true =>
    rw[Ñ (by rfl),Æ ha,Æ ha,yr (b:=((b.1.1,b.1.2),b.2.1,b.2.2.1,b.2.2.2.1,b.2.2.2.2.1,b.2.2.2.2.2)) (by simp only; omega),À,È y (by omega)];have e:ō ((b.1.1,b.1.2),b.2.1,b.2.2.1,b.2.2.2.1,b.2.2.2.2.1,b.2.2.2.2.2) a.1 a.2=ō b a.1 a.2:=rfl;rw[e]
    by_cases d:ō b a.1 a.2=0
    ·rw[Ñ (by simp[ine,d])]; simp[d]
    ·rw[Û (by simp[ine,d])]; simp[d]
  ·try dsimp only
   unfold Ο;rw[Ý];dsimp only
   have o:∀u∈b.2.2.2.2.2,Ke b u=0:=fun u f=>by
    obtain⟨j,m,rfl⟩:=bZ.1 f;exact MM.1 (M j _ (bG m))
   have K:ŏ b:=⟨by omega,by omega,by omega,by omega,by omega,fun c k=>by
    obtain⟨j,m,rfl⟩:=bZ.1 k;have:=CH (yi (h j _ (bG m))).1
    omega⟩
   have J:Pre b:=⟨K,T,fun c k=>by
    obtain⟨j,m,rfl⟩:=bZ.1 k;have q:=yi (h j _ (bG m))
    exact⟨Lh q.1,q.2⟩,fun n X=>by
    have:=o n X;unfold Ke at this
    split at this
    ·omega
    ·rename_i hd; simpa using hd⟩
   rw[Fh J,À,á]
   by_cases A:59<(Ø b).length
   ·rw[Û (by simp[igt]; omega),if_pos A]
   ·rw[Ñ (by simp[igt]; omega),if_neg A];have p:ť b:=⟨s,nG,nU,nL,nC,nK,T,hi,fun u f=>by rw[<-Pb hi]; exact V u f,fun i l O=>by rw[<-UD hi]; exact Y i l O,fun i c P=>by rw[<-H4 hi]; exact h i c P,fun u f=>by rw[<-Pb hi]; exact o u f,by omega,by omega⟩;have N:=Eh p;rw[Z4 p,À,á];dsimp only;rw[N,Ñ (by simp[igt]; omega),if_neg (by omega)]
  ·rw[EE]
   cases(b.2.2.2.2.2.map (Ke b)).find? (fun e=>e != 0)<;>rfl
 ·rw[ED (fX b)]
  cases(b.2.2.2.2.1.mapIdx (fX b)).find? (fun e=>e != 0)<;>rfl
end
def JA {l m:NO Int}:(l++m).find? (fun e=>e != 0)=match l.find? (fun e=>e != 0) with|some e=>some e|none=>m.find? (fun e=>e != 0):=by
 rw[List.find?_append]
 cases l.find? (fun e=>e != 0)<;>rfl
set_option maxHeartbeats 4000000 in
def Ih {b:ã} (C:SX b):Ħ b=some (ë b):=by
 unfold Ħ yU ë;rw[pj,À]
 cases k:Ÿ b.1 0 1000000 with
 |false=>rfl
 |true =>
 have d:0<=b.1.1/\b.1.1<=b.1.2/\b.1.2<=1000000:=by
  simp only[Ÿ,bH,decide_eq_true_eq] at k;exact k
 rw[Ñ (show(!true)=false from rfl),if_neg (by simp)];rw[á b.2.1,á b.2.2.1,á b.2.2.2.1,á b.2.2.2.2.1,á b.2.2.2.2.2]
 by_cases z:12<b.2.1.length
 ·rw[Û (by simp[igt]; omega),if_pos z]
 rw[Ñ (by simp[igt]; omega),if_neg z]
 by_cases y:40<b.2.2.1.length
 ·rw[Û (by simp[igt]; omega),if_pos y]
 rw[Ñ (by simp[igt]; omega),if_neg y]
 by_cases x:12<b.2.2.2.1.length
 ·rw[Û (by simp[igt]; omega),if_pos x]
 rw[Ñ (by simp[igt]; omega),if_neg x]
 by_cases w:40<b.2.2.2.2.1.length
 ·rw[Û (by simp[igt]; omega),if_pos w]
 rw[Ñ (by simp[igt]; omega),if_neg w]
 by_cases v:10<b.2.2.2.2.2.length
 ·rw[Û (by simp[igt]; omega),if_pos v]
 rw[Ñ (by simp[igt]; omega),if_neg v]
 refine cB (vD b.2.1 (jr b.2.1) some (some (match (pm b (Ġ b)).find? (fun e=>e != 0) with
  |some e=>e
  |none=>if 59<(Ø b).length then 2 else if 300<2*b.2.1.length+2*((Ø b).length-b.2.1.length:Int)+2*b.2.2.2.2.1.length then 2 else 0)) (fun i g hi n A=>?_) (fun B A=>?_)) ?_
 ·try dsimp only
  unfold jM;rw[Ð hi,Æ n,Wh,À];unfold jr
  cases i6 g with
  |false=>rfl
  |true =>
   rw[Ñ (by rfl)];rcases dV i with h0|h0
   ·subst h0
    have:igt ((0:Nat):Int) 0=false:=by simp[igt]
    rw[Ñ this,È hi (by omega)];simp[vH]
   ·obtain⟨q,t⟩:=vW hi h0
    have s:igt (i:Int) 0=true:=by simp[igt]; omega
    rw[Û s,Æ n,ES h0 (by omega),xF h0 t];simp only[vH,h0,decide_true,Bool.true_and,t,Option.any_some];unfold ile
    cases h2:decide (g.1<=q.1) with
    |true=>simp
    |false=>rw[ð,È hi (by omega)]; simp
 ·try dsimp only
  unfold jM;rw[Ý];dsimp only
  have p:Ε b=0:=by
   unfold Ε;rw[ŋ.2 fun j a ha=>by rw[Nat.zero_add]; exact B j a ha];rfl
  obtain⟨n,hi⟩:=(oS b).1 p;have F:b.2.2.1.map (Ke b)=b.2.2.1.map fun u=>Q8 (Ġ b) u.1 u.2:=List.map_congr_left fun u _=>Pb hi u;have G:b.2.2.2.1.mapIdx (Gc b)=b.2.2.2.1.mapIdx fun i l=>Eg b (Ġ b) i l:=List.mapIdx_eq_mapIdx_iff.2 fun i J=>UD hi i _;have I:b.2.2.2.2.1.mapIdx (fX b)=b.2.2.2.2.1.mapIdx fun i c=>gV b (Ġ b) i c:=List.mapIdx_eq_mapIdx_iff.2 fun i K=>H4 hi i _;have H:b.2.2.2.2.2.map (Ke b)=b.2.2.2.2.2.map fun u=>Q8 (Ġ b) u.1 u.2:=List.map_congr_left fun u _=>Pb hi u;unfold pm;rw[<-F,<-G,<-I,<-H,JA,JA,JA,Yh (by omega) (by omega),À]
  cases h:(b.2.2.1.map (Ke b)).find? (fun e=>e != 0) with
  |some e =>
   have f:e≠0:=by have:=fc h; simpa using this
   simp only[dQ];rw[Ñ (by simpa[ieq] using f),Û (by simpa[ine] using f)]
  |none =>
   simp only[Option.getD_none];rw[Û (by rfl),Wg (by omega) (by omega) (by omega),À]
   cases m:(b.2.2.2.1.mapIdx (Gc b)).find? (fun e=>e != 0) with
   |some e =>
    have f:e≠0:=by have:=fc m; simpa using this
    simp only[dQ];rw[Û (by simpa[ine] using f)]
   |none =>
    simp only[Option.getD_none];rw[Ñ (by rfl)];refine Eq.trans (Y4 C d (by omega) (by omega) (by omega) (by omega) (by omega) n hi (U5 h) (Sh m)) ?_;unfold Y5
    cases(b.2.2.2.2.1.mapIdx (fX b)).find? (fun e=>e != 0)<;>rfl
 ·unfold Ε
  cases r:ĉ (jr b.2.1) 0 b.2.1 with
  |none =>
   simp
   cases(pm b (Ġ b)).find? (fun e=>e != 0)<;>rfl
  |some e =>
   have f:Ε b=e:=by unfold Ε; rw[r]; rfl
   have o:e≠0:=by
    intro h0;rw[h0] at f;obtain⟨s,h2⟩:=(oS b).1 f
    have E:∀j a,b.2.1[j]?=some a->jr b.2.1 j a=none:=by
     intro j a ha;have D:=(J0 (fun g:æ=>g.1) b.2.1).2 h2 j a ha;simp[jr,s a (bR ha),D]
    rw[ŋ.2 fun j a ha=>by rw[bX]; exact E j a ha] at r;cases r
   simp[o]
def Wq {b:ã} (a:ŏ b):Ħ b=some (ë b):=Ih a.w
section
variable {ρ:Type}
def RO {α σ:Type} (l:NO α) (g:σ->α->σ) (I:Nat->σ->Prop) {K:σ->Nm ρ} {f:Int×σ->(Int×σ->Nm ρ)->Nm ρ} {s0:σ} (h0:I 0 s0)
 (h:∀(i:Nat) (a:α) (s:σ),i<l.length->l[i]?=some a->I i s->I (i+1) (g s a)/\∀c,f ((i:Int),s) c=c ((i:Int)+1,g s a)) (j:∀s c,I l.length s->f ((l.length:Int),s) c=K s):Ó f (0,s0)=K (l.foldl g s0):=by
 refine ė (fun x=>∃(i:Nat) (s:σ),x=((i:Int),s)/\i<=l.length/\I i s/\(l.drop i).foldl g s=l.foldl g s0) (fun x=>l.length-x.1.toNat) ?_ ⟨0,s0,rfl,cg _,h0,rfl⟩;rintro x ⟨i,s,rfl,hi,hI,e⟩
 by_cases d:i<l.length
 ·obtain⟨k,h2⟩:=h i l[i] s d (bG d) hI;refine .inr ⟨((i:Int)+1,g s l[i]),⟨i+1,_,rfl,d,k,?_⟩,by simp; omega,h2⟩;rw[<-e,cG d,cM]
 ·obtain rfl:i=l.length:=by omega
  rw[fB,List.foldl_nil] at e;rw[<-e];exact .inl fun c=>j s c hI
def y9 {α σ:Type} (l:NO α) (g:σ->α->σ) (I:Nat->σ->Prop) {K:σ->Nm ρ} {f:σ×Int->(σ×Int->Nm ρ)->Nm ρ} {s0:σ} (h0:I 0 s0)
 (h:∀(i:Nat) (a:α) (s:σ),i<l.length->l[i]?=some a->I i s->I (i+1) (g s a)/\∀c,f (s,(i:Int)) c=c (g s a,(i:Int)+1)) (j:∀s c,I l.length s->f (s,(l.length:Int)) c=K s):Ó f (s0,0)=K (l.foldl g s0):=by
 refine ė (fun x=>∃(i:Nat) (s:σ),x=(s,(i:Int))/\i<=l.length/\I i s/\(l.drop i).foldl g s=l.foldl g s0) (fun x=>l.length-x.2.toNat) ?_ ⟨0,s0,rfl,cg _,h0,rfl⟩;rintro x ⟨i,s,rfl,hi,hI,e⟩
 by_cases d:i<l.length
 ·obtain⟨k,h2⟩:=h i l[i] s d (bG d) hI;refine .inr ⟨(g s l[i],(i:Int)+1),⟨i+1,_,rfl,d,k,?_⟩,by simp; omega,h2⟩;rw[<-e,cG d,cM]
 ·obtain rfl:i=l.length:=by omega
  rw[fB,List.foldl_nil] at e;rw[<-e];exact .inl fun c=>j s c hI
def kG {α β:Type} (l:NO α) (g:α->β) {K:NO β->Nm ρ} {f:Int×NO β->(Int×NO β->Nm ρ)->Nm ρ} {out:NO β} (j:out.length+l.length<=1000000)
 (h:∀(i:Nat) (a:α) (s:NO β),i<l.length->l[i]?=some a->s.length<1000000->∀c,f ((i:Int),s) c=c ((i:Int)+1,s++[g a])) (d:∀s c,f ((l.length:Int),s) c=K s):Ó f (0,out)=K (out++l.map g):=by
 have:=RO l (fun s a=>s++[g a]) (fun i s=>s.length=out.length+i) (K:=K) (f:=f) (s0:=out) rfl (fun i a s hi ha k=>⟨by simp; omega,h i a s hi ha (by omega)⟩) (fun s c _=>d s c);rw[this];congr 1;clear this d h j
 induction l generalizing out with
 |nil=>simp
 |cons a l e=>rw[cM,e]; simp
def rk {α:Type} (l:NO α) (g:α->BL) {K:ByteArray->Nm ρ} {f:ByteArray×Int->(ByteArray×Int->Nm ρ)->Nm ρ} {out:BL} (o:l.length<=1000000) (e:∀a∈l,(g a).length<=1000) (m:out.length<=1000000000)
 (h:∀(i:Nat) (a:α) (s:BL),i<l.length->l[i]?=some a->s.length<=2000000000->∀c,f (ofL s,(i:Int)) c=c (ofL (s++g a),(i:Int)+1)) (d:∀s c,f (s,(l.length:Int)) c=K s):Ó f (ofL out,0)=K (ofL (out++l.flatMap g)):=by
 have:=y9 l (fun s a=>ofL (toL s++g a)) (fun i s=>(toL s).length<=out.length+1000*i) (K:=K) (f:=f) (s0:=ofL out) (by simp) (fun i a s hi ha k=>?_) (fun s c _=>d s c)
 ·rw[this];congr 1;clear this d h o e m
  induction l generalizing out with
  |nil=>simp
  |cons a l j=>rw[cM,j]; simp
 ·have n:=e a (bR ha);refine⟨by simp at k ⊢; omega,fun c=>?_⟩;have:=h i a (toL s) hi ha (by omega) c
  rwa [mr] at this
end
abbrev gZ (ns:NO Int):NO BL:=ns.map Lib.itoa
abbrev Bx (w:BL) (ws:NO BL):BL:=w++spL 32 ws
def WS (c:UInt8) (w:BL) (ws:NO BL):spL c (w::ws)=c::w++spL c ws:=by simp[spL]
def Xu {a:NO Int} (c:∀n∈a,I64 n):(spL 32 (gZ a)).length<=21*a.length:=by
 induction a with
 |nil=>simp[spL]
 |cons n a d =>
  have g:=sh (c n (by simp));have h2:=d fun x f=>c x (by simp[f]);have e:spL 32 (gZ (n::a))=32::Lib.itoa n++spL 32 (gZ a):=WS _ _ _;rw[e];simp only[bI,bO]; omega
def HP (a:NO Int):∀w:BL,a.foldl (fun s n=>ofL (toL s++32::Lib.itoa n)) (ofL w)=ofL (Bx w (gZ a)):=by
 induction a with
 |nil=>intro w; simp[spL]
 |cons n a c =>
  intro w;rw[cM,c];simp[spL]
def rm {w:BL} {a:NO Int} (g:w.length<=1000) (k:a.length<=1000) (h:∀n∈a,I64 n):gT (ofL w) a=some (ofL (Bx w (gZ a))):=by
 unfold gT P7;rw[y9 a (fun s n=>ofL (toL s++32::Lib.itoa n)) (fun i s=>s.size<=1000+21*i) (K:=some) (by rw[Ò]; exact g) (fun i n s hi ha c=>?_) (fun s f _=>?_),HP]
 ·have d:=h n (List.mem_of_getElem? ha);have j:=sh d;refine⟨by rw[Ò]; rw[vR] at c; simp at c ⊢; omega,fun f=>?_⟩;unfold oH;rw[Ð hi,Æ ha,aac d,À,show ByteArray.mk #[32]=ofL [32] from rfl,É (by simp only[Ò,List.length_append,List.length_cons,List.length_nil]; omega),Am.iff_true,ć,É (by simp only[Ò,List.length_append,List.length_cons,List.length_nil]; omega),Am.iff_true,Õ (by omega) (by omega)]
  have e:s++ofL ([32]++Lib.itoa n)=ofL (toL s++32::Lib.itoa n):=by rw[<-mr s,ć]; rfl
  rw[e]
 ·unfold oH;rw[Ý]
def yq {w:BL} {a:NO Int} (g:w.length<=1000) (k:a.length<=1000) (h:∀n∈a,I64 n):Ū (ofL w) a=some (ofL (Bx w (gZ a))):=by
 unfold Ū Lz;rw[y9 a (fun s n=>ofL (toL s++32::Lib.itoa n)) (fun i s=>s.size<=1000+21*i) (K:=some) (by rw[Ò]; exact g) (fun i n s hi ha c=>?_) (fun s f _=>?_),HP]
 ·have d:=h n (List.mem_of_getElem? ha);have j:=sh d;refine⟨by rw[Ò]; rw[vR] at c; simp at c ⊢; omega,fun f=>?_⟩;unfold lD;rw[Ð hi,show ByteArray.mk #[32]=ofL [32] from rfl,É (by simp only[Ò,List.length_append,List.length_cons,List.length_nil]; omega),Am.iff_true,Æ ha,O2 d,À]
  have e:s++ofL [32]=ofL (toL s++[32]):=by rw[<-mr s,ć]
  rw[e,É (by rw[vR] at c; simp only[Ò,bI,bO,bV]; omega),Am.iff_true,Õ (by omega) (by omega),ć];congr 2;simp
 ·unfold lD;rw[Ý]
abbrev UY (g:æ):NO Int:=[g.1,g.2.1,g.2.2.1,g.2.2.2.1.1,g.2.2.2.1.2,g.2.2.2.2.1.1,g.2.2.2.2.1.2,g.2.2.2.2.2]
abbrev Zq (l:AD):NO Int:=[l.1,l.2.1.1,l.2.1.2,l.2.2]
abbrev cmpN (c:Cmp):NO Int:=[c.1,c.2.1,c.2.2.2.2.1,c.2.2.2.2.2.1,c.2.2.2.2.2.2.1,c.2.2.2.2.2.2.2]
def Sk (s:Int×Int):BL×NO BL:=([102,105,108,109],gZ [s.1,s.2])
def xI (g:æ):BL×NO BL:=([103,97,117,103,101],gZ (UY g))
def WK (u:Int×Int):BL×NO BL:=([117,115,101],gZ [u.1,u.2])
def Jo (l:AD):BL×NO BL:=([108,111,97,110],gZ (Zq l))
def S9 (c:Cmp):BL×NO BL:=([99,111,109,112,97,114,101],gZ (cmpN c)++([97]::gZ c.2.2.1++[98]::gZ c.2.2.2.1))
def Jn (u:Int×Int):BL×NO BL:=([108,111,111,107],gZ [u.1,u.2])
def ű (b:ã):NO (BL×NO BL):=Sk b.1::(b.2.1.map xI++(b.2.2.1.map WK++(b.2.2.2.1.map Jo++(b.2.2.2.2.1.map S9++b.2.2.2.2.2.map Jn))))
abbrev ũ (p:BL×NO BL):BL:=Bx p.1 p.2
def gx (b:ã):BL:=(ű b).flatMap fun p=>ũ p++[10]
structure jk (I64:Int->Prop) (b:ã):Prop where
 film:I64 b.1.1/\I64 b.1.2
 gauges:∀g∈b.2.1,∀n∈UY g,I64 n
 uses:∀u∈b.2.2.1,I64 u.1/\I64 u.2
 loans:∀l∈b.2.2.2.1,∀n∈Zq l,I64 n
 cmps:∀c∈b.2.2.2.2.1,(∀n∈cmpN c,I64 n)/\(∀n∈c.2.2.1,I64 n)/\(∀n∈c.2.2.2.1,I64 n)/\c.2.2.1.length<=6/\c.2.2.2.1.length<=6
 looks:∀u∈b.2.2.2.2.2,I64 u.1/\I64 u.2
 nG:b.2.1.length<=12
 nU:b.2.2.1.length<=40
 nL:b.2.2.2.1.length<=12
 nC:b.2.2.2.2.1.length<=40
 nK:b.2.2.2.2.2.length<=10
abbrev Q0:ã->Prop:=jk I64
def jk.mono {P Q:Int->Prop} (a:∀n,P n->Q n) {b:ã} (h:jk P b):jk Q b :=
 ⟨⟨a _ h.film.1,a _ h.film.2⟩,fun g j n d=>a _ (h.gauges g j n d),fun u e=>⟨a _ (h.uses u e).1,a _ (h.uses u e).2⟩,fun l i n d=>a _ (h.loans l i n d),fun c f=>⟨fun n d=>a _ ((h.cmps c f).1 n d),fun n d=>a _ ((h.cmps c f).2.1 n d),fun n d=>a _ ((h.cmps c f).2.2.1 n d),(h.cmps c f).2.2.2⟩,fun u e=>⟨a _ (h.looks u e).1,a _ (h.looks u e).2⟩,h.nG,h.nU,h.nL,h.nC,h.nK⟩
def mo {u:Int×Int} (h:I64 u.1/\I64 u.2):∀n∈[u.1,u.2],I64 n:=by
 intro n a;simp only[bL,dh,or_false] at a;rcases a with rfl|rfl
 ·exact h.1
 ·exact h.2
def JN {c:Cmp}:ũ (S9 c)=(Bx [99,111,109,112,97,114,101] (gZ (cmpN c))++Bx [32,97] (gZ c.2.2.1))++Bx [32,98] (gZ c.2.2.2.1):=by
 simp[ũ,S9,spL]
def RY (ps:NO BL) (p:BL):Lib.join (p::ps) [10]++[10]=(p::ps).flatMap fun l=>l++[10]:=by
 rw[Lib.join_cons]
 have:∀(ps:NO BL),Lib.joinTail [10] ps++[10]=[10]++ps.flatMap fun l=>l++[10]:=by
  intro ps
  induction ps with
  |nil=>simp[Lib.joinTail]
  |cons q ps a =>
   have e:Lib.joinTail [10] (q::ps)=10::q++Lib.joinTail [10] ps:=by simp[Lib.joinTail]
   rw[e,bS,a]; simp
 rw[bS,this]; simp
def Ī {w:BL} {a:NO Int} (c:∀n∈a,I64 n):(Bx w (gZ a)).length<=w.length+21*a.length:=by
 have:=Xu c;rw[Bx,bI]; omega
def jk.len {b:ã} (h:Q0 b):∀p∈ű b,(ũ p).length<=500:=by
 intro p d;unfold ű at d;simp only[List.mem_cons,List.mem_append,List.mem_map] at d;rcases d with rfl|⟨g,f,rfl⟩|⟨u,a,rfl⟩|⟨l,e,rfl⟩|⟨c,i,rfl⟩|⟨u,a,rfl⟩
 ·have:=Ī (w:=[102,105,108,109]) (mo h.film); simp[Sk] at this ⊢; omega
 ·have:=Ī (w:=[103,97,117,103,101]) (h.gauges g f); simp[xI] at this ⊢; omega
 ·have:=Ī (w:=[117,115,101]) (mo (h.uses u a)); simp[WK] at this ⊢; omega
 ·have:=Ī (w:=[108,111,97,110]) (h.loans l e); simp[Jo] at this ⊢; omega
 ·obtain⟨k,h2,j,q,o⟩:=h.cmps c i;have n:=Ī (w:=[99,111,109,112,97,114,101]) k;have m:=Ī (w:=[32,97]) h2;have a3:=Ī (w:=[32,98]) j;rw[JN,bI,bI];simp only[bO,bV] at n m a3; omega
 ·have:=Ī (w:=[108,111,111,107]) (mo (h.looks u a)); simp[Jn] at this ⊢; omega
def jk.count {P:Int->Prop} {b:ã} (h:jk P b):(ű b).length<=115:=by
 have e:=h.nG; have h2:=h.nU; have d:=h.nL; have c:=h.nC; have a:=h.nK;unfold ű;simp; omega
def W8 {b:ã} (h:Q0 b) (v:Ē b=some 0):gU b=some (ofL (gx b),0):=by
 have y:=h.nG; have h2:=h.nU; have F:=h.nL; have E:=h.nC; have D:=h.nK;unfold gU xw;rw[v,À,Ñ (by simp[ine]),show ByteArray.mk #[102,105,108,109]=ofL [102,105,108,109] from rfl,rm (by simp) (by simp) (mo h.film),À]
 rw[kG b.2.1 (fun g=>ofL (ũ (xI g))) (by simp; omega) (fun i g s hi a j d=>by
  unfold mb;dsimp only
  rw[Ð hi,Æ a,show ByteArray.mk #[103,97,117,103,101]=ofL [103,97,117,103,101] from rfl,rm (by simp) (by simp) (h.gauges g (List.mem_of_getElem? a)),À,É (by simp; omega),Am.iff_true,È hi (by omega)]; rfl) (fun s d=>by unfold mb; rw[Ý])]
 dsimp only
 rw[kG b.2.2.1 (fun u=>ofL (ũ (WK u))) (by simp; omega) (fun i g s hi a j d=>by
  unfold l9;dsimp only
  rw[Ð hi,Æ a,show ByteArray.mk #[117,115,101]=ofL [117,115,101] from rfl,rm (by simp) (by simp) (mo (h.uses g (List.mem_of_getElem? a))),À,É (by simp; omega),Am.iff_true,È hi (by omega)]; rfl) (fun s d=>by unfold l9; rw[Ý])]
 dsimp only
 rw[kG b.2.2.2.1 (fun u=>ofL (ũ (Jo u))) (by simp; omega) (fun i g s hi a j d=>by
  unfold l8;dsimp only
  rw[Ð hi,Æ a,show ByteArray.mk #[108,111,97,110]=ofL [108,111,97,110] from rfl,rm (by simp) (by simp) (h.loans g (List.mem_of_getElem? a)),À,É (by simp; omega),Am.iff_true,È hi (by omega)]; rfl) (fun s d=>by unfold l8; rw[Ý])]
 dsimp only
 rw[kG b.2.2.2.2.1 (fun u=>ofL (ũ (S9 u))) (by simp; omega) (fun i c s hi a j d=>by
  obtain⟨n,m,l,C,B⟩:=h.cmps c (List.mem_of_getElem? a);have A:=Ī (w:=[99,111,109,112,97,114,101]) n;have z:=Ī (w:=[32,97]) m;have a3:=Ī (w:=[32,98]) l;simp only[List.length_cons,List.length_nil] at A z a3;unfold l7;dsimp only
  rw[Ð hi,Æ a,show ByteArray.mk #[99,111,109,112,97,114,101]=ofL [99,111,109,112,97,114,101] from rfl,rm (by simp) (by simp) n,À,show ByteArray.mk #[32,97]=ofL [32,97] from rfl,rm (by simp) (by omega) m,À,Ò,Ò,É (by omega),Am.iff_true,
   show ByteArray.mk #[32,98]=ofL [32,98] from rfl,rm (by simp) (by omega) l,À,ć,Ò,Ò,É (by rw[List.length_append]; omega),Am.iff_true,ć,É (by simp; omega),Am.iff_true,È hi (by omega),JN]) (fun s d=>by unfold l7; rw[Ý])]
 dsimp only
 rw[kG b.2.2.2.2.2 (fun u=>ofL (ũ (Jn u))) (by simp; omega) (fun i g s hi a j d=>by
  unfold l6;dsimp only
  rw[Ð hi,Æ a,show ByteArray.mk #[108,111,111,107]=ofL [108,111,111,107] from rfl,rm (by simp) (by simp) (mo (h.looks g (List.mem_of_getElem? a))),À,É (by simp; omega),Am.iff_true,È hi (by omega)]; rfl) (fun s d=>by unfold l6; rw[Ý])]
 dsimp only
 have e:[ofL (Bx [102,105,108,109] (gZ [b.1.1,b.1.2]))]++b.2.1.map (fun g=>ofL (ũ (xI g)))++b.2.2.1.map (fun u=>ofL (ũ (WK u)))++b.2.2.2.1.map (fun u=>ofL (ũ (Jo u)))++b.2.2.2.2.1.map (fun u=>ofL (ũ (S9 u)))++b.2.2.2.2.2.map (fun u=>ofL (ũ (Jn u)))=((ű b).map ũ).map ofL:=by
  unfold ű;simp only[List.map_cons,List.map_append,List.map_map,List.append_assoc];rfl
 have q:Lib.join ((ű b).map ũ) [10]++[10]=gx b:=by
  have:=RY ((ű b).tail.map ũ) (ũ (Sk b.1));rw[show ũ (Sk b.1)::(ű b).tail.map ũ=(ű b).map ũ from rfl] at this;rw[this];unfold gx;rw[List.flatMap_map]
 have o:(gx b).length<=115*501:=by
  unfold gx;refine Nat.le_trans ?_ (Nat.mul_le_mul_right 501 h.count);have k:=h.len;generalize ű b=L at k
  induction L with
  |nil=>simp
  |cons p L r =>
   have y:=k p (by simp);have h2:=r fun x t=>k x (by simp[t]);rw[cj,bI,bI,bO];simp only[bO,bV] at *;omega
 have f:=congrArg List.length q;rw[bI] at f;simp only[bO,bV] at f;rw[e,show ByteArray.mk #[10]=ofL [10] from rfl,aab _ _ (by have:=h.count; simp; omega) (by omega),À,Ò,Ò,É (by simp only[bO,bV]; omega),Am.iff_true,ć,q]
def jk.part {b:ã} (h:Q0 b) {α:Type} (l:NO α) (F:α->BL×NO BL) (e:∀a∈l,F a∈ű b) (d:l.length<=40):(∀a∈l,(ũ (F a)++[10]).length<=1000)/\(l.flatMap fun a=>ũ (F a)++[10]).length<=40*1000:=by
 have c:∀a∈l,(ũ (F a)++[10]).length<=1000:=fun a ha=>by
  have:=h.len _ (e a ha); rw[bI]; simp only[bO,bV]; omega
 refine⟨c,bP ?_ (b5 1000 d)⟩;clear d e
 induction l with
 |nil=>simp
 |cons a l f =>
  have:=f fun x g=>c x (by simp[g]);have h0:=c a (by simp);rw[cj,bI,bO]; omega
def BO {w:BL} {a:NO Int} (d:w.length<=1000) (g:a.length<=100) (c:∀n∈a,I64 n) {s:BL} (f:s.length<=2000000000) {ρ:Type} (K:ByteArray->Nm ρ) :
 (Â (Ū (ofL w) a) fun r=>ä (Ü (ByteArray.size (ofL s)+ByteArray.size r)) (ä (Ü (ByteArray.size (ofL s++r)+ByteArray.size (ByteArray.mk #[10]))) (K ((ofL s++r)++(ByteArray.mk #[10])))))=K (ofL (s++(Bx w (gZ a)++[10]))):=by
 have e:=Ī (w:=w) c;rw[yq d (by omega) c,À,É (by rw[Ò,Ò]; omega),Am.iff_true,ć,show ByteArray.mk #[10]=ofL [10] from rfl,É (by rw[Ò,Ò,bI]; simp only[bO,bV]; omega),Am.iff_true,ć,bS]
def TA {b:ã} (h:Q0 b):ğ b=some (ofL (gx b)):=by
 have J:=h.nG; have h2:=h.nU; have I:=h.nL; have H:=h.nC; have G:=h.nK;obtain⟨q,E⟩:=h.part b.2.1 xI (fun a ha=>by unfold ű; simp only[List.mem_cons,List.mem_append]; exact .inr (.inl (List.mem_map.2 ⟨a,ha,rfl⟩))) (by omega);obtain⟨p,D⟩:=h.part b.2.2.1 WK (fun a ha=>by unfold ű; simp only[List.mem_cons,List.mem_append]; exact .inr (.inr (.inl (List.mem_map.2 ⟨a,ha,rfl⟩)))) (by omega);obtain⟨o,C⟩:=h.part b.2.2.2.1 Jo (fun a ha=>by unfold ű; simp only[List.mem_cons,List.mem_append]; exact .inr (.inr (.inr (.inl (List.mem_map.2 ⟨a,ha,rfl⟩))))) (by omega);obtain⟨m,B⟩:=h.part b.2.2.2.2.1 S9 (fun a ha=>by unfold ű; simp only[List.mem_cons,List.mem_append]; exact .inr (.inr (.inr (.inr (.inl (List.mem_map.2 ⟨a,ha,rfl⟩)))))) (by omega);obtain⟨l,z⟩:=h.part b.2.2.2.2.2 Jn (fun a ha=>by unfold ű; simp only[List.mem_cons,List.mem_append]; exact .inr (.inr (.inr (.inr (.inr (List.mem_map.2 ⟨a,ha,rfl⟩)))))) (by omega);have r:=Ī (w:=[102,105,108,109]) (mo h.film);simp only[List.length_cons,List.length_nil] at r;unfold ğ Hj;rw[show ByteArray.mk #[102,105,108,109]=ofL [102,105,108,109] from rfl,yq (by simp) (by simp) (mo h.film),À,show ByteArray.mk #[10]=ofL [10] from rfl,É (by rw[Ò,Ò]; simp only[List.length_cons,List.length_nil]; omega),Am.iff_true,ć];generalize k:Bx [102,105,108,109] (gZ [b.1.1,b.1.2])++[10]=A
 have F:A.length<=1000:=by rw[<-k,bI]; simp only[bO,bV]; omega
 rw[rk b.2.1 (fun g=>ũ (xI g)++[10]) (by omega) q (by omega) (fun i g s hi d f e=>by
  unfold jF;dsimp only;rw[Ð hi,Æ d]
  exact(BO (w:=[103,97,117,103,101]) (by simp) (by simp) (h.gauges g (List.mem_of_getElem? d)) f fun t=>ck ((i:Int)+1) fun n=>e (t,n)).trans (È hi (by omega) _)) (fun s e=>by unfold jF; rw[Ý])]
 dsimp only
 rw[rk b.2.2.1 (fun g=>ũ (WK g)++[10]) (by omega) p (by rw[bI]; omega) (fun i g s hi d f e=>by
  unfold jE;dsimp only;rw[Ð hi,Æ d,Æ d]
  exact(BO (w:=[117,115,101]) (by simp) (by simp) (mo (h.uses g (List.mem_of_getElem? d))) f fun t=>ck ((i:Int)+1) fun n=>e (t,n)).trans (È hi (by omega) _)) (fun s e=>by unfold jE; rw[Ý])]
 dsimp only
 rw[rk b.2.2.2.1 (fun g=>ũ (Jo g)++[10]) (by omega) o (by rw[bI,bI]; omega) (fun i g s hi d f e=>by
  unfold jD;dsimp only;rw[Ð hi,Æ d]
  exact(BO (w:=[108,111,97,110]) (by simp) (by simp) (h.loans g (List.mem_of_getElem? d)) f fun t=>ck ((i:Int)+1) fun n=>e (t,n)).trans (È hi (by omega) _)) (fun s e=>by unfold jD; rw[Ý])]
 dsimp only
 rw[rk b.2.2.2.2.1 (fun g=>ũ (S9 g)++[10]) (by omega) m (by rw[bI,bI,bI]; omega) (fun i c s hi d f e=>by
  obtain⟨r1,r2,j,y,x⟩:=h.cmps c (List.mem_of_getElem? d);have v:=Ī (w:=[99,111,109,112,97,114,101]) r1;have u:=Ī (w:=[32,97]) r2;have a3:=Ī (w:=[32,98]) j;simp only[List.length_cons,List.length_nil] at v u a3;unfold jC;dsimp only
  rw[Ð hi,Æ d,show ByteArray.mk #[99,111,109,112,97,114,101]=ofL [99,111,109,112,97,114,101] from rfl,yq (by simp) (by simp) r1,À,É (by rw[Ò,Ò]; omega),Am.iff_true,show ByteArray.mk #[32,97]=ofL [32,97] from rfl,yq (by simp) (by omega) r2,À,ć,É (by rw[Ò,Ò,bI]; omega),Am.iff_true,
   show ByteArray.mk #[32,98]=ofL [32,98] from rfl,yq (by simp) (by omega) j,À,ć,É (by rw[Ò,Ò,bI,bI]; omega),Am.iff_true,ć,show ByteArray.mk #[10]=ofL [10] from rfl,É (by rw[Ò,Ò,bI,bI,bI]; simp only[bO,bV]; omega),Am.iff_true,ć,È hi (by omega),JN]
  simp only[List.append_assoc]) (fun s e=>by unfold jC; rw[Ý])]
 dsimp only
 rw[rk b.2.2.2.2.2 (fun g=>ũ (Jn g)++[10]) (by omega) l (by rw[bI,bI,bI,bI]; omega) (fun i g s hi d f e=>by
  unfold jB;dsimp only;rw[Ð hi,Æ d,Æ d]
  exact(BO (w:=[108,111,111,107]) (by simp) (by simp) (mo (h.looks g (List.mem_of_getElem? d))) f fun t=>ck ((i:Int)+1) fun n=>e (t,n)).trans (È hi (by omega) _)) (fun s e=>by unfold jB; rw[Ý])]
 dsimp only;congr 2;unfold gx ű;rw[<-k];simp only[List.flatMap_cons,List.flatMap_append,List.flatMap_map,List.append_assoc];rfl
def N4 {ws:NO BL} {i:Nat} {a:ByteArray} (h:(ws.map ofL)[i]?=some a):∃w,ws[i]?=some w/\a=ofL w:=by
 rw[dk] at h
 cases c:ws[i]? with
 |none=>rw[c] at h; cases h
 |some w=>rw[c] at h; cases h; exact⟨w,rfl,rfl⟩
def yN (ws:NO BL) (g:ws.length<=1000000) (f:∀w∈ws,w.length<=1000000):Ĩ (ws.map ofL)=some (ws.map vI):=by
 unfold Ĩ vy;rw[kG (ws.map ofL) (fun s=>vI (toL s)) (out:=[]) (K:=some) (by simpa using g) (fun i a s hi ha h d=>?_) (fun s d=>by unfold iD; rw[Ý])]
 ·rw[cS,List.map_map]; rfl
 ·obtain⟨w,c,rfl⟩:=N4 ha;have e:=f w (List.mem_of_getElem? c);rw[List.length_map] at hi;unfold iD;dsimp only;rw[Ð (by simpa using hi),Æ ha];unfold V2;rw[show decide ((ofL w).size<=281474976710656)=true by rw[Ò]; exact decide_eq_true (by omega)];simp only[À];unfold vI
  cases Lib.atoiAll w with
  |ok v=>simp only[ð]; rw[É (by simp; omega),Am.iff_true,Õ (by omega) (by omega)]
  |range=>simp only[gQ]; rw[É (by simp; omega),Am.iff_true,Õ (by omega) (by omega)]
  | _ => simp only [gQ]; rw [É (by simp; omega), Am.iff_true, Õ (by omega) (by omega)]
def Eo {α ρ:Type} (a:α) (l:NO α) (f:α->Nm ρ):è (a::l) 0 f=f a:=rfl
def tE (ws:NO BL):NO Int×NO Int :=
 match ws with
 |[]=>([],[])
 |w::_=>if w=[97] then match ws.findIdx? (fun v=>decide (v=[98])) with
  |some j=>(((ws.drop 1).take (j-1)).map vI,(ws.drop (j+1)).map vI)
  |none=>([],[]) else([],[])
def W9 (ws:NO BL) (q:ws.length<=1000000) (y:∀w∈ws,w.length<=1000000):xV (ws.map ofL)=some (tE ws):=by
 unfold xV L9 tE
 cases ws with
 |nil=>rw[Û (by simp[ieq,á])]
 |cons w r =>
 dsimp only;rw[Ñ (by simp[ieq,á]; omega)];rw[show((w::r).map ofL)=ofL w::r.map ofL from rfl,Eo,show ByteArray.mk #[97]=ofL [97] from rfl,gX]
 by_cases h:w=[97]
 case neg=>rw[if_neg h,Û (by simp[h])]
 rw[if_pos h,Ñ (by simp[h])];have k:=Γ (ρ:=NO Int×NO Int) (ofL w::r.map ofL) (fun s=>decide (toL s=[98])) (fun j=>some (((((w::r).drop 1).take (j.toNat-1)).map vI,((w::r).drop (j.toNat+1)).map vI))) (some ([],[])) (f:=fun t c=>iL (ofL w::r.map ofL) (ofL w::r.map ofL) (ß (ofL w::r.map ofL)) t (fun g=>c g) (fun n=>some (n.1,n.2)) (fun _=>some ([],[]))) (fun i a hi ha u=>?_) (fun u=>?_)
 ·rw[k]
  have e:(ofL w::r.map ofL).findIdx? (fun s=>decide (toL s=[98]))=(w::r).findIdx? (fun v=>decide (v=[98])):=by
   rw[show ofL w::r.map ofL=(w::r).map ofL from rfl,List.findIdx?_map]; rfl
  rw[e]
  cases(w::r).findIdx? (fun v=>decide (v=[98]))<;>simp
 ·obtain⟨v,o,rfl⟩:=N4 (ws:=w::r) ha;unfold iL;dsimp only
  have l:(ofL w::r.map ofL).length=(w::r).length:=by simp
  rw[Ð hi,Æ ha,show ByteArray.mk #[98]=ofL [98] from rfl,gX,û]
  by_cases hb:v=[98]
  ·have A:i≠0:=fun e=>by subst e; simp only[dg,Option.some.injEq] at o; rw[<-o,h] at hb; cases hb
   rw[l] at hi;have p:∀(m:NO BL),m ⊆ w::r->∀x∈m,x.length<=1000000:=fun m z x d=>y x (z d)
   rw[if_pos (by simp[hb]),if_pos (by simp[hb]),show(ile (1:Int) (i:Int)&&ile (i:Int) (Ć (ofL w::r.map ofL)))=true by simp[ile,Ć] at hi ⊢; omega,Am.iff_true,show((i:Int)-1).toNat=i-1 by omega,
    show(ofL w::r.map ofL).drop 1=((w::r).drop 1).map ofL by simp,<-List.map_take,yN _ (by simp at q hi ⊢; omega) (p _ fun x d=>eQ (eN d)),À,Õ (by omega) (by omega),show(ile (0:Int) ((i:Int)+1)&&ile ((i:Int)+1) (Ć (ofL w::r.map ofL)))=true by simp[ile,Ć] at hi ⊢; omega,Am.iff_true,show((i:Int)+1).toNat=i+1 by omega,
    show ofL w::r.map ofL=(w::r).map ofL from rfl,<-List.map_drop,yN _ (by simp at q hi ⊢; omega) (p _ fun x d=>eQ d),À,bU]
  ·rw[if_neg (by simp[hb]),if_neg (by simp[hb]),Õ (by omega) (by omega)]
 ·unfold iL;rw[Ý]
def Ax (n:Int) (b:UInt8):Int:=if 48<=b.toNat/\b.toNat<=57 then 10*n+((b.toNat:Int)-48) else n
def Lj (w:BL):Int:=if w.head?=some 45 then 0-(w.take 18).foldl Ax 0 else(w.take 18).foldl Ax 0
def Tn {k m:Nat} (h:k<=m):(10:Int) ^ k<=10 ^ m:=by exact_mod_cast Nat.pow_le_pow_right (n:=10) (by omega) h
def JI (l:BL):∀(n:Int) (k:Nat),0<=n->n<10 ^ k->0<=l.foldl Ax n/\l.foldl Ax n<10 ^ (k+l.length):=by
 induction l with
 |nil=>intro n k h0 a; exact⟨h0,a⟩
 |cons b l c =>
  intro n k h0 a
  have d:(10:Int) ^ (k+1)=10*10 ^ k:=by rw[Int.pow_succ]; omega
  have:=c (Ax n b) (k+1) (by unfold Ax; split<;>omega) (by unfold Ax; split<;>omega)
  rw[cM,bO,show k+(l.length+1)=k+1+l.length by omega];exact this
def BM {ρ:Type} {l:BL} {i:Nat} {b:UInt8} (h:l[i]?=some b) (K:Int->Nm ρ):Po (ofL l) (i:Int) K=K ((b.toNat:Nat):Int):=by
 unfold Po;obtain⟨hi,hb⟩:=List.getElem?_eq_some_iff.1 h
 have:(ofL l)[i]?=some b:=by
  have a:i<(ofL l).size:=by rw[Ò]; exact hi
  rw[getElem?_pos (ofL l) i a,<-hb];rfl
 simp[this]
def Tt {ρ:Type} (b:UInt8) (r:BL) (K:Int->Nm ρ):Po (ofL (b::r)) 0 K=K ((b.toNat:Nat):Int):=BM (i:=0) rfl K
def CI (w:BL) (t:w.length<=1000000):f7 (ofL w)=some (Lj w):=by
 unfold f7 CW
 have c:∀i,0<=(w.take i).foldl Ax 0/\(i<=18->(w.take i).foldl Ax 0<1000000000000000000):=fun i=>by
  have:=JI (w.take i) 0 0 (by omega) (by decide);refine⟨this.1,fun hi=>Int.lt_of_lt_of_le this.2 ?_⟩
  have a:(w.take i).length<=18:=by simp; omega
  have:(10:Int) ^ (0+(w.take i).length)<=10 ^ 18:=Tn (by omega);exact this
 refine ė (fun x=>∃i:Nat,x=((w.take i).foldl Ax 0,(i:Int))/\i<=w.length/\i<=18) (fun x=>w.length-x.2.toNat) ?_ ⟨0,by simp,Nat.zero_le _,by omega⟩;rintro x ⟨i,rfl,hi,d⟩;unfold mz;dsimp only;obtain⟨n,h⟩:=c i;have h:=h d
 have fin:w.take 18=w.take i->∀j:Nm Int,(ifb (igt (Fq (ofL w).size) (0:Int)) (Po (ofL w) (0:Int) fun k=>ifb (ieq k (45:Int)) (ck ((0:Int)-(w.take i).foldl Ax 0) fun g=>some g) (some ((w.take i).foldl Ax 0))) (some ((w.take i).foldl Ax 0)))=some (Lj w):=fun e _=>by
  unfold Lj;rw[e,Ò,ku]
  cases w with
  |nil=>rw[Ñ (by simp[igt])]; rfl
  |cons b r =>
   rw[Û (by simp[igt]),Tt]
   by_cases hb:b=45
   ·subst hb;rw[Û (by rfl),Õ (by omega) (by omega)]; rfl
   ·rw[Ñ (by
     have:((b.toNat:Nat):Int)≠45:=fun e=>hb (UInt8.toNat_inj.1 (by show b.toNat=45; omega))
     simpa[ieq] using this)]
    simp[hb]
 by_cases a:i<w.length
 ·by_cases o:i<18
  ·have f:w[i]?=some w[i]:=bG a
   have l:(w.take (i+1)).foldl Ax 0=Ax ((w.take i).foldl Ax 0) w[i]:=by rw[take_succ f,fm]; rfl
   refine .inr ⟨((w.take (i+1)).foldl Ax 0,((i+1:Nat):Int)),⟨i+1,rfl,a,o⟩,by simp; omega,fun j=>?_⟩;rw[Ò,Mx a,Û (by simp[ilt]; omega),BM f,l]
   have m:(w.take i).foldl Ax 0<100000000000000000:=by
    have:=(JI (w.take i) 0 0 (by omega) (by decide)).2
    have a:(w.take i).length<=17:=by simp; omega
    exact Int.lt_of_lt_of_le this (Tn (by omega):(10:Int) ^ (0+(w.take i).length)<=10 ^ 17)
   clear fin c l h;generalize (w.take i).foldl Ax 0=X at n m
   by_cases s:48<=w[i].toNat
   ·rw[Û (by simp[ige]; omega),BM f]
    by_cases q:w[i].toNat<=57
    ·have p:IntKind.wrap .i64 (IntKind.wrap .u8 ((w[i].toNat:Int)-48))=(w[i].toNat:Int)-48:=by
      simp only[IntKind.wrap,IntKind.bits,IntKind.signed];simp;omega
     rw[Û (by simp[ile]; omega),Õ (by omega) (by omega),BM f,p,Õ (by omega) (by omega),Õ (by omega) (by omega),show Ax X w[i]=_ from if_pos ⟨s,q⟩];simp
    ·rw[Ñ (by simp[ile]; omega),Õ (by omega) (by omega),show Ax X w[i]=_ from if_neg (by omega)];simp
   ·rw[Ñ (by simp[ige]; omega),Õ (by omega) (by omega),show Ax X w[i]=_ from if_neg (by omega)];simp
  ·refine .inl fun j=>?_
   obtain rfl:i=18:=by omega
   rw[Ò,Mx a,Ñ (by simp[ilt])];have:=fin rfl none
   rwa [Ò] at this
 ·refine .inl fun j=>?_
  obtain rfl:i=w.length:=by omega
  rw[Ò,Ý];have:=fin (by rw[eR,cA d]) none
  rwa [Ò] at this
def Xg (w:BL):I64 (Lj w):=by
 have:=JI (w.take 18) 0 0 (by omega) (by decide)
 have a:(w.take 18).length<=18:=by simp; omega
 have h2:(10:Int) ^ (0+(w.take 18).length)<=10 ^ 18:=Tn (by omega)
 have c:(10:Int) ^ 18=1000000000000000000:=by decide
 unfold Lj
 split<;>exact⟨by omega,by omega⟩
def Vf (u:Nat):∀(n:Int),(Lib.decDigits u).foldl Ax 0=u:=by
 induction u using Nat.strongRecOn with
 |ind u ih =>
  intro n
  have one:∀d:Nat,d<10->(UInt8.ofNat (48+d)).toNat=48+d:=fun d hd=>by rw[UInt8.toNat_ofNat']; omega
  rw[Lib.decDigits]
  split
  ·simp only[cM,List.foldl_nil,Ax];rw[one u (by omega),if_pos (by omega)]; omega
  ·rw[fm,ih (u / 10) (by omega) 0];simp only[cM,List.foldl_nil,Ax];rw[one (u % 10) (by omega),if_pos (by omega)]; omega
def Li {n:Int} (h:n.natAbs<10 ^ 17):Lj (Lib.itoa n)=n:=by
 have d:=Ql (k:=16) h;unfold Lj;rw[List.take_of_length_le d];unfold Lib.itoa at d ⊢
 split
 ·rw[cM,show Ax 0 45=0 from rfl,Vf _ 0];simp; omega
 ·have hd:=yb n.toNat
  cases a:Lib.decDigits n.toNat with
  |nil=>exact absurd a (Vg _)
  |cons c r =>
   have:=hd c (by rw[a]; simp);rw[if_neg (by simp; intro e; rw[e] at this; have:=this.1; simp at this),<-a,Vf _ 0]; omega
def O1 (ws:NO BL) (f:ws.length<=1000000) (e:∀w∈ws,w.length<=1000000):mg (ws.map ofL) 8=some (ws.map Lj++List.replicate (8-ws.length) 0):=by
 unfold mg Ac
 rw[kG (ws.map ofL) (fun s=>Lj (toL s)) (out:=[]) (by simpa using f) (fun i a s hi ha g c=>by
  obtain⟨w,d,rfl⟩:=N4 ha;unfold gJ;dsimp only
  rw[Ð hi,Æ ha,CI w (e w (List.mem_of_getElem? d)),À,É (by simp; omega),Am.iff_true,Õ (by omega) (by simp at hi; omega)]) (fun s c=>by unfold gJ; rw[Ý])]
 dsimp only;rw[List.nil_append,List.map_map,show(fun s=>Lj (toL s)) ∘ ofL=Lj from rfl];refine ė (fun x=>∃k:Nat,x=ws.map Lj++List.replicate k 0/\k<=8-ws.length) (fun x=>8-x.length) ?_ ⟨0,by simp,Nat.zero_le _⟩;rintro x ⟨k,rfl,j⟩;unfold ky;rw[á]
 by_cases h:k<8-ws.length
 ·refine .inr ⟨_,⟨k+1,rfl,h⟩,by simp; omega,fun c=>?_⟩;rw[Û (by simp[ilt]; omega),É (by simp; omega),Am.iff_true];congr 1;rw[bS,<-List.replicate_succ']
 ·refine .inl fun c=>?_
  obtain rfl:k=8-ws.length:=by omega
  rw[Ñ (by simp[ilt]; omega)]
def pG (s:Bool×NO Int×NO Int) (w:BL):Bool×NO Int×NO Int:=if w=[98] then(true,s.2.1,s.2.2) else if w=[97] then s else if s.1 then(s.1,s.2.1,s.2.2++[Lj w]) else(s.1,s.2.1++[Lj w],s.2.2)
def Ct (ws:NO BL):NO Int×NO Int:=(ws.foldl pG (false,[],[])).2
def KO (ws:NO BL):∀s,(ws.foldl pG s).2.1.length<=s.2.1.length+ws.length/\(ws.foldl pG s).2.2.length<=s.2.2.length+ws.length:=by
 induction ws with
 |nil=>intro s; simp
 |cons w ws a =>
  intro s;have h:=a (pG s w)
  have c:(pG s w).2.1.length<=s.2.1.length+1/\(pG s w).2.2.length<=s.2.2.length+1:=by
   unfold pG; (repeat' split)<;>simp
  rw[cM,bO]; omega
def Wf (ws:NO BL) (n:ws.length<=1000000) (k:∀w∈ws,w.length<=1000000):sr (ws.map ofL)=some (Ct ws):=by
 unfold sr Hb Ct;refine ė (fun x=>∃(i:Nat),x=(((ws.take i).foldl pG (false,[],[])).1,(i:Int),((ws.take i).foldl pG (false,[],[])).2)/\i<=ws.length) (fun x=>ws.length-x.2.1.toNat) ?_ ⟨0,rfl,Nat.zero_le _⟩;rintro x ⟨i,rfl,hi⟩;unfold ol;dsimp only
 by_cases h:i<ws.length
 ·have f:ws[i]?=some ws[i]:=bG h
  have ha:(ws.map ofL)[i]?=some (ofL ws[i]):=by rw[dk,f]; rfl
  have d:=k _ (List.getElem_mem h);have e:=KO (ws.take i) (false,[],[]);rw[List.length_take] at e;simp only[List.length_nil] at e;refine .inr ⟨(((ws.take (i+1)).foldl pG (false,[],[])).1,((i+1:Nat):Int),((ws.take (i+1)).foldl pG (false,[],[])).2),⟨i+1,rfl,h⟩,by simp; omega,fun j=>?_⟩;rw[take_succ f,List.foldl_append,List.foldl_cons,List.foldl_nil];generalize (ws.take i).foldl pG (false,[],[])=s at e;obtain⟨g,m,l⟩:=s;dsimp only at e ⊢;have c:∀K:Int->Nm (NO Int×NO Int),ck ((i:Int)+1) K=K ((i:Int)+1):=fun K=>Õ (by omega) (by omega) K;rw[Ð (by simpa using h),Æ ha,show ByteArray.mk #[98]=ofL [98] from rfl,show ByteArray.mk #[97]=ofL [97] from rfl,gX];unfold pG
  by_cases hb:ws[i]=[98]
  ·rw[Û (by simp[hb]),if_pos hb,c]; simp
  rw[Ñ (by simp[hb]),if_neg hb,Æ ha,gX]
  by_cases a:ws[i]=[97]
  ·rw[Ñ (by simp[a]),if_pos a,Æ ha,gX,Ñ (by simp[a]),c]; simp
  rw[Û (by simp[a]),if_neg a]
  cases g with
  |true=>rw[gQ,Æ ha,CI _ d,À,É (by simp; omega),Am.iff_true,c]; simp
  |false=>rw[ð,Æ ha,gX,Û (by simp[a]),Æ ha,CI _ d,À,É (by simp; omega),Am.iff_true,c]; simp
 ·refine .inl fun j=>?_
  obtain rfl:i=ws.length:=by omega
  rw[Ñ (by simp[ilt,á]),eR]
def Ŷ:ã:=((0,0),[],[],[],[],[])
def readW (n:Nat->Int) (ps:NO Int×NO Int) (b:ã) (w:BL):ã :=
 if w=[102,105,108,109] then((n 0,n 1),b.2)
 else if w=[103,97,117,103,101] then(b.1,b.2.1++[(n 0,n 1,n 2,(n 3,n 4),(n 5,n 6),n 7)],b.2.2)
 else if w=[117,115,101] then(b.1,b.2.1,b.2.2.1++[(n 0,n 1)],b.2.2.2)
 else if w=[108,111,97,110] then(b.1,b.2.1,b.2.2.1,b.2.2.2.1++[(n 0,(n 1,n 2),n 3)],b.2.2.2.2)
 else if w=[99,111,109,112,97,114,101] then(b.1,b.2.1,b.2.2.1,b.2.2.2.1,b.2.2.2.2.1++[(n 0,n 1,ps.1,ps.2,n 2,n 3,n 4,n 5)],b.2.2.2.2.2)
 else if w=[108,111,111,107] then(b.1,b.2.1,b.2.2.1,b.2.2.2.1,b.2.2.2.2.1,b.2.2.2.2.2++[(n 0,n 1)])
 else b
def Xk (w:BL):Nm Nat :=
 if w=[102,105,108,109] then some 2 else if w=[103,97,117,103,101] then some 8 else if w=[117,115,101] then some 2
 else if w=[108,111,97,110] then some 4 else if w=[99,111,109,112,97,114,101] then some 6 else if w=[108,111,111,107] then some 2 else none
def nC (r:NO BL) (i:Nat):Int:=vI (r.getD i [])
def nR (r:NO BL) (i:Nat):Int:=(r.map Lj).getD i 0
def pF (b:ã) (l:BL):Nm ã :=
 match Gg 32 (Lib.trimSuffix l [10]) with
 |[]=>none
 |w::r=>match Xk w with
  |none=>none
  |some k=>if r.length<k then none else some (readW (nC r) (tE (r.drop 6)) b w)
def mP (b:ã) (l:BL):ã :=
 match Gg 32 l with
 |[]=>b
 |w::r=>readW (nR r) (Ct (r.drop 6)) b w
section
variable {ρ:Type}
def Rn (w:BL) (r:NO BL) {c:Int} {n:Nat} (g:c=n) (i:r.length<=100000) (d:∀v∈r,v.length<=100000) (A:Nm ρ) (K:NO Int->Nm ρ) :
 (ä (ile (1:Int) (Ć ((w::r).map ofL))) (ifb (ilt (ß (List.drop 1 ((w::r).map ofL))) c) A (ä ((ile (0:Int) c)&&(ile c (Ć (List.drop 1 ((w::r).map ofL))))) (Â (Ĩ (List.take (Int.toNat c) (List.drop 1 ((w::r).map ofL)))) fun a=>ä ((ile (0:Int) c)&&(ile c (Ć (List.drop 1 ((w::r).map ofL))))) (K a)))))=if r.length<n then A else K ((r.take n).map vI):=by
 subst g;rw[show ile (1:Int) (Ć ((w::r).map ofL))=true by simp[ile,Ć]; omega,Am.iff_true,show List.drop 1 ((w::r).map ofL)=r.map ofL from rfl,û]
 by_cases h:r.length<n
 ·rw[if_pos (by simpa[ilt,á] using h),if_pos h]
 ·have e:(ile (0:Int) (n:Int)&&ile (n:Int) (Ć (r.map ofL)))=true:=by simp[ile,Ć]; omega
  rw[if_neg (by simpa[ilt,á] using h),if_neg h,e,Am.iff_true,bU,<-List.map_take,yN _ (by simp; omega) (fun v f=>by have:=d v (eN f); omega),À,Am.iff_true]
def jQ {r:NO BL} {n:Nat} {c:Int} (i:Nat) (a:c=i) (hi:i<n) (d:n<=r.length) (f:Int->Nm ρ):è ((r.take n).map vI) c f=f (nC r i):=by
 subst a;refine Æ ?_ f;rw[dk,fh hi,bG (by omega)];simp[nC,show i<r.length by omega]
end
abbrev StC:Type:=Int×Int×NO æ×NO (Int×Int)×NO AD×NO Cmp×NO (Int×Int)×Int×Int×Int×NO æ×NO (Int×Int)×NO AD×NO Cmp×NO (Int×Int)
abbrev EndC:Type:=Int×Int×NO æ×NO (Int×Int)×NO AD×NO Cmp×NO (Int×Int)×Int
def stC (b:ã):StC:=(0,0,[],[],[],[],[],0,b.1.1,b.1.2,b.2.1,b.2.2.1,b.2.2.2.1,b.2.2.2.2.1,b.2.2.2.2.2)
def endC:EndC:=(0,0,[],[],[],[],[],7)
structure WH (b:ã) (n:Nat):Prop where
 g:b.2.1.length<=n
 u:b.2.2.1.length<=n
 l:b.2.2.2.1.length<=n
 c:b.2.2.2.2.1.length<=n
 k:b.2.2.2.2.2.length<=n
def B9 {l:BL} (d:l.length<=100000):∃w r,Gg 32 l=w::r/\r.length<=100000/\(∀v∈r,v.length<=100000):=by
 obtain⟨w,r,h⟩:=JM 32 l [];have a:=Ca 32 l [];rw[h] at a;refine⟨w,r,h,by simp at a; omega,fun v c=>?_⟩;have:=yh 32 l [] v (by rw[h]; exact eS _ c);simp at this; omega
def st_ok {b:ã} {l:BL} (C:l.length<=100000) (hb:WH b 1000000):Ķ 2 8 2 4 6 2 (stC b) (ofL l)=some (match pF b l with|some A=>Sum.inl (stC A)|none=>Sum.inr endC):=by
 obtain⟨G,h2,F,E,D⟩:=hb;unfold Ķ iU pF;rw[show ByteArray.mk #[10]=ofL [10] from rfl,Z0 l [10] (by omega),À];have m:=Pg l [10];generalize Lib.trimSuffix l [10]=t at m;rw[show ByteArray.mk #[32]=ofL [32] from rfl,Yg t 32 (by omega),À];obtain⟨w,r,p,B,o⟩:=B9 (l:=t) (by omega);rw[p];dsimp only;rw[show List.map ofL (w::r)=ofL w::r.map ofL from rfl,Eo];have z:=rV w [102,105,108,109];have y:=rV w [103,97,117,103,101];have x:=rV w [117,115,101];have u:=rV w [108,111,97,110];have s:=rV w [99,111,109,112,97,114,101];have q:=rV w [108,111,111,107]
 rw[show ByteArray.mk #[102,105,108,109]=ofL [102,105,108,109] from rfl,show ByteArray.mk #[103,97,117,103,101]=ofL [103,97,117,103,101] from rfl,show ByteArray.mk #[117,115,101]=ofL [117,115,101] from rfl,show ByteArray.mk #[108,111,97,110]=ofL [108,111,97,110] from rfl,show ByteArray.mk #[99,111,109,112,97,114,101]=ofL [99,111,109,112,97,114,101] from rfl,show ByteArray.mk #[108,111,111,107]=ofL [108,111,111,107] from rfl,
  z,y,x,u,s,q]
 have d:∀v∈r,v.length<=100000:=fun v k=>by have:=o v k; omega
 unfold Xk readW
 by_cases i:w=[102,105,108,109]
 ·rw[Û (decide_eq_true i),if_pos i,if_pos i];refine(Rn w r (c:=2) (n:=2) rfl (by omega) d _ _).trans ?_;dsimp only
  by_cases a:r.length<2
  ·rw[if_pos a,if_pos a]; rfl
  ·rw[if_neg a,if_neg a,jQ 0 (c:=0) rfl (by omega) (by omega),jQ 1 (c:=1) rfl (by omega) (by omega)]; rfl
 rw[Ñ (decide_eq_false i),if_neg i,if_neg i]
 by_cases h:w=[103,97,117,103,101]
 ·rw[Û (decide_eq_true h),if_pos h,if_pos h];refine(Rn w r (c:=8) (n:=8) rfl (by omega) d _ _).trans ?_;dsimp only
  by_cases a:r.length<8
  ·rw[if_pos a,if_pos a]; rfl
  ·rw[if_neg a,if_neg a,jQ 0 (c:=0) rfl (by omega) (by omega),jQ 1 (c:=1) rfl (by omega) (by omega),jQ 2 (c:=2) rfl (by omega) (by omega),jQ 3 (c:=3) rfl (by omega) (by omega),jQ 4 (c:=4) rfl (by omega) (by omega),jQ 5 (c:=5) rfl (by omega) (by omega),jQ 6 (c:=6) rfl (by omega) (by omega),jQ 7 (c:=7) rfl (by omega) (by omega),É (by show b.2.1.length+1<=_; omega),Am.iff_true]; rfl
 rw[Ñ (decide_eq_false h),if_neg h,if_neg h]
 by_cases g:w=[117,115,101]
 ·rw[Û (decide_eq_true g),if_pos g,if_pos g];refine(Rn w r (c:=2) (n:=2) rfl (by omega) d _ _).trans ?_;dsimp only
  by_cases a:r.length<2
  ·rw[if_pos a,if_pos a]; rfl
  ·rw[if_neg a,if_neg a,jQ 0 (c:=0) rfl (by omega) (by omega),jQ 1 (c:=1) rfl (by omega) (by omega),É (by show b.2.2.1.length+1<=_; omega),Am.iff_true]; rfl
 rw[Ñ (decide_eq_false g),if_neg g,if_neg g]
 by_cases f:w=[108,111,97,110]
 ·rw[Û (decide_eq_true f),if_pos f,if_pos f];refine(Rn w r (c:=4) (n:=4) rfl (by omega) d _ _).trans ?_;dsimp only
  by_cases a:r.length<4
  ·rw[if_pos a,if_pos a]; rfl
  ·rw[if_neg a,if_neg a,jQ 0 (c:=0) rfl (by omega) (by omega),jQ 1 (c:=1) rfl (by omega) (by omega),jQ 2 (c:=2) rfl (by omega) (by omega),jQ 3 (c:=3) rfl (by omega) (by omega),É (by show b.2.2.2.1.length+1<=_; omega),Am.iff_true]; rfl
 rw[Ñ (decide_eq_false f),if_neg f,if_neg f]
 by_cases e:w=[99,111,109,112,97,114,101]
 ·rw[Û (decide_eq_true e),if_pos e,if_pos e];refine(Rn w r (c:=6) (n:=6) rfl (by omega) d _ _).trans ?_;dsimp only
  by_cases a:r.length<6
  ·rw[if_pos a,if_pos a]; rfl
  ·rw[if_neg a,if_neg a,jQ 0 (c:=0) rfl (by omega) (by omega),jQ 1 (c:=1) rfl (by omega) (by omega),jQ 2 (c:=2) rfl (by omega) (by omega),jQ 3 (c:=3) rfl (by omega) (by omega),jQ 4 (c:=4) rfl (by omega) (by omega),jQ 5 (c:=5) rfl (by omega) (by omega)];rw[show List.drop (Int.toNat 6) (List.drop 1 (ofL w::r.map ofL))=(r.drop 6).map ofL by rw[List.map_drop]; rfl,W9 _ (by simp; omega) (fun v k=>by have:=o v (eQ k); omega),À,É (by show b.2.2.2.2.1.length+1<=_; omega),Am.iff_true]; rfl
 rw[Ñ (decide_eq_false e),if_neg e,if_neg e]
 by_cases j:w=[108,111,111,107]
 ·rw[Û (decide_eq_true j),if_pos j,if_pos j];refine(Rn w r (c:=2) (n:=2) rfl (by omega) d _ _).trans ?_;dsimp only
  by_cases a:r.length<2
  ·rw[if_pos a,if_pos a]; rfl
  ·rw[if_neg a,if_neg a,jQ 0 (c:=0) rfl (by omega) (by omega),jQ 1 (c:=1) rfl (by omega) (by omega),É (by show b.2.2.2.2.2.length+1<=_; omega),Am.iff_true]; rfl
 rw[Ñ (decide_eq_false j),if_neg j];rfl
def KI {n:Nat->Int} {ps:NO Int×NO Int} {b:ã} {w:BL} {k:Nat} (h:WH b k):WH (readW n ps b w) (k+1):=by
 obtain⟨e,h2,d,c,a⟩:=h;unfold readW
 (repeat' split)<;>constructor<;>(try simp only[bI,bO,bV])<;>omega
def TH {b a:ã} {l:BL} {k:Nat} (h:WH b k) (e:pF b l=some a):WH a (k+1):=by
 unfold pF at e
 (repeat' split at e)<;>first|(cases e; done)|(cases e; exact KI h)
def Tz {ρ:Type} {f:StC->Nm ρ} {e:EndC->Nm ρ}:∀(a:NO BL) (b:ã) (k:Nat),WH b k->k+a.length<=1000000->(∀l∈a,l.length<=100000) ->
 WE (Ķ 2 8 2 4 6 2) (a.map ofL) (stC b) f e=match a.foldlM pF b with|some d=>f (stC d)|none=>e endC
 |[],b,k,_,_,_=>rfl
 |l::a,b,k,hb,m,h=>by
  simp only[bO] at m;rw[cE,WE,st_ok (h l (by simp)) ⟨by have:=hb.g; omega,by have:=hb.u; omega,by have:=hb.l; omega,by have:=hb.c; omega,by have:=hb.k; omega⟩,À,eM]
  cases j:pF b l with
  |none=>rfl
  |some d=>exact Tz a d (k+1) (TH hb j) (by omega) fun x i=>h x (by simp[i])
def nB (t:BL):NO BL:=(uK (ofL t)).map toL
def Yp {t:BL} (i:t.length<=60000):rC (ofL t)=match (nB t).foldlM pF Ŷ with
 |none=>some (Ŷ,7)
 |some b=>Â (gU b) fun r=>if r.2≠0\/r.1≠ofL t then some (Ŷ,7) else some (b,0):=by
 obtain⟨g,h2⟩:=zb (ofL t).size (ofL t);unfold rC Ec;rw[É (by rw[Ò]; omega),show(true&&true)=true from rfl,Am.iff_true]
 have c:uK (ofL t)=(nB t).map ofL:=by
  unfold nB; rw[List.map_map]; exact(List.map_id _).symm.trans (List.map_congr_left fun s _=>(mr s).symm)
 rw[c];have hb:((0:Int),(0:Int),([]:NO æ),([]:NO (Int×Int)),([]:NO AD),([]:NO Cmp),([]:NO (Int×Int)),(0:Int),(0:Int),(0:Int),([]:NO æ),([]:NO (Int×Int)),([]:NO AD),([]:NO Cmp),([]:NO (Int×Int)))=stC Ŷ:=rfl;refine(Tz (nB t) Ŷ 0 ⟨Nat.le_refl _,Nat.le_refl _,Nat.le_refl _,Nat.le_refl _,Nat.le_refl _⟩ (by unfold nB uK; rw[Ò] at g ⊢; simp; omega) (fun l c=>?_)).trans ?_
 ·unfold nB uK at c;obtain⟨y,f,rfl⟩:=List.mem_map.1 c;have:=h2 y f;rw[<-vR];exact Nat.le_trans this (by rw[Ò]; omega)
 ·cases(nB t).foldlM pF Ŷ with
  |none=>rfl
  |some b =>
   dsimp only[stC]
   cases j:gU b with
   |none=>rfl
   |some r =>
    obtain⟨s,e⟩:=r;rw[À,À];dsimp only;rw[û,û]
    by_cases d:e=0
    ·rw[if_neg (by simp[ine,d]),<-mr s,gX]
     by_cases a:toL s=t
     ·rw[if_neg (by simp[a]),if_neg (by simp[d,a])]
     ·rw[if_pos (by simp[a]),if_pos (.inr fun h=>a (IQ h))]; rfl
    ·rw[if_pos (by simp[ine,d]),if_pos (.inl d)]; rfl
def jv {ρ:Type} {r:NO BL} {c:Int} (i:Nat) (a:c=i) (hi:i<8) (f:Int->Nm ρ):è (r.map Lj++List.replicate (8-r.length) 0) c f=f (nR r i):=by
 subst a;unfold nR
 by_cases h:i<r.length
 ·refine Æ ?_ f;rw[fe (by simpa using h)];simp[h]
 ·have e:(r.map Lj)[i]?=none:=by simp; omega
  refine Æ ?_ f;rw[eT (by simp; omega),List.getD_eq_getElem?_getD,e];rw[List.getElem?_replicate];simp; omega
abbrev StR:Type:=Int×Int×Int×NO æ×NO (Int×Int)×NO AD×NO Cmp×NO (Int×Int)
def stR (i:Nat) (b:ã):StR:=(i,b.1.1,b.1.2,b.2.1,b.2.2.1,b.2.2.2.1,b.2.2.2.2.1,b.2.2.2.2.2)
def TG {b:ã} {l:BL} {k:Nat} (h:WH b k):WH (mP b l) (k+1):=by
 unfold mP
 split
 ·exact⟨by have:=h.g; omega,by have:=h.u; omega,by have:=h.l; omega,by have:=h.c; omega,by have:=h.k; omega⟩
 ·exact KI h
def stR_ok {d:NO BL} {b:ã} {i:Nat} {l:BL} (hi:d[i]?=some l) (L:i+1<d.length) (C:i<120) (M:d.length<=1000000) (F:l.length<=100000) (hb:WH b 1000000) (A:StR->Nm (ã×Bool)) (D) :
 gL (d.map ofL) (stR i b).1 (stR i b).2.1 (stR i b).2.2.1 (stR i b).2.2.2.1 (stR i b).2.2.2.2.1 (stR i b).2.2.2.2.2.1 (stR i b).2.2.2.2.2.2.1 (stR i b).2.2.2.2.2.2.2 (fun x u t s q p o n=>A (x,u,t,s,q,p,o,n)) D=A (stR (i+1) (mP b l)):=by
 obtain⟨Q,h2,P,O,N⟩:=hb;unfold gL
 have G:(d.map ofL)[i]?=some (ofL l):=by rw[dk,hi]; rfl
 have a:∀K:Int->Nm (ã×Bool),ck ((i:Int)+1) K=K ((i+1:Nat):Int):=fun K=>Õ (by omega) (by omega) K;dsimp only[stR];rw[á,List.length_map,Õ (by omega) (by omega),Û (by simp[ilt]; omega),Û (by simp[ilt]; omega),Æ G];have B:=QW l 32 (by omega);rw[show((UInt8.toNat 32:Nat):Int)=32 from rfl] at B;rw[B,À];obtain⟨w,r,H,J,E⟩:=B9 F;unfold mP;rw[H];dsimp only
 have e:∀v∈r,v.length<=1000000:=fun v y=>by have:=E v y; omega
 rw[show ile (1:Int) (Ć ((w::r).map ofL))=true by simp[ile,Ć]; omega,Am.iff_true,show List.drop 1 ((w::r).map ofL)=r.map ofL from rfl,O1 r (by omega) e,À,show List.map ofL (w::r)=ofL w::r.map ofL from rfl,Eo,
  show ByteArray.mk #[102,105,108,109]=ofL [102,105,108,109] from rfl,show ByteArray.mk #[103,97,117,103,101]=ofL [103,97,117,103,101] from rfl,show ByteArray.mk #[117,115,101]=ofL [117,115,101] from rfl,show ByteArray.mk #[108,111,97,110]=ofL [108,111,97,110] from rfl,show ByteArray.mk #[99,111,109,112,97,114,101]=ofL [99,111,109,112,97,114,101] from rfl,show ByteArray.mk #[108,111,111,107]=ofL [108,111,111,107] from rfl,
  gX,gX,gX,gX,gX,gX]
 unfold readW
 by_cases m:w=[102,105,108,109]
 ·rw[Û (decide_eq_true m),if_pos m,jv 0 (c:=0) rfl (by omega),jv 1 (c:=1) rfl (by omega),a]
 rw[Ñ (decide_eq_false m),if_neg m]
 by_cases k:w=[103,97,117,103,101]
 ·rw[Û (decide_eq_true k),if_pos k,jv 0 (c:=0) rfl (by omega),jv 1 (c:=1) rfl (by omega),jv 2 (c:=2) rfl (by omega),jv 3 (c:=3) rfl (by omega),jv 4 (c:=4) rfl (by omega),jv 5 (c:=5) rfl (by omega),jv 6 (c:=6) rfl (by omega),jv 7 (c:=7) rfl (by omega),É (by show b.2.1.length+1<=_; omega),Am.iff_true,a]
 rw[Ñ (decide_eq_false k),if_neg k]
 by_cases j:w=[117,115,101]
 ·rw[Û (decide_eq_true j),if_pos j,jv 0 (c:=0) rfl (by omega),jv 1 (c:=1) rfl (by omega),É (by show b.2.2.1.length+1<=_; omega),Am.iff_true,a]
 rw[Ñ (decide_eq_false j),if_neg j]
 by_cases h:w=[108,111,97,110]
 ·rw[Û (decide_eq_true h),if_pos h,jv 0 (c:=0) rfl (by omega),jv 1 (c:=1) rfl (by omega),jv 2 (c:=2) rfl (by omega),jv 3 (c:=3) rfl (by omega),É (by show b.2.2.2.1.length+1<=_; omega),Am.iff_true,a]
 rw[Ñ (decide_eq_false h),if_neg h]
 by_cases g:w=[99,111,109,112,97,114,101]
 ·have em:Kc (ß (ofL w::r.map ofL)) 7=((min (r.length+1) 7:Nat):Int):=by
   unfold Kc; rw[á]; simp; split<;>omega
  have I:(ofL w::r.map ofL).drop (min (r.length+1) 7)=(r.drop 6).map ofL:=by
   rcases Nat.le_total (r.length+1) 7 with z|z
   ·rw[Nat.min_eq_left z,ft (by simp),ft (by omega)]; rfl
   ·rw[Nat.min_eq_right z,List.map_drop]; rfl
  rw[Û (decide_eq_true g),if_pos g,em,show(ile (0:Int) ((min (r.length+1) 7:Nat):Int)&&ile ((min (r.length+1) 7:Nat):Int) (Ć (ofL w::r.map ofL)))=true by simp[ile,Ć]; omega,Am.iff_true,bU,I,Wf _ (by simp; omega) (fun v y=>e v (eQ y)),À,
   jv 0 (c:=0) rfl (by omega),jv 1 (c:=1) rfl (by omega),jv 2 (c:=2) rfl (by omega),jv 3 (c:=3) rfl (by omega),jv 4 (c:=4) rfl (by omega),jv 5 (c:=5) rfl (by omega),É (by show b.2.2.2.2.1.length+1<=_; omega),Am.iff_true,a]
 rw[Ñ (decide_eq_false g),if_neg g]
 by_cases f:w=[108,111,111,107]
 ·rw[Û (decide_eq_true f),if_pos f,jv 0 (c:=0) rfl (by omega),jv 1 (c:=1) rfl (by omega),É (by show b.2.2.2.2.2.length+1<=_; omega),Am.iff_true,a]
 rw[Ñ (decide_eq_false f),if_neg f,a]
def uJ (t:BL):NO BL:=(Gg 10 t).dropLast.take 120
def Wm {t:BL} (D:t.length<=60000) {e:Int} (o:Ħ ((uJ t).foldl mP Ŷ)=some e):nO (ofL t)=if e≠0 then some (Ŷ,false) else Â (ğ ((uJ t).foldl mP Ŷ)) fun s=>if s≠ofL t then some (Ŷ,false) else some ((uJ t).foldl mP Ŷ,true):=by
 unfold nO Hk;have y:=QW t 10 (by omega);rw[show((UInt8.toNat 10:Nat):Int)=10 from rfl] at y;rw[y,À];have d:=Ca 10 t [];obtain⟨w0,C,j⟩:=JM 10 t []
 have f:1<=(Gg 10 t).length:=by rw[Gg,j]; simp
 have a:∀l∈Gg 10 t,l.length<=100000:=fun l n=>by have:=yh 10 t [] l n; simp at this; omega
 unfold uJ at o ⊢;change (Gg 10 t).length<=_ at d;generalize Gg 10 t=ls at d f a o ⊢
 have r:∀i,i<=(ls.dropLast.take 120).length->WH (((ls.dropLast.take 120).take i).foldl mP Ŷ) i:=by
  intro i
  induction i with
  |zero=>intro _; exact⟨bE _,bE _,bE _,bE _,bE _⟩
  |succ i z =>
   intro hi;rw[take_succ (bG (show i<(ls.dropLast.take 120).length by omega)),fm];exact TG (z (by omega))
 have B:(ls.dropLast.take 120).length=min 120 (ls.length-1):=by simp
 refine ė (fun x=>∃i:Nat,x=stR i (((ls.dropLast.take 120).take i).foldl mP Ŷ)/\i<=(ls.dropLast.take 120).length) (fun x=>200-x.1.toNat) ?_ ⟨0,rfl,cg _⟩;rintro x ⟨i,rfl,hi⟩;have hb:=r i hi
 by_cases h:i<(ls.dropLast.take 120).length
 ·have n:ls[i]?=some (ls.dropLast.take 120)[i]:=by
   rw[fq,List.getElem_dropLast,bG]
  refine .inr ⟨stR (i+1) (((ls.dropLast.take 120).take (i+1)).foldl mP Ŷ),⟨i+1,rfl,h⟩,by simp only[stR,bU]; omega,fun w=>?_⟩;rw[take_succ (bG h),fm];exact stR_ok n (by omega) (by omega) (by omega) (a _ (bR n)) ⟨by have:=hb.g; omega,by have:=hb.u; omega,by have:=hb.l; omega,by have:=hb.c; omega,by have:=hb.k; omega⟩ w _
 ·refine .inl fun w=>?_
  obtain rfl:i=(ls.dropLast.take 120).length:=by omega
  rw[List.take_length];generalize (ls.dropLast.take 120).foldl mP Ŷ=b at o;generalize A:(ls.dropLast.take 120).length=i at B hi h;unfold gL;dsimp only[stR]
  have fin:(Â (Ħ ((b.1.1,b.1.2),b.2.1,b.2.2.1,b.2.2.2.1,b.2.2.2.2.1,b.2.2.2.2.2)) fun q=>ifb (ine q (0:Int)) (some ((((0:Int),(0:Int)),([]:NO æ),([]:NO (Int×Int)),([]:NO AD),([]:NO Cmp),([]:NO (Int×Int))),false)) (Â (ğ ((b.1.1,b.1.2),b.2.1,b.2.2.1,b.2.2.2.1,b.2.2.2.2.1,b.2.2.2.2.2)) fun p=>ifb (!(p.toList==(ofL t).toList)) (some ((((0:Int),(0:Int)),([]:NO æ),([]:NO (Int×Int)),([]:NO AD),([]:NO Cmp),([]:NO (Int×Int))),false)) (some (((b.1.1,b.1.2),b.2.1,b.2.2.1,b.2.2.2.1,b.2.2.2.2.1,b.2.2.2.2.2),true))))=if e≠0 then some (Ŷ,false) else Â (ğ b) fun s=>if s≠ofL t then some (Ŷ,false) else some (b,true):=by
   rw[show Ħ ((b.1.1,b.1.2),b.2.1,b.2.2.1,b.2.2.2.1,b.2.2.2.2.1,b.2.2.2.2.2)=Ħ b from rfl,o,À,û]
   by_cases h0:e=0
   ·rw[if_neg (by simp[ine,h0]),if_neg (by simp[h0])];show Â (ğ b) _=_
    cases ğ b with
    |none=>rfl
    |some s =>
     rw[À,À,û,<-mr s,gX]
     by_cases m:toL s=t
     ·rw[if_neg (by simp[m]),if_neg (by simp[m])]
     ·rw[if_pos (by simp[m]),if_pos fun h=>m (IQ h)]; rfl
   ·rw[if_pos (by simp[ine,h0]),if_pos h0]; rfl
  rw[á,cr,Õ (by omega) (by omega),û]
  by_cases v:ilt (i:Int) ((ls.length:Int)-1)=true
  ·rw[if_pos v,Ñ (by simp[ilt] at v ⊢; omega)]; exact fin
  ·rw[if_neg v]; exact fin
def θ (n:Int):Prop:=n.natAbs<10 ^ 17
def θ.i64 {n:Int} (h:θ n):I64 n:=by
 unfold θ at h;exact⟨by omega,by omega⟩
def jh {n lo hi:Int} (h:inP n lo hi=true) (a : -1125899906842624<=lo) (h2:hi<=1125899906842624):θ n:=by
 simp only[inP,Bool.and_eq_true,decide_eq_true_eq] at h;unfold θ; omega
def mL {s:Int×Int} {lo hi:Int} (h:Ÿ s lo hi=true) (a : -1125899906842624<=lo) (h2:hi<=1125899906842624):θ s.1/\θ s.2:=by
 simp only[Ÿ,Bool.and_eq_true,decide_eq_true_eq] at h;unfold θ; exact⟨by omega,by omega⟩
def ť.idn {b:ã} (h:ť b) {id:Int} {g:æ} (c:ķ b id=some g):θ id:=by
 obtain⟨a,rfl⟩:=i7 c;have:=h.gauge g a;simp only[i6,bH] at this;exact jh this.1.1.1.1.2 (by omega) (by omega)
def KM {l:NO Int} (h:kZ l=true):l.length<=6/\∀x∈l,θ x:=by
 unfold kZ at h
 split at h
 ·cases h
 ·rename_i d;refine⟨of_decide_eq_true h,fun x c=>?_⟩;obtain⟨j,e,rfl⟩:=List.mem_iff_getElem.1 c;have:=ŋ.1 d j _ (List.getElem?_eq_getElem e);unfold oc at this
  split at this
  ·cases this
  ·rename_i a;exact jh (by simpa using a) (by omega) (by omega)
def ť.prints {b:ã} (h:ť b):jk θ b:=by
 have s:∀{id k:Int},Q8 (Ġ b) id k=0->θ id/\θ k:=fun e=>by
  obtain⟨⟨a,h2⟩,g,j,_⟩:=Ci h e;exact⟨h.idn j,by unfold θ; omega⟩
 refine⟨by have:=h.film; unfold θ; exact⟨by omega,by omega⟩,fun g j=>?_,fun u p=>s (h.uses u p),fun l y=>?_,fun c z=>?_,fun u p=>s (h.looks u p),h.nG,h.nU,h.nL,h.nC,h.nK⟩
 ·have:=h.gauge g j;simp only[i6,bH,decide_eq_true_eq] at this;obtain⟨⟨⟨⟨⟨⟨⟨a,h2⟩,f⟩,r⟩,o⟩,q⟩,m⟩,A⟩:=this;simp only[yE,bH,decide_eq_true_eq] at a;intro n d;simp only[UY,bL,dh,or_false] at d;rcases d with rfl|rfl|rfl|rfl|rfl|rfl|rfl|rfl
  ·exact jh r (by omega) (by omega)
  ·exact jh (show inP g.2.1 0 20000=true from o) (by omega) (by omega)
  ·exact jh q (by omega) (by omega)
  ·exact(mL m (by omega) (by omega)).1
  ·exact(mL m (by omega) (by omega)).2
  ·exact jh h2 (by omega) (by omega)
  ·unfold θ; omega
  ·exact jh A (by omega) (by omega)
 ·obtain⟨i,hi,rfl⟩:=List.mem_iff_getElem.1 y;have e:=h.loans i _ (List.getElem?_eq_getElem hi);unfold Eg at e
  split at e
  ·omega
  rename_i a
  split at e
  ·omega
  rename_i h2
  split at e
  ·rename_i f; simp[e] at f
  rename_i f;obtain⟨g,j,_⟩:=yP h (show ο (Ġ b) b.2.2.2.1[i].1 b.2.2.2.1[i].2.1.1=0 by simpa using f)
  have a:Ÿ b.2.2.2.1[i].2.1 0 20000=true:=by simpa using a
  intro n d;simp only[Zq,bL,dh,or_false] at d;rcases d with rfl|rfl|rfl|rfl
  ·exact h.idn j
  ·exact(mL a (by omega) (by omega)).1
  ·exact(mL a (by omega) (by omega)).2
  ·exact jh (lo:=0) (hi:=1048576) (by simpa using h2) (by omega) (by omega)
 ·have:=h.nums z;simp only[vf,bH] at this;obtain⟨a,h2,f,r,o,q,m⟩:=this;obtain⟨x,w⟩:=KM q;obtain⟨v,t⟩:=KM m;refine⟨fun n d=>?_,w,t,x,v⟩;simp only[cmpN,bL,dh,or_false] at d;rcases d with rfl|rfl|rfl|rfl|rfl|rfl
  ·exact jh a (by omega) (by omega)
  ·exact jh (show inP c.2.1 0 20000=true from h2) (by omega) (by omega)
  ·exact jh f (by omega) (by omega)
  ·exact jh r (by omega) (by omega)
  ·exact(mL o (by omega) (by omega)).1
  ·exact(mL o (by omega) (by omega)).2
def gC (c:UInt8) (a:c.toNat≠45/\¬(48<=c.toNat/\c.toNat<=57)) (d:NO Int):∀v∈gZ d,∀x∈v,x≠c:=by
 intro v g x f e;obtain⟨n,_,rfl⟩:=dc.1 g;have:=RZ n x f;subst e;rcases this with h|h
 ·exact a.1 h
 ·exact a.2 h
def Oj (n:Int) (c:UInt8) (a:c.toNat≠45/\¬(48<=c.toNat/\c.toNat<=57)):Lib.itoa n≠[c]:=fun e=>gC c a [n] (Lib.itoa n) (by simp) c (by rw[e]; simp) rfl
def Gv (c:UInt8) (j:c=10\/c=32) {b:ã}:∀p∈ű b,(∀x∈p.1,x≠c)/\∀v∈p.2,∀x∈v,x≠c:=by
 have h:c.toNat≠45/\¬(48<=c.toNat/\c.toNat<=57):=by rcases j with rfl|rfl<;>decide
 have a:∀w:BL,(w.all fun x=>x != 10&&x != 32)=true->∀x∈w,x≠c:=fun w m x k e=>by
  have:=b8.1 m x k
  rcases j with rfl|rfl<;>subst e<;>revert this<;>decide
 intro p i;unfold ű at i;simp only[List.mem_cons,List.mem_append,List.mem_map] at i;rcases i with rfl|⟨g,q,rfl⟩|⟨u,n,rfl⟩|⟨l,o,rfl⟩|⟨d,hd,rfl⟩|⟨u,n,rfl⟩
 ·exact⟨a _ rfl,gC c h _⟩
 ·exact⟨a _ rfl,gC c h _⟩
 ·exact⟨a _ rfl,gC c h _⟩
 ·exact⟨a _ rfl,gC c h _⟩
 ·refine⟨a _ rfl,fun v f=>?_⟩;simp only[S9,bJ,bL] at f;rcases f with f|(rfl|f)|rfl|f
  ·exact gC c h _ v f
  ·exact a _ rfl
  ·exact gC c h _ v f
  ·exact a _ rfl
  ·exact gC c h _ v f
 ·exact⟨a _ rfl,gC c h _⟩
def QC {b:ã} {p:BL×NO BL} (a:p∈ű b):Gg 32 (ũ p)=p.1::p.2:=by
 obtain⟨c,h2⟩:=Gv 32 (.inr rfl) p a;exact OC 32 p.2 p.1 c h2
def Mo {b:ã} {p:BL×NO BL} (d:p∈ű b):∀x∈ũ p,x≠10:=by
 obtain⟨e,h2⟩:=Gv 10 (.inl rfl) p d;intro x a;rcases bJ.1 a with a|a
 ·exact e x a
 ·unfold spL at a;obtain⟨v,c,a⟩:=List.mem_flatMap.1 a;rcases List.mem_cons.1 a with rfl|a
  ·decide
  ·exact h2 v c x a
def nC_num {a:NO Int} (h:∀n∈a,θ n) (r:NO BL) {i:Nat} (hi:i<a.length):nC (gZ a++r) i=a.getD i 0:=by
 unfold nC;rw[List.getD_eq_getElem?_getD,List.getElem?_append_left (by simpa using hi),List.getD_eq_getElem?_getD];simp only[List.getElem?_map,List.getElem?_eq_getElem hi,Option.map_some,Option.getD_some];exact H9 (h _ (List.getElem_mem hi)).i64
def nR_num {a:NO Int} (h:∀n∈a,θ n) (r:NO BL) {i:Nat} (hi:i<a.length):nR (gZ a++r) i=a.getD i 0:=by
 unfold nR;rw[List.map_append,List.getD_eq_getElem?_getD,List.getElem?_append_left (by simpa using hi),List.getD_eq_getElem?_getD];simp only[List.getElem?_map,List.getElem?_eq_getElem hi,Option.map_some,Option.getD_some];exact Li (h _ (List.getElem_mem hi))
def PP {a:NO Int} (h:∀n∈a,θ n):(gZ a).map vI=a:=by
 rw[List.map_map];exact(cV fun n c=>H9 (h n c).i64).trans (List.map_id _)
def TM {A B:NO Int} (d:∀n∈A,θ n) (c:∀n∈B,θ n):tE ([97]::gZ A++[98]::gZ B)=(A,B):=by
 unfold tE
 have a:([97]::gZ A++[98]::gZ B).findIdx? (fun v=>decide (v=[98]))=some (A.length+1):=by
  rw[cq];refine⟨by simp,?_,fun j i=>?_⟩
  ·simp
  ·cases j with
   |zero=>simp
   |succ j =>
    have:j<(gZ A).length:=by simp; omega
    have e:([97]::gZ A++[98]::gZ B)[j+1]'(by simp; omega)=Lib.itoa A[j]:=by
     simp only[cO,List.getElem_cons_succ];rw[List.getElem_append_left this,List.getElem_map]
    intro h;exact Oj _ 98 (by decide) (e.symm.trans (of_decide_eq_true h))
 dsimp only[List.cons_append] at a ⊢;rw[if_pos rfl,a];dsimp only
 have g:((([97]::(gZ A++[98]::gZ B)).drop 1).take (A.length+1-1))=gZ A:=by
  rw[List.drop_one,List.tail_cons,Nat.add_sub_cancel,dO (by simp),cA (by simp)]
 have f:(([97]::(gZ A++[98]::gZ B)).drop (A.length+1+1))=gZ B:=by
  rw[List.drop_succ_cons,show A.length+1=(gZ A++[[98]]).length by simp,show gZ A++[98]::gZ B=(gZ A++[[98]])++gZ B by simp,List.drop_left]
 rw[g,f,PP d,PP c]
def TL {A B:NO Int} (i:∀n∈A,θ n) (g:∀n∈B,θ n):Ct ([97]::gZ A++[98]::gZ B)=(A,B):=by
 have step:∀(d:NO Int),(∀n∈d,θ n)->∀s:Bool×NO Int×NO Int,(gZ d).foldl pG s=(s.1,if s.1 then s.2.1 else s.2.1++d,if s.1 then s.2.2++d else s.2.2):=by
  intro d
  induction d with
  |nil=>intro _ s; obtain⟨a,b,c⟩:=s; simp
  |cons n d e =>
   intro h s;rw[gZ,List.map_cons,List.foldl_cons,e fun x f=>h x (by simp[f])];unfold pG;rw[if_neg (Oj n 98 (by decide)),if_neg (Oj n 97 (by decide)),Li (h n (by simp))];obtain⟨a,b,c⟩:=s
   cases a<;>simp
 unfold Ct;rw[List.cons_append,List.foldl_cons,List.foldl_append,List.foldl_cons];rw[show pG (false,[],[]) [97]=(false,[],[]) from rfl,step A i,show pG (false,if (false:Bool)=true then[] else[]++A,if (false:Bool)=true then[]++A else[]) [98]=(true,A,[]) by simp[pG],step B g];simp
structure Z3 (R:ã->BL×NO BL->Nm ã) (b:ã):Prop where
 film:∀x:ã,R x (Sk b.1)=some (b.1,x.2)
 gauge:∀(x:ã),∀g∈b.2.1,R x (xI g)=some (x.1,x.2.1++[g],x.2.2)
 use:∀(x:ã),∀u∈b.2.2.1,R x (WK u)=some (x.1,x.2.1,x.2.2.1++[u],x.2.2.2)
 loan:∀(x:ã),∀l∈b.2.2.2.1,R x (Jo l)=some (x.1,x.2.1,x.2.2.1,x.2.2.2.1++[l],x.2.2.2.2)
 cmp:∀(x:ã),∀c∈b.2.2.2.2.1,R x (S9 c)=some (x.1,x.2.1,x.2.2.1,x.2.2.2.1,x.2.2.2.2.1++[c],x.2.2.2.2.2)
 look:∀(x:ã),∀u∈b.2.2.2.2.2,R x (Jn u)=some (x.1,x.2.1,x.2.2.1,x.2.2.2.1,x.2.2.2.2.1,x.2.2.2.2.2++[u])
def kf {β:Type} (R:ã->BL×NO BL->Nm ã) (F:β->BL×NO BL) (G:ã->NO β->ã) (c:∀x a l,G (G x [a]) l=G x (a::l)) (h0:∀x,G x []=x):∀(l:NO β),(∀x,∀a∈l,R x (F a)=some (G x [a]))->∀x,(l.map F).foldlM R x=some (G x l)
 |[],_,x=>by rw[h0]; rfl
 |a::l,h,x=>by
  rw[cE,eM,h x a (by simp)];show(l.map F).foldlM R (G x [a])=_;rw[kf R F G c h0 l fun x a ha=>h x a (by simp[ha]),c]
def Z3.all {R:ã->BL×NO BL->Nm ã} {b:ã} (h:Z3 R b):(ű b).foldlM R Ŷ=some b:=by
 unfold ű;rw[List.foldlM_cons,h.film Ŷ];show List.foldlM R (b.1,Ŷ.2) _=_;rw[List.foldlM_append,kf R xI (fun x l=>(x.1,x.2.1++l,x.2.2)) (fun x a l=>by simp) (fun x=>by simp) _ h.gauge];show List.foldlM R (b.1,[]++b.2.1,Ŷ.2.2) _=_;rw[List.foldlM_append,kf R WK (fun x l=>(x.1,x.2.1,x.2.2.1++l,x.2.2.2)) (fun x a l=>by simp) (fun x=>by simp) _ h.use];show List.foldlM R (b.1,[]++b.2.1,[]++b.2.2.1,Ŷ.2.2.2) _=_;rw[List.foldlM_append,kf R Jo (fun x l=>(x.1,x.2.1,x.2.2.1,x.2.2.2.1++l,x.2.2.2.2)) (fun x a l=>by simp) (fun x=>by simp) _ h.loan];show List.foldlM R (b.1,[]++b.2.1,[]++b.2.2.1,[]++b.2.2.2.1,Ŷ.2.2.2.2) _=_;rw[List.foldlM_append,kf R S9 (fun x l=>(x.1,x.2.1,x.2.2.1,x.2.2.2.1,x.2.2.2.2.1++l,x.2.2.2.2.2)) (fun x a l=>by simp) (fun x=>by simp) _ h.cmp];show List.foldlM R (b.1,[]++b.2.1,[]++b.2.2.1,[]++b.2.2.2.1,[]++b.2.2.2.2.1,Ŷ.2.2.2.2.2) _=_;rw[kf R Jn (fun x l=>(x.1,x.2.1,x.2.2.1,x.2.2.2.1,x.2.2.2.2.1,x.2.2.2.2.2++l)) (fun x a l=>by simp) (fun x=>by simp) _ h.look];simp[Ŷ]
def Px {R:ã->BL×NO BL->Nm ã} {n:NO BL->Nat->Int} {ps:NO BL->NO Int×NO Int} {b:ã} (h:jk θ b)
 (k:∀(e:NO Int) (r:NO BL) (i:Nat),(∀m∈e,θ m)->i<e.length->n (gZ e++r) i=e.getD i 0)
 (y:∀A B:NO Int,(∀m∈A,θ m)->(∀m∈B,θ m)->ps ([97]::gZ A++[98]::gZ B)=(A,B))
 (o:∀x,∀p∈ű b,R x p=some (readW (n p.2) (ps (p.2.drop 6)) x p.1)):Z3 R b:=by
 have a:∀(e:NO Int) (i:Nat),(∀m∈e,θ m)->i<e.length->n (gZ e) i=e.getD i 0:=fun e i D h2=>by
  have:=k e [] i D h2
  rwa [b6] at this
 have j:∀u:Int×Int,θ u.1/\θ u.2->n (gZ [u.1,u.2]) 0=u.1/\n (gZ [u.1,u.2]) 1=u.2:=fun u f=>by
  have:∀m∈[u.1,u.2],θ m:=fun m d=>by
   simp only[bL,dh,or_false] at d;rcases d with rfl|rfl
   ·exact f.1
   ·exact f.2
  exact⟨a _ 0 this (by simp),a _ 1 this (by simp)⟩
 refine⟨fun x=>?_,fun x g v=>?_,fun x u f=>?_,fun x l t=>?_,fun x c w=>?_,fun x u f=>?_⟩
 ·rw[o x _ (by unfold ű; exact List.mem_cons_self)];obtain⟨s,q⟩:=j b.1 h.film;unfold readW Sk;dsimp only;rw[if_pos rfl,s,q]
 ·rw[o x _ (by unfold ű; simp only[List.mem_cons,List.mem_append]; exact .inr (.inl (List.mem_map.2 ⟨g,v,rfl⟩)))];have d:=h.gauges g v;unfold readW xI;dsimp only;rw[if_neg (by decide),if_pos rfl];rw[a _ 0 d (by simp),a _ 1 d (by simp),a _ 2 d (by simp),a _ 3 d (by simp),a _ 4 d (by simp),a _ 5 d (by simp),a _ 6 d (by simp),a _ 7 d (by simp)];rfl
 ·rw[o x _ (by unfold ű; simp only[List.mem_cons,List.mem_append]; exact .inr (.inr (.inl (List.mem_map.2 ⟨u,f,rfl⟩))))];obtain⟨s,q⟩:=j u (h.uses u f);unfold readW WK;dsimp only;rw[if_neg (by decide),if_neg (by decide),if_pos rfl,s,q]
 ·rw[o x _ (by unfold ű; simp only[List.mem_cons,List.mem_append]; exact .inr (.inr (.inr (.inl (List.mem_map.2 ⟨l,t,rfl⟩)))))];have d:=h.loans l t;unfold readW Jo;dsimp only;rw[if_neg (by decide),if_neg (by decide),if_neg (by decide),if_pos rfl];rw[a _ 0 d (by simp),a _ 1 d (by simp),a _ 2 d (by simp),a _ 3 d (by simp)];rfl
 ·rw[o x _ (by unfold ű; simp only[List.mem_cons,List.mem_append]; exact .inr (.inr (.inr (.inr (.inl (List.mem_map.2 ⟨c,w,rfl⟩))))))];obtain⟨d,C,z,_⟩:=h.cmps c w;unfold readW S9;dsimp only;rw[if_neg (by decide),if_neg (by decide),if_neg (by decide),if_neg (by decide),if_pos rfl];rw[k _ _ 0 d (by simp),k _ _ 1 d (by simp),k _ _ 2 d (by simp),k _ _ 3 d (by simp),k _ _ 4 d (by simp),k _ _ 5 d (by simp)];rw[show(gZ (cmpN c)++([97]::gZ c.2.2.1++[98]::gZ c.2.2.2.1)).drop 6=[97]::gZ c.2.2.1++[98]::gZ c.2.2.2.1 from rfl,y _ _ C z];rfl
 ·rw[o x _ (by unfold ű; simp only[List.mem_cons,List.mem_append]; exact .inr (.inr (.inr (.inr (.inr (List.mem_map.2 ⟨u,f,rfl⟩))))))];obtain⟨s,q⟩:=j u (h.looks u f);unfold readW Jn;dsimp only;rw[if_neg (by decide),if_neg (by decide),if_neg (by decide),if_neg (by decide),if_neg (by decide),if_pos rfl,s,q]
def Rm {b:ã} {p:BL×NO BL} (a:p∈ű b) (x:ã):pF x (ũ p++[10])=some (readW (nC p.2) (tE (p.2.drop 6)) x p.1):=by
 unfold pF;rw[Y1,QC a];dsimp only
 have e:∃k,Xk p.1=some k/\k<=p.2.length:=by
  unfold ű at a;simp only[List.mem_cons,List.mem_append,List.mem_map] at a;rcases a with rfl|⟨g,i,rfl⟩|⟨u,d,rfl⟩|⟨l,h,rfl⟩|⟨c,j,rfl⟩|⟨u,d,rfl⟩
  ·exact⟨2,rfl,bE _⟩
  ·exact⟨8,rfl,bE _⟩
  ·exact⟨2,rfl,bE _⟩
  ·exact⟨4,rfl,bE _⟩
  ·exact⟨6,rfl,by simp[S9]⟩
  ·exact⟨2,rfl,bE _⟩
 obtain⟨k,f,h2⟩:=e;rw[f];dsimp only;rw[if_neg (by omega)]
def Pk (b:ã):gx b=((ű b).map ũ).flatMap fun l=>l++[10]:=by unfold gx; rw[List.flatMap_map]
def zj {b:ã} (h:jk θ b):(nB (gx b)).foldlM pF Ŷ=some b:=by
 have c:nB (gx b)=(ű b).map fun p=>ũ p++[10]:=by
  unfold nB uK;rw[Pk,Mn _ _ (fun l c=>by obtain⟨p,a,rfl⟩:=List.mem_map.1 c; exact Mo a) (by rw[Ò]; exact Nat.le_refl _)];rw[List.map_map,List.map_map]; rfl
 rw[c,List.foldlM_map];exact(Px (R:=fun x p=>pF x (ũ p++[10])) (n:=nC) (ps:=tE) h (fun g r i f h2=>nC_num f r h2) (fun A B e d=>TM e d) fun x p a=>Rm a x).all
def MV:∀(a:NO BL),(∀l∈a,∀x∈l,x≠10)->Gg 10 (a.flatMap fun l=>l++[10])=a++[[]]
 |[],_=>rfl
 |l::a,h=>by
  rw[cj,bS,Gg,yf 10 l [] _ (h l (by simp)),cO,cS,Fl,if_pos rfl,cS];rw[show Fl 10 [] (a.flatMap fun l=>l++[10])=_ from MV a fun x c=>h x (by simp[c])];rfl
def EA {α β:Type} (f:β->α->β):∀(l:NO α) (x:β),l.foldlM (fun x a=>some (f x a)) x=some (l.foldl f x)
 |[],x=>rfl
 |a::l,x=>by rw[eM,cM]; exact EA f l (f x a)
def Sf {b:ã} (h:jk θ b):(uJ (gx b)).foldl mP Ŷ=b:=by
 have j:=h.count
 have c:uJ (gx b)=(ű b).map ũ:=by
  unfold uJ;rw[Pk,MV _ fun l c=>by obtain⟨p,a,rfl⟩:=List.mem_map.1 c; exact Mo a];rw[List.dropLast_concat,List.take_of_length_le (by simp; omega)]
 rw[c,List.foldl_map];have:=(Px (R:=fun x p=>some (mP x (ũ p))) (n:=nR) (ps:=Ct) h (fun g r i f h2=>nR_num f r h2) (fun A B e d=>TL e d) fun x p a=>by unfold mP; rw[QC a]).all;rw[EA fun x p=>mP x (ũ p)] at this;exact Option.some.inj this
end Go.Proofs.ZzM
end

noncomputable section
namespace Go.Proofs.ZzM
open Go Go.Am
structure NA (b:ã):Prop where
 piles:SX b
 num:∀g∈b.2.1,I64 g.2.2.2.2.1.1
def In.fine {b:ã} (h:In b):NA b:=⟨h.size.w,h.num⟩
def NA.readW {n:Nat->Int} {ps:NO Int×NO Int} {b:ã} {w:BL} (h:NA b) (i:I64 (n 5)) (f:ps.1.length<=100000/\ps.2.length<=100000):NA (readW n ps b w):=by
 obtain⟨a,h2⟩:=h;unfold ZzM.readW
 split
 ·exact⟨a,h2⟩
 split
 ·refine⟨a,fun g d=>?_⟩;rcases bJ.1 d with d|d
  ·exact h2 g d
  ·rw[bK.1 d]; exact i
 split
 ·exact⟨a,h2⟩
 split
 ·exact⟨a,h2⟩
 split
 ·refine⟨fun c e=>?_,h2⟩;rcases bJ.1 e with e|e
  ·exact a c e
  ·rw[bK.1 e]; exact f
 split
 ·exact⟨a,h2⟩
 ·exact⟨a,h2⟩
def Rp (ws:NO BL):(tE ws).1.length<=ws.length/\(tE ws).2.length<=ws.length:=by
 unfold tE
 cases ws with
 |nil=>simp
 |cons w r =>
  dsimp only
  split
  ·cases(w::r).findIdx? (fun v=>decide (v=[98]))<;>simp<;>omega
  ·simp
def fine0:NA Ŷ:=⟨fun _ c=>(by cases c),fun _ a=>(by cases a)⟩
def fineC {b c:ã} {l:BL} (h:NA b) (i:l.length<=100000) (e:pF b l=some c):NA c:=by
 unfold pF at e;have f:=Pg l [10];obtain⟨w,r,d,g,_⟩:=B9 (l:=Lib.trimSuffix l [10]) (by omega);rw[d] at e;dsimp only at e
 cases a:Xk w with
 |none=>rw[a] at e; cases e
 |some k =>
  rw[a] at e;dsimp only at e
  split at e
  ·cases e
  ·cases e;have:=Rp (r.drop 6);rw[eP] at this;exact h.readW (V1 _) ⟨by omega,by omega⟩
def MI:∀(c:NO BL) (b a:ã),NA b->(∀l∈c,l.length<=100000)->c.foldlM pF b=some a->NA a
 |[],b,a,h,_,e=>by cases e; exact h
 |l::c,b,a,h,f,e=>by
  rw[eM] at e
  cases d:pF b l with
  |none=>rw[d] at e; cases e
  |some i=>rw[d] at e; exact MI c i a (fineC h (f l (by simp)) d) (fun x g=>f x (by simp[g])) e
def nR_i64 (r:NO BL) (i:Nat):I64 (nR r i):=by
 unfold nR;rw[List.getD_eq_getElem?_getD,List.getElem?_map]
 cases r[i]? with
 |none=>exact⟨by decide,by decide⟩
 |some w=>exact Xg w
def fineR {b:ã} {l:BL} (h:NA b) (a:l.length<=100000):NA (mP b l):=by
 unfold mP;obtain⟨w,r,c,d,_⟩:=B9 a;rw[c];have:=KO (r.drop 6) (false,[],[]);simp only[List.length_drop,List.length_nil] at this;exact h.readW (nR_i64 _ _) (by unfold Ct; exact⟨by omega,by omega⟩)
def MH:∀(a:NO BL) (b:ã),NA b->(∀l∈a,l.length<=100000)->NA (a.foldl mP b)
 |[],b,h,_=>h
 |l::a,b,h,c=>MH a _ (fineR h (c l (by simp))) fun x d=>c x (by simp[d])
def J9 {b:ã} (h:NA b):gU b=some (if ë b≠0 then(ofL [],ë b) else(ofL (gx b),0)):=by
 have a:=Nr h.piles h.num
 by_cases h0:ë b=0
 ·rw[if_neg (by simp[h0])];exact W8 (((Ĵ b).1 h0).prints.mono fun n c=>c.i64) (by rw[a,h0])
 ·rw[if_pos h0];unfold gU xw;rw[a,À,Û (by simpa[ine] using h0)]
def Fg {b:ã} (h:ť b):ğ b=some (ofL (gx b)):=TA (h.prints.mono fun n a=>a.i64)
def Tm {b a:ã} (h:ť b) (h':ť a) (e:gx b=gx a):b=a:=by
 have c:=zj h.prints;rw[e,zj h'.prints] at c;exact(Option.some.inj c).symm
open Classical in
def Ir (t:BL):Nm ã:=if h:∃b,ť b/\gx b=t then some h.choose else none
def Py {b:ã} (h:ť b):Ir (gx b)=some b:=by
 have a:∃c,ť c/\gx c=gx b:=⟨b,h,rfl⟩;unfold Ir;rw[dif_pos a];exact congrArg some (Tm a.choose_spec.1 h a.choose_spec.2)
def yD {t:BL} {b:ã} (h:Ir t=some b):ť b/\gx b=t:=by
 unfold Ir at h
 split at h
 ·rename_i a; cases h; exact a.choose_spec
 ·cases h
def Z8 {t:BL} (i:t.length<=60000):rC (ofL t)=some (match Ir t with|some b=>(b,0)|none=>(Ŷ,7)):=by
 have a:∀b,(nB t).foldlM pF Ŷ=some b->NA b:=fun b hb=>MI _ _ _ fine0 (fun l f=>by
  unfold nB uK at f;obtain⟨y,h,rfl⟩:=List.mem_map.1 f;have:=(zb (ofL t).size (ofL t)).2 y h;rw[<-vR]
  exact bP this (by rw[Ò]; omega)) hb
 rw[Yp i]
 cases d:Ir t with
 |some b =>
  obtain⟨g,rfl⟩:=yD d;have hb:=zj g.prints;rw[hb];dsimp only;rw[J9 (a b hb),(Ĵ b).2 g,À];simp
 |none =>
  cases j:(nB t).foldlM pF Ŷ with
  |none=>rfl
  |some b =>
   dsimp only;rw[J9 (a b j),À]
   by_cases h0:ë b=0
   ·have c:ofL (gx b)≠ofL t:=fun e=>by
     have:=Py ((Ĵ b).1 h0);rw[IQ e,d] at this;cases this
    rw[show(if ë b≠0 then(ofL [],ë b) else(ofL (gx b),0))=(ofL (gx b),0) from if_neg (by simp[h0])];exact if_pos (.inr c)
   ·rw[show(if ë b≠0 then(ofL [],ë b) else(ofL (gx b),0))=(ofL [],ë b) from if_pos h0];exact if_pos (.inl h0)
def Yn {t:BL} (h:t.length<=60000):nO (ofL t)=some (match Ir t with|some b=>(b,true)|none=>(Ŷ,false)):=by
 have a:NA ((uJ t).foldl mP Ŷ):=MH _ _ fine0 fun l f=>by
  unfold uJ at f;have:=yh 10 t [] l (List.dropLast_subset _ (List.mem_of_mem_take f));simp at this; omega
 rw[Wm h (Ih a.piles)]
 cases d:Ir t with
 |some b =>
  obtain⟨c,rfl⟩:=yD d;rw[Sf c.prints,(Ĵ b).2 c,if_neg (by simp),Fg c,À];simp
 |none =>
  by_cases h0:ë ((uJ t).foldl mP Ŷ)=0
  ·have g:=(Ĵ _).1 h0;rw[if_neg (by simp[h0]),Fg g,À,if_pos];intro e;have:=Py g;rw[IQ e,d] at this;cases this
  ·rw[if_pos h0]
end Go.Proofs.ZzM
end

noncomputable section
namespace Go.Proofs.ZzM
open Go Go.Am
def KB {α:Type} [DecidableEq α] {l m:NO α} (e:l.length=m.length) (h:ĉ (fun i a=>if m[i]?=some a then none else some false) 0 l=none):l=m:=by
 have:=ŋ.1 h;refine List.ext_getElem e fun i f h2=>?_;have c:=this i l[i] (bG f);rw[bX] at c
 split at c
 ·rename_i d;rw[bG h2] at d;exact(Option.some.inj d).symm
 ·cases c
def KA {α:Type} [DecidableEq α] {l m:NO α} {b:Bool} (h:ĉ (fun i a=>if m[i]?=some a then none else some false) 0 l=some b):b=false/\l≠m:=by
 constructor
 ·have:∀(k:Nat) (x:NO α) (b:Bool),ĉ (fun i a=>if m[i]?=some a then none else some false) k x=some b->b=false:=by
   intro k x
   induction x generalizing k with
   |nil=>intro b h; cases h
   |cons a t f =>
    intro b h;unfold ĉ at h
    split at h
    ·rename_i c d
     split at d
     ·cases d
     ·cases d; cases h; rfl
    ·exact f _ _ h
  exact this _ _ _ h
 ·intro e;subst e;rw[ŋ.2 fun j a ha=>by rw[bX,if_pos ha]] at h;cases h
def Nk {l m:NO (Int×Int)} (j:l.length<=1000000):fL l m=some (decide (l=m)):=by
 unfold fL tW;rw[á,á]
 by_cases d:l.length=m.length
 ·rw[Ñ (by simp[ine,d])];refine cB (Τ l (fun i a=>if m[i]?=some a then none else some false) some (some true) (fun i a hi ha g=>?_) (fun g=>?_)) ?_
  ·try dsimp only
   unfold Ξ;have f:m[i]?=some m[i]:=List.getElem?_eq_getElem (by omega);rw[Ð hi,Æ ha,Æ f,È hi (by omega),f,û]
   have e:(!(š a.1 m[i].1&&(š a.2 m[i].2&&true)))=decide (¬(m[i]=a)):=by
    rw[cN];simp only[š,Bool.and_true,cF,Bool.and_eq_false_iff,decide_eq_false_iff_not,decide_eq_true_eq];constructor
    ·intro h e; rw[e] at h; simp at h
    ·intro h
     by_cases c:a.1=m[i].1
     ·by_cases h2:a.2=m[i].2
      ·exact absurd (Prod.ext c h2).symm h
      ·exact .inr h2
     ·exact .inl c
   rw[e]
   by_cases h:m[i]=a
   ·simp[h]
   ·simp[h]
  ·try dsimp only
   unfold Ξ;rw[Ý]
  ·cases h:ĉ (fun i a=>if m[i]?=some a then none else some false) 0 l with
   |none=>simp[KB d h]
   |some b =>
    obtain⟨c,h2⟩:=KA h;simp[c,h2]
 ·rw[Û (by simp[ine]; omega)];have:l≠m:=fun e=>d (by rw[e]);simp[this]
def OZ {l m:NO Int} (j:l.length<=1000000):δ l m=some (decide (l=m)):=by
 unfold δ wH;rw[á,á]
 by_cases c:l.length=m.length
 ·rw[Ñ (by simp[ine,c])];refine cB (Τ l (fun i a=>if m[i]?=some a then none else some false) some (some true) (fun i a hi ha f=>?_) (fun f=>?_)) ?_
  ·try dsimp only
   unfold fT;have d:m[i]?=some m[i]:=List.getElem?_eq_getElem (by omega);rw[Ð hi,Æ ha,Æ d,È hi (by omega),d,û]
   by_cases h:a=m[i]
   ·simp[ine,h]
   ·have h':¬m[i]=a:=fun e=>h e.symm;simp[ine,h,h']
  ·try dsimp only
   unfold fT;rw[Ý]
  ·cases h:ĉ (fun i a=>if m[i]?=some a then none else some false) 0 l with
   |none=>simp[KB c h]
   |some b =>
    obtain⟨g,h2⟩:=KA h;simp[g,h2]
 ·rw[Û (by simp[ine]; omega)];have:l≠m:=fun e=>c (by rw[e]);simp[this]
def xy {ρ α:Type} (l:NO α) (K:Nm ρ) {f:Int->(Int->Nm ρ)->Nm ρ} (h:∀(i:Nat) (a:α),i<l.length->l[i]?=some a->∀c,f i c=c ((i:Int)+1)) (d:∀c,f l.length c=K):Ó f 0=K:=by
 refine cB (Γ l (fun _=>false) (fun _=>K) K (fun i a hi ha c=>by rw[h i a hi ha c]; rfl) d) ?_;rw[cT.2 (by simp)]
def Gu {l:NO (Int×Int)} (a:l.length<=1000000):fL l l=some true:=by rw[Nk a]; simp
def yp {l:NO Int} (a:l.length<=1000000):δ l l=some true:=by rw[OZ a]; simp
def BF {c:Cmp} (d:c.2.2.1.length<=1000) (a:c.2.2.2.1.length<=1000):fW c c=some true:=by
 unfold fW pr;rw[yp (by omega),À,yp (by omega),À];simp[ieq,š]
def Nj {b:ã} (d:ŏ b):nN b b=some true:=by
 have j:=d.gauges; have h2:=d.uses; have h:=d.loans; have g:=d.compares; have f:=d.looks;unfold nN LH;rw[Ñ (by simp[š]),Ñ (show ine (ß b.2.1) (ß b.2.1)=false by simp[ine]),Ñ (show ine (ß b.2.2.1) (ß b.2.2.1)=false by simp[ine]),Ñ (show ine (ß b.2.2.2.1) (ß b.2.2.2.1)=false by simp[ine]),Ñ (show ine (ß b.2.2.2.2.1) (ß b.2.2.2.2.1)=false by simp[ine])];refine xy b.2.1 _ (fun i a hi ha c=>?_) (fun c=>?_)
 ·try dsimp only
  unfold lM;rw[Ð hi,Æ ha,Æ ha,È hi (by omega)];simp[š]
 ·try dsimp only
  unfold lM;rw[Ý];dsimp only;refine xy b.2.2.1 _ (fun i a hi ha c=>?_) (fun c=>?_)
  ·try dsimp only
   unfold lL;rw[Ð hi,Æ ha,Æ ha,È hi (by omega)];simp[š]
  ·try dsimp only
   unfold lL;rw[Ý];dsimp only;refine xy b.2.2.2.1 _ (fun i a hi ha c=>?_) (fun c=>?_)
   ·try dsimp only
    unfold lK;rw[Ð hi,Æ ha,Æ ha,È hi (by omega)];simp[š]
   ·try dsimp only
    unfold lK;rw[Ý];dsimp only;refine xy b.2.2.2.2.1 _ (fun i a hi ha c=>?_) (fun c=>?_)
    ·try dsimp only
     unfold lJ;have e:=d.piles a (List.mem_of_getElem? ha);rw[Ð hi,Æ ha,Æ ha,BF e.1 e.2,À,È hi (by omega)];rfl
    ·try dsimp only
     unfold lJ;rw[Ý];dsimp only;rw[Gu (by omega),À]
def Same0:nN Gs Gs=some true:=Nj ⟨by simp[Gs],by simp[Gs],by simp[Gs],by simp[Gs],by simp[Gs],by simp[Gs]⟩
def WP {b:ã} (i:∀g∈b.2.1,I64 g.2.2.2.2.1.1) (s:ByteArray):jj b s=some true:=by
 unfold jj je;rw[WV,À,Tv];simp only[À]
 by_cases d:Kw b=true
 case neg=>rw[Û (by simp[d])]
 rw[Ñ (by simp[d])]
 by_cases a:(ofL (toL s)).size<=3000
 case neg=>rw[mr] at a; rw[Û (by rw[ku]; simp[igt]; omega)]
 obtain⟨t,rfl⟩:∃t,s=ofL t:=⟨_,(mr s).symm⟩;rw[Ò] at a;have a:t.length<=3000:=a;have hI:In b:=⟨(Rf d).1,i⟩;rw[Ñ (by rw[ku,Ò]; simp[igt]; omega),J9 hI.fine,À,Z8 (by omega),À,Yn (by omega),À]
 -- behind the two readers
 have rest:∀K:Nm Bool,K=(Â (Ħ b) fun e=>ifb (ine e (0:Int)) (ifb true (ifb (ieq (if ë b≠0 then(ofL [],ë b) else(ofL (gx b),0)).2 e) (some ((if ë b≠0 then(ofL [],ë b) else(ofL (gx b),0)).1.toList==(ByteArray.mk #[]).toList)) (some false)) (some false)) (ifb true (ifb (ieq (if ë b≠0 then(ofL [],ë b) else(ofL (gx b),0)).2 (0:Int)) (Â (ğ b) fun c=>some ((if ë b≠0 then(ofL [],ë b) else(ofL (gx b),0)).1.toList==c.toList)) (some false)) (some false)))->K=some true:=by
  rintro K rfl;rw[Wq hI.size,À]
  by_cases h0:ë b=0
  ·rw[Ñ (by simp[ine,h0]),if_neg (by simp[h0]),gQ,Û (by simp[ieq]),Fg ((Ĵ b).1 h0),À];simp
  ·rw[Û (by simpa[ine] using h0),if_pos h0,gQ,Û (by simp[ieq]),show ByteArray.mk #[]=ofL [] from rfl];simp
 cases h:Ir t with
 |some y =>
  dsimp only;have f:=(yD h).1;rw[Nj f.size,À,Ñ (by rfl),gQ,Ñ (by simp[ine])];exact rest _ rfl
 |none =>
  dsimp only;rw[show nN Ŷ Ŷ=some true from Same0,À,Ñ (by rfl),ð,Û (by rfl),Ñ (by simp[ine])];exact rest _ rfl
end Go.Proofs.ZzM
end
