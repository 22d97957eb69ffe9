/- lemmas -/
import Derived.Test.YtenljaeklhlanaaGreatPlA
import Derived.Test.YtenljaeklhlanaaGreatMdTA
set_option linter.all false
noncomputable section
namespace Go.Proofs.ZzM
open Go Go.Am
section
variable {b:ò}
def ahR:off b b.2.1.length=(Ò b).length:=by unfold off Ò; rw[List.take_length]
def adx:∀n,n<=b.2.1.length->∀j,j<off b n->∃(i:Nat) (g:è) (k:Nat),b.2.1[i]?=some g/\k<(Û b g).length/\j=off b i+k:=by
 intro n
 induction n with
 |zero=>intro _ j a; simp[off] at a
 |succ n e =>
  intro f j a;have d:b.2.1[n]?=some b.2.1[n]:=cV (by omega);rw[ald d] at a
  by_cases h:j<off b n
  ·exact e (by omega) j h
  ·exact⟨n,_,j-off b n,d,by omega,by omega⟩
def TJ {v:Int} (h0:1<=v) (e:v<((Ò b).length+1:Nat)):∃(i:Nat) (g:è) (k:Nat),b.2.1[i]?=some g/\k<(Û b g).length/\v=(off b i:Int)+k+1:=by
 obtain⟨i,g,k,h2,a,d⟩:=adx (b:=b) b.2.1.length (cX _) (v-1).toNat (by rw[ahR]; omega);exact⟨i,g,k,h2,a,by omega⟩
def GL (b:ò) (L:CK Lk):Prop:=∀(i:Nat) (g:è),b.2.1[i]?=some g->∀l∈ö b g,l∈L
def aee:GL b (ů b):=fun i g d l a=>jD.2 (.inl ⟨i,g,d,a⟩)
def ane {L:CK Lk} (h:ţ b) (o:GL b L) {v:Int} (h0:0<=v) (r:v<((Ò b).length+1:Nat)):∃vs d,Wl L (fun u=>u=0) vs v d/\d<=4503599627370496:=by
 by_cases q:v=0
 ·exact⟨[],0,.nil q,by omega⟩
 obtain⟨i,g,k,j,l,rfl⟩:=TJ (by omega) r;have n:=h.gaugeR (dc j);have r1:=n.2.2.2.2.2.1;have r2:=n.2.2.2.2.2.2.1
 have key:∀k:Nat,k<(Û b g).length->∃vs,Wl L (fun u=>u=0) vs ((off b i:Int)+k+1) (g.2.2.1+g.2.2.2.1.2):=by
  intro k
  induction k with
  |zero =>
   intro _;have a:Wl L (fun u=>u=0) [0] ((off b i:Int)+1) (0+(g.2.2.1+g.2.2.2.1.2)):=Wl.step (.nil rfl) (o i g j _ ((Ĉ h j).2 (.inl rfl)));rw[Int.zero_add] at a;exact⟨[0],by simpa using a⟩
  |succ k p =>
   intro l;obtain⟨vs,a⟩:=p (by omega);have f:=Wl.step a (o i g j _ ((Ĉ h j).2 (.inr (.inr ⟨k,_,_,cV (show k<_ by omega),cV l,.inl rfl⟩))));rw[gH] at f
   have e:(off b i:Int)+((k+1:Nat):Int)+1=(off b i:Int)+k+2:=by push_cast; omega
   exact⟨_,by rw[e]; exact f⟩
 obtain⟨vs,a⟩:=key k l;exact⟨vs,_,a,by omega⟩
def ag7 {L:CK Lk} (h:ţ b) (p:GL b L) {v:Int} (h0:0<=v) (y:v<((Ò b).length+1:Nat)):∃vs d,Wl L (fun u=>u=v) vs 0 d/\d<=4503599627370496:=by
 by_cases r:v=0
 ·exact⟨[],0,.nil r.symm,by omega⟩
 obtain⟨i,g,k,l,B,rfl⟩:=TJ (by omega) y;have a:=dc l;have o:=h.gaugeR a;have r1:=o.2.2.2.2.2.1;have r2:=o.2.2.2.2.2.2.1;have hd:=IW h a
 have key:∀m:Nat,m<=k->∃vs d,Wl L (fun u=>u=(off b i:Int)+k+1) vs ((off b i:Int)+(k-m:Nat)+1) d/\d<=m*(12*(20001*1048576)+40*1048576):=by
  intro m
  induction m with
  |zero=>intro _; exact⟨[],0,.nil (by simp),by simp⟩
  |succ m q =>
   intro A;obtain⟨vs,d,j,hd⟩:=q (by omega)
   have C:((k-m:Nat):Int)=((k-(m+1):Nat):Int)+1:=by omega
   have s:(((off b i:Int)+(k-(m+1):Nat)+2,(off b i:Int)+(k-(m+1):Nat)+1,υ b g ((Û b g)[k-(m+1)]'(by omega)) ((Û b g)[k-(m+1)+1]'(by omega))):Lk)∈L :=
    p i g l _ ((Ĉ h l).2 (.inr (.inr ⟨k-(m+1),_,_,cV (by omega),cV (by omega),.inr rfl⟩)))
   have hb:=kd h a (f:=(Û b g)[k-(m+1)]'(by omega)) (t:=(Û b g)[k-(m+1)+1]'(by omega)) (h.day a (fC _)).2.1
   have z:(off b i:Int)+(k-m:Nat)+1=(off b i:Int)+(k-(m+1):Nat)+2:=by omega
   rw[z] at j;exact⟨_,_,.step j s,by push_cast; omega⟩
 obtain⟨vs,d,j,x⟩:=key k (cX _)
 have e:(off b i:Int)+(k-k:Nat)+1=(off b i:Int)+1:=by omega
 rw[e] at j;have n:=Wl.step j (p i g l _ ((Ĉ h l).2 (.inr (.inl rfl))));exact⟨_,_,n,by omega⟩
end
structure acD (L:CK Lk) (N:Nat):Prop where
 to:∀v:Int,0<=v->v<N->∃vs d,Wl L (fun u=>u=0) vs v d/\d<=4503599627370496
 from':∀v:Int,0<=v->v<N->∃vs d,Wl L (fun u=>u=v) vs 0 d/\d<=4503599627370496
def ţ.tied {b:ò} (h:ţ b):acD (ů b) ((Ò b).length+1):=⟨fun v h0 a=>ane h aee h0 a,fun v h0 a=>ag7 h aee h0 a⟩
section
variable {L:CK Lk} {N:Nat}
def amK {L:CK Lk} {s:Int} {vs:CK Int} {v d:Int}:Wl L (fun v=>akH s v=true) vs v d↔Wl L (fun u=>u=s) vs v d :=
 ⟨fun h=>h.mono fun u a=>by simpa[akH] using a,fun h=>h.mono fun u a=>by simpa[akH] using a⟩
def Q3 (s:Int):(BP L N s).length=N:=by unfold BP; rw[Ń,ý]
end
def agy {b:ò}:∀i,i<=b.2.2.2.2.1.length->((b.2.2.2.2.1.take i).flatMap (Ľ b)).length=2*i/\(((b.2.2.2.2.1.take i).mapIdx fun i _=>[((3:Int),(i:Int)),((3:Int),(i:Int))]).flatten).length=2*i:=by
 intro i
 induction i with
 |zero=>intro _; simp
 |succ i a =>
  intro hi;have a:=a (by omega);have d:b.2.2.2.2.1[i]?=some b.2.2.2.2.1[i]:=cV hi;rw[jT _ d,take_succ d,eO,gQ,cZ,cZ];simp only[dz,gj,dt,ig,ir,Ľ,di,dK];omega
def sR (n lo hi:Int):jM n lo hi=some (inP n lo hi):=by
 unfold jM aif inP ige ile
 cases h:decide (lo<=n)<;>simp_all
def XD (n:Int):yA n=some (Da n):=by
 unfold yA adI;rw[sR]; rfl
def yN (s:Int×Int) (lo hi:Int):kh s lo hi=some (ks s lo hi):=by
 unfold kh KV ks ile
 cases decide (lo<=s.1)<;>cases decide (s.1<=s.2)<;>rfl
def aoo {l:CK Int} (f:l.length<=1000000) (x:Int):MP l x=some (l.contains x):=by
 unfold MP adH;refine Eq.trans (ù l (fun a=>a==x) (fun _=>some true) (some true) (some false) (fun _=>rfl) (fun i a hi ha d=>?_) (fun d=>?_)) ?_
 ·try dsimp only
  unfold xS;rw[Í hi,Ã ha,È hi (by omega),é]
 ·try dsimp only
  unfold xS;rw[Ô]
 ·have:l.any (fun a=>a==x)=l.contains x:=by
   rw[eI,dv,dV];constructor
   ·rintro⟨a,ha,e⟩; rw[<-eq_of_beq e]; exact ha
   ·intro h; exact⟨x,h,by simp⟩
  rw[this]
  cases l.contains x<;>rfl
def afM {a b:CK Int} {i:Nat} {x:Int} (h:a[i]?=some x):Þ (a.take (i+1)) b=Þ (a.take i) b++if b.contains x then[] else[x]:=by
 rw[take_succ h,Þ,Þ,eZ];congr 1
 cases d:b.contains x<;>simp only[eM,d,dP,fF,dp,if_false,if_true,eY]
def XC {a b:CK Int} (ha:a.length<=1000000) (hb:b.length<=1000000):lO a b=some (Þ a b):=by
 unfold lO Zw;refine ð a (fun i=>Þ (a.take i) b) _ rfl (fun i x hi d e=>?_) (fun e=>?_)
 ·try dsimp only
  unfold uw
  have f:(Þ (a.take i) b).length<=1000000:=by
   have:=sq (a.take i) b;rw[dk] at this;omega
  rw[Í hi,Ã d,aoo hb,À,afM d]
  cases b.contains x with
  |true=>rw[Ì (by rfl),È hi (by omega)]; simp
  |false=>rw[Ð (by rfl),Ã d,Ñ (by simp only[dO]; omega),Am.iff_true,È hi (by omega)]; simp
 ·try dsimp only
  unfold uw;rw[Ô,List.take_length]
def Lm (a b:CK Int):Int:=(Þ a b).head?.getD 0
def BV {a b:CK Int} (ha:a.length<=1000000) (hb:b.length<=1000000):ng a b=some (Lm a b):=by
 unfold ng adF Lm;rw[XC ha hb,À,Î]
 cases h:Þ a b with
 |nil=>rfl
 |cons x t =>
  rw[Ì (by simp[ieq]; omega)];exact Ã (i:=0) rfl _
def CN {b:ò} (e:b.2.1.length<=1000000) (id:Int):kj b id=some (match b.2.1.findIdx? (fun g=>g.1==id) with|some j=>(j:Int)|none=>-1):=by
 unfold kj Zy;refine Eq.trans (iR b.2.1 (fun g=>g.1==id) (fun z=>some z) (some (-1)) (fun i a hi ha d=>?_) (fun d=>?_)) ?_
 ·try dsimp only
  unfold uB;rw[Í hi,Ã ha,È hi (by omega),é]
 ·try dsimp only
  unfold uB;rw[Ô]
 ·cases List.findIdx? (fun g:è=>g.1==id) b.2.1<;>rfl
def rk {b:ò} {id:Int}:(∃j g,b.2.1.findIdx? (fun g=>g.1==id)=some j/\b.2.1[j]?=some g/\í b id=some g)\/(b.2.1.findIdx? (fun g=>g.1==id)=none/\í b id=none):=by
 unfold í;rw[ML]
 cases h:b.2.1.findIdx? (fun g=>g.1==id) with
 |none=>exact .inr ⟨rfl,rfl⟩
 |some j =>
  obtain⟨a,_,_⟩:=dM.1 h;exact .inl ⟨j,_,rfl,cV a,cV a⟩
def ň (b:ò) (id day:Int):Int:=match í b id with|some g=>if day<g.2.1 then 4 else 0|none=>5
def BW {b:ò} (d:b.2.1.length<=1000000) (id day:Int):jG b id day=some (ň b id day):=by
 unfold jG T5 ň;rw[CN d,À];rcases rk (b:=b) (id:=id) with⟨j,g,a,h2,e⟩|⟨a,h2⟩
 ·rw[a,e]
  try dsimp only
  rw[Ì (by simp[ilt]),Ã h2,é]
  by_cases hd:day<g.2.1
  ·rw[if_pos (by simpa[ilt] using hd),if_pos hd]
  ·rw[if_neg (by simpa[ilt] using hd),if_neg hd]
 ·rw[a,h2];rfl
def xv {b:ò} (hi:b.2.1.Pairwise fun a b=>a.1<b.1) (id day:Int):ň b id day=mM (ś b) id day:=by
 unfold ň mM;rw[vM hi]
 cases í b id<;>rfl
def M5 {b:ò} (q:b.2.2.2.1.length<=1000000) (id day:Int):ki b id day=some (match ŗ b id day with|some l=>(l,true)|none=>((0,(0,0),0),false)):=by
 unfold ki Zv;refine Ig b.2.2.2.1 (fun _=>((0:Int),(0:Int),(0:Int),(0:Int))) _ (fun i=>∀l∈b.2.2.2.1.take i,(l.1==id&&inP day l.2.1.1 l.2.1.2)=false) rfl (by simp) (fun i a hi ha g n=>?_) (fun g n=>?_)
 ·try dsimp only
  unfold uu;rw[Í hi,Ã ha]
  by_cases f:(a.1==id&&inP day a.2.1.1 a.2.1.2)=true
  ·refine .inl ?_;have d:=f;simp only[inP,cW,beq_iff_eq,decide_eq_true_eq] at d;rw[Ð (by simp[ieq,d.1]),Ð (by simp[ile,d.2.1]),Ð (by simp[ile,d.2.2])]
   have o:ŗ b id day=some a:=by
    unfold ŗ;obtain⟨k,rfl⟩:=List.getElem?_eq_some_iff.1 ha;rw[List.find?_eq_some_iff_getElem];refine⟨f,i,k,rfl,fun j r=>?_⟩;have:=g b.2.2.2.1[j] (List.mem_iff_getElem.2 ⟨j,by rw[List.length_take]; omega,by rw[List.getElem_take]⟩);simp[this]
   rw[o]
  ·refine .inr ⟨fun l e=>?_,?_⟩
   ·rw[take_succ ha,de,dh] at e;rcases e with e|rfl
    ·exact g l e
    ·simpa using f
   ·have d:=f;simp only[inP,cW,beq_iff_eq,decide_eq_true_eq] at d
    by_cases h:a.1=id
    ·by_cases h2:a.2.1.1<=day
     ·rw[Ð (by simp[ieq,h]),Ð (by simp[ile,h2]),Ì (by simp[ile]; exact Int.lt_of_not_ge fun p=>d ⟨h,h2,p⟩),È hi (by omega)]
     ·rw[Ð (by simp[ieq,h]),Ì (by simp[ile]; omega),È hi (by omega)]
    ·rw[Ì (by simp[ieq,h]),È hi (by omega)]
 ·try dsimp only
  unfold uu;rw[Ô]
  have:ŗ b id day=none:=by
   unfold ŗ;rw[List.find?_eq_none];intro l e;have:=g l (by rw[List.take_length]; exact e);simp[this]
  rw[this]
def amv {b:ò} (f:b.2.2.1.length<=1000000) (id day:Int):II b id day=some (Lh b id day):=by
 unfold II Zo;refine Eq.trans (ù b.2.2.1 (fun u=>u.1==id&&u.2==day) (fun _=>some true) (some true) (some false) (fun _=>rfl) (fun i a hi ha e=>?_) (fun e=>?_)) ?_
 ·try dsimp only
  unfold un;rw[Í hi,Ã ha,Ã ha,È hi (by omega)]
  cases d:(a.1==id) with
  |false=>have:ieq a.1 id=false:=d; simp[this]
  |true =>
   have:ieq a.1 id=true:=d;rw[this]
   cases h2:(a.2==day) with
   |false=>have:ieq a.2 day=false:=h2; simp[this]
   |true=>have:ieq a.2 day=true:=h2; simp[this]
 ·try dsimp only
  unfold un;rw[Ô]
 ·unfold Lh
  cases b.2.2.1.any _<;>rfl
def akv (a b:Nat):Cy a b=some ((Nat.gcd a b:Nat):Int):=by
 unfold Cy adM;refine ï (fun x:Int×Int=>∃c d:Nat,x=((c:Int),(d:Int))/\Nat.gcd c d=Nat.gcd a b) (fun x=>x.2.toNat) ?_ ⟨a,b,rfl,rfl⟩;rintro x ⟨c,d,rfl,e⟩
 cases d with
 |zero =>
  refine .inl fun f=>?_;rw[Nat.gcd_zero_right] at e;unfold xT;simp[e,ine]
 |succ d =>
  refine .inr ⟨(((d+1:Nat):Int),((c % (d+1):Nat):Int)),⟨d+1,c % (d+1),rfl,?_⟩,?_,fun f=>?_⟩
  ·rw[<-e,iv c (d+1),Nat.gcd_rec (d+1) c,iv]
  ·have:=g9 c (gX d);simp only[dj];omega
  ·unfold xT
   have g:ine ((d+1:Nat):Int) 0=true:=by simp[ine]; omega
   have h2:oQ ((d+1:Nat):Int) 0=false:=by simp[oQ]; omega
   simp only[g,Ð Ì h2];congr 1
def akx {n:Int} (h : -9223372036854775807<=n/\n<=9223372036854775807):IL n=some (n.natAbs:Int):=by
 unfold IL adO
 by_cases a:n<0
 ·rw[Ð (by simpa[ilt] using a),Ï (by omega) (by omega)];congr 1;omega
 ·rw[Ì (by simpa[ilt] using a)];congr 1;omega
def akq (r:Int×Int):Cw r=some (KC r):=by
 unfold Cw Ub KC
 by_cases d:1<=r.2
 ·rw[Ì (by simp[ilt]; omega)]
  by_cases h2:r.2<=2147483647
  ·rw[Ì (by simp[igt]; omega)]
   by_cases g:r.1 < -2147483647
   ·rw[Ð (by simp[ilt]; omega)]
    have:¬((r.1.natAbs:Int)<=2147483647):=by omega
    simp[this]
   ·rw[Ì (by simp[ilt]; omega)]
    by_cases f:2147483647<r.1
    ·rw[Ð (by simp[igt]; omega)]
     have:¬((r.1.natAbs:Int)<=2147483647):=by omega
     simp[this]
    ·rw[Ì (by simp[igt]; omega),akx ⟨by omega,by omega⟩,À]
     have a:r.2=((r.2.natAbs:Nat):Int):=by omega
     have e:((r.1.natAbs:Int)<=2147483647):=by omega
     rw[a,akv,À,<-a];congr 1;rw[eI];simp only[ieq,beq_iff_eq,d,h2,e,decide_true,eD,decide_eq_true_eq];omega
  ·rw[Ð (by simp[igt]; omega)];simp[h2]
 ·rw[Ð (by simp[ilt]; omega)];simp[d]
def ako (g:è):Cu g=some (sw g):=by
 unfold Cu T4 sw;rw[akq,sR,sR,XD,sR,yN,sR];simp only[À]
 have e:igt g.2.2.2.2.1.2 100=!decide (g.2.2.2.2.1.2<=100):=by
  rw[eI]; simp[igt]
 rw[e]
 cases KC g.2.2.2.2.1<;>cases inP g.2.2.2.2.1.1 (-1000) 1000<;>cases decide (g.2.2.2.2.1.2<=100)<;>cases inP g.1 1 1099511627776<;>cases Da g.2.1<;>cases inP g.2.2.1 1 1125899906842624<;>cases ks g.2.2.2.1 (-1073741824) 1073741824<;>rfl
def abo {l:CK Int}:∀(m:CK Int) (j:Nat) (x:Bool),ė (zi l) j m=some x->x=false:=by
 intro m
 induction m with
 |nil=>intro j x h; cases h
 |cons a m e =>
  intro j x h;unfold ė at h
  cases d:zi l j a with
  |none=>rw[d] at h; exact e _ _ h
  |some y =>
   rw[d] at h;cases h;unfold zi at d
   split at d
   ·cases d; rfl
   ·split at d
    ·cases d; rfl
    ·cases d
def aeT {l:CK Int} (g:l.length<=1000000):Bz l=some (vc l):=by
 unfold Bz Zs;refine Eq.trans (iQ l (zi l) some (some (decide (l.length<=6))) (fun i a hi ha e=>?_) (fun e=>?_)) ?_
 ·try dsimp only
  unfold ur;rw[Í hi,Ã ha,sR,À];unfold zi
  cases inP a 1 1099511627776 with
  |false=>rfl
  |true =>
   simp only[dP,æ,dp,if_false];rcases fD i with h0|h0
   ·subst h0
    have:igt ((0:Nat):Int) 0=false:=by simp[igt]
    rw[Ì this,È hi (by omega)];simp[mi]
   ·obtain⟨q,d⟩:=vB hi h0
    have f:igt (i:Int) 0=true:=by simp[igt]; omega
    rw[Ð f,Ã ha,QJ h0 (by omega),Iq h0 d];simp only[mi,h0,decide_true,Bool.true_and,d,Option.any_some];unfold ile
    cases h2:decide (a<=q) with
    |true=>rfl
    |false =>
     rw[æ,È hi (by omega)];rfl
 ·try dsimp only
  unfold ur;rw[Ô,Î];simp[ile];omega
 ·unfold vc
  cases h:ė (zi l) 0 l with
  |none=>rfl
  |some x=>rw[abo _ _ _ h]
def akm {c:Cmp} (d:c.2.2.1.length<=1000000) (a:c.2.2.2.1.length<=1000000):Cs c=some (Jt c):=by
 unfold Cs T1 Jt;rw[aeT d,aeT a,sR,XD,sR,sR,yN];simp only[À]
 cases vc c.2.2.1<;>cases vc c.2.2.2.1<;>cases inP c.1 1 1099511627776<;>cases Da c.2.1<;>cases inP c.2.2.2.2.1 (-1125899906842624) 1125899906842624<;>cases inP c.2.2.2.2.2.1 0 1073741824<;>cases ks c.2.2.2.2.2.2 (-10000) 10000<;>rfl
def XK (b:ò) (u:Int×Int):Int:=if !Da u.2 then 1 else ň b u.1 u.2
def acP {b:ò} (hi:b.2.1.Pairwise fun a b=>a.1<b.1) (u:Int×Int):XK b u=aba (ś b) u.1 u.2:=by
 unfold XK aba;rw[xv hi]
def Kc (e:Int):BY Int:=if e=0 then none else some e
def J5 {α:Type} (E:Nat->α->Int):∀(k:Nat) (l:CK α),ė (fun i a=>Kc (E i a)) k l=(l.mapIdx fun i a=>E (i+k) a).find? (fun e=>e != 0)
 |_,[]=>rfl
 |k,a::t=>by
  unfold ė;rw[J5 E (k+1) t,List.mapIdx_cons,List.find?_cons];unfold Kc
  by_cases h:E k a=0
  ·simp only[h,if_true,dH];have:((0:Int) != 0)=false:=rfl;rw[this]
   have e:(fun(i:Nat) (a:α)=>E (i+(k+1)) a)=fun i a=>E (i+1+k) a:=by
    funext i a;congr 1;omega
   rw[e]
  ·simp only[h,if_false,dH]
   have:(E k a != 0)=true:=by simpa using h
   rw[this]
def Qr {α:Type} (E:Nat->α->Int) (l:CK α):ė (fun i a=>Kc (E i a)) 0 l=(l.mapIdx E).find? (fun e=>e != 0):=J5 E 0 l
def Qs {α:Type} (E:α->Int) (l:CK α):ė (fun _ a=>Kc (E a)) 0 l=(l.map E).find? (fun e=>e != 0):=by
 rw[J5 (fun _ a=>E a) 0 l];congr 1
 exact iq (by simp) fun i d h2=>by simp
def amr {b:ò} (f:iX b):IG b=some (((b.2.2.1.map (XK b)).find? (fun e=>e != 0)).getD 0):=by
 have h:=f.gauges;have h2:=f.uses;unfold IG Zj;refine Eq.trans (iQ b.2.2.1 (fun _ u=>Kc (XK b u)) some (some 0) (fun i a hi ha g=>?_) (fun g=>?_)) ?_
 ·try dsimp only
  unfold ud;rw[Í hi,Ã ha,XD,À];unfold XK Kc
  cases Da a.2 with
  |false=>rfl
  |true =>
   rw[Ì (by rfl),Ã ha,Ã ha,BW (b:=((b.1.1,b.1.2),b.2.1,b.2.2.1,b.2.2.2.1,b.2.2.2.2.1,b.2.2.2.2.2)) (by simp only; omega),À,È hi (by omega)];have e:ň ((b.1.1,b.1.2),b.2.1,b.2.2.1,b.2.2.2.1,b.2.2.2.2.1,b.2.2.2.2.2) a.1 a.2=ň b a.1 a.2:=rfl;rw[e]
   by_cases d:ň b a.1 a.2=0
   ·rw[Ì (by simp[ine,d])]; simp[d]
   ·rw[Ð (by simp[ine,d])]; simp[d]
 ·try dsimp only
  unfold ud;rw[Ô]
 ·rw[Qs]
  cases List.find? (fun e=>e != 0) (b.2.2.1.map (XK b))<;>rfl
def SN (b:ò) (i:Nat) (l:Jb):Int :=
 if !ks l.2.1 0 20000 then 1 else if !inP l.2.2 0 1048576 then 1 else if ň b l.1 l.2.1.1 != 0 then ň b l.1 l.2.1.1 else
 if (b.2.2.2.1.take i).any (fun x=>x.1==l.1&&(decide (x.2.1.1<=l.2.1.2)&&decide (l.2.1.1<=x.2.1.2))) then 9 else
 if b.2.2.1.any (fun u=>u.1==l.1&&inP u.2 l.2.1.1 l.2.1.2) then 9 else 0
def aiA {b:ò} (hi:b.2.1.Pairwise fun a b=>a.1<b.1) (i:Nat) (l:Jb):SN b i l=Mh b (ś b) i l:=by
 unfold SN Mh;rw[xv hi]
def akn {b:ò} (y:iX b):Ct b=some (((b.2.2.2.1.mapIdx (SN b)).find? (fun e=>e != 0)).getD 0):=by
 have D:=y.gauges;have h2:=y.uses;have C:=y.loans;unfold Ct T2;refine Eq.trans (iQ b.2.2.2.1 (fun i l=>Kc (SN b i l)) some (some 0) (fun i l hi z k=>?_) (fun k=>?_)) ?_
 ·try dsimp only
  unfold qB;rw[Í hi,Ã z,yN,À];unfold SN Kc
  cases ks l.2.1 0 20000 with
  |false=>rfl
  |true =>
  rw[Ì (by rfl),sR,À]
  cases inP l.2.2 0 1048576 with
  |false=>rfl
  |true =>
  rw[Ì (by rfl),BW (b:=((b.1.1,b.1.2),b.2.1,b.2.2.1,b.2.2.2.1,b.2.2.2.2.1,b.2.2.2.2.2)) (by simp only; omega),À];have e:ň ((b.1.1,b.1.2),b.2.1,b.2.2.1,b.2.2.2.1,b.2.2.2.2.1,b.2.2.2.2.2) l.1 l.2.1.1=ň b l.1 l.2.1.1:=rfl;rw[e]
  by_cases q:ň b l.1 l.2.1.1=0
  ·rw[Ì (by simp[ine,q])]
   have p:(b.2.2.2.1.take i).length=i:=by rw[dk]; omega
   have f:Ë (fun(s:Int) n=>mZ b.2.2.1 l.1 l.2.1.1 l.2.1.2 s (fun t=>n t) (fun r=>(some r:BY Int)) (fun _=>ck ((i:Int)+(1:Int)) fun v=>k v)) (0:Int)=if b.2.2.1.any (fun u=>u.1==l.1&&inP u.2 l.2.1.1 l.2.1.2) then some 9 else k ((i:Int)+1):=by
    refine ù b.2.2.1 _ (fun _=>some 9) (some 9) (k ((i:Int)+1)) (fun _=>rfl) (fun j a h ha d=>?_) (fun d=>?_)
    ·try dsimp only
     unfold mZ;rw[Í h,Ã ha,Ã ha,sR,À,È h (by omega)]
     cases o:(a.1==l.1) with
     |false=>have:ieq a.1 l.1=false:=o; simp[this]
     |true =>
      have:ieq a.1 l.1=true:=o;rw[this]
      cases inP a.2 l.2.1.1 l.2.1.2<;>simp
    ·try dsimp only
     unfold mZ;rw[Ô];dsimp only;rw[È hi (by omega)]
   try dsimp only
   rw[f];refine dJ (ù (b.2.2.2.1.take i) (fun x=>x.1==l.1&&(decide (x.2.1.1<=l.2.1.2)&&decide (l.2.1.1<=x.2.1.2))) (fun _=>some 9) (some 9) (if b.2.2.1.any (fun u=>u.1==l.1&&inP u.2 l.2.1.1 l.2.1.2) then some 9 else k ((i:Int)+1)) (fun _=>rfl) (fun j a h ha d=>?_) (fun d=>?_)) ?_
   ·try dsimp only
    unfold qA;rw[p] at h
    have g:b.2.2.2.1[j]?=some a:=by rwa [List.getElem?_take_of_lt h] at ha
    rw[Ð (show ilt (j:Int) (i:Int)=true by simp[ilt]; omega),Ã g,Ã g,Ã g,È h (by omega)]
    cases o:(a.1==l.1) with
    |false=>have:ieq a.1 l.1=false:=o; simp[this]
    |true =>
     have:ieq a.1 l.1=true:=o;rw[this]
     cases B:decide (a.2.1.1<=l.2.1.2)<;>cases A:decide (l.2.1.1<=a.2.1.2)<;>simp[ile,B,A,é]<;>simp_all
   ·try dsimp only
    unfold qA;rw[p,Ì (show ilt (i:Int) (i:Int)=false by simp[ilt])]
   ·simp only[q]
    cases List.any (b.2.2.2.1.take i) _<;>cases b.2.2.1.any _<;>rfl
  ·rw[Ð (by simp[ine,q])]; simp[q]
 ·try dsimp only
  unfold qB;rw[Ô]
 ·rw[Qr (SN b)]
  cases(b.2.2.2.1.mapIdx (SN b)).find? (fun e=>e != 0)<;>rfl
def Dj (b:ò) (c:Cmp):Int :=
 if (c.2.2.1++c.2.2.2.1).any (fun id=>ň b id c.2.1==5) then 5 else
 if (c.2.2.1++c.2.2.2.1).any (fun id=>ň b id c.2.1 != 0) then 4 else
 if (c.2.2.1++c.2.2.2.1).any (fun id=>(ŗ b id c.2.1).isSome) then 9 else
 if 1<(Þ c.2.2.1 c.2.2.2.1).length then 1 else if 1<(Þ c.2.2.2.1 c.2.2.1).length then 1 else
 if (Þ c.2.2.1 c.2.2.2.1).length+(Þ c.2.2.2.1 c.2.2.1).length=0 then 1 else 0
def ak8 {b:ò} (hi:b.2.1.Pairwise fun a b=>a.1<b.1) (c:Cmp):Dj b c=vC b (ś b) c:=by
 unfold Dj vC;simp only[xv hi]
 by_cases d:(c.2.2.1++c.2.2.2.1).any (fun id=>mM (ś b) id c.2.1==5)=true
 ·rw[if_pos d,if_pos d]
 ·rw[if_neg d,if_neg d]
  have e:(c.2.2.1++c.2.2.2.1).any (fun id=>mM (ś b) id c.2.1 != 0)=(c.2.2.1++c.2.2.2.1).any (fun id=>mM (ś b) id c.2.1==4):=by
   rw[eI,dv,dv];constructor
   ·rintro⟨x,g,h⟩;refine⟨x,g,?_⟩;rcases EU (ś b) x c.2.1 with f|f|f
    ·rw[f] at h; cases h
    ·rw[f]; rfl
    ·exact absurd (dv.2 ⟨x,g,by rw[f]; rfl⟩) d
   ·rintro⟨x,g,h⟩;refine⟨x,g,?_⟩;rw[eq_of_beq h]; rfl
  rw[e]
def abf {b:ò} {id d:Int}:(ň b id d==5)=(b.2.1.findIdx? (fun g=>g.1==id)).isNone:=by
 unfold ň;rcases rk (b:=b) (id:=id) with⟨j,g,a,h2,e⟩|⟨a,h2⟩
 ·rw[a,e]
  try dsimp only
  split<;>rfl
 ·rw[a,h2]; rfl
set_option maxHeartbeats 1000000 in
def aaW {b:ò} (A:iX b) {c:Cmp} (H:c.2.2.1.length<=1000) (G:c.2.2.2.1.length<=1000):kT b c=some (Dj b c):=by
 have J:=A.gauges;have I:=A.loans;unfold kT xP Dj;rw[Ñ (by omega),Am.iff_true,List.nil_append,Ñ (by omega),Am.iff_true]
 have C:(c.2.2.1++c.2.2.2.1).length<=2000:=by rw[cZ]; omega
 generalize F:c.2.2.1++c.2.2.2.1=P at C
 have r:∀{i:Nat},i<P.length->((ile (0:Int) (i:Int))&&(ilt (i:Int) (î P)))=true:=fun {i} hi=>by simp[ile,ilt,î]; omega
 have p:Ë (fun(n:Int) h=>Θ b.1.1 b.1.2 b.2.1 b.2.2.1 b.2.2.2.1 b.2.2.2.2.1 b.2.2.2.2.2 c.2.1 P n (fun o=>h o) (fun l=>some l) (fun _=>Å (lO c.2.2.1 c.2.2.2.1) fun f=>Å (lO c.2.2.2.1 c.2.2.1) fun d=>ifb (igt (Õ f) (1:Int)) (some (1:Int)) (ifb (igt (Õ d) (1:Int)) (some (1:Int)) (ck ((Õ f)+(Õ d)) fun q=>ifb (ieq q (0:Int)) (some (1:Int)) (some (0:Int)))))) (0:Int) =
  some (if P.any (fun id=>(ŗ b id c.2.1).isSome) then 9 else if 1<(Þ c.2.2.1 c.2.2.2.1).length then 1 else if 1<(Þ c.2.2.2.1 c.2.2.1).length then 1 else if (Þ c.2.2.1 c.2.2.2.1).length+(Þ c.2.2.2.1 c.2.2.1).length=0 then 1 else 0):=by
  refine dJ (ù P (fun id=>(ŗ b id c.2.1).isSome) (fun _=>some 9) (some 9) (some (if 1<(Þ c.2.2.1 c.2.2.2.1).length then 1 else if 1<(Þ c.2.2.2.1 c.2.2.1).length then 1 else if (Þ c.2.2.1 c.2.2.2.1).length+(Þ c.2.2.2.1 c.2.2.1).length=0 then 1 else 0)) (fun _=>rfl) (fun i a hi ha s=>?_) (fun s=>?_)) ?_
  ·try dsimp only
   unfold Θ;rw[Í hi,å (r hi),Ą ha,M5 (b:=((b.1.1,b.1.2),b.2.1,b.2.2.1,b.2.2.2.1,b.2.2.2.2.1,b.2.2.2.2.2)) (by simp only; omega),À,È hi (by omega)];have e:ŗ ((b.1.1,b.1.2),b.2.1,b.2.2.1,b.2.2.2.1,b.2.2.2.2.1,b.2.2.2.2.2) a c.2.1=ŗ b a c.2.1:=rfl;rw[e]
   cases ŗ b a c.2.1<;>rfl
  ·try dsimp only
   unfold Θ;rw[Ô];dsimp only;have E:=sq c.2.2.1 c.2.2.2.1;have D:=sq c.2.2.2.1 c.2.2.1;rw[XC (by omega) (by omega),À,XC (by omega) (by omega),À];simp only[Î]
   by_cases z:1<(Þ c.2.2.1 c.2.2.2.1).length
   ·rw[Ð (by simp[igt]; omega),if_pos z]
   ·rw[Ì (by simp[igt]; omega),if_neg z]
    by_cases y:1<(Þ c.2.2.2.1 c.2.2.1).length
    ·rw[Ð (by simp[igt]; omega),if_pos y]
    ·rw[Ì (by simp[igt]; omega),if_neg y,Ï (by omega) (by omega)]
     by_cases x:(Þ c.2.2.1 c.2.2.2.1).length+(Þ c.2.2.2.1 c.2.2.1).length=0
     ·rw[Ð (by simp[ieq]; omega),if_pos x]
     ·rw[Ì (by simp[ieq]; omega),if_neg x]
  ·cases P.any _<;>rfl
 have k:Ë (fun(u:Int) t=>jx b.1.1 b.1.2 b.2.1 b.2.2.1 b.2.2.2.1 b.2.2.2.2.1 b.2.2.2.2.2 c.2.1 P u (fun v=>t v) (fun B=>some B) (fun _=>Ë (fun(n:Int) h=>Θ b.1.1 b.1.2 b.2.1 b.2.2.1 b.2.2.2.1 b.2.2.2.2.1 b.2.2.2.2.2 c.2.1 P n (fun o=>h o) (fun l=>some l) (fun _=>Å (lO c.2.2.1 c.2.2.2.1) fun f=>Å (lO c.2.2.2.1 c.2.2.1) fun d=>ifb (igt (Õ f) (1:Int)) (some (1:Int)) (ifb (igt (Õ d) (1:Int)) (some (1:Int)) (ck ((Õ f)+(Õ d)) fun q=>ifb (ieq q (0:Int)) (some (1:Int)) (some (0:Int)))))) (0:Int))) (0:Int) =
  some (if P.any (fun id=>ň b id c.2.1 != 0) then 4 else if P.any (fun id=>(ŗ b id c.2.1).isSome) then 9 else if 1<(Þ c.2.2.1 c.2.2.2.1).length then 1 else if 1<(Þ c.2.2.2.1 c.2.2.1).length then 1 else if (Þ c.2.2.1 c.2.2.2.1).length+(Þ c.2.2.2.1 c.2.2.1).length=0 then 1 else 0):=by
  rw[p];refine dJ (ù P (fun id=>ň b id c.2.1 != 0) (fun _=>some 4) (some 4) (some (if P.any (fun id=>(ŗ b id c.2.1).isSome) then 9 else if 1<(Þ c.2.2.1 c.2.2.2.1).length then 1 else if 1<(Þ c.2.2.2.1 c.2.2.1).length then 1 else if (Þ c.2.2.1 c.2.2.2.1).length+(Þ c.2.2.2.1 c.2.2.1).length=0 then 1 else 0)) (fun _=>rfl) (fun i a hi ha s=>?_) (fun s=>?_)) ?_
  ·try dsimp only
   unfold jx;rw[Í hi,å (r hi),Ą ha,BW (b:=((b.1.1,b.1.2),b.2.1,b.2.2.1,b.2.2.2.1,b.2.2.2.2.1,b.2.2.2.2.2)) (by simp only; omega),À,È hi (by omega)];have e:ň ((b.1.1,b.1.2),b.2.1,b.2.2.1,b.2.2.2.1,b.2.2.2.2.1,b.2.2.2.2.2) a c.2.1=ň b a c.2.1:=rfl;rw[e,é]
  ·try dsimp only
   unfold jx;rw[Ô]
  ·cases P.any (fun id=>ň b id c.2.1 != 0)<;>rfl
 rw[k];refine dJ (ù P (fun id=>ň b id c.2.1==5) (fun _=>some 5) (some 5) (some (if P.any (fun id=>ň b id c.2.1 != 0) then 4 else if P.any (fun id=>(ŗ b id c.2.1).isSome) then 9 else if 1<(Þ c.2.2.1 c.2.2.2.1).length then 1 else if 1<(Þ c.2.2.2.1 c.2.2.1).length then 1 else if (Þ c.2.2.1 c.2.2.2.1).length+(Þ c.2.2.2.1 c.2.2.1).length=0 then 1 else 0)) (fun _=>rfl) (fun i a hi ha s=>?_) (fun s=>?_)) ?_
 ·try dsimp only
  unfold l5;rw[Í hi,å (r hi),Ą ha,CN (b:=((b.1.1,b.1.2),b.2.1,b.2.2.1,b.2.2.2.1,b.2.2.2.2.1,b.2.2.2.2.2)) (by simp only; omega),À,È hi (by omega),abf]
  try dsimp only
  cases List.findIdx? (fun g:è=>g.1==a) b.2.1 with
  |none=>rfl
  |some j =>
   have:ilt (j:Int) 0=false:=by simp[ilt]
   rw[Ì this]; rfl
 ·try dsimp only
  unfold l5;rw[Ô]
 ·cases P.any (fun id=>ň b id c.2.1==5)<;>rfl
structure Pre (b:ò):Prop where
 size:iX b
 gauge:∀g∈b.2.1,sw g=true
 cmp:∀c∈b.2.2.2.2.1,Da c.2.1=true/\(Þ c.2.2.1 c.2.2.2.1).length<=1/\(Þ c.2.2.2.1 c.2.2.1).length<=1
 look:∀n∈b.2.2.2.2.2,Da n.2=true
def YL {c:Cmp} (h:Jt c=true):Da c.2.1=true:=by
 have:=((Ŝ c).1 h).2.1;simp[Da,inP,this.1,this.2]
def ţ.pre {b:ò} (h:ţ b):Pre b :=
 ⟨h.size,h.gauge,fun c a=>⟨YL (h.nums a),(h.lefts a).1,(h.lefts a).2.1⟩,fun n d=>(by have:=(XL h (h.looks n d)).1; simp[Da,inP,this.1,this.2])⟩
def VJ {a b:CK Int} (h:(Þ a b).length<=1) {id:Int} (h0:id≠0):Lm a b=id↔id∈a/\id∉b:=by
 rw[<-lM];unfold Lm
 cases d:Þ a b with
 |nil =>
  simp only[List.head?_nil,il,iu,iff_false];exact fun e=>h0 e.symm
 |cons x t =>
  have:t=[]:=by
   rw[d] at h;simp only[di] at h;exact dD.1 (by omega)
  subst this;simp only[List.head?_cons,fc,dh];exact eq_comm
def Mq (b:ò) (g:è) (d:Int):Bool :=
 g.2.1==d||b.2.2.2.2.1.any (fun c=>c.2.1==d&&(Lm c.2.2.1 c.2.2.2.1==g.1||Lm c.2.2.2.1 c.2.2.1==g.1))||b.2.2.2.2.2.any (fun n=>n.1==g.1&&n.2==d)
def amu {b:ò} (p:iX b) (g:è) (d:Int):IH b g d=some (Mq b g d):=by
 have f:=p.compares;have h2:=p.looks;unfold IH Zn Mq
 cases q:(g.2.1==d) with
 |true =>
  have:ieq g.2.1 d=true:=q;rw[Ð this];simp
 |false =>
  have:ieq g.2.1 d=false:=q;rw[Ì this]
  have e:Ë (fun(k:Int) h=>pr d b.2.2.2.2.2 g.1 k (fun l=>h l) (fun j=>some j) (fun _=>some false)) (0:Int)=some (b.2.2.2.2.2.any (fun n=>n.1==g.1&&n.2==d)):=by
   refine dJ (ù b.2.2.2.2.2 (fun n=>n.1==g.1&&n.2==d) (fun _=>some true) (some true) (some false) (fun _=>rfl) (fun i a hi ha o=>?_) (fun o=>?_)) ?_
   ·try dsimp only
    unfold pr;rw[Í hi,Ã ha,Ã ha,È hi (by omega)]
    cases f:(a.1==g.1) with
    |false=>have:ieq a.1 g.1=false:=f; simp[this]
    |true =>
     have:ieq a.1 g.1=true:=f;rw[this]
     cases h2:(a.2==d) with
     |false=>have:ieq a.2 d=false:=h2; simp[this]
     |true=>have:ieq a.2 d=true:=h2; simp[this]
   ·try dsimp only
    unfold pr;rw[Ô]
   ·cases b.2.2.2.2.2.any _<;>rfl
  rw[e];refine dJ (ù b.2.2.2.2.1 (fun c=>c.2.1==d&&(Lm c.2.2.1 c.2.2.2.1==g.1||Lm c.2.2.2.1 c.2.2.1==g.1)) (fun _=>some true) (some true) (some (b.2.2.2.2.2.any (fun n=>n.1==g.1&&n.2==d))) (fun _=>rfl) (fun i a hi ha o=>?_) (fun o=>?_)) ?_
  ·have s:=p.piles a (dc ha)
   try dsimp only
   unfold uk;rw[Í hi,Ã ha,BV (by omega) (by omega),BV (by omega) (by omega),È hi (by omega)];simp only[À]
   cases f:(a.2.1==d) with
   |false=>have:ieq a.2.1 d=false:=f; simp[this]
   |true =>
    have:ieq a.2.1 d=true:=f;rw[this]
    cases h2:(Lm a.2.2.1 a.2.2.2.1==g.1) with
    |true=>have:ieq (Lm a.2.2.1 a.2.2.2.1) g.1=true:=h2; simp[this]
    |false =>
     have:ieq (Lm a.2.2.1 a.2.2.2.1) g.1=false:=h2;rw[this]
     cases r:(Lm a.2.2.2.1 a.2.2.1==g.1) with
     |true=>have:ieq (Lm a.2.2.2.1 a.2.2.1) g.1=true:=r; simp[this]
     |false=>have:ieq (Lm a.2.2.2.1 a.2.2.1) g.1=false:=r; simp[this]
  ·try dsimp only
   unfold uk;rw[Ô]
  ·cases b.2.2.2.2.1.any _<;>rfl
def ake {b:ò} (h:Pre b) {g:è} (n:g∈b.2.1) {d:Int}:Mq b g d=true↔d∈Û b g:=by
 have a:g.1≠0:=by
  have:=((wM g).1 (h.gauge g n)).2.2.2.1;omega
 rw[Ž];unfold Mq;simp only[Bool.or_eq_true,List.any_eq_true,Bool.and_eq_true,beq_iff_eq,or_assoc];refine or_congr eq_comm (or_congr ?_ Iff.rfl);constructor
 ·rintro⟨c,f,e,i⟩;obtain⟨_,k,j⟩:=h.cmp c f;refine⟨c,f,?_,e⟩;rw[VJ k a,VJ j a] at i;intro l;rw[eI,dV,dV] at l;rcases i with⟨x,y⟩|⟨x,y⟩
  ·exact y (l.1 x)
  ·exact y (l.2 x)
 ·rintro⟨c,f,i,e⟩;obtain⟨_,k,j⟩:=h.cmp c f;refine⟨c,f,e,?_⟩;rw[VJ k a,VJ j a]
  by_cases ha:g.1∈c.2.2.1
  ·by_cases hb:g.1∈c.2.2.2.1
   ·exact absurd (by rw[eI,dV,dV]; exact⟨fun _=>hb,fun _=>ha⟩) i
   ·exact .inl ⟨ha,hb⟩
  ·by_cases hb:g.1∈c.2.2.2.1
   ·exact .inr ⟨hb,ha⟩
   ·exact absurd (by rw[eI,dV,dV]; exact⟨fun x=>absurd x ha,fun x=>absurd x hb⟩) i
def nx (v:Int) (D:CK Int):Int:=D.foldl (fun m d=>if v<d then min m d else m) 20001
def ahT (v:Int) (D:CK Int) (d:Int):nx v (D++[d])=if v<d then min (nx v D) d else nx v D:=by
 unfold nx;rw[List.foldl_append];rfl
def VK (v:Int):∀D:CK Int,nx v D<=20001/\(∀d∈D,v<d->nx v D<=d)/\(nx v D=20001\/(nx v D∈D/\v<nx v D)):=by
 suffices H:∀(n:Nat) (D:CK Int),D.length=n->nx v D<=20001/\(∀d∈D,v<d->nx v D<=d)/\(nx v D=20001\/(nx v D∈D/\v<nx v D)) from fun D=>H _ D rfl
 intro n
 induction n with
 |zero =>
  intro D k;rw[dD.1 k];exact⟨dQ _,by simp,.inl rfl⟩
 |succ n j =>
  intro i f
  obtain⟨D,d,rfl⟩:∃D d,i=D++[d]:=by
   rcases List.eq_nil_or_concat i with rfl|⟨L,b,rfl⟩
   ·simp at f
   ·exact⟨L,b,by simp⟩
  obtain⟨l,h2,a⟩:=j D (by simpa using f);rw[ahT]
  by_cases hd:v<d
  ·rw[if_pos hd];refine⟨by omega,fun x e g=>?_,?_⟩
   ·rcases de.1 e with e|e
    ·have:=h2 x e g; omega
    ·rw[dh] at e; omega
   ·rcases Int.le_total (nx v D) d with h|h
    ·rw[Int.min_eq_left h];rcases a with a|a
     ·exact .inl a
     ·exact .inr ⟨by simp[a.1],a.2⟩
    ·rw[Int.min_eq_right h];exact .inr ⟨by simp,hd⟩
  ·rw[if_neg hd];refine⟨l,fun x e g=>?_,?_⟩
   ·rcases de.1 e with e|e
    ·exact h2 x e g
    ·rw[dh] at e; omega
   ·rcases a with a|a
    ·exact .inl a
    ·exact .inr ⟨by simp[a.1],a.2⟩
def anE {D:CK Int} (o:D.length<=1000000) (v:Int) (K:Int->BY (CK (Int×Int))) :
 Ë (fun(d:Int×Int) e=>m8 v D d.1 d.2 (fun g f=>e (g,f)) K) ((20001:Int),(0:Int))=K (nx v D):=by
 refine ï (fun x:Int×Int=>∃k:Nat,k<=D.length/\x=(nx v (D.take k),(k:Int))) (fun x=>D.length-x.2.toNat) ?_ ⟨0,by omega,rfl⟩;rintro x ⟨k,n,rfl⟩;rcases dl k D.length with a|l
 ·refine .inr ⟨(nx v (D.take (k+1)),((k+1:Nat):Int)),⟨k+1,a,rfl⟩,by simp only[Int.toNat_natCast]; omega,fun i=>?_⟩;have ha:D[k]?=some D[k]:=List.getElem?_eq_getElem a;unfold m8;have j:î D=((D.length:Nat):Int):=rfl;rw[Í a,j,Š a,Ą ha,take_succ ha,ahT]
  by_cases h:v<D[k]
  ·rw[Ð (by simpa[igt] using h),Š a,Ą ha,È a (by omega),if_pos h,WN];simp
  ·rw[Ì (by simpa[igt] using h),È a (by omega),if_neg h];simp
 ·have:k=D.length:=by omega
  subst this;refine .inl fun i=>?_;unfold m8;rw[Ô,List.take_length]
def agB (b:ò) (g:è) (D:CK Int) (v:Int):CK Int:=(X3 D).filter fun d=>decide (v<d)&&Mq b g d
def Q6 {b:ò} {g:è} {D:CK Int} (n:∀d∈D,d<=20000) (v:Int):agB b g D v=if nx v D<20001 then(if Mq b g (nx v D) then nx v D::agB b g D (nx v D) else agB b g D (nx v D)) else[]:=by
 obtain⟨o,h2,f⟩:=VK v D;refine Xs ((EI D).sublist gM) ?_ fun x=>?_
 ·split
  ·split
   ·rw[dG];refine⟨fun a ha=>?_,(EI D).sublist gM⟩;have:=(dW.1 ha).2;simp at this;omega
   ·exact(EI D).sublist gM
  ·exact List.Pairwise.nil
 ·have i:∀v x,x∈agB b g D v↔x∈D/\v<x/\Mq b g x=true:=by
   intro v x;unfold agB;rw[List.mem_filter,xw];simp
  rw[i]
  split
  ·rename_i k
   have j:nx v D∈D/\v<nx v D:=by
    rcases f with f|f
    ·omega
    ·exact f
   split
   ·rename_i ha;rw[df,i];constructor
    ·rintro⟨a,c,e⟩;have:=h2 x a c;rcases Int.lt_or_eq_of_le this with h|h
     ·exact .inr ⟨a,h,e⟩
     ·exact .inl h.symm
    ·rintro(rfl|⟨a,c,e⟩)
     ·exact⟨j.1,j.2,ha⟩
     ·exact⟨a,by omega,e⟩
   ·rename_i ha;rw[i];constructor
    ·rintro⟨a,c,e⟩;have:=h2 x a c;rcases Int.lt_or_eq_of_le this with h|h
     ·exact⟨a,h,e⟩
     ·rw[<-h] at e; exact absurd e ha
    ·rintro⟨a,c,e⟩;exact⟨a,by omega,e⟩
  ·rename_i l;constructor
   ·rintro⟨a,c,e⟩;have:=h2 x a c;have:=n x a;omega
   ·intro h; cases h
def amk {b:ò} {g:è} {D:CK Int} (v:Int):(agB b g D v).length<=D.length :=
 du (eA _ _) (F4 D)
set_option maxHeartbeats 1000000 in
def alO {b:ò} (f:iX b) {i:Nat} {g:è} (s:b.2.1[i]?=some g) {D:CK Int} (A:D.length<=1000000) (l:∀d∈D,d<=20000) {out:CK (Int×Int)} (E:out.length+D.length<=1000000000) (K:CK (Int×Int)->BY (CK (Int×Int))) :
 Ë (fun(j:Int×CK (Int×Int)) k=>m9 (i:Int) b.1.1 b.1.2 b.2.1 b.2.2.1 b.2.2.2.1 b.2.2.2.2.1 b.2.2.2.2.2 D j.1 j.2 (fun q p=>k (q,p)) K) ((-1:Int),out)=K (out++(agB b g D (-1)).map fun d=>((g.1,d):Int×Int)):=by
 refine ï (fun x:Int×CK (Int×Int)=>x.2++(agB b g D x.1).map (fun d=>((g.1,d):Int×Int))=out++(agB b g D (-1)).map fun d=>((g.1,d):Int×Int)) (fun x=>(20001-x.1).toNat) ?_ rfl;rintro⟨v,o⟩ h;simp only at h
 by_cases r:v<20001
 ·obtain⟨F,h2,n⟩:=VK v D
  have z:v<nx v D:=by
   rcases n with n|n
   ·omega
   ·exact n.2
  refine .inr ⟨(nx v D,if nx v D<20001/\Mq b g (nx v D)=true then o++[(g.1,nx v D)] else o),?_,by simp only; omega,fun t=>?_⟩
  ·rw[<-h];simp only;rw[Q6 l v]
   by_cases ha:nx v D<20001
   ·rw[if_pos ha]
    cases u:Mq b g (nx v D) with
    |true=>rw[if_pos ⟨ha,rfl⟩,if_pos rfl]; simp
    |false=>rw[if_neg (by simp),if_neg (by simp)]
   ·rw[if_neg (by omega),if_neg ha]
    have:agB b g D (nx v D)=[]:=by
     have e:=Q6 (b:=b) (g:=g) l (nx v D);rw[e,if_neg];obtain⟨C,B,a⟩:=VK (nx v D) D;rcases a with a|a
     ·omega
     ·have:=l _ a.1; omega
    rw[this]
  ·unfold m9;rw[Ð (by simpa[ilt] using r)];refine Eq.trans (anE A v _) ?_;dsimp only
   by_cases ha:nx v D<20001
   ·rw[Ð (by simpa[ilt] using ha),Ã s,amu (b:=((b.1.1,b.1.2),b.2.1,b.2.2.1,b.2.2.2.1,b.2.2.2.2.1,b.2.2.2.2.2)) ⟨f.gauges,f.uses,f.loans,f.compares,f.looks,f.piles⟩,À];have e:Mq ((b.1.1,b.1.2),b.2.1,b.2.2.1,b.2.2.2.1,b.2.2.2.2.1,b.2.2.2.2.2) g (nx v D)=Mq b g (nx v D):=rfl;rw[e]
    cases u:Mq b g (nx v D) with
    |true =>
     have y:o.length<=1000000000:=by
      have:=congrArg List.length h;simp only[cZ,dF] at this;have:=amk (b:=b) (g:=g) (D:=D) (-1);omega
     rw[Ð rfl,Ã s,Ñ (by simp only[dO]; omega),Am.iff_true,if_pos ⟨ha,rfl⟩]
    |false=>rw[Ì rfl,if_neg (by simp)]
   ·rw[Ì (by simpa[ilt] using ha),if_neg (by omega)]
 ·refine .inl fun t=>?_;unfold m9;rw[Ì (by simpa[ilt] using r)]
  have:agB b g D v=[]:=by
   rw[Q6 l,if_neg];obtain⟨C,B,a⟩:=VK v D;rcases a with a|a
   ·omega
   ·have:=l _ a.1; omega
  rw[this] at h;simp only[fu,dt] at h;rw[h]
def BT (b:ò):CK Int:=b.2.1.map (fun g=>g.2.1)++b.2.2.2.2.1.map (fun c=>c.2.1)++b.2.2.2.2.2.map fun n=>n.2
def acC {b:ò} (a:iX b):(BT b).length<=3000:=by
 have e:=a.gauges; have h2:=a.compares; have d:=a.looks;simp only[BT,cZ,dF];omega
def Pre.days {b:ò} (h:Pre b):∀d∈BT b,0<=d/\d<=20000:=by
 intro d hd;simp only[BT,de,dw] at hd;rcases hd with(⟨g,e,rfl⟩|⟨c,f,rfl⟩)|⟨n,a,rfl⟩
 ·have:=((wM g).1 (h.gauge g e)).2.2.2.2.1;omega
 ·have:=(h.cmp c f).1;simp only[Da,inP,cW,decide_eq_true_eq] at this;exact this
 ·have:=h.look n a;simp only[Da,inP,cW,decide_eq_true_eq] at this;exact this
def akg {b:ò} (h:Pre b) {g:è} (f:g∈b.2.1):agB b g (BT b) (-1)=Û b g:=by
 refine Xs ((EI _).sublist List.filter_sublist) (oy b g) fun x=>?_;unfold agB;rw[List.mem_filter,xw,Bool.and_eq_true,ake h f,decide_eq_true_eq];constructor
 ·exact fun a=>a.2.2
 ·intro a
  have d:x∈BT b:=by
   simp only[BT,de,dw];rcases Ž.1 a with e|⟨c,j,_,e⟩|⟨n,i,_,e⟩
   ·exact .inl (.inl ⟨g,f,e.symm⟩)
   ·exact .inl (.inr ⟨c,j,e⟩)
   ·exact .inr ⟨n,i,e⟩
  have:=h.days x d;exact⟨d,by omega,a⟩
def VT {α:Type} (f:α->Int) (l:CK α) (s:CK Int) (i:Nat) {a:α} (ha:l[i]?=some a):s++(l.take (i+1)).map f=(s++(l.take i).map f)++[f a]:=by
 rw[take_succ ha,fj,dg]; rfl
def xn {b:ò} (h:Pre b):iU b=some (Ò b):=by
 have o:=h.size.gauges; have h2:=h.size.compares; have l:=h.size.looks;have k:=acC h.size;unfold iU T7;refine ð b.2.1 (fun i=>(b.2.1.take i).map (fun g=>g.2.1)) _ rfl (fun i a hi ha e=>?_) (fun e=>?_)
 ·try dsimp only
  unfold qF;have:=VT (fun g:è=>g.2.1) b.2.1 [] i ha;simp only[List.nil_append] at this;rw[Í hi,Ã ha,Ñ (by simp only[List.length_map,List.length_take,List.length_singleton]; omega),Am.iff_true,È hi (by omega),this]
 ·try dsimp only
  unfold qF;rw[Ô,List.take_length];dsimp only;refine ð b.2.2.2.2.1 (fun i=>b.2.1.map (fun g=>g.2.1)++(b.2.2.2.2.1.take i).map (fun c=>c.2.1)) _ (by simp) (fun i a hi ha e=>?_) (fun e=>?_)
  ·try dsimp only
   unfold qE;rw[Í hi,Ã ha,Ñ (by simp only[List.length_append,List.length_map,List.length_take,List.length_singleton]; omega),Am.iff_true,È hi (by omega),VT (fun c:Cmp=>c.2.1) b.2.2.2.2.1 _ i ha]
  ·try dsimp only
   unfold qE;rw[Ô,List.take_length];dsimp only;refine ð b.2.2.2.2.2 (fun i=>b.2.1.map (fun g=>g.2.1)++b.2.2.2.2.1.map (fun c=>c.2.1)++(b.2.2.2.2.2.take i).map (fun n=>n.2)) _ (by simp) (fun i a hi ha e=>?_) (fun e=>?_)
   ·try dsimp only
    unfold qD;rw[Í hi,Ã ha,Ñ (by simp only[List.length_append,List.length_map,List.length_take,List.length_singleton]; omega),Am.iff_true,È hi (by omega),VT (fun n:Int×Int=>n.2) b.2.2.2.2.2 _ i ha]
   ·try dsimp only
    unfold qD;rw[Ô,List.take_length];dsimp only;rw[show b.2.1.map (fun g=>g.2.1)++b.2.2.2.2.1.map (fun c=>c.2.1)++b.2.2.2.2.2.map (fun n=>n.2)=BT b from rfl];refine ð b.2.1 (fun i=>(b.2.1.take i).flatMap fun g=>(Û b g).map fun d=>((g.1,d):Int×Int)) _ rfl (fun i g hi f e=>?_) (fun e=>?_)
    ·try dsimp only
     unfold qC;rw[Í hi]
     have j:((b.2.1.take i).flatMap fun g=>(Û b g).map fun d=>((g.1,d):Int×Int)).length<=2001000:=by
      have:=yu (fun g:è=>(Û b g).map fun d=>((g.1,d):Int×Int)) 2001 (fun g=>by rw[dF]; exact IX h.size g) (b.2.1.take i);rw[dk] at this;have:min i b.2.1.length*2001<=1000*2001:=dB _ (by omega);omega
     refine dJ (alO h.size f (by omega) (fun d hd=>(h.days d hd).2) (by omega) _) ?_;rw[È hi (by omega),akg h (dc f),take_succ f,eO];simp
    ·try dsimp only
     unfold qC;rw[Ô,List.take_length];rfl
def aju {k:Int×Int} (d:0<k.2) (m n:Int):0<amY (Gt k m) (Gt k n)↔k.1*n<k.1*m:=by
 obtain⟨g,q,_,p,o⟩:=B5 (n:=k.1*m) d;obtain⟨h,h0,_,l,h2⟩:=B5 (n:=k.1*n) d
 have key:(Gt k n).1*(Gt k m).2<(Gt k m).1*(Gt k n).2↔k.1*n<k.1*m:=by
  have i:(Gt k n).1*(Gt k m).2*((g:Int)*h)=k.1*n*k.2:=by
   show(pP (k.1*n) k.2).1*(pP (k.1*m) k.2).2*((g:Int)*h)=k.1*n*k.2
   calc _=((pP (k.1*n) k.2).1*h)*((pP (k.1*m) k.2).2*g):=by ac_rfl
    _=_:=by rw[<-l,<-o]
  have f:(Gt k m).1*(Gt k n).2*((g:Int)*h)=k.1*m*k.2:=by
   show(pP (k.1*m) k.2).1*(pP (k.1*n) k.2).2*((g:Int)*h)=k.1*m*k.2
   calc _=((pP (k.1*m) k.2).1*g)*((pP (k.1*n) k.2).2*h):=by ac_rfl
    _=_:=by rw[<-p,<-h2]
  have j:0<(g:Int)*h:=Int.mul_pos (by omega) (by omega);constructor
  ·intro a;have:=Int.mul_lt_mul_of_pos_right a j;rw[i,f] at this;exact Int.lt_of_mul_lt_mul_right this (by omega)
  ·intro a;have:=Int.mul_lt_mul_of_pos_right a d;rw[<-i,<-f] at this;exact Int.lt_of_mul_lt_mul_right this (by omega)
 rw[<-key];unfold amY
 by_cases e:Gt k m=Gt k n
 ·rw[if_pos e,e];omega
 ·rw[if_neg e]
  split
  ·omega
  ·split<;>omega
def afj {k:Int×Int} (d:0<k.2) {heat:Int×Int} (e:heat.1<=heat.2):VG k heat=if k.1<0 then(Gt k heat.2,Gt k heat.1) else(Gt k heat.1,Gt k heat.2):=by
 unfold VG
 by_cases a:k.1<0
 ·rw[if_pos a]
  by_cases f:heat.1=heat.2
  ·rw[f]
   split<;>rfl
  ·rw[if_pos ((aju d _ _).2 (Int.mul_lt_mul_of_neg_left (by omega) a))]
 ·rw[if_neg a,if_neg (fun h=>by
   have g:=(aju d _ _).1 h;have h2:=Int.mul_le_mul_of_nonneg_left e (show 0<=k.1 by omega)
   omega)]
def U9 {n d:Int} (hd:0<d) (k:n.natAbs<=2147483647) (f:d<=2147483647):sL n d=some (pP n d,0):=by
 obtain⟨g,h0,o,p,h2⟩:=B5 (n:=n) hd;have s:=(lT _).1 (Vo hd k f)
 have z:oQ d 0=false:=by simp[oQ]; omega
 have h:oQ (g:Int) 0=false:=by simp[oQ]; omega
 unfold sL Pz
 by_cases a:n=0
 ·subst a
  have e:pP 0 d=(0,1):=by
   unfold pP
   have:(Nat.gcd (0:Int).natAbs d.natAbs:Int)=d:=by simp; omega
   rw[this,Int.ediv_self (by omega)];simp
  rw[Ì (by rfl),Ì z,Ï (by simp) (by simp),Ì z,Int.tdiv_self (by omega),Ï (by omega) (by omega),Int.zero_tdiv,e];rfl
 ·rw[Ð (by simpa[ine] using a),Ì z];have a0:(Int.tmod n d).natAbs=n.natAbs % d.natAbs:=iz n d;have l:=g9 n.natAbs (show 0<d.natAbs by omega);rw[akx ⟨by omega,by omega⟩,À]
  have r:d=((d.natAbs:Nat):Int):=by omega
  have q:Cy ((Int.tmod n d).natAbs:Int) d=some (g:Int):=by
   have:=akv (Int.tmod n d).natAbs d.natAbs;rw[<-r] at this;rw[this,a0,o];congr 2;rw[iv n.natAbs,Nat.gcd_rec d.natAbs n.natAbs]
  rw[q,À,Ì h]
  have j:Int.tdiv n (g:Int)=(pP n d).1:=by
   conv=>lhs; rw[p]
   exact gN _ (by omega)
  have i:Int.tdiv d (g:Int)=(pP n d).2:=by
   conv=>lhs; rw[h2]
   exact gN _ (by omega)
  rw[j,i,Ï (by omega) (by omega),Ì h,Ï (by omega) (by omega),Ì (by simp[igt]; omega),Ì (by simp[ilt]; omega),Ì (by simp[igt]; omega)]
def aon {x y:Int×Int} (d:tf x 1000 100) (a:tf y 1000 100):MQ x y=some (subP x y,0):=by
 obtain⟨j,g,b3⟩:=Je d a;have i:=oC d.num (show -100<=y.2/\y.2<=100 from⟨by have:=a.pos; omega,a.den⟩);have h2:=oC a.num (show -100<=x.2/\x.2<=100 from⟨by have:=d.pos; omega,d.den⟩);have h:=a.num;unfold MQ adJ W7 adK W8 adN;rw[Ï (by omega) (by omega),À];dsimp only
 have e:(0-y.1)*x.2 = -(y.1*x.2):=by rw[Int.zero_sub,Int.neg_mul]
 rw[Ï (by omega) (by omega),e,Ï (by omega) (by omega),Ï (by omega) (by omega),Ï (by omega) (by omega)]
 have f:x.1*y.2 + -(y.1*x.2)=x.1*y.2-y.1*x.2:=by omega
 rw[f,U9 g (by omega) (by omega),À,À];rfl
def aku {k:Int×Int} (a:tf k 200000 10000) {n:Int} (d : -10000<=n/\n<=10000):yB (n,1) k=some (Gt k n,0):=by
 have b:=Jw a d;have p:=a.pos;have q:=a.den;unfold yB adL;have e:n*k.1=k.1*n:=Int.mul_comm _ _;dsimp only;rw[e,Int.one_mul,Ï (by omega) (by omega),Ï (by omega) (by omega),U9 (by omega) (by omega) (by omega),À];rfl
def akt {k:Int×Int} (d:tf k 200000 10000) {heat:Int×Int} (e:ks heat (-10000) 10000=true):Cx ((heat.1,1),(heat.2,1)) k=some (VG k heat,0):=by
 simp only[ks,Bool.and_eq_true,decide_eq_true_eq] at e;have f:=d.pos;rw[afj (by omega) e.2.1];unfold Cx Uc IK ZB;dsimp only;rw[aku d ⟨by omega,by omega⟩,aku d ⟨by omega,by omega⟩]
 by_cases a:k.1<0
 ·rw[Ð (by simpa[ilt] using a),if_pos a];rfl
 ·rw[Ì (by simpa[ilt] using a),if_neg a];rfl
def aaV {r:Int×Int} (h:KC r=true):wV r=some (r.1 / r.2):=by
 have:=(lT r).1 h;have e:=WX (n:=r.1) (d:=r.2) (by omega) (by omega);unfold wY PS at e;unfold wV Ue Qz ZA;rw[e];rfl
def aeS {r:Int×Int} (h:KC r=true):BA r=some (Kj r):=by
 have d:=(lT r).1 h;unfold BA ZF ab8 aih
 have z:oQ r.2 0=false:=by simp[oQ]; omega
 have t:=Int.mul_tdiv_add_tmod r.1 r.2
 have i : -4000000000<=Int.tdiv r.1 r.2/\Int.tdiv r.1 r.2<=4000000000:=by
  have:=Int.natAbs_tdiv_le_natAbs r.1 r.2;omega
 have g : -r.2<Int.tmod r.1 r.2/\Int.tmod r.1 r.2<r.2:=by
  have f:=iz r.1 r.2;have e:=g9 r.1.natAbs (show 0<r.2.natAbs by omega);omega
 rw[Ì z,Ï (by omega) (by omega),Ì z,é];unfold Kj
 by_cases a:0<Int.tmod r.1 r.2
 ·rw[if_pos (by simpa[igt] using a),Ï (by omega) (by omega),À];congr 1
  have : -r.1 / r.2 = -(Int.tdiv r.1 r.2)-1:=by
   refine(gC (by omega)).2 ⟨?_,?_⟩
   ·rw[Int.sub_mul,Int.neg_mul,f7 (Int.tdiv r.1 r.2)]; omega
   ·rw[Int.sub_mul,Int.neg_mul,f7 (Int.tdiv r.1 r.2)]; omega
  omega
 ·rw[if_neg (by simpa[igt] using a),À];congr 1
  have : -r.1 / r.2 = -(Int.tdiv r.1 r.2):=by
   refine(gC (by omega)).2 ⟨?_,?_⟩
   ·rw[Int.neg_mul,f7 (Int.tdiv r.1 r.2)]; omega
   ·rw[Int.neg_mul,f7 (Int.tdiv r.1 r.2)]; omega
  omega
def aoy (b:ò) (g d:Int):Bool×Int:=if Q5 b g [d]≠0 then(false,Q5 b g [d]) else((ŗ b g d).isSome,0)
def aox {b:ò} (h:In b) (g d:Int):CC b g d=some (aoy b g d):=by
 have a:=h.size.loans;unfold CC ad2 aoy;rw[akf h g (by simp),À]
 by_cases ha:Q5 b g [d]=0
 ·rw[Ì (by simp[ine,ha]),akc (by omega),À,if_neg (by simpa using ha)]
  cases ŗ b g d<;>rfl
 ·rw[Ð (by simp[ine,ha]),if_pos ha]
section
variable {ρ:Type}
def Cg {α σ:Type} (l:CK α) (g:Nat->σ) (r:BY ρ) {f:σ×Int->(σ×Int->BY ρ)->BY ρ} {k:σ} (P:Nat->Prop) (h0:g 0=k) (t:P 0)
 (h:∀(i:Nat) (a:α),i<l.length->l[i]?=some a->P i->∀d,f (g i,i) d=r\/(P (i+1)/\f (g i,i) d=d (g (i+1),(i:Int)+1)))
 (p:P l.length->∀d,f (g l.length,l.length) d=r):Ë f (k,0)=r:=by
 subst h0;refine sm (F:=fun _=>r) (fun x=>∃i:Nat,i<=l.length/\x=(g i,(i:Int))/\P i) (fun x=>l.length-x.2.toNat) (fun x o d q=>?_) ⟨0,dU _,rfl,t⟩;obtain⟨i,hi,rfl,n⟩:=o;rcases dl i l.length with e|s
 ·rcases h i _ e (cV e) n d with j|⟨j,h2⟩
  ·exact j
  ·rw[h2,q _ ⟨i+1,e,by simp,j⟩ (by simp; omega)]
 ·have:i=l.length:=by omega
  subst this;exact p n d
def Wz {l:CK Int} {f:Int->(Int->BY ρ)->BY ρ} {K k1:BY ρ} (h:∀(i:Nat) (a b:Int),l[i]?=some a->l[i+1]?=some b->∀d,f ((i:Int)+1) d=if b<=a then K else d ((i:Int)+1+1))
 (t:∀n:Nat,l.length<=n->∀d,f n d=k1):Ë f 1=if l.Pairwise (·<·) then k1 else K:=by
 have hb:=I5 (fun x:Int=>x) l;refine ï (fun x=>∃i:Nat,x=(i:Int)+1/\∀j a,j<=i->l[j]?=some a->mi (fun x=>x) l j a=false) (fun x=>l.length-x.toNat) ?_ ⟨0,rfl,fun j a k _=>?_⟩
 ·rintro x ⟨i,rfl,hi⟩;rcases dl (i+1) l.length with p|q
  ·have ha:l[i]?=some l[i]:=cV (by omega);have o:l[i+1]?=some l[i+1]:=cV p
   by_cases e:l[i+1]<=l[i]
   ·refine .inl fun d=>?_;rw[h i _ _ ha o,if_pos e,if_neg];intro s;have:=hb.2 s (i+1) _ o;simp[mi,ha,e] at this
   ·refine .inr ⟨(i:Int)+1+1,⟨i+1,by simp,fun j a k g=>?_⟩,by omega,fun d=>by rw[h i _ _ ha o,if_neg e]⟩;rcases dl i j with r|r
    ·have:j=i+1:=by omega
     subst this;rw[o] at g; cases g;simp[mi,ha]; omega
    ·exact hi j a r g
  ·refine .inl fun d=>?_;have:=t (i+1) q d;simp only[Int.natCast_add,Int.cast_ofNat_Int] at this;rw[this,if_pos];refine hb.1 fun j a k=>hi j a ?_ k;have:=(cY.1 k).1;omega
 ·have:j=0:=by omega
  subst this; simp[mi]
end
def mixE (b:ò) (l:CK Mx) (i:Nat) (x:Mx):Int :=
 if !(inP x.1 0 19999&&inP x.2.length 2 5) then 1 else
 if ¬x.2.Pairwise (·<·) then 1 else
 if x.2.any (fun g=>(í b g).isNone) then 5 else
 if x.2.any (fun g=>ň b g x.1 != 0) then 4 else
 if mi (fun y=>y.1) l i x then 6 else
 if x.2.any (fun g=>(ŗ b g x.1).isSome||(ŗ b g (x.1+1)).isSome) then 9 else 0
def I9:Nat->Nat
 |0=>1
 |n+1=>I9 n*(n+1)
def nB:CK Mx->Nat
 |[]=>1
 |x::r=>I9 x.2.length*nB r
def B6:∀{l:CK Mx} {i:Nat} {x:Mx},l[i]?=some x->nB (l.take (i+1))=nB (l.take i)*I9 x.2.length
 |[],_,_,h=>by simp at h
 |y::l,0,x,h=>by simp at h; subst h; simp[nB]
 |y::l,i+1,x,h=>by
  simp only[eQ] at h;simp only[gq,nB,B6 h,Nat.mul_assoc]
def Qy:∀{n:Nat},n<=5->I9 n<=120
 |0,_|1,_|2,_|3,_|4,_|5,_=>by decide
 |n+6,h=>by omega
def Vr:∀{l:CK Mx} {n:Nat},l.length<=n->(∀x∈l,x.2.length<=5)->nB l<=120 ^ n
 |[],n,_,_=>Nat.one_le_pow _ _ (by decide)
 |x::l,0,h,_=>by simp at h
 |x::l,n+1,h,a=>by
  have e:=Vr (l:=l) (n:=n) (by simpa using h) fun y d=>a y (dS _ d);have h2:=Qy (a x (by simp));rw[nB,Nat.pow_succ,Nat.mul_comm];exact fI e h2
def NY (b:ò) (l:CK Mx):BY Int:=ė (fun i x=>Kc (mixE b l i x)) 0 l
def Ĵ (m:Ň):Int :=
 if ō m.1≠0 then ō m.1 else if 4<m.2.length then 2 else match NY m.1 m.2 with
 |some e=>e
 |none=>if 150<nB m.2 then 2 else 0
def N4 (l:CK è):CK (Int×Int):=l.foldl (fun m g=>TM (k:=tI) (v:=tI) g.1 g.2.1 m) []
def TN (x y n:Int):∀m:CK (Int×Int),tv (k:=tI) (v:=tI) x (TM (k:=tI) (v:=tI) y n m)=if x=y then some n else tv (k:=tI) (v:=tI) x m
 |[]=>by
  unfold TM tv kP tv
  by_cases h:x=y<;>simp[h]
 |e::m=>by
  unfold TM
  by_cases h:y=e.1
  ·have:kP tI y e.1=true:=by simp[kP,h]
   rw[this];simp only;unfold tv
   by_cases a:x=y
   ·subst a; simp[kP]
   ·have:kP tI x y=false:=by simp[kP,a]
    have h2:kP tI x e.1=false:=by simp[kP,<-h,a]
    rw[this,if_neg a];simp only[h2]
  ·have:kP tI y e.1=false:=by simp[kP,h]
   rw[this];simp only;unfold tv
   by_cases a:x=e.1
   ·subst a;rw[if_neg (fun e=>h e.symm)];simp[kP]
   ·have h2:kP tI x e.1=false:=by simp[kP,a]
    rw[h2];exact TN x y n m
def afs (x:Int) (l:CK è):tv (k:=tI) (v:=tI) x (N4 l)=(l.reverse.find? fun g=>g.1==x).map fun g=>g.2.1:=by
 have key:∀r:CK è,tv (k:=tI) (v:=tI) x (N4 r.reverse)=(r.find? fun g=>g.1==x).map fun g=>g.2.1:=by
  intro r
  induction r with
  |nil=>rfl
  |cons g r a =>
   rw[List.reverse_cons,N4,List.foldl_append];simp only[gA,List.foldl_nil];rw[TN,f9]
   by_cases h:x=g.1
   ·subst h; simp
   ·have:(g.1==x)=false:=by simp; exact fun e=>h e.symm
    rw[if_neg h,this];exact a
 have:=key l.reverse
 rwa [List.reverse_reverse] at this
def ah4 {b:ò} (h:b.2.1.Pairwise fun a b=>a.1<b.1) (x:Int):tv (k:=tI) (v:=tI) x (N4 b.2.1)=(í b x).map fun g=>g.2.1:=by
 rw[afs,Lc h]; rfl
def Z5 {ρ:Type} {b:ò} (h:b.2.1.Pairwise fun a b=>a.1<b.1) (x:Int) (f:Int->BY ρ) (g:BY ρ):Rh (k:=tI) (v:=tI) x (N4 b.2.1) f g=match í b x with|some y=>f y.2.1|none=>g:=by
 unfold Rh;rw[ah4 h]
 cases í b x<;>rfl
section
variable {ρ:Type} {b:ò}
def mix_L0 {l:CK Int} (j:l.length<=1000) (k0:Int->BY ρ) (k1:Unit->BY ρ):Ë (fun(v:Int) g=>oZ l v (fun u=>g u) k0 k1) 1=if l.Pairwise (·<·) then k1 () else k0 1:=by
 refine Wz (fun i a c ha d f=>?_) (fun n h f=>?_)
 ·have hi:=(List.getElem?_eq_some_iff.1 d).1;unfold oZ
  have e:((i:Int)+1)=((i+1:Nat):Int):=by omega
  rw[e,Í hi,Ã d,Ï (by omega) (by omega),<-e,Int.add_sub_cancel,Ã ha,é,Ï (by omega) (by omega)];simp
 ·unfold oZ;rw[Ì (by simp[ilt,Î]; omega)]
def mix_L1 (f:b.2.1.length<=1000) (k0:CK (Int×Int)->BY ρ):Ë (fun(v:Int×CK (Int×Int)) e=>oY b.2.1 (Õ b.2.1) v.1 v.2 (fun u v=>e (u,v)) k0) ((0:Int),[])=k0 (N4 b.2.1):=by
 refine ð b.2.1 (fun i=>N4 (b.2.1.take i)) _ rfl (fun i g hi a d=>?_) (fun d=>?_)
 ·try dsimp only
  unfold oY;rw[Í hi,Ã a,È hi (by omega)];congr 2;rw[take_succ a,N4,N4,List.foldl_append];rfl
 ·try dsimp only
  unfold oY;rw[Ô,List.take_length]
def mix_L2 (hi:b.2.1.Pairwise fun a b=>a.1<b.1) {l:CK Int} (h:l.length<=1000) (X Y Z:BY ρ):Ë (fun(v:Int) f=>oX l (Õ l) (N4 b.2.1) v (fun u=>f u) (fun z=>ifb (ige z (0:Int)) X Y) (fun _=>Z)) 0=if l.any (fun g=>(í b g).isNone) then X else Z:=by
 refine ù l _ (fun z=>ifb (ige z (0:Int)) X Y) X Z (fun j=>Ð (by simp[ige]) _ _) (fun i a d ha e=>?_) (fun e=>?_)
 ·unfold oX;rw[Í d,Ã ha,Z5 hi,È d (by omega)]
  cases í b a<;>rfl
 ·unfold oX;rw[Ô]
def mix_L3 (hi:b.2.1.Pairwise fun a b=>a.1<b.1) {l:CK Int} (p:l.length<=1000) (n:∀x∈l,∃g,í b x=some g) (d:Int) (X Y Z:BY ρ):Ë (fun(v:Int) k=>mo l (Õ l) d (N4 b.2.1) v (fun u=>k u) (fun z=>ifb (ige z (0:Int)) X Y) (fun _=>Z)) 0=if l.any (fun g=>ň b g d != 0) then X else Z:=by
 refine ù l _ (fun z=>ifb (ige z (0:Int)) X Y) X Z (fun j=>Ð (by simp[ige]) _ _) (fun i a e ha f=>?_) (fun f=>?_)
 ·unfold mo;rw[Í e,Ã ha,Z5 hi,È e (by omega)];obtain⟨g,o⟩:=n a (List.mem_of_getElem? ha);unfold ň;rw[o];dsimp only;rw[é]
  by_cases h:d<g.2.1<;>simp[ilt,h]
 ·unfold mo;rw[Ô]
def mix_L4 (h:ţ b) {l:CK Int} (s:l.length<=1000) (q:∀x∈l,∃g,í b x=some g) {d:Int} (hd:0<=d/\d<20000) (X Y Z:BY ρ):Ë (fun(v:Int) p=>Ŋ l (Õ l) b.1.1 b.1.2 b.2.1 b.2.2.1 b.2.2.2.1 b.2.2.2.2.1 b.2.2.2.2.2 d v (fun u=>p u) (fun z=>ifb (ige z (0:Int)) X Y) (fun _=>Z)) 0=if l.any (fun g=>(ŗ b g d).isSome||(ŗ b g (d+1)).isSome) then X else Z:=by
 refine ù l _ (fun z=>ifb (ige z (0:Int)) X Y) X Z (fun j=>Ð (by simp[ige]) _ _) (fun i a f ha o=>?_) (fun o=>?_)
 ·unfold Ŋ;obtain⟨g,k⟩:=q a (List.mem_of_getElem? ha)
  have n:∀e,0<=e->e<=20000->CC ((b.1.1,b.1.2),b.2.1,b.2.2.1,b.2.2.2.1,b.2.2.2.2.1,b.2.2.2.2.2) a e=some ((ŗ b a e).isSome,0):=fun e h0 r=>by
   rw[show(((b.1.1,b.1.2),b.2.1,b.2.2.1,b.2.2.2.1,b.2.2.2.2.1,b.2.2.2.2.2):ò)=b from rfl,aox ⟨h.size,fun g k=>by have:=(h.gaugeR k).2.1; unfold I64; omega⟩]
   have:Q5 b a [e]=0:=by
    unfold Q5;rw[if_neg (by simp[(ť b).2 h]),if_neg (by simp[Da,inP,h0,r]),vM h.ids,k]; rfl
   unfold aoy;rw[if_neg (by simp[this])]
  rw[Í f,Ã ha,n d hd.1 (by omega),À,Ï (by omega) (by omega),n (d+1) (by omega) (by omega),À,È f (by omega)];dsimp only
  cases(ŗ b a d).isSome<;>cases(ŗ b a (d+1)).isSome<;>rfl
 ·unfold Ŋ;rw[Ô]
end
def als {b:ò} (h:ţ b) {l:CK Mx} {i:Nat} {x:Mx} (o:l[i]?=some x) (q:i<=1000):IC b l i=some (mixE b l i x):=by
 unfold IC Ot mixE;rw[Ã o]
 by_cases d:inP x.1 0 19999=true/\inP (x.2.length:Int) 2 5=true
 ·obtain⟨d,h2⟩:=d;rw[if_neg (by simp[d,h2])];simp only[inP,cW,decide_eq_true_eq] at d h2
  have k:x.2.length<=1000:=by omega
  rw[Ì (by simp[ilt]; omega),Ì (by simp[ige]; omega),Ì (by simp[ilt,Î]; omega),Ì (by simp[igt,Î]; omega),mix_L0 k]
  by_cases f:x.2.Pairwise (·<·)
  ·rw[if_pos f,if_neg (by simpa using f)]
   try dsimp only
   rw[mix_L1 (by have:=h.nG; omega),mix_L2 h.ids k]
   by_cases a:(x.2.any fun g=>(í b g).isNone)=true
   ·rw[if_pos a,if_pos a]
   ·have p:∀y∈x.2,∃g,í b y=some g:=fun y j=>by
     simp only[dv,not_exists,not_and,Option.isNone_iff_eq_none] at a;exact Option.ne_none_iff_exists'.1 (a y j)
    rw[if_neg a,if_neg a,mix_L3 h.ids k p]
    by_cases n:(x.2.any fun g=>ň b g x.1 != 0)=true
    ·rw[if_pos n,if_pos n]
    ·rw[if_neg n,if_neg n,mix_L4 h k p (by omega)]
     cases i with
     |zero =>
      rw[Ì (by simp[igt]),if_neg (show ¬mi (fun y:Mx=>y.1) l 0 x=true by simp[mi])]
      split<;>rfl
     |succ i =>
      obtain⟨hi,_⟩:=cY.1 o;have j:l[i]?=some l[i]:=cV (by omega)
      have e:((i+1:Nat):Int)-1=i:=by omega
      rw[Ð (by simp[igt]),Ï (by omega) (by omega),e,Ã j,é];unfold mi;simp only[Nat.add_sub_cancel,j,Option.any_some,Nat.succ_pos,decide_true,Bool.true_and,ile,decide_eq_true_eq]
      split
      ·rfl
      ·split<;>rfl
  ·rw[if_neg f,if_pos f]
 ·rw[if_pos (by simp only[eJ]; cases h2:inP x.1 0 19999<;>cases f:inP (x.2.length:Int) 2 5<;>simp_all)]
  simp only[inP,cW,decide_eq_true_eq,not_and,Int.not_le] at d;simp only[é,ilt,ige,igt,Î,decide_eq_true_eq]
  split
  ·rfl
  split
  ·rfl
  split
  ·rfl
  rw[if_pos (by have:=d (by omega); omega)]
def VS {b:ò} {l:CK Mx} {i:Nat} {x:Mx} (h:mixE b l i x=0):x.2.length<=5:=by
 unfold mixE at h
 split at h
 ·cases h
 ·rename_i a;simp[inP] at a;omega
def alH {n v:Nat} (j:n<=5) (g:v<=1000000000) {ρ:Type} (k0:Int->BY ρ):Ë (fun(u:Int×Int) f=>o8 (ah2 n) u.1 u.2 (fun a b=>f (a,b)) k0) ((v:Int),(0:Int))=k0 ((v*I9 n:Nat):Int):=by
 refine Cg (List.range n) (fun i=>((v*I9 i:Nat):Int)) _ (fun _=>True) (by simp[I9]) trivial (fun i a hi ha _ d=>.inr ⟨trivial,?_⟩) (fun _ d=>?_)
 ·rw[fh] at hi
  try dsimp only
  unfold o8;have h:=Qy (n:=i) (by omega);have hb:v*I9 i<=1000000000*120:=Nat.mul_le_mul g h;have h2:v*I9 i*(i+1)<=1000000000*120*6:=Nat.mul_le_mul hb (by omega)
  have e:((v*I9 i:Nat):Int)*((i:Int)+1)=((v*I9 i*(i+1):Nat):Int):=by simp
  rw[amR hi,Ï (by omega) (by omega),e,Ï (by omega) (by omega),Ï (by omega) (by omega),I9,Nat.mul_assoc]
 ·rw[fh]
  try dsimp only
  unfold o8;rw[Ô]
def Gu {b:ò} {l:CK Mx} {i:Nat} {x:Mx} (g:l[i]?=some x) (n:∀j y,j<i->l[j]?=some y->mixE b l j y=0) (p:mixE b l i x≠0):NY b l=some (mixE b l i x):=by
 have key:∀(m:CK Mx) (k:Nat),l.drop k=m->k<=i->ė (fun i x=>Kc (mixE b l i x)) k m=some (mixE b l i x):=by
  intro m
  induction m with
  |nil =>
   intro k d f;have:=List.drop_eq_nil_iff.1 d;have:=(cY.1 g).1;omega
  |cons y m h =>
   intro k d f
   have e:l[k]?=some y:=by
    have:(l.drop k)[0]?=some y:=by rw[d]; rfl
    simpa using this
   rw[ė];rcases dl k i with a|o
   ·rw[n k y a e];simp only[Kc,if_true];refine h (k+1) ?_ a;rw[<-List.tail_drop,d]; rfl
   ·have:k=i:=by omega
    subst this;rw[g] at e; cases e;simp[Kc,p]
 exact key l 0 rfl (dU _)
def ER {b:ò} {l:CK Mx} (d:∀j y,l[j]?=some y->mixE b l j y=0):NY b l=none:=by
 rw[NY,ŕ];intro j y a;rw[dH,d j y a]; rfl
def oR {m:Ň} (k:In m.1) (u:m.2.length<=1000):iS m=some (Ĵ m):=by
 unfold iS Zd Ĵ;rw[yO k.size k.num,À]
 by_cases g:ō m.1=0
 ·have r:=(ť _).1 g;rw[Ì (by simp[ine,g]),if_neg (by simp[g])]
  by_cases p:4<m.2.length
  ·rw[Ð (by simp[igt,Î]; omega),if_pos p]
  ·rw[Ì (by simp[igt,Î]; omega),if_neg p];refine Cg m.2 (fun i=>((nB (m.2.take i):Nat):Int)) _ (fun i=>∀j y,j<i->m.2[j]?=some y->mixE m.1 m.2 j y=0) (by simp[nB]) (fun j y h _=>by omega) (fun i x hi d e q=>?_) (fun e q=>?_)
   ·try dsimp only
    unfold tW;rw[Í hi,Ã d,show(((m.1.1.1,m.1.1.2),m.1.2.1,m.1.2.2.1,m.1.2.2.2.1,m.1.2.2.2.2.1,m.1.2.2.2.2.2):ò)=m.1 from rfl,als r d (by omega),À]
    by_cases f:mixE m.1 m.2 i x=0
    ·rw[Ì (by simp[ine,f])]
     have t:∀y∈m.2.take i,y.2.length<=5:=fun y a=>by
      obtain⟨j,o,rfl⟩:=dm.1 a;rw[dk] at o;rw[fg];exact VS (e j _ (by omega) (cV (by omega)))
     have hb:=Vr (l:=m.2.take i) (n:=4) (by rw[dk]; omega) t
     have s:(120:Nat) ^ 4=207360000:=by decide
     refine .inr ⟨fun j y o a=>?_,?_⟩
     ·rcases dl j i with h|h
      ·exact e j y h a
      ·have:j=i:=by omega
       subst this;rw[d] at a; cases a;exact f
     ·rw[alH (VS f) (by omega),È hi (by omega),B6 d]
    ·refine .inl ?_;rw[Ð (by simp[ine,f]),Gu d e f]
   ·try dsimp only
    unfold tW;rw[Ô,ER fun j y a=>e j y (List.getElem?_eq_some_iff.1 a).1 a,List.take_length];dsimp only;rw[é];simp only[igt,decide_eq_true_eq]
    by_cases h:150<nB m.2
    ·rw[if_pos (by omega),if_pos h]
    ·rw[if_neg (by omega),if_neg h]
 ·rw[Ð (by simp[ine,g]),if_pos g]
def X6 {α:Type} [DecidableEq α] {l m:CK α} (f:l.length=m.length) (h:ė (fun i a=>if m[i]?=some a then none else some false) 0 l=none):l=m:=by
 have:=ŕ.1 h;refine iq f fun i g h2=>?_;have d:=this i l[i] (cV g);rw[dH] at d
 split at d
 ·rename_i e;rw[cV h2] at e;exact(Option.some.inj e).symm
 ·cases d
def X5 {α:Type} [DecidableEq α] {l m:CK α} {b:Bool} (h:ė (fun i a=>if m[i]?=some a then none else some false) 0 l=some b):b=false/\l≠m:=by
 constructor
 ·have:∀(k:Nat) (x:CK α) (b:Bool),ė (fun i a=>if m[i]?=some a then none else some false) k x=some b->b=false:=by
   intro k x
   induction x generalizing k with
   |nil=>intro b h; cases h
   |cons a t f =>
    intro b h;unfold ė at h
    split at h
    ·rename_i c d
     split at d
     ·cases d
     ·cases d; cases h; rfl
    ·exact f _ _ h
  exact this _ _ _ h
 ·intro e;subst e;rw[ŕ.2 fun j a ha=>by rw[dH,if_pos ha]] at h;cases h
def FR {l m:CK Int} (k:l.length<=1000000):Ω l m=some (decide (l=m)):=by
 unfold Ω Hu;rw[Î,Î]
 by_cases d:l.length=m.length
 ·rw[Ì (by simp[ine,d])];refine dJ (iQ l (fun i a=>if m[i]?=some a then none else some false) some (some true) (fun i a hi ha g=>?_) (fun g=>?_)) ?_
  ·try dsimp only
   unfold l6;have f:m[i]?=some m[i]:=List.getElem?_eq_getElem (by omega);rw[Í hi,Ã ha,Ã f,È hi (by omega),f,é]
   by_cases h:a=m[i]
   ·simp[ine,h]
   ·have h':¬m[i]=a:=fun e=>h e.symm;simp[ine,h,h']
  ·try dsimp only
   unfold l6;rw[Ô]
  ·cases h:ė (fun i a=>if m[i]?=some a then none else some false) 0 l with
   |none=>simp[X6 d h]
   |some b =>
    obtain⟨j,h2⟩:=X5 h;simp[j,h2]
 ·rw[Ð (by simp[ine]; omega)];have:l≠m:=fun e=>d (by rw[e]);simp[this]
structure MixOk (b:ò) (x:Mx):Prop where
 day:0<=x.1/\x.1<20000
 len:2<=x.2.length/\x.2.length<=5
 asc:x.2.Pairwise (·<·)
 known:∀l∈x.2,∃g,í b l=some g/\g.2.1<=x.1
 home:∀l∈x.2,ŗ b l x.1=none/\ŗ b l (x.1+1)=none
def YQ {b:ò} {l:CK Mx} {i:Nat} {x:Mx} (h:mixE b l i x=0):MixOk b x/\mi (fun y=>y.1) l i x=false:=by
 unfold mixE at h
 split at h
 ·cases h
 rename_i n
 split at h
 ·cases h
 rename_i h2
 split at h
 ·cases h
 rename_i j
 split at h
 ·cases h
 rename_i f
 split at h
 ·cases h
 rename_i k
 split at h
 ·cases h
 rename_i e;simp only[inP,Bool.not_eq_true',Bool.and_eq_false_iff,not_or,Bool.not_eq_false,decide_eq_false_iff_not,Int.not_le,Bool.and_eq_true,decide_eq_true_eq] at n;simp only[List.any_eq_true,not_exists,not_and,Option.isNone_iff_eq_none] at j;simp only[List.any_eq_true,not_exists,not_and,bne_iff_ne,ne_eq,Decidable.not_not] at f;simp only[List.any_eq_true,not_exists,not_and,Bool.or_eq_true,not_or,Option.isSome_iff_ne_none,ne_eq,Decidable.not_not] at e;refine⟨⟨by omega,by omega,Decidable.not_not.1 h2,fun y a=>?_,e⟩,by simpa using k⟩;obtain⟨g,d⟩:=Option.ne_none_iff_exists'.1 (j y a);refine⟨g,d,?_⟩;have:=f y a;unfold ň at this;rw[d] at this;dsimp only at this
 split at this
 ·cases this
 ·omega
structure MOk (m:Ň):Prop where
 good:ţ m.1
 n4:m.2.length<=4
 mixE:∀i x,m.2[i]?=some x->mixE m.1 m.2 i x=0
 prod:nB m.2<=150
def Ŗ (m:Ň):Ĵ m=0↔MOk m:=by
 unfold Ĵ;constructor
 ·intro h
  split at h
  ·rename_i f; exact absurd h f
  rename_i f
  split at h
  ·cases h
  rename_i h2
  cases a:NY m.1 m.2 with
  |some e =>
   rw[a] at h;dsimp only at h;rw[NY] at a
   have key:∀(l:CK Mx) (k:Nat) (e:Int),ė (fun i x=>Kc (mixE m.1 m.2 i x)) k l=some e->e≠0:=by
    intro l
    induction l with
    |nil=>intro k e h; cases h
    |cons y l g =>
     intro k e h;rw[ė] at h
     by_cases d:mixE m.1 m.2 k y=0
     ·rw[d] at h;exact g (k+1) e h
     ·simp only[Kc,if_neg d,Option.some.injEq] at h;rw[<-h]; exact d
   exact absurd h (key _ _ _ a)
  |none =>
   rw[a] at h;dsimp only at h
   split at h
   ·cases h
   rename_i n;refine⟨(ť _).1 (Decidable.not_not.1 f),by omega,fun i x j=>?_,by omega⟩;have:=(ŕ.1 a) i x j;rw[Nat.zero_add] at this;unfold Kc at this
   split at this
   ·assumption
   ·cases this
 ·intro h;rw[if_neg (by simp[(ť _).2 h.good]),if_neg (by have:=h.n4; omega),ER h.mixE];dsimp only;rw[if_neg (by have:=h.prod; omega)]
section
variable {m:Ň}
def MOk.mix (h:MOk m) {x:Mx} (a:x∈m.2):MixOk m.1 x:=by
 obtain⟨i,hi,rfl⟩:=dm.1 a;exact(YQ (h.mixE i _ (cV hi))).1
def MOk.days (h:MOk m):m.2.Pairwise fun a b=>a.1<b.1:=(I5 (fun y:Mx=>y.1) m.2).1 fun i x d=>(YQ (h.mixE i x d)).2
def MOk.len5 (h:MOk m):∀x∈m.2,x.2.length<=5:=fun x a=>(h.mix a).len.2
def MOk.in_ (h:MOk m):In m.1:=⟨h.good.size,fun g a=>by have:=(h.good.gaugeR a).2.1; unfold I64; omega⟩
end
def adb {l:CK Int} {i:Nat} (hi:i<l.length):(l[i]::(l.take i++l.drop (i+1))).Perm l:=by
 have h:l=l.take i++l[i]::l.drop (i+1):=by rw[<-dT hi,ew]
 exact List.Perm.trans (List.perm_middle.symm) (by rw[<-h])
def MA:∀{n:Nat} {l x:CK Int},l.length=n->(x∈vI n l↔x.Perm l)
 |0,l,x,h=>by
  have:l=[]:=dD.1 h;subst this;simp[vI]
 |n+1,l,x,h=>by
  rw[vI,if_neg (by omega)];simp only[dA,ff,dw];constructor
  ·rintro⟨i,hi,y,d,rfl⟩;have d:=(MA (n:=n) (by simp; omega)).1 d;rw[ej,cV hi];exact(d.cons _).trans (adb hi)
  ·intro e
   cases x with
   |nil=>have:=e.length_eq; simp at this; omega
   |cons a x =>
    have ha:a∈l:=e.subset (by simp);obtain⟨i,hi,rfl⟩:=dm.1 ha;refine⟨i,hi,x,(MA (n:=n) (by simp; omega)).2 ?_,by rw[ej,cV hi]; rfl⟩;exact List.Perm.cons_inv (e.trans (adb hi).symm)
def WY {α β:Type} (f:α->CK β) (n:Nat):∀l:CK α,(∀a∈l,(f a).length=n)->(l.flatMap f).length=l.length*n
 |[],_=>by simp
 |a::l,h=>by
  rw[dz,cZ,h a (by simp),WY f n l fun b hb=>h b (dS _ hb),di,Nat.succ_mul]; omega
def Gq:∀{n:Nat} {l:CK Int},l.length=n->(vI n l).length=I9 n
 |0,_,_=>rfl
 |n+1,l,h=>by
  rw[vI,if_neg (by omega),WY _ (I9 n) _ fun i hi=>by rw[dF]; exact Gq (by simp at hi ⊢; omega),fh,I9,h,Nat.mul_comm]
def xe:∀{ms:CK Mx} {w:Way},w∈χ ms↔ĵ ms w
 |[],[]=>by simp[χ,ĵ]
 |[],_::_=>by simp[χ,ĵ]
 |m::ms,[]=>by simp[χ,ĵ]
 |m::ms,l::ls=>by
  simp only[χ,dA,dw,ĵ];constructor
  ·rintro⟨x,d,y,a,e⟩;cases e;exact⟨(MA rfl).1 d,xe.1 a⟩
  ·intro⟨f,h2⟩;exact⟨l,(MA rfl).2 f,ls,xe.2 h2,rfl⟩
def IY:∀ms:CK Mx,(χ ms).length=nB ms
 |[]=>rfl
 |m::ms=>by rw[χ,WY _ (nB ms) _ fun x _=>by rw[dF,IY],Gq rfl,nB]
def Ğ (ms:CK Mx):CK Way:=Ĺ (vv ms) (χ ms)
def afQ {α:Type} {k a:α->Int} {x:α} {l:CK α} (f:k x=a x) (h:∀y∈l,k y=a y):WM k x l=WM a x l:=by
 induction l with
 |nil=>rfl
 |cons y l d =>
  unfold WM;rw[f,h y (by simp),d fun z e=>h z (List.mem_cons_of_mem _ e)]
def Qc {α:Type} {k a:α->Int}:∀{l:CK α},(∀y∈l,k y=a y)->Ĺ k l=Ĺ a l
 |[],_=>rfl
 |x::l,h=>by
  have e:=Qc fun y d=>h y (dS x d);show WM k x (Ĺ k l)=WM a x (Ĺ a l);rw[e];exact afQ (h x (by simp)) fun y d=>h y (dS _ ((Ő (key:=a) l).mem.1 d))
def vw {ms:CK Mx} {w:Way}:w∈Ğ ms↔ĵ ms w:=by
 rw[Ğ,(Ő (χ ms)).mem,xe]
def ag0 (ms:CK Mx):(Ğ ms).length=nB ms:=by rw[Ğ,(Ő (χ ms)).length,IY]
section
variable {m:Ň} {ρ:Type}
def MOk.wgt (h:MOk m) {w:Way} (d:ĵ m.2 w):ĺ m w=some (vv m.2 w) :=
 agZ d (by have:=h.n4; omega) fun x a=>by have:=h.len5 x a; omega
def MK {α:Type} {f:CK α->α->(CK α->BY ρ)->BY ρ} (h:∀v y a,v.length<=1000000->f v y a=a (v++[y])):∀{xs:CK α} {v:CK α} {K:CK α->BY ρ},v.length+xs.length<=1000000->Bu f xs v K=K (v++xs)
 |[],v,K,_=>by simp[Bu]
 |x::xs,v,K,d=>by
  simp only[di] at d;rw[Bu,h v x _ (by omega),MK h (by simp; omega)]; simp
def ajr (h:MOk m):om m.2=some (χ m.2):=by
 unfold om;rw[å];simp only[Bool.and_eq_true,decide_eq_true_eq,List.all_eq_true];exact⟨by have:=h.n4; omega,fun x a=>by have:=h.len5 x a; omega⟩
def MY (h:MOk m):(χ m.2).length<=150:=by rw[IY]; exact h.prod
def XW (h:MOk m):Ļ (χ m.2) (Õ (χ m.2)) m=some (Ğ m.2,m):=by
 have h2:∀w∈χ m.2,ĺ m w=some (vv m.2 w):=fun w a=>h.wgt (xe.1 a)
 have d:∀w∈χ m.2,ě m w=vv m.2 w:=fun w a=>by unfold ě; rw[h2 w a]; rfl
 rw[Î,ahe (fun w a=>by rw[h2 w a,d w a]) (by have:=MY h; omega),Qc d]; rfl
def Nb (h:MOk m):uR m=some (Ğ m.2):=by
 unfold uR VW;have e:=MY h;rw[ajr h,À,MK (fun v y a d=>by unfold EX; rw[å (Ñ (by simp; omega))]) (by simp; omega),List.nil_append,XW h];rfl
def aom (d:In m.1) (e:m.2.length<=1000):MM m=some (if Ĵ m≠0 then([],Ĵ m) else(Ğ m.2,0)):=by
 unfold MM adB;rw[oR d e,À]
 by_cases a:Ĵ m=0
 ·rw[Ì (by simp[ine,a]),if_neg (by simp[a]),Nb ((Ŗ m).1 a)]; rfl
 ·rw[Ð (by simp[ine,a]),if_pos a]
end
def WB {ρ:Type} (n:Nat) (p:Nat->Bool) (g j:BY ρ) {f:Int->(Int->BY ρ)->BY ρ} (h:∀i:Nat,i<n->∀d,f i d=if p i then d ((i:Int)+1) else g) (k:∀d,f n d=j):Ë f 0=if (List.range n).all p then j else g:=by
 have:=ù (List.range n) (fun i=>!p i) (fun _=>g) g j (f:=f) (fun _=>rfl) (fun i a hi ha d=>by
  obtain⟨_,rfl⟩:=cY.1 ha;rw[fh] at hi;rw[h i hi d,List.getElem_range]
  cases p i<;>rfl) (fun d=>by rw[fh]; exact k d)
 rw[this]
 have e:(List.range n).any (fun i=>!p i)=!(List.range n).all p:=by rw[gy]; simp
 rw[e]
 cases(List.range n).all p<;>rfl
def jQ:CK Mx->Way->Bool
 |[],[]=>true
 |m::ms,l::ls=>decide (Υ l=m.2)&&jQ ms ls
 |_,_=>false
def Uz:∀{ms:CK Mx} {w:Way},(∀x∈ms,x.2.Pairwise (·<·))->(jQ ms w=true↔ĵ ms w)
 |[],[],_=>by simp[jQ,ĵ]
 |[],_::_,_=>by simp[jQ,ĵ]
 |_::_,[],_=>by simp[jQ,ĵ]
 |m::ms,l::ls,h=>by
  rw[jQ,ĵ,cW,decide_eq_true_eq,Uz fun x d=>h x (dS _ d)];have f:=h m (by simp);refine and_congr ⟨fun e=>by rw[<-e]; exact(ā l).symm,fun e=>?_⟩ Iff.rfl;exact gi (fun a b _ _ g h2=>iA g h2) (Ř l) (f.imp fun h=>Int.le_of_lt h) ((ā l).trans e)
def aiN {ms:CK Mx} {w:Way} (a:w.length=ms.length):jQ ms w=(List.range ms.length).all fun i=>match ms[i]?,w[i]? with|some m,some l=>decide (Υ l=m.2)|_,_=>false:=by
 induction ms generalizing w with
 |nil =>
  have:w=[]:=dD.1 a;subst this; rfl
 |cons m ms d =>
  cases w with
  |nil=>simp at a
  |cons l w =>
   rw[jQ,d (by simpa using a),di,List.range_succ_eq_map,fQ,List.all_map];rfl
def row_eq {l m:CK Int} (d:l.length=m.length) (o:m.length<=5):(l.getD 0 0=m.getD 0 0/\l.getD 1 0=m.getD 1 0/\l.getD 2 0=m.getD 2 0/\l.getD 3 0=m.getD 3 0/\l.getD 4 0=m.getD 4 0)↔l=m:=by
 constructor
 ·intro⟨h0,n,h2,j,g⟩;refine iq d fun i hi a=>?_
  have e:∀k:Nat,l.getD k 0=m.getD k 0->k=i->l[i]=m[i]:=fun k f e=>by
   subst e;simpa[ej,cV hi,cV a] using f
  have:i=0\/i=1\/i=2\/i=3\/i=4:=by omega
  rcases this with h|h|h|h|h
  ·exact e 0 h0 h.symm
  ·exact e 1 n h.symm
  ·exact e 2 h2 h.symm
  ·exact e 3 j h.symm
  ·exact e 4 g h.symm
 ·rintro rfl; simp
def alr {m:Ň} (h:MOk m) {w:Way} (n:∀l∈w,l.length<=100000):IB m w=some (jQ m.2 w):=by
 unfold IB Oj;have D:=h.n4
 by_cases p:w.length=m.2.length
 ·rw[Ì (by simp[ine,Î]; omega),aiN p];have r:∀i,i<m.2.length->∃x l,m.2[i]?=some x/\w[i]?=some l:=fun i hi=>⟨_,_,cV hi,cV (by omega)⟩;refine dJ (WB m.2.length (fun i=>match m.2[i]?,w[i]? with|some m,some l=>decide (Υ l=m.2)|_,_=>false) (some false) (some true) (fun i hi k=>?_) (fun k=>?_)) ?_
  ·obtain⟨x,l,j,a⟩:=r i hi
   try dsimp only
   unfold tO;have g:=h.len5 x (List.mem_of_getElem? j);have s:=n l (List.mem_of_getElem? a);rw[Í (by omega),Ã a,Ã j,j,a];dsimp only
   by_cases d:l.length=x.2.length
   ·rw[Ì (by simp[ine,Î]; omega)];unfold Ci;rw[å (Ñ (by omega)),À,MK (fun v y k C=>by unfold Aj; rw[å (Ñ (by simp; omega))]) (by simp; omega),List.nil_append,å (Ñ (by omega))];unfold IA;rw[À,À,Vh];have o:=row_eq (l:=Υ l) (m:=x.2) (by rw[(ā l).length_eq]; exact d) g
    by_cases f:Υ l=x.2
    ·obtain⟨B,A,z,u,t⟩:=o.2 f;rw[B,A,z,u,t,Ì (by simp[oQ]),Ï (by omega) (by omega),if_pos (by simpa using f)]
    ·rw[Ð,if_neg (by simpa using f)]
     cases hb:(!((oQ ((Υ l).getD 0 0) (x.2.getD 0 0))&&((oQ ((Υ l).getD 1 0) (x.2.getD 1 0))&&((oQ ((Υ l).getD 2 0) (x.2.getD 2 0))&&((oQ ((Υ l).getD 3 0) (x.2.getD 3 0))&&((oQ ((Υ l).getD 4 0) (x.2.getD 4 0))&&true)))))) with
     |true=>rfl
     |false =>
      refine absurd (o.1 ?_) f;simpa[oQ] using hb
   ·rw[Ð (by simp[ine,Î]; omega),if_neg];intro e;simp only[decide_eq_true_eq] at e;have:=(ā l).length_eq;rw[e] at this;exact d this.symm
  ·try dsimp only
   unfold tO;rw[Ì (by simp[ilt,Î]; omega)]
  ·cases(List.range m.2.length).all (fun i=>match m.2[i]?,w[i]? with|some m,some l=>decide (Υ l=m.2)|_,_=>false)<;>rfl
 ·rw[Ð (by simp[ine,Î]; omega)];congr 1
  symm
  clear n
  have key:∀{ms:CK Mx} {w:Way},w.length≠ms.length->jQ ms w=false:=by
   intro ms
   induction ms with
   |nil=>intro w h; cases w with|nil=>exact absurd rfl h|cons _ _=>rfl
   |cons x ms q =>
    intro w h
    cases w with
    |nil=>rfl
    |cons l w=>rw[jQ,q (by simpa using h),Bool.and_false]
  exact key p
def pN (m:Ň) (w:Way):Int:=if Ĵ m≠0 then Ĵ m else if jQ m.2 w then 0 else 1
def aaO {m:Ň} (e:In m.1) (f:m.2.length<=1000) {w:Way} (d:∀l∈w,l.length<=100000):Bv m w=some (pN m w):=by
 unfold Bv Za pN;rw[oR e f,À]
 by_cases a:Ĵ m=0
 ·rw[Ì (by simp[ine,a]),if_neg (by simp[a]),alr ((Ŗ m).1 a) d,À]
  cases jQ m.2 w<;>rfl
 ·rw[Ð (by simp[ine,a]),if_pos a]
def FN {m:Ň} {w:Way}:pN m w=0↔MOk m/\ĵ m.2 w:=by
 unfold pN
 by_cases a:Ĵ m=0
 ·have h:=(Ŗ m).1 a;rw[if_neg (by simp[a])];have:=Uz (w:=w) fun x d=>(h.mix d).asc
  cases hi:jQ m.2 w with
  |true=>simp[this.1 hi,h]
  |false =>
   exact⟨fun e=>absurd (show(1:Int)=0 from e) (by decide),fun e=>absurd (this.2 e.2) (by simp[hi])⟩
 ·rw[if_pos a];exact⟨fun e=>absurd e a,fun⟨e,_⟩=>absurd ((Ŗ m).2 e) a⟩
section
variable {ρ:Type}
def oM {α β:Type} (l:CK α) (g:α->β) (K:CK β->BY ρ) {f:Int×CK β->(Int×CK β->BY ρ)->BY ρ}
 (h:∀(i:Nat) (a:α),i<l.length->l[i]?=some a->∀(v:CK β) d,v.length=i->f (i,v) d=d ((i:Int)+1,v++[g a])) (e:∀(v:CK β) d,f (l.length,v) d=K v):Ë f (0,[])=K (l.map g):=by
 refine ð l (fun i=>(l.take i).map g) _ rfl (fun i a hi ha d=>?_) (fun d=>?_)
 ·rw[h i a hi ha _ d (by simp; omega),take_succ ha,fj]; rfl
 ·rw[e,fB]
end
def nS (m:Ň) (w:Way) (d:Int) (l:CK Int):CK Int:=Υ (l.map fun x=>iY m.2 w x d)
def agM (m:Ň) (w:Way) (c:Cmp):Cmp:=(c.1,c.2.1,nS m w c.2.1 c.2.2.1,nS m w c.2.1 c.2.2.2.1,c.2.2.2.2)
def trP (m:Ň) (w:Way):ò :=
 (m.1.1,m.1.2.1,m.1.2.2.1.map (fun u=>(iY m.2 w u.1 u.2,u.2)),m.1.2.2.2.1.map (fun l=>(iY m.2 w l.1 l.2.1.1,l.2)),m.1.2.2.2.2.1.map (agM m w),m.1.2.2.2.2.2.map (fun n=>(iY m.2 w n.1 n.2,n.2)))
section
variable {ρ:Type} {m:Ň} {w:Way}
def MOk.who (h:MOk m) (e:ĵ m.2 w) (x d:Int):vr m w x d=some (iY m.2 w x d) :=
 who_ok e (by have:=h.n4; omega) (fun y a=>by have:=h.len5 y a; omega) x d
def tr_L0 (h:MOk m) (f:ĵ m.2 w) (k0:CK (Int×Int)->BY ρ):Ë (fun(v:Int×CK (Int×Int)) e=>lX m w m.1.2.2.1 (Õ m.1.2.2.1) v.1 v.2 (fun a b=>e (a,b)) k0) ((0:Int),[])=k0 (m.1.2.2.1.map fun u=>(iY m.2 w u.1 u.2,u.2)):=by
 have j:=h.good.nU
 refine oM m.1.2.2.1 (fun u:Int×Int=>((iY m.2 w u.1 u.2,u.2):Int×Int)) k0 (fun i a hi ha v d g=>?_) (fun v d=>?_)<;>(try dsimp only)<;>unfold lX
 ·rw[Í hi,Ã ha,h.who f,À,å (Ñ (by simp; omega)),È hi (by omega)]
 ·rw[Ô]
def tr_L1 (h:MOk m) (f:ĵ m.2 w) (k0:CK Jb->BY ρ):Ë (fun(v:Int×CK Jb) e=>lW m w m.1.2.2.2.1 (Õ m.1.2.2.2.1) v.1 v.2 (fun a b=>e (a,b)) k0) ((0:Int),[])=k0 (m.1.2.2.2.1.map fun l=>(iY m.2 w l.1 l.2.1.1,l.2)):=by
 have j:=h.good.nL
 refine oM m.1.2.2.2.1 (fun l:Jb=>((iY m.2 w l.1 l.2.1.1,l.2):Jb)) k0 (fun i a hi ha v d g=>?_) (fun v d=>?_)<;>(try dsimp only)<;>unfold lW
 ·rw[Í hi,Ã ha,h.who f,À,å (Ñ (by simp; omega)),È hi (by omega)]
 ·rw[Ô]
def FY (h:MOk m) (f:ĵ m.2 w) (d:Int) {l:CK Int} (j:l.length<=1000):kg l d m w=some (nS m w d l):=by
 unfold kg Ag;rw[oM l (fun x:Int=>(iY m.2 w x d:Int)) (fun z=>à (ä z.length) (some (zB z))) (fun i a hi ha v e g=>?_) (fun v e=>?_),å (Ñ (by simp; omega)),Vh]; rfl
 ·try dsimp only
  unfold jO;rw[Í hi,Ã ha,h.who f,À,å (Ñ (by simp; omega)),È hi (by omega)]
 ·try dsimp only
  unfold jO;rw[Ô]
def tr_L2 (h:MOk m) (d:ĵ m.2 w) (k0:CK Cmp->BY ρ):Ë (fun(v:Int×CK Cmp) j=>lV m w m.1.2.2.2.2.1 (Õ m.1.2.2.2.2.1) v.1 v.2 (fun a b=>j (a,b)) k0) ((0:Int),[])=k0 (m.1.2.2.2.2.1.map (agM m w)):=by
 have l:=h.good.nC
 refine oM m.1.2.2.2.2.1 (agM m w) k0 (fun i a hi ha v g k=>?_) (fun v g=>?_)<;>(try dsimp only)<;>unfold lV
 ·obtain⟨f,e⟩:=h.good.size.piles a (dc ha);rw[Í hi,Ã ha,FY h d _ f,À,FY h d _ e,À,å (Ñ (by simp; omega)),È hi (by omega)];rfl
 ·rw[Ô]
def tr_L3 (h:MOk m) (f:ĵ m.2 w) (k0:CK (Int×Int)->BY ρ):Ë (fun(v:Int×CK (Int×Int)) e=>lU m w m.1.2.2.2.2.2 (Õ m.1.2.2.2.2.2) v.1 v.2 (fun a b=>e (a,b)) k0) ((0:Int),[])=k0 (m.1.2.2.2.2.2.map fun n=>(iY m.2 w n.1 n.2,n.2)):=by
 have j:=h.good.nK
 refine oM m.1.2.2.2.2.2 (fun n:Int×Int=>((iY m.2 w n.1 n.2,n.2):Int×Int)) k0 (fun i a hi ha v d g=>?_) (fun v d=>?_)<;>(try dsimp only)<;>unfold lU
 ·rw[Í hi,Ã ha,h.who f,À,å (Ñ (by simp; omega)),È hi (by omega)]
 ·rw[Ô]
def oT (h:MOk m) (a:ĵ m.2 w):Φ m w=some (trP m w):=by
 have d:=h.good.nG;unfold Φ xE trP;rw[å (Ñ (by omega)),tr_L0 h a,tr_L1 h a,tr_L2 h a,tr_L3 h a]
end
def WQ {l:CK Int} {x:Int} (h:x∈l):∃k,l.findIdx? (·==x)=some k/\l[k]?=some x:=by
 cases a:l.findIdx? (·==x) with
 |none =>
  have:=dX.1 a x h;simp at this
 |some k =>
  obtain⟨d,e,_⟩:=dM.1 a;exact⟨k,rfl,by rw[cV d]; simpa using e⟩
def MI {l:CK Int} {x:Int} (h:x∉l):l.findIdx? (·==x)=none:=by
 rw[dX];intro y a;simp only[beq_eq_false_iff_ne];exact fun e=>h (e▸a)
def amS {l:CK Int} (d:l.Nodup) {k:Nat} {x:Int} (h:l[k]?=some x):l.findIdx? (·==x)=some k:=by
 obtain⟨j,e,a⟩:=WQ (dc h);obtain⟨i,g⟩:=cY.1 h;obtain⟨h2,f⟩:=cY.1 a;rw[e,(List.getElem_inj d).1 (f.trans g.symm)]
def acV {d d0:Int} {l k:CK Int} (g:l.Nodup) (n:k.Nodup) (f:l.Perm k) (x:Int):stp d (d0,k) l (stp d (d0,l) k x)=x:=by
 unfold stp
 by_cases hd:d0<d
 ·simp only[if_pos hd]
  by_cases a:x∈k
  ·obtain⟨i,j,h2⟩:=WQ a;rw[j];dsimp only
   have hi:i<l.length:=by rw[f.length_eq]; exact(cY.1 h2).1
   have e:l[i]?=some (l.getD i 0):=by rw[ej,cV hi]; rfl
   rw[amS g e];dsimp only;rw[List.getD_eq_getElem?_getD,h2]; rfl
  ·rw[MI a];dsimp only;rw[MI fun h=>a (f.subset h)]
 ·simp only[if_neg hd]
def ag9 {d:Int} {m:Mx} {l:CK Int} (e:l.Perm m.2) (x:Int):stp d m l x=x\/(m.1<d/\x∈m.2/\stp d m l x∈m.2):=by
 unfold stp
 by_cases hd:m.1<d
 ·simp only[if_pos hd]
  by_cases a:x∈l
  ·obtain⟨i,f,h2⟩:=WQ a;rw[f];dsimp only
   have hi:i<m.2.length:=by rw[<-e.length_eq]; exact(cY.1 h2).1
   exact .inr ⟨hd,e.subset a,by rw[ej,cV hi]; exact fC hi⟩
  ·rw[MI a];exact .inl rfl
 ·simp only[if_neg hd];exact .inl trivial
def amQ:CK Mx->Way->Int->Int->Int
 |m::ms,l::ls,x,d=>amQ ms ls (stp d (m.1,l) m.2 x) d
 |_,_,x,_=>x
def akh {l:CK Int} (h:l.Pairwise (·<·)):l.Nodup:=h.imp fun h=>Int.ne_of_lt h
def agU:∀{ms:CK Mx} {w:Way},ĵ ms w->(∀x∈ms,x.2.Nodup)->∀x d,iY ms w (amQ ms w x d) d=x
 |[],[],_,_,x,d=>rfl
 |m::ms,l::ls,h,a,x,d=>by
  rw[amQ,iY,agU h.2 fun y e=>a y (dS _ e)];exact acV (d0:=m.1) (h.1.nodup_iff.2 (a m (by simp))) (a m (by simp)) h.1 x
def abU:∀{ms:CK Mx} {w:Way},ĵ ms w->(∀x∈ms,x.2.Nodup)->∀x d,amQ ms w (iY ms w x d) d=x
 |[],[],_,_,x,d=>rfl
 |m::ms,l::ls,h,a,x,d=>by
  rw[amQ,iY];have:=acV (d:=d) (d0:=m.1) (l:=m.2) (k:=l) (a m (by simp)) (h.1.nodup_iff.2 (a m (by simp))) h.1.symm (iY ms ls x d);rw[show stp d (m.1,l) m.2 (stp d m l (iY ms ls x d))=_ from this];exact abU h.2 (fun y e=>a y (dS _ e)) x d
def agV:∀{ms:CK Mx} {w:Way} (Q:Int->Prop) {d:Int},ĵ ms w->(∀m∈ms,m.1<d->∀x∈m.2,Q x)->∀{x:Int},Q x->Q (iY ms w x d)
 |[],[],Q,d,_,_,x,a=>a
 |m::ms,l::ls,Q,d,h,f,x,a=>by
  have:=agV (x:=x) Q h.2 (fun y g=>f y (dS _ g)) a;rw[iY];rcases ag9 (d:=d) h.1 (iY ms ls x d) with e|⟨j,_,i⟩
  ·rw[e]; exact this
  ·exact f m (by simp) j _ i
def Mr:∀{ms:CK Mx} {w:Way} {d:Int},ĵ ms w->∀{x:Int},(∀m∈ms,m.1<d->x∉m.2)->iY ms w x d=x
 |[],[],d,_,x,_=>rfl
 |m::ms,l::ls,d,h,x,a=>by
  rw[iY,Mr h.2 fun y f=>a y (dS _ f)];rcases ag9 (d:=d) h.1 x with e|⟨i,g,_⟩
  ·exact e
  ·exact absurd g (a m (by simp) i)
def XH:∀{ms:CK Mx} {w:Way} {d e:Int},ĵ ms w->ms.Pairwise (fun a b=>a.1<b.1)->d<=e->∀{x:Int},(∀m∈ms,d<=m.1->m.1<e->x∉m.2)->iY ms w x e=iY ms w x d
 |[],[],d,e,_,_,_,x,_=>rfl
 |m::ms,l::ls,d,e,h,j,p,x,k=>by
  rw[dG] at j;rcases gW m.1 d with n|o
  ·rw[iY,iY,XH h.2 j.2 p fun y g=>k y (dS _ g)]
   have q:∀y,stp e m l y=stp d m l y:=fun y=>by unfold stp; rw[if_pos n,if_pos (by omega)]
   exact q _
  ·have q:iY (m::ms) (l::ls) x e=x:=Mr h fun y g i=>by
    rcases df.1 g with rfl|f
    ·exact k y (by simp) o i
    ·exact k y g (by have:=j.1 y f; omega) i
   have s:iY (m::ms) (l::ls) x d=x:=Mr h fun y g r=>by
    rcases df.1 g with rfl|f
    ·omega
    ·have:=j.1 y f; omega
   rw[q,s]
def Gy {b:ò} (hi:b.2.1.Pairwise fun a b=>a.1<b.1) {id day:Int}:mM (ś b) id day=0↔∃g,í b id=some g/\g.2.1<=day:=by
 rw[<-xv hi];unfold ň
 cases í b id with
 |none=>simp
 |some g =>
  dsimp only
  by_cases h:day<g.2.1
  ·rw[if_pos h]; simp; omega
  ·rw[if_neg h]; simp; omega
def FU {b:ò} (hi:b.2.1.Pairwise fun a b=>a.1<b.1) {id day:Int}:aba (ś b) id day=0↔Da day=true/\∃g,í b id=some g/\g.2.1<=day:=by
 unfold aba
 cases Da day with
 |false=>simp
 |true=>simp[Gy hi]
def Z2 {b:ò} (hi:b.2.1.Pairwise fun a b=>a.1<b.1) {i:Nat} {l:Jb}:Mh b (ś b) i l=0↔ks l.2.1 0 20000=true/\inP l.2.2 0 1048576=true/\(∃g,í b l.1=some g/\g.2.1<=l.2.1.1) /\
 (∀x∈b.2.2.2.1.take i,x.1=l.1->¬(x.2.1.1<=l.2.1.2/\l.2.1.1<=x.2.1.2))/\∀u∈b.2.2.1,u.1=l.1->inP u.2 l.2.1.1 l.2.1.2=false:=by
 unfold Mh;rw[<-Gy hi]
 cases ks l.2.1 0 20000 with
 |false=>simp
 |true =>
  cases inP l.2.2 0 1048576 with
  |false=>simp
  |true =>
   by_cases h:mM (ś b) l.1 l.2.1.1=0
   ·simp only[h,dP,dp,if_false,bne_self_eq_false,true_and]
    split
    ·rename_i d;simp only[dv,cW,beq_iff_eq,decide_eq_true_eq] at d;obtain⟨x,f,n,k⟩:=d;exact⟨fun e=>absurd e (by decide),fun e=>absurd k (e.1 x f n)⟩
    ·rename_i d;simp only[dv,cW,beq_iff_eq,decide_eq_true_eq,not_exists,not_and] at d
     split
     ·rename_i h2;simp only[dv,cW,beq_iff_eq] at h2;obtain⟨u,j,n,k⟩:=h2;exact⟨fun e=>absurd e (by decide),fun e=>by have:=e.2 u j n; rw[k] at this; cases this⟩
     ·rename_i h2;simp only[dv,cW,beq_iff_eq,not_exists,not_and] at h2;exact⟨fun _=>⟨fun x f e ⟨p,q⟩=>d x f e p q,fun u j e=>by simpa using h2 u j e⟩,fun _=>rfl⟩
   ·simp[h]
def Tj {b:ò} (hi:b.2.1.Pairwise fun a b=>a.1<b.1) {c:Cmp}:vC b (ś b) c=0↔(∀x∈c.2.2.1++c.2.2.2.1,(∃g,í b x=some g/\g.2.1<=c.2.1)/\ŗ b x c.2.1=none) /\
 (Þ c.2.2.1 c.2.2.2.1).length<=1/\(Þ c.2.2.2.1 c.2.2.1).length<=1/\(Þ c.2.2.1 c.2.2.2.1).length+(Þ c.2.2.2.1 c.2.2.1).length≠0:=by
 unfold vC;constructor
 ·intro h
  split at h
  ·cases h
  rename_i f
  split at h
  ·cases h
  rename_i h2
  split at h
  ·cases h
  rename_i i
  split at h
  ·cases h
  split at h
  ·cases h
  split at h
  ·cases h
  simp only[dv,not_exists,not_and,beq_iff_eq] at f h2;simp only[dv,not_exists,not_and,Option.isSome_iff_ne_none,ne_eq,Decidable.not_not] at i;refine⟨fun x d=>⟨(Gy hi).1 ?_,i x d⟩,by omega,by omega,by omega⟩;rcases EU (ś b) x c.2.1 with e|e|e
  ·exact e
  ·exact absurd e (h2 x d)
  ·exact absurd e (f x d)
 ·intro⟨f,h2,i,k⟩;have j:∀x∈c.2.2.1++c.2.2.2.1,mM (ś b) x c.2.1=0:=fun x d=>(Gy hi).2 (f x d).1;rw[if_neg,if_neg,if_neg,if_neg (by omega),if_neg (by omega),if_neg k]
  ·simp only[dv,not_exists,not_and,Option.isSome_iff_ne_none,ne_eq,Decidable.not_not];exact fun x d=>(f x d).2
  ·simp only[dv,not_exists,not_and,beq_iff_eq]
   exact fun x d e=>by rw[j x d] at e; cases e
  ·simp only[dv,not_exists,not_and,beq_iff_eq]
   exact fun x d e=>by rw[j x d] at e; cases e
def Kn {b:ò} {x d:Int}:ŗ b x d=none↔∀l∈b.2.2.2.1,l.1=x->inP d l.2.1.1 l.2.1.2=false:=by
 unfold ŗ;rw[List.find?_eq_none];simp
def zI {m:Ň} {w:Way} {d:Int} {l:CK Int} {y:Int}:y∈nS m w d l↔∃x∈l,iY m.2 w x d=y:=by
 unfold nS;rw[(ā _).mem_iff,List.mem_map]
section
variable {m:Ň} {w:Way}
def MOk.nd (h:MOk m):∀x∈m.2,x.2.Nodup:=fun x a=>akh (h.mix a).asc
def MOk.inj (h:MOk m) (a:ĵ m.2 w) {d x y:Int} (e:iY m.2 w x d=iY m.2 w y d):x=y:=by
 rw[<-abU a h.nd x d,e,abU a h.nd]
def MOk.whoG (h:MOk m) (i:ĵ m.2 w) {d x:Int} (f:∃g,í m.1 x=some g/\g.2.1<=d):∃g,í m.1 (iY m.2 w x d)=some g/\g.2.1<=d :=
 agV (fun y=>∃g,í m.1 y=some g/\g.2.1<=d) i (fun y e hd z a=>by
  obtain⟨g,j,h2⟩:=(h.mix e).known z a
  exact⟨g,j,by omega⟩) f
def MOk.made (h:MOk m) (f:ĵ m.2 w) {x:Int} {g:è} (i:í m.1 x=some g):iY m.2 w x g.2.1=x :=
 Mr f fun y d hd e=>by
  obtain⟨g',a,h2⟩:=(h.mix d).known x e;rw[i] at a; cases a;omega
def MOk.loan (h:MOk m) (f:ĵ m.2 w) {l:Jb} (g:l∈m.1.2.2.2.1) {d:Int} (hd:inP d l.2.1.1 l.2.1.2=true):iY m.2 w l.1 d=iY m.2 w l.1 l.2.1.1:=by
 simp only[inP,cW,decide_eq_true_eq] at hd;refine XH f h.days hd.1 fun y a i h2 e=>?_;have:=(Kn.1 ((h.mix a).home _ e).1) l g rfl;simp only[inP,Bool.and_eq_false_iff,decide_eq_false_iff_not] at this;omega
def aiJ (h:MOk m) (f:ĵ m.2 w) (d:Int) (A B:CK Int):(Þ (nS m w d A) (nS m w d B)).Perm ((Þ A B).map fun x=>iY m.2 w x d):=by
 unfold Þ;refine((ā _).filter _).trans ?_;rw[List.filter_map];refine List.Perm.of_eq ?_;congr 1;refine List.filter_congr fun x g=>?_;simp only[Function.comp];congr 1;rw[Bool.eq_iff_iff,List.contains_iff_mem,List.contains_iff_mem,zI];exact⟨fun⟨y,a,e⟩=>h.inj f e▸a,fun a=>⟨x,a,rfl⟩⟩
def ac8 (h:MOk m) (i:ĵ m.2 w) {d:Int} {l:CK Int} (n:vc l=true) (p:∀x∈l,∃g,í m.1 x=some g/\g.2.1<=d):vc (nS m w d l)=true:=by
 obtain⟨u,h2,r⟩:=(zJ l).1 n;refine(zJ _).2 ⟨fun y j=>?_,?_,by unfold nS; rw[(ā _).length_eq,List.length_map]; exact r⟩
 ·obtain⟨x,k,rfl⟩:=zI.1 j;obtain⟨g,q,_⟩:=h.whoG i (p x k);obtain⟨t,s⟩:=i9 q;have:=(h.good.gaugeR t).2.2.2.1;rw[<-s]; exact this
 ·have f:(nS m w d l).Nodup:=by
   unfold nS;rw[(ā _).nodup_iff];exact List.pairwise_map.2 (h2.imp fun o e=>by have:=h.inj i e; omega)
  exact((Ř _).and f).imp fun⟨a,b⟩=>Int.lt_iff_le_and_ne.2 ⟨a,b⟩
def ana (h:MOk m) (f:ĵ m.2 w) {x d:Int} (ha:ŗ m.1 x d=none):ŗ (trP m w) (iY m.2 w x d) d=none:=by
 rw[Kn];intro i a e;obtain⟨l,g,rfl⟩:=dw.1 a
 cases hd:inP d l.2.1.1 l.2.1.2 with
 |false=>rfl
 |true =>
  rw[<-h.loan f g hd] at e;have:=Kn.1 ha l g (h.inj f e);rw[hd] at this; cases this
def NS {b:ò} (hi:b.2.1.Pairwise fun a b=>a.1<b.1):(Ò b).Nodup:=by
 unfold Ò List.Nodup;rw[List.pairwise_flatMap];refine⟨fun g _=>List.pairwise_map.2 ((oy b g).imp fun h e=>by cases e; omega),hi.imp fun j x i y f e=>?_⟩;obtain⟨d,_,rfl⟩:=List.mem_map.1 i;obtain⟨k,_,rfl⟩:=List.mem_map.1 f;simp only[Prod.mk.injEq] at e;omega
def zQ {b:ò} {x d:Int}:(x,d)∈Ò b↔∃g∈b.2.1,g.1=x/\d∈Û b g:=by
 unfold Ò;simp only[List.mem_flatMap,List.mem_map];constructor
 ·rintro⟨g,a,f,hd,e⟩;cases e;exact⟨g,a,rfl,hd⟩
 ·rintro⟨g,a,rfl,hd⟩;exact⟨g,a,d,hd,rfl⟩
def CE (h:MOk m) (f:ĵ m.2 w) {d:Int} {A:CK Int} {x:Int}:(nS m w d A).contains (iY m.2 w x d)=A.contains x:=by
 rw[eI,dV,dV,zI];exact⟨fun⟨y,a,e⟩=>h.inj f e▸a,fun a=>⟨x,a,rfl⟩⟩
def am9 (h:MOk m) (e:ĵ m.2 w) {x d:Int} (o:(x,d)∈Ò m.1):(iY m.2 w x d,d)∈Ò (trP m w):=by
 obtain⟨g,l,rfl,hd⟩:=zQ.1 o;have a:=jp h.good.ids l;obtain⟨g',k,_⟩:=h.whoG e (x:=g.1) (d:=d) ⟨g,a,(h.good.day l hd).1⟩;obtain⟨q,j⟩:=i9 k;refine zQ.2 ⟨g',q,j,Ž.2 ?_⟩;rcases Ž.1 hd with rfl|⟨c,p,i,rfl⟩|⟨n,f,i,rfl⟩
 ·rw[h.made e a,a] at k;cases k;exact .inl rfl
 ·refine .inr (.inl ⟨agM m w c,dw.2 ⟨c,p,rfl⟩,?_,rfl⟩);rw[j];show(nS m w c.2.1 c.2.2.1).contains _≠(nS m w c.2.1 c.2.2.2.1).contains _;rw[CE h e,CE h e];exact i
 ·exact .inr (.inr ⟨_,dw.2 ⟨n,f,rfl⟩,by rw[j,i],rfl⟩)
def XS (h:MOk m) (j:ĵ m.2 w) {y d:Int} (s:(y,d)∈Ò (trP m w)):∃x,iY m.2 w x d=y/\(x,d)∈Ò m.1:=by
 obtain⟨g,k,rfl,hd⟩:=zQ.1 s;have k:g∈m.1.2.1:=k;have o:=jp h.good.ids k;have q:iY m.2 w (amQ m.2 w g.1 d) d=g.1:=agU j h.nd _ _
 have fin:∀x,iY m.2 w x d=g.1->(∃g',í m.1 x=some g')->(∀g':è,g'.1=x->d∈Û m.1 g')->∃x,iY m.2 w x d=g.1/\(x,d)∈Ò m.1:=fun x e ⟨g',A⟩ z=>by
  obtain⟨v,a⟩:=i9 A;exact⟨x,e,zQ.2 ⟨g',v,a,z g' a⟩⟩
 rcases Ž.1 hd with e|⟨c',p,a,f⟩|⟨B,l,a,f⟩
 ·subst e;exact⟨g.1,h.made j o,zQ.2 ⟨g,k,rfl,nr g⟩⟩
 ·obtain⟨c,r,rfl⟩:=dw.1 p;have f:c.2.1=d:=f;subst f;have a:(nS m w c.2.1 c.2.2.1).contains g.1≠(nS m w c.2.1 c.2.2.2.1).contains g.1:=a;rw[<-q,CE h j,CE h j] at a;refine fin _ q ?_ fun g' e=>Ž.2 (.inr (.inl ⟨c,r,by rw[e]; exact a,rfl⟩))
  have:amQ m.2 w g.1 c.2.1∈c.2.2.1++c.2.2.2.1:=by
   rw[de,<-dV,<-dV]
   cases t:c.2.2.1.contains (amQ m.2 w g.1 c.2.1) with
   |true=>exact .inl rfl
   |false =>
    rw[t] at a;exact .inr (by simpa using a)
  obtain⟨⟨g',e,_⟩,_⟩:=h.good.pile r this;exact⟨g',e⟩
 ·obtain⟨n,i,rfl⟩:=dw.1 l;have f:n.2=d:=f;have a:iY m.2 w n.1 n.2=g.1:=a;subst f;obtain⟨_,g',e,_⟩:=(FU h.good.ids).1 (h.good.looks n i);exact fin n.1 a ⟨g',e⟩ fun u e=>Ž.2 (.inr (.inr ⟨n,i,e.symm,rfl⟩))
def ale (m:Ň) (w:Way) (n:Int×Int):Int×Int:=(iY m.2 w n.1 n.2,n.2)
def amF (h:MOk m):(trP m w).2.1.Pairwise fun a b=>a.1<b.1:=h.good.ids
def tr_len (h:MOk m) (g:ĵ m.2 w):(Ò (trP m w)).length=(Ò m.1).length:=by
 have p:(Ò (trP m w)).length<=((Ò m.1).map (ale m w)).length:=fO (NS (amF h)) fun n k=>by
  obtain⟨x,e,f⟩:=XS (y:=n.1) (d:=n.2) h g k;exact dw.2 ⟨(x,n.2),f,Prod.ext e rfl⟩
 have h2:((Ò m.1).map (ale m w)).length<=(Ò (trP m w)).length:=by
  have j:((Ò m.1).map (ale m w)).Nodup:=by
   refine List.pairwise_map.2 ((NS h.good.ids).imp ?_);intro a b i e;unfold ale at e;simp only[Prod.mk.injEq] at e;obtain⟨o,l⟩:=e;rw[l] at o;exact i (Prod.ext (h.inj g o) l)
  refine fO j fun n k=>?_;obtain⟨⟨x,d⟩,f,rfl⟩:=dw.1 k;exact am9 h g f
 rw[dF] at p h2;omega
def nP (h:MOk m) (j:ĵ m.2 w):ţ (trP m w):=by
 have a:=h.good;have f:=amF (w:=w) h;have X:ś (trP m w)=ś m.1:=rfl;have Z:∀x,í (trP m w) x=í m.1 x:=fun _=>rfl;have o:=tr_len h j;refine⟨a.film,a.nG,by simpa[trP] using a.nU,by simpa[trP] using a.nL,by simpa[trP] using a.nC,by simpa[trP] using a.nK,a.gauge,f,?_,?_,?_,?_,by rw[o]; exact a.nodes,by rw[o]; simpa[trP] using a.links⟩
 ·intro u' q;obtain⟨u,F,rfl⟩:=dw.1 q;obtain⟨C,B⟩:=(FU a.ids).1 (a.uses u F);exact(FU f).2 ⟨C,h.whoG j B⟩
 ·intro i O I
  obtain⟨l,P,rfl⟩:∃l,m.1.2.2.2.1[i]?=some l/\(iY m.2 w l.1 l.2.1.1,l.2)=O:=by
   have:(m.1.2.2.2.1.map (fun l:Jb=>(iY m.2 w l.1 l.2.1.1,l.2)))[i]?=some O:=I;rw[eP] at this
   cases d:m.1.2.2.2.1[i]? with
   |none=>rw[d] at this; cases this
   |some l=>rw[d] at this; exact⟨l,rfl,by simpa using this⟩
  have r:=dc P;obtain⟨C,B,e3,e4,e5⟩:=(Z2 a.ids).1 (a.loans i l P);refine(Z2 f).2 ⟨C,B,h.whoG j e3,fun R k ex z=>?_,fun u' q M=>?_⟩
  ·have k:R∈(m.1.2.2.2.1.map (fun l:Jb=>(iY m.2 w l.1 l.2.1.1,l.2))).take i:=k;rw[<-List.map_take] at k;obtain⟨x,d,rfl⟩:=List.mem_map.1 k;have t:=List.mem_of_mem_take d;have s1:=(wG a t).1;have s2:=(wG a r).1;dsimp only at ex z
   have d1:inP (max x.2.1.1 l.2.1.1) x.2.1.1 x.2.1.2=true:=by simp[inP]; omega
   have d2:inP (max x.2.1.1 l.2.1.1) l.2.1.1 l.2.1.2=true:=by simp[inP]; omega
   rw[<-h.loan j t d1,<-h.loan j r d2] at ex;exact e4 x d (h.inj j ex) z
  ·obtain⟨u,F,rfl⟩:=List.mem_map.1 q;dsimp only at M ⊢
   cases hd:inP u.2 l.2.1.1 l.2.1.2 with
   |false=>rfl
   |true =>
    rw[<-h.loan j r hd] at M;have:=e5 u F (h.inj j M);rw[hd] at this; cases this
 ·intro i c' K
  obtain⟨c,Q,rfl⟩:∃c,m.1.2.2.2.2.1[i]?=some c/\agM m w c=c':=by
   have:(m.1.2.2.2.2.1.map (agM m w))[i]?=some c':=K;rw[eP] at this
   cases d:m.1.2.2.2.2.1[i]? with
   |none=>rw[d] at this; cases this
   |some l=>rw[d] at this; exact⟨l,rfl,by simpa using this⟩
  have s:=dc Q;obtain⟨n1,V,U,n4,T,n6,S⟩:=(Ŝ c).1 (a.nums s);have v:=(Tj a.ids).1 (a.pilesOf s);have J:∀x∈c.2.2.1++c.2.2.2.1,∃g,í m.1 x=some g/\g.2.1<=c.2.1:=fun x d=>(v.1 x d).1;have A:Jt (agM m w c)=true:=(Ŝ _).2 ⟨n1,V,U,n4,T,ac8 h j n6 fun x d=>J x (dR _ d),ac8 h j S fun x d=>J x (dN _ d)⟩;have E:=(aiJ h j c.2.1 c.2.2.1 c.2.2.2.1).length_eq;have D:=(aiJ h j c.2.1 c.2.2.2.1 c.2.2.1).length_eq;rw[dF] at E D
  have G:vC (trP m w) (ś (trP m w)) (agM m w c)=0:=by
   refine(Tj f).2 ⟨fun y p=>?_,?_,?_,?_⟩
   ·have p:y∈nS m w c.2.1 c.2.2.1++nS m w c.2.1 c.2.2.2.1:=p
    obtain⟨x,d,rfl⟩:∃x∈c.2.2.1++c.2.2.2.1,iY m.2 w x c.2.1=y:=by
     rcases de.1 p with p|p
     ·obtain⟨x,d,e⟩:=zI.1 p;exact⟨x,dR _ d,e⟩
     ·obtain⟨x,d,e⟩:=zI.1 p;exact⟨x,dN _ d,e⟩
    exact⟨h.whoG j (J x d),ana h j (v.1 x d).2⟩
   ·show(Þ (nS m w c.2.1 c.2.2.1) (nS m w c.2.1 c.2.2.2.1)).length<=1;rw[E]; exact v.2.1
   ·show(Þ (nS m w c.2.1 c.2.2.2.1) (nS m w c.2.1 c.2.2.1)).length<=1;rw[D]; exact v.2.2.1
   ·show(Þ (nS m w c.2.1 c.2.2.1) (nS m w c.2.1 c.2.2.2.1)).length+(Þ (nS m w c.2.1 c.2.2.2.1) (nS m w c.2.1 c.2.2.1)).length≠0;rw[E,D]; exact v.2.2.2
  have h0:=a.compares i c Q;unfold md at h0 ⊢;rw[a.nums s] at h0;rw[A,G]
  have W:((trP m w).2.2.2.2.1.take i).any (fun x=>x.1==(agM m w c).1)=(m.1.2.2.2.2.1.take i).any fun x=>x.1==c.1:=by
   show((m.1.2.2.2.2.1.map (agM m w)).take i).any _=_;rw[<-List.map_take,List.any_map]; rfl
  rw[W];simp only[dP,dp,if_false] at h0 ⊢
  split at h0
  ·cases h0
  ·rename_i h1; rw[if_neg h1]
 ·intro n' H;obtain⟨n,Y,rfl⟩:=dw.1 H;obtain⟨C,B⟩:=(FU a.ids).1 (a.looks n Y);exact(FU f).2 ⟨C,h.whoG j B⟩
end
section
variable {L:CK Lk} {N:Nat}
def XE (h:jz L N):oN ((N:Int),L)=some (lC L N,0):=by
 have h2:=h.n60;unfold oN Ed;rw[kY h,À];dsimp only;rw[Ì (by rfl),xu h.links h.n1 (by omega),À]
 cases lC L N<;>rfl
end
def acH (x y:CK Int):CK Int×CK Int×Int:=if !vc x then([],[],1) else if !vc y then([],[],1) else(Þ x y,Þ y x,0)
def akE {x y:CK Int} (d:x.length<=100000) (a:y.length<=100000):ro x y=some (acH x y):=by
 unfold ro Uu acH;rw[Ik (by omega),À]
 cases vc x with
 |false=>rfl
 |true =>
  rw[Ik (by omega),À]
  cases vc y with
  |false=>rfl
  |true =>
   rw[Bq (by omega) (by omega),À,Bq (by omega) (by omega),À];rfl
def less (b:ò) (ids:CK Int):ò:=(b.1,b.2.1,b.2.2.1,b.2.2.2.1,b.2.2.2.2.1.filter (fun c=>!ids.contains c.1),b.2.2.2.2.2)
section
variable {b:ò} {ids:CK Int}
def ţ.distinct (h:ţ b):b.2.2.2.2.1.Pairwise fun a c=>a.1≠c.1:=by
 rw[List.pairwise_iff_getElem];intro i j hi f g k;have e:=h.compares j _ (List.getElem?_eq_getElem f);unfold md at e
 have d:(b.2.2.2.2.1.take j).any (fun x=>x.1==b.2.2.2.2.1[j].1)=true:=by
  rw[dv];exact⟨b.2.2.2.2.1[i],dm.2 ⟨i,by rw[dk]; omega,by rw[fg]⟩,by simp[k]⟩
 rw[d] at e
 (repeat' split at e)<;>first|omega|simp_all
def ai1 {α β:Type} (f g:α->CK β):∀l:CK α,(∀a∈l,(f a).length<=(g a).length)->(l.flatMap f).length<=(l.flatMap g).length
 |[],_=>cX _
 |a::l,h=>by
  rw[dz,dz,cZ,cZ];have:=h a (by simp);have:=ai1 f g l fun c d=>h c (by simp[d]);omega
def lt_len:∀{x y:CK Int},x.Pairwise (·<·)->(∀a∈x,a∈y)->x.length<=y.length:=by
 intro x y d h;exact(fO (d.imp fun h=>by omega) h)
def ţ.less (h:ţ b) (ids:CK Int):ţ (less b ids):=by
 have l:∀c∈(ZzM.less b ids).2.2.2.2.1,c∈b.2.2.2.2.1:=fun c o=>(dW.1 o).1;have p:(ZzM.less b ids).2.2.2.2.1.length<=b.2.2.2.2.1.length:=eA _ _
 have n:∀g,(Û (ZzM.less b ids) g).length<=(Û b g).length:=fun g=>lt_len (oy _ g) fun d hd=>by
  rcases Ž.1 hd with e|⟨c,o,y,h2⟩|B
  ·exact Ž.2 (.inl e)
  ·exact Ž.2 (.inr (.inl ⟨c,l c o,y,h2⟩))
  ·exact Ž.2 (.inr (.inr B))
 have f:(Ò (ZzM.less b ids)).length<=(Ò b).length:=ai1 _ _ _ fun g _=>by rw[dF,dF]; exact n g
 have F:=h.nodes;have G:=h.nC;refine⟨h.film,h.nG,h.nU,h.nL,Nat.le_trans p h.nC,h.nK,h.gauge,h.ids,h.uses,h.loans,fun i c o=>?_,h.looks,Nat.le_trans f F,by omega⟩;have v:=l c (List.mem_of_getElem? o);obtain⟨j,D,t⟩:=List.mem_iff_getElem.1 v;have s:=h.compares j c (by rw[List.getElem?_eq_getElem D,t]);unfold md at s ⊢
 split at s
 ·omega
 rename_i y
 split at s
 ·omega
 rw[if_neg y,if_neg ?_]
 ·exact s
 ·intro r;obtain⟨x,A,E⟩:=dv.1 r;obtain⟨k,C,q⟩:=dm.1 A;rw[dk] at C;rw[fg] at q;obtain⟨hi,u⟩:=cY.1 o;have z:=dL.1 ((h.distinct.sublist gM:(ZzM.less b ids).2.2.2.2.1.Pairwise fun a c=>a.1≠c.1)) k i (by omega) hi (by omega);rw[q,u] at z;exact z (eq_of_beq E)
end
abbrev zC:Cmp:=((0:Int),(0:Int),[],[],(0:Int),(0:Int),(0:Int),(0:Int))
section
variable {ρ α:Type}
def aji (a:α) (K:CK α->BY ρ) (z:Int×CK α):BY ρ :=
 à ((ile (0:Int) z.1)&&(ile z.1 (î z.2))) (à ((ile (0:Int) z.1)&&(ile z.1 (î (List.take (Int.toNat z.1) z.2++List.replicate (List.length z.2-(Int.toNat z.1)) a++List.drop ((Int.toNat z.1)+(List.length z.2-(Int.toNat z.1))) z.2))))
  (K (List.take (Int.toNat z.1) (List.drop 0 (List.take (Int.toNat z.1) z.2++List.replicate (List.length z.2-(Int.toNat z.1)) a++List.drop ((Int.toNat z.1)+(List.length z.2-(Int.toNat z.1))) z.2)))))
def ace (a:α) (K:CK α->BY ρ) {i:Nat} {s:CK α} (h:i<=s.length):aji a K ((i:Int),s)=K (s.take i):=by
 unfold aji
 have e:((ile (0:Int) (i:Int))&&(ile (i:Int) (î s)))=true:=by simp[ile,î]; omega
 dsimp only;rw[å e]
 have d:((ile (0:Int) (i:Int))&&(ile (i:Int) (î (List.take (Int.toNat (i:Int)) s++List.replicate (List.length s-(Int.toNat (i:Int))) a++List.drop ((Int.toNat (i:Int))+(List.length s-(Int.toNat (i:Int)))) s))))=true:=by
  simp[ile,î]; omega
 rw[å d,dj,g8,dg,fR (by simp; omega),List.take_take,Nat.min_self]
def af2 (p:α->Bool) {a:CK α} {F:Int->Int->CK α->(Int->Int->CK α->BY ρ)->BY ρ} {k0:Int×CK α->BY ρ} {K:CK α->BY ρ}
 (J:∀(i j:Nat) (s:CK α) (x:α),s.length=a.length->i<j->j<s.length->s[j]?=some x->x∈a->∀d,F i j s d=if p x then d ((i:Int)+1) ((j:Int)+1) (s.set i x) else d i ((j:Int)+1) s)
 (M:∀(i:Nat) (s:CK α) d,i<=s.length->s.length=a.length->F i s.length s d=k0 ((i:Int),s)) (G:∀(i:Nat) (s:CK α),i<=s.length->k0 ((i:Int),s)=K (s.take i))
 {z:Nat} (D:z<a.length) (E:∀x∈a.take z,p x=true) (I:∀c,a[z]?=some c->p c=false) :
 Ë (fun(v:Int×Int×CK α) C=>F v.1 v.2.1 v.2.2 (fun x y w=>C (x,y,w))) ((z:Int),((z:Int)+1),a)=K (a.filter p):=by
 refine ï (fun x:Int×Int×CK α=>∃i j:Nat,x.1=i/\x.2.1=j/\i<j/\j<=a.length/\x.2.2.length=a.length/\x.2.2.take i=(a.take j).filter p/\x.2.2.drop j=a.drop j) (fun x=>a.length-x.2.1.toNat) ?_
  ⟨z,z+1,rfl,by simp,by omega,by omega,rfl,?_,rfl⟩
 ·rintro⟨P,O,s⟩ ⟨i,j,B,h2,t,H,g,l,hd⟩;simp only at B h2 g l hd;subst B h2;rcases dl j a.length with n|n
  ·refine .inr ?_
   have o:s[j]?=some a[j]:=by
    have A:(s.drop j)[0]?=(a.drop j)[0]?:=by rw[hd]
    rw[eR,eR] at A;simpa[cV n] using A
   have f:(a.take (j+1)).filter p=(a.take j).filter p++if p a[j] then[a[j]] else[]:=by
    rw[take_succ (cV n),eZ];congr 1
    cases h:p a[j]<;>simp[h]
   have k:s.drop (j+1)=a.drop (j+1):=by
    have:=congrArg (List.drop 1) hd;simpa[gg,Nat.add_comm] using this
   have u:=J i j s a[j] g t (by omega) o (fC n)
   cases h:p a[j] with
   |false =>
    refine⟨(i,(j:Int)+1,s),⟨i,j+1,rfl,by simp,by omega,by omega,g,?_,k⟩,by simp; omega,fun d=>by dsimp only; rw[u,h]; rfl⟩;rw[f,h]; simpa using l
   |true =>
    have r:i<s.length:=by omega
    refine⟨((i:Int)+1,(j:Int)+1,s.set i a[j]),⟨i+1,j+1,by simp,by simp,by omega,by omega,by simpa using g,?_,?_⟩,by simp; omega,fun d=>by dsimp only; rw[u,h]; rfl⟩
    ·show List.take (i+1) (s.set i a[j])=_;rw[f,h,List.take_add_one,ii,List.take_set_of_le (cX i),l];simp[r]
    ·show List.drop (j+1) (s.set i a[j])=_;rw[List.drop_set_of_lt (by omega)];exact k
  ·refine .inl fun d=>?_
   have q:j=s.length:=by omega
   try dsimp only
   rw[q,M i s _ (by omega) g,G i s (by omega),l,dY (by omega)]
 ·show List.take z a=(a.take (z+1)).filter p;have e:a[z]?=some a[z]:=cV D;rw[take_succ e,eZ,gO.2 E];simp[I _ e]
def acd (p:α->Bool) {a:CK α} {o:Int->(Int->BY ρ)->BY ρ} {F:Int->Int->CK α->(Int->Int->CK α->BY ρ)->BY ρ} {k0:Int×CK α->BY ρ} {K:CK α->BY ρ} {kf:Int->BY ρ} {kend:BY ρ}
 (D:∀(i:Nat) (x:α),i<a.length->a[i]?=some x->∀d,o i d=if !p x then kf i else d ((i:Int)+1)) (n:∀d,o a.length d=kend) (e:kend=K a)
 (k:∀z:Nat,z<a.length->kf z=Ë (fun(v:Int×Int×CK α) t=>F v.1 v.2.1 v.2.2 (fun x y w=>t (x,y,w))) ((z:Int),((z:Int)+1),a))
 (B:∀(i j:Nat) (s:CK α) (x:α),s.length=a.length->i<j->j<s.length->s[j]?=some x->x∈a->∀d,F i j s d=if p x then d ((i:Int)+1) ((j:Int)+1) (s.set i x) else d i ((j:Int)+1) s)
 (C:∀(i:Nat) (s:CK α) d,i<=s.length->s.length=a.length->F i s.length s d=k0 ((i:Int),s)) (u:∀(i:Nat) (s:CK α),i<=s.length->k0 ((i:Int),s)=K (s.take i)):Ë o 0=K (a.filter p):=by
 rw[iR a (fun x=>!p x) kf kend D n]
 cases q:a.findIdx? (fun x=>!p x) with
 |none =>
  dsimp only;rw[e,List.filter_eq_self.2];intro x g;have:=List.findIdx?_eq_none_iff.1 q x g;simpa using this
 |some z =>
  obtain⟨f,l,h⟩:=List.findIdx?_eq_some_iff_getElem.1 q;dsimp only;rw[k z f];refine af2 p B C u f (fun x g=>?_) (fun c r=>?_)
  ·obtain⟨j,A,rfl⟩:=dm.1 g;rw[dk] at A;rw[fg];have:=h j (by omega);simpa using this
  ·rw[cV f] at r;cases r;simpa using l
end
def nq (m:Ň) (w:Way):Bool:=lC (ů (trP m w)) ((Ò (trP m w)).length+1)
def vq (m:Ň):CK Way:=(Ğ m.2).filter (nq m)
def UJ (m:Ň):Way×Bool:=match (Ğ m.2).find? (nq m) with|some w=>(w,true)|none=>([],false)
section
variable {m:Ň} {w:Way} {ρ:Type}
def aor (h:MOk m) (a:ĵ m.2 w):In (trP m w):=⟨(nP h a).size,h.in_.num⟩
def Rb (h:MOk m) (a:ĵ m.2 w):jJ (trP m w)=some ((((Ò (trP m w)).length:Int)+1,ů (trP m w)),FZ (trP m w),0):=by
 rw[aaT (aor h a),XA,if_neg (by simp[(ť _).2 (nP h a)])]
def yG (h:MOk m) (a:ĵ m.2 w):Χ m w=some (nq m w):=by
 unfold Χ KP;rw[oT h a,À,Rb h a,À];have:=XE (nP h a).sys;simp only[Int.natCast_add,Int.cast_ofNat_Int] at this;rw[this]; rfl
def mF {i:Nat} (hi:(Ğ m.2)[i]?=some w):ĵ m.2 w:=vw.1 (dc hi)
def oA (h:MOk m):(Ğ m.2).length<=150:=by rw[ag0]; exact h.prod
def aiW (h:MOk m):IE m=some (vq m):=by
 unfold IE V4;have G:=MY h;have C:=oA h;have t:((((m.1.1.1,m.1.1.2),m.1.2.1,m.1.2.2.1,m.1.2.2.2.1,m.1.2.2.2.2.1,m.1.2.2.2.2.2),m.2):Ň)=m:=rfl;rw[ajr h,À,MK (fun v y e E=>by unfold Fc; rw[å (Ñ (by simp; omega))]) (by simp; omega),List.nil_append,XW h,À]
 refine acd (a:=Ğ m.2) (nq m) (K:=fun l=>some l) (k0:=aji [] fun l=>some l) (kf:=fun n=>ifb (ieq n (-1:Int)) (some (Ğ m.2)) (ck (n+(1:Int)) fun u=>Ë (fun(d:Int×Int×CK Way) f=>ob m.1.1.1 m.1.1.2 m.1.2.1 m.1.2.2.1 m.1.2.2.2.1 m.1.2.2.2.2.1 m.1.2.2.2.2.2 m.2 d.1 d.2.1 d.2.2 (fun q p o=>f (q,p,o)) (aji [] fun l=>some l)) (n,u,Ğ m.2)))
  (F:=fun a b c e=>ob m.1.1.1 m.1.1.2 m.1.2.1 m.1.2.2.1 m.1.2.2.2.1 m.1.2.2.2.2.1 m.1.2.2.2.2.2 m.2 a b c e (aji [] fun l=>some l)) (kend:=some (Ğ m.2)) (fun i x hi g e=>?_) (fun e=>?_) rfl (fun z A=>?_) (fun i j s x B D k g r e=>?_) (fun i s e hi B=>?_) (fun i s hi=>ace _ _ hi)
 ·try dsimp only
  unfold xG;rw[Í hi,Š hi,Ą g,t,yG h (mF g),À,È hi (by omega),é];rfl
 ·try dsimp only
  unfold xG;rw[Ô]
 ·rw[Ì (by simp[ieq]),È A (by omega)]
 ·try dsimp only
  unfold ob;rw[Í k,show î s=((s.length:Nat):Int) from rfl,Š k,Ą g,t,yG h (vw.1 r),À];cases nq m x
  ·simp only[fF,dP,æ,dp,if_false];rw[È k (by omega)]
  ·simp only[fF,dP,kQ,if_true];rw[Š (by omega),Ą (cV (by omega)),È (show i<s.length by omega) (by omega),È k (by omega),dj]
 ·try dsimp only
  unfold ob;rw[Ô]
def uW (h:MOk m):Ć m=some (UJ m):=by
 unfold Ć GQ;have g:=oA h;have f:((((m.1.1.1,m.1.1.2),m.1.2.1,m.1.2.2.1,m.1.2.2.2.1,m.1.2.2.2.2.1,m.1.2.2.2.2.2),m.2):Ň)=m:=rfl;rw[Nb h,À];refine Eq.trans (iQ (Ğ m.2) (fun _ w=>if nq m w then some (w,true) else none) (fun z=>some (z.1,z.2)) (some ([],false)) (fun i x hi a d=>?_) (fun d=>?_)) ?_
 ·try dsimp only
  unfold lY;rw[Í hi,Ã a,f,yG h (mF a),À,È hi (by omega),é]
  cases nq m x<;>rfl
 ·try dsimp only
  unfold lY;rw[Ô]
 ·rw[Lb,UJ]
  have key:∀l:CK Way,l.findSome? (fun w=>if nq m w then some (w,true) else none)=(l.find? (nq m)).map fun w=>(w,true):=by
   intro l
   induction l with
   |nil=>rfl
   |cons x l e =>
    rw[gP,f9]
    cases h:nq m x with
    |true=>rfl
    |false=>exact e
  rw[key]
  cases(Ğ m.2).find? (nq m)<;>rfl
def nA (m:Ň):Bool:=(Ğ m.2).any (nq m)
def yr (m:Ň):(UJ m).2=nA m:=by
 unfold UJ nA
 cases h:(Ğ m.2).find? (nq m) with
 |none =>
  symm
  rw[dI]
  exact fun x a=>by simpa using(ee.1 h) x a
 |some w =>
  symm
  rw[dv];exact⟨w,fJ h,fK h⟩
def All_ok (d:In m.1) (e:m.2.length<=1000):W6 m=some (if Ĵ m≠0 then([],Ĵ m) else(vq m,0)):=by
 unfold W6 aic;rw[oR d e,À]
 by_cases a:Ĵ m=0
 ·rw[Ì (by simp[ine,a]),if_neg (by simp[a]),aiW ((Ŗ m).1 a)]; rfl
 ·rw[Ð (by simp[ine,a]),if_pos a]
def abT (m:Ň):Way×Int:=if Ĵ m≠0 then([],Ĵ m) else if nA m then((UJ m).1,0) else([],5)
def akA (d:In m.1) (e:m.2.length<=1000):IF m=some (abT m):=by
 unfold IF Zc abT;rw[oR d e,À]
 by_cases a:Ĵ m=0
 ·rw[Ì (by simp[ine,a]),if_neg (by simp[a]),uW ((Ŗ m).1 a),À,yr]
  cases nA m<;>rfl
 ·rw[Ð (by simp[ine,a]),if_pos a]
def anY (m:Ň) (p:Cmp->Bool):Ň:=((m.1.1,m.1.2.1,m.1.2.2.1,m.1.2.2.2.1,m.1.2.2.2.2.1.filter p,m.1.2.2.2.2.2),m.2)
def vK (m:Ň) (ids:CK Int):Ň:=anY m fun c=>ids.contains c.1
def abv (A:m.1.2.2.2.2.1.length<=1000) {ids:CK Int} (hi:ids.length<=1000000):Co m ids=some (vK m ids):=by
 unfold Co VX;rw[å (Ñ (by omega))]
 refine acd (a:=m.1.2.2.2.2.1) (fun c=>ids.contains c.1) (K:=fun l=>some ((m.1.1,m.1.2.1,m.1.2.2.1,m.1.2.2.2.1,l,m.1.2.2.2.2.2),m.2)) (k0:=aji zC fun l=>some ((m.1.1,m.1.2.1,m.1.2.2.1,m.1.2.2.2.1,l,m.1.2.2.2.2.2),m.2))
  (kf:=fun k=>ifb (ieq k (-1:Int)) (some m) (ck (k+(1:Int)) fun r=>Ë (fun(d:Int×Int×CK Cmp) g=>oa ids d.1 d.2.1 d.2.2 (fun p o n=>g (p,o,n)) (aji zC fun l=>some ((m.1.1,m.1.2.1,m.1.2.2.1,m.1.2.2.2.1,l,m.1.2.2.2.2.2),m.2))) (k,r,m.1.2.2.2.2.1)))
  (F:=fun a b c f=>oa ids a b c f (aji zC fun l=>some ((m.1.1,m.1.2.1,m.1.2.2.1,m.1.2.2.2.1,l,m.1.2.2.2.2.2),m.2))) (kend:=some m) (fun i x e q f=>?_) (fun f=>?_) rfl (fun z t=>?_) (fun i j s x v y h q u f=>?_) (fun i s f hi v=>?_) (fun i s hi=>ace _ _ hi)
 ·try dsimp only
  unfold xF;rw[Í e,Š e,Ą q,Ţ hi,À,È e (by omega),é];rfl
 ·try dsimp only
  unfold xF;rw[Ô]
 ·rw[Ì (by simp[ieq]),È t (by omega)]
 ·try dsimp only
  unfold oa;rw[Í h,show î s=((s.length:Nat):Int) from rfl,Š h,Ą q,Ţ hi,À];cases ids.contains x.1
  ·simp only[fF,dP,æ,dp,if_false];rw[È h (by omega)]
  ·simp only[fF,dP,kQ,if_true];rw[Š (by omega),Ą (cV (by omega)),È (show i<s.length by omega) (by omega),È h (by omega),dj]
 ·try dsimp only
  unfold oa;rw[Ô]
end
section
variable {b:ò}
def MF (h:ţ b) (g:è) {f t u:Int} (d:f<=t) (h2:t<=u):υ b g f u=υ b g f t+υ b g t u:=by
 obtain⟨n,rfl⟩:∃n:Nat,u=t+n:=⟨(u-t).toNat,by omega⟩;clear h2
 induction n with
 |zero=>simp[Bn]
 |succ n a =>
  have e:t+((n+1:Nat):Int)=(t+n)+1:=by omega
  rw[e,P6 h g (show f<=t+(n:Int) by omega),P6 h g (show t<=t+(n:Int) by omega),a];omega
def FD (h:ţ b) {g:è} (a:g∈b.2.1) {f t:Int} (d:0<=f):0<=υ b g f t:=(kd h a d).1
def i6 (b:ò) (id d:Int):Int:=match iG (Ò b) id d with|some j=>(j:Int)+1|none=>0
def tr (h:ţ b) {i:Nat} {g:è} (e:b.2.1[i]?=some g) {k:Nat} {d:Int} (a:(Û b g)[k]?=some d):i6 b g.1 d=(off b i:Int)+k+1:=by
 unfold i6;rw[VN h e a];simp only;omega
structure xo (b:ò) (p:Int->Int) (g:è):Prop where
 hi:p (i6 b g.1 g.2.1)<=p 0+(g.2.2.1+g.2.2.2.1.2)
 lo:p 0+(g.2.2.1+g.2.2.2.1.1)<=p (i6 b g.1 g.2.1)
 down:∀d e,d∈Û b g->e∈Û b g->d<=e->p (i6 b g.1 e)<=p (i6 b g.1 d)
 loss:∀d e,d∈Û b g->e∈Û b g->d<=e->p (i6 b g.1 d)<=p (i6 b g.1 e)+υ b g d e
def Iu (h:ţ b) {i:Nat} {g:è} (j:b.2.1[i]?=some g) {p:Int->Int}:(∀l∈ö b g,p l.2.1<=p l.1+l.2.2)↔xo b p g:=by
 have B:=dc j;obtain⟨O,z⟩:=xd h B
 have h0:i6 b g.1 g.2.1=(off b i:Int)+1:=by
  have:=tr h j (k:=0) (d:=g.2.1) (by rw[z]; rfl);rw[this];omega
 constructor
 ·intro q;have M:=q _ ((Ĉ h j).2 (.inl rfl));have K:=q _ ((Ĉ h j).2 (.inr (.inl rfl)));simp only at M K
  have step:∀(k:Nat) (d e:Int),(Û b g)[k]?=some d->(Û b g)[k+1]?=some e->p (i6 b g.1 e)<=p (i6 b g.1 d)/\p (i6 b g.1 d)<=p (i6 b g.1 e)+υ b g d e:=by
   intro k d e hd a;have r:=q _ ((Ĉ h j).2 (.inr (.inr ⟨k,d,e,hd,a,.inl rfl⟩)));have o:=q _ ((Ĉ h j).2 (.inr (.inr ⟨k,d,e,hd,a,.inr rfl⟩)));simp only at r o;rw[tr h j hd,tr h j a]
   have v:(off b i:Int)+((k+1:Nat):Int)+1=(off b i:Int)+k+2:=by omega
   rw[v];exact⟨by omega,o⟩
  have pair:∀(n k:Nat) (d e:Int),(Û b g)[k]?=some d->(Û b g)[k+n]?=some e->p (i6 b g.1 e)<=p (i6 b g.1 d)/\p (i6 b g.1 d)<=p (i6 b g.1 e)+υ b g d e:=by
   intro n
   induction n with
   |zero =>
    intro k d e hd a;rw[f6,hd] at a;cases a;rw[Bn g (dQ _)];omega
   |succ n I =>
    intro k d e hd a;have t:=(cY.1 a).1;have s:(Û b g)[k+n]?=some ((Û b g)[k+n]'(by omega)):=cV (by omega);obtain⟨r,o⟩:=I k d _ hd s;obtain⟨a3,y⟩:=step (k+n) _ e s a
    have H:d<=(Û b g)[k+n]'(by omega):=by
     obtain⟨A,u⟩:=cY.1 hd;rcases fD n with rfl|P
     ·rw[<-u]; exact Int.le_of_eq (by congr 1)
     ·have:=(dL.1 (oy b g)) k (k+n) A (by omega) (by omega);rw[u] at this; omega
    have G:(Û b g)[k+n]'(by omega)<=e:=by
     obtain⟨D,E⟩:=cY.1 a;have:=(dL.1 (oy b g)) (k+n) (k+(n+1)) (by omega) D (by omega);rw[E] at this; omega
    have:=MF h g H G;omega
  have any:∀d e,d∈Û b g->e∈Û b g->d<=e->p (i6 b g.1 e)<=p (i6 b g.1 d)/\p (i6 b g.1 d)<=p (i6 b g.1 e)+υ b g d e:=by
   intro d e hd a f;obtain⟨k,F,rfl⟩:=dm.1 hd;obtain⟨m,s,rfl⟩:=dm.1 a
   have J:k<=m:=by
    rcases dl m k with t|C
    ·have:=(dL.1 (oy b g)) m k s F t; omega
    ·exact C
   exact pair (m-k) k _ _ (cV F) (by rw[show k+(m-k)=m by omega]; exact cV s)
  exact⟨by rw[h0]; omega,by rw[h0]; omega,fun d e hd a f=>(any d e hd a f).1,fun d e hd a f=>(any d e hd a f).2⟩
 ·intro x l q;rcases(Ĉ h j).1 q with rfl|rfl|⟨k,d,e,hd,a,rfl|rfl⟩
  ·have:=x.hi; rw[h0] at this; simp only; omega
  ·have:=x.lo; rw[h0] at this; simp only; omega
  ·have f:d<=e:=by
    obtain⟨r,o⟩:=cY.1 hd;obtain⟨a3,y⟩:=cY.1 a;have:=(dL.1 (oy b g)) k (k+1) r a3 (by omega);rw[o,y] at this; omega
   have:=x.down d e (dc hd) (dc a) f;rw[tr h j hd,tr h j a] at this
   have v:(off b i:Int)+((k+1:Nat):Int)+1=(off b i:Int)+k+2:=by omega
   rw[v] at this;simp only;omega
  ·have f:d<=e:=by
    obtain⟨r,o⟩:=cY.1 hd;obtain⟨a3,y⟩:=cY.1 a;have:=(dL.1 (oy b g)) k (k+1) r a3 (by omega);rw[o,y] at this; omega
   have:=x.loss d e (dc hd) (dc a) f;rw[tr h j hd,tr h j a] at this
   have v:(off b i:Int)+((k+1:Nat):Int)+1=(off b i:Int)+k+2:=by omega
   rw[v] at this;simp only;exact this
def ahz (h:ţ b) {p:Int->Int}:Pot (ů b) p↔(∀g∈b.2.1,xo b p g)/\∀c∈b.2.2.2.2.1,p (cx b c)<=p (cy b c)+(ql b c).2/\p (cy b c)+(ql b c).1<=p (cx b c):=by
 constructor
 ·intro f;refine⟨fun g j=>?_,fun c e=>?_⟩
  ·obtain⟨i,hi,rfl⟩:=dm.1 j;exact(Iu h (cV hi)).1 fun l a=>f l.1 l.2.1 l.2.2 (jD.2 (.inl ⟨i,_,cV hi,a⟩))
  ·have n:=f _ _ _ (jD.2 (.inr ⟨c,e,.inl rfl⟩));have o:=f _ _ _ (jD.2 (.inr ⟨c,e,.inr rfl⟩));omega
 ·rintro⟨j,e⟩ u v m a;rcases jD.1 a with⟨i,g,d,a⟩|⟨c,k,a⟩
  ·exact(Iu h d).2 (j g (dc d)) (u,v,m) a
  ·obtain⟨n,o⟩:=e c k;rcases a with a|a
   ·obtain⟨rfl,rfl,rfl⟩:u=cy b c/\v=cx b c/\m=(ql b c).2:=by simpa using a
    exact n
   ·obtain⟨rfl,rfl,rfl⟩:u=cx b c/\v=cy b c/\m = -(ql b c).1:=by simpa using a
    omega
end
def amN:CK Int->Int
 |[]=>0
 |[a]=>a
 |a::b::t=>max a (amN (b::t))
def YS:∀{l:CK Int},l≠[]->(∀a∈l,a<=amN l)/\amN l∈l
 |[],h=>absurd rfl h
 |[a],_=>⟨fun x d=>by rw[dh] at d; rw[d]; exact dQ _,by simp[amN]⟩
 |a::b::t,_=>by
  obtain⟨f,h2⟩:=YS (l:=b::t) (by simp);have e:amN (a::b::t)=max a (amN (b::t)):=rfl;rw[e];constructor
  ·intro x d;rcases df.1 d with rfl|d
   ·omega
   ·have:=f x d; omega
  ·rcases Int.le_total a (amN (b::t)) with h|h
   ·rw[Int.max_eq_right h]; exact dS _ h2
   ·rw[Int.max_eq_left h]; exact List.mem_cons_self
section
variable {b:ò}
def ahx (b:ò) (f:Int->Int->Int) (z:Int) (v:Int):Int:=if v=0 then z else match (Ò b)[(v-1).toNat]? with|some n=>f n.1 n.2|none=>0
def Nw (f:Int->Int->Int) (z:Int):ahx b f z 0=z:=by unfold ahx; rw[if_pos rfl]
def Yd (h:ţ b) (f:Int->Int->Int) (z:Int) {g:è} (n:g∈b.2.1) {d:Int} (hd:d∈Û b g):ahx b f z (i6 b g.1 d)=f g.1 d:=by
 obtain⟨i,hi,rfl⟩:=List.mem_iff_getElem.1 n;obtain⟨k,l,rfl⟩:=List.mem_iff_getElem.1 hd;have a:=List.getElem?_eq_getElem hi;have j:=List.getElem?_eq_getElem l;rw[tr h a j];unfold ahx
 have e:((off b i:Int)+k+1-1).toNat=off b i+k:=by omega
 rw[if_neg (by omega),e,xC a j]
def aaJ (b:ò) (l:CK Int) (d:Int):Int:=match l with|[]=>0|x::_=>i6 b x d
def aeL (l:CK Int) (d:Int):atP (Ò b) l d=aaJ b l d:=by
 unfold atP aaJ i6
 cases l<;>rfl
def ajl (c:Cmp):cx b c=aaJ b (Þ c.2.2.1 c.2.2.2.1) c.2.1:=aeL _ _
def ajk (c:Cmp):cy b c=aaJ b (Þ c.2.2.2.1 c.2.2.1) c.2.1:=aeL _ _
def ad8 (h:ţ b) {c:Cmp} (l:c∈b.2.2.2.2.1) {x:Int} (f:x∈Þ c.2.2.1 c.2.2.2.1\/x∈Þ c.2.2.2.1 c.2.2.1):∃g∈b.2.1,g.1=x/\c.2.1∈Û b g:=by
 have d:(x∈c.2.2.1/\x∉c.2.2.2.1)\/(x∈c.2.2.2.1/\x∉c.2.2.1):=by
  rcases f with f|f
  ·exact .inl (lM.1 f)
  ·exact .inr (lM.1 f)
 have n:x∈c.2.2.1++c.2.2.2.1:=by rw[de]; exact d.imp (·.1) (·.1)
 obtain⟨⟨g,o,_⟩,_⟩:=h.pile l n;obtain⟨j,i⟩:=i9 o;refine⟨g,j,i,Ž.2 (.inr (.inl ⟨c,l,?_,rfl⟩))⟩;rw[i];intro k;rw[eI,dV,dV] at k;rcases d with⟨a,e⟩|⟨a,e⟩
 ·exact e (k.1 a)
 ·exact e (k.2 a)
def fill (b:ò) (p:Int->Int) (g:è) (d:Int):Int:=amN ((Û b g).map fun e=>if d<=e then p (i6 b g.1 e) else p (i6 b g.1 e)-υ b g e d)
def Qv {p:Int->Int} {g:è} (d:Int):(∀e∈Û b g,(if d<=e then p (i6 b g.1 e) else p (i6 b g.1 e)-υ b g e d)<=fill b p g d)/\∃e∈Û b g,fill b p g d=if d<=e then p (i6 b g.1 e) else p (i6 b g.1 e)-υ b g e d:=by
 have a:((Û b g).map fun e=>if d<=e then p (i6 b g.1 e) else p (i6 b g.1 e)-υ b g e d)≠[]:=by
  intro h;have:=List.map_eq_nil_iff.1 h;have h2:=nr (b:=b) g;rw[this] at h2;cases h2
 obtain⟨j,h2⟩:=YS a;refine⟨fun e f=>j _ (dw.2 ⟨e,f,rfl⟩),?_⟩;obtain⟨e,f,i⟩:=dw.1 h2;exact⟨e,f,i.symm⟩
def aen (h:ţ b) {p:Int->Int} {g:è} (l:g∈b.2.1) (f:xo b p g) {d:Int} (hd:d∈Û b g):fill b p g d=p (i6 b g.1 d):=by
 obtain⟨k,e,i,h2⟩:=Qv (b:=b) (p:=p) (g:=g) d;have j:=k d hd;rw[if_pos (dQ _)] at j
 have n:fill b p g d<=p (i6 b g.1 d):=by
  rw[h2]
  split
  ·rename_i a;exact f.down d e hd i a
  ·rename_i a;have:=f.loss e d i hd (by omega);omega
 omega
def aal (h:ţ b) {p:Int->Int} {g:è} (a:g∈b.2.1) (C:xo b p g) {d e:Int} (h0:g.2.1<=d) (j:d<=e):fill b p g e<=fill b p g d/\fill b p g d<=fill b p g e+υ b g d e:=by
 obtain⟨z,x,n,v⟩:=Qv (b:=b) (p:=p) (g:=g) d;obtain⟨s,y,l,r⟩:=Qv (b:=b) (p:=p) (g:=g) e;have A:=(h.gaugeR a).2.2.2.2.1;have B:=FD h a (f:=d) (t:=e) (by omega);have D:=h.day a n;have o:=h.day a l;constructor
 ·have q:=z y l;rw[r]
  by_cases i:e<=y
  ·rw[if_pos i];rw[if_pos (by omega)] at q;exact q
  ·rw[if_neg i]
   by_cases k:d<=y
   ·rw[if_pos k] at q;have:=FD h a (f:=y) (t:=e) o.2.1;omega
   ·rw[if_neg k] at q;have:=MF h g (f:=y) (t:=d) (u:=e) (by omega) j;omega
 ·have q:=s x n;rw[v]
  by_cases i:d<=x
  ·rw[if_pos i]
   by_cases k:e<=x
   ·rw[if_pos k] at q;omega
   ·rw[if_neg k] at q;have:=MF h g (f:=d) (t:=x) (u:=e) i (by omega);have:=FD h a (f:=d) (t:=x) (by omega);omega
  ·rw[if_neg i];rw[if_neg (by omega)] at q;have:=MF h g (f:=x) (t:=d) (u:=e) (by omega) j;omega
end
section
variable {b:ò} {c:Cmp}
def agx {a:ò} (h':ţ a) {l:CK Int} {day:Int} (f:Int->Int->Int) (z:Int) (d:∀x∈l,∃g∈a.2.1,g.1=x/\day∈Û a g):ahx a f z (aaJ a l day)=match l with|[]=>z|x::_=>f x day:=by
 unfold aaJ
 cases l with
 |nil=>exact Nw f z
 |cons x t =>
  obtain⟨g,e,rfl,hd⟩:=d x (by simp);exact Yd h' f z e hd
end
section
variable {L:CK Lk} {N:Nat}
def Wl.app {u v:Int} {vs:CK Int} {d:Int} (i:Wl L (fun x=>x=u) vs v d) {a:CK Int} {w e:Int} (h2:Wl L (fun x=>x=v) a w e):∃xs,Wl L (fun x=>x=u) xs w (d+e):=by
 induction h2 with
 |nil h=>subst h; exact⟨vs,by rw[gH]; exact i⟩
 |step j g f =>
  obtain⟨xs,hi⟩:=f;have:=Wl.step hi g;rw[Int.add_assoc] at this;exact⟨_,this⟩
def dst (L:CK Lk) (N:Nat) (s t:Int):Int:=gv (BP L N s) t
def aje (h:jz L N) (g:acD L N) (n:lC L N=true) {s t:Int} (a:0<=s/\s<N) (f:0<=t/\t<N):dst L N s t<=9007199254740992:=by
 have h2:=h.n60;obtain⟨p,l⟩:=(mJ h.links (by omega)).1 n;obtain⟨vs,d,k,hd⟩:=g.from' s a.1 a.2;obtain⟨o,e,j,q⟩:=g.to t f.1 f.2;obtain⟨xs,i⟩:=Wl.app k j;have:=(FM h.links (by omega) l a).low t xs _ (amK.2 i);unfold dst;omega
def dst_ne (h:jz L N) (d:acD L N) (f:lC L N=true) {s t:Int} (e:0<=s/\s<N) (a:0<=t/\t<N):dst L N s t≠Ś:=by
 have:=aje h d f e a;unfold Ś;omega
def ajd (h:jz L N) (j:acD L N) (k:lC L N=true) {s t:Int} (d:0<=s/\s<N) (a:0<=t/\t<N) {p:Int->Int} (e:Pot L p):p t-p s<=dst L N s t:=by
 have h2:=h.n60;obtain⟨vs,g⟩:=(FM h.links (by omega) e d).att t a.1 a.2 (dst_ne h j k d a);obtain⟨u,i,f⟩:=(amK.1 g).pot e;subst i;exact f
def ajc (h:jz L N) (f:acD L N) (a:lC L N=true) {x y:Int} (e:0<=x/\x<N) (d:0<=y/\y<N) : -(dst L N x y)<=dst L N y x:=by
 have h2:=h.n60;obtain⟨p,g⟩:=(mJ h.links (by omega)).1 a;have j:=ajd h f a e d g;have i:=ajd h f a d e g;omega
def dst_bd (h:jz L N) (d:acD L N) (f:lC L N=true) {s t:Int} (e:0<=s/\s<N) (a:0<=t/\t<N) : -9007199254740992<=dst L N s t/\dst L N s t<=9007199254740992:=by
 have i:=aje h d f e a;have g:=aje h d f a e;have a3:=ajc h d f a e;omega
end
def ahk (f:Int->Int->Int) (z:Int) (l:CK Int) (d:Int):Int:=match l with|[]=>z|x::_=>f x d
def af1 (f:Int->Int->Int) (z:Int) (c:Cmp):Int:=ahk f z (Þ c.2.2.1 c.2.2.2.1) c.2.1-ahk f z (Þ c.2.2.2.1 c.2.2.1) c.2.1
structure aos (b:ò) (f:Int->Int->Int) (z:Int) (g:è):Prop where
 hi:f g.1 g.2.1<=z+(g.2.2.1+g.2.2.2.1.2)
 lo:z+(g.2.2.1+g.2.2.2.1.1)<=f g.1 g.2.1
 down:∀d e,g.2.1<=d->d<=e->f g.1 e<=f g.1 d
 loss:∀d e,g.2.1<=d->d<=e->f g.1 d<=f g.1 e+υ b g d e
structure Hist (b:ò) (f:Int->Int->Int) (z:Int):Prop where
 gauge:∀g∈b.2.1,aos b f z g
 cmp:∀c∈b.2.2.2.2.1,(ql b c).1<=af1 f z c/\af1 f z c<=(ql b c).2
def ai7 {b:ò} (h:ţ b) {p:Int->Int} (l:∀g∈b.2.1,xo b p g):∃f:Int->Int->Int,(∀g∈b.2.1,aos b f (p 0) g)/\∀g∈b.2.1,∀d∈Û b g,f g.1 d=p (i6 b g.1 d):=by
 let f:Int->Int->Int:=fun id d=>match í b id with|some g=>fill b p g d|none=>0
 have i:∀g∈b.2.1,∀d,f g.1 d=fill b p g d:=fun g a d=>by
  show(match í b g.1 with|some g=>fill b p g d|none=>0)=_;rw[jp h.ids a]
 refine⟨f,fun g a=>?_,fun g a d hd=>by rw[i g a]; exact aen h a (l g a) hd⟩;have k:=l g a
 have n:f g.1 g.2.1=p (i6 b g.1 g.2.1):=by rw[i g a]; exact aen h a k (nr g)
 refine⟨by rw[n]; exact k.hi,by rw[n]; exact k.lo,fun d e h0 j=>?_,fun d e h0 j=>?_⟩
 ·rw[i g a,i g a];exact(aal h a k h0 j).1
 ·rw[i g a,i g a];exact(aal h a k h0 j).2
def XZ {b:ò} {f:Int->Int->Int} {p:Int->Int} (h:∀g∈b.2.1,∀d∈Û b g,f g.1 d=p (i6 b g.1 d)) {l:CK Int} {day:Int} (i:∀x∈l,∃g∈b.2.1,g.1=x/\day∈Û b g):p (aaJ b l day)=ahk f (p 0) l day:=by
 cases l with
 |nil=>rfl
 |cons x t =>
  obtain⟨g,e,rfl,a⟩:=i x (by simp);exact(h g e day a).symm
def ajh {b:ò} {f:Int->Int->Int} {p:Int->Int} (e:∀g∈b.2.1,∀d∈Û b g,f g.1 d=p (i6 b g.1 d)) {c:Cmp}
 (h:∀x,x∈Þ c.2.2.1 c.2.2.2.1\/x∈Þ c.2.2.2.1 c.2.2.1->∃g∈b.2.1,g.1=x/\c.2.1∈Û b g):p (cx b c)-p (cy b c)=af1 f (p 0) c:=by
 unfold af1;rw[ajl,ajk,XZ e (fun x a=>h x (.inl a)),XZ e (fun x a=>h x (.inr a))]
def Ti {b:ò} (h:ţ b) (f:Int->Int->Int) (z:Int) {l:CK Int} {day:Int} (a:∀x∈l,∃g∈b.2.1,g.1=x/\day∈Û b g):ahx b f z (aaJ b l day)=ahk f z l day:=by
 rw[agx h f z a];unfold ahk
 cases l<;>rfl
def ahw {b:ò} (h:ţ b) {f:Int->Int->Int} {z:Int} {c:Cmp} (d:∀x,x∈Þ c.2.2.1 c.2.2.2.1\/x∈Þ c.2.2.2.1 c.2.2.1->∃g∈b.2.1,g.1=x/\c.2.1∈Û b g):ahx b f z (cx b c)-ahx b f z (cy b c)=af1 f z c:=by
 unfold af1;rw[ajl,ajk,Ti h f z (fun x a=>d x (.inl a)),Ti h f z (fun x a=>d x (.inr a))]
def afg {b:ò} (h:ţ b) {f:Int->Int->Int} {z:Int} {g:è} (j:g∈b.2.1) (i:aos b f z g):xo b (ahx b f z) g:=by
 have q:∀d∈Û b g,ahx b f z (i6 b g.1 d)=f g.1 d:=fun d hd=>Yd h f z j hd;have l:=q g.2.1 (nr g);refine⟨?_,?_,fun d e hd k a=>?_,fun d e hd k a=>?_⟩
 ·rw[l,Nw]; exact i.hi
 ·rw[l,Nw]; exact i.lo
 ·rw[q d hd,q e k]; exact i.down d e (h.day j hd).1 a
 ·rw[q d hd,q e k]; exact i.loss d e (h.day j hd).1 a
section
variable {b:ò} {c:Cmp}
def ak7 (h:ţ b) {p:Int->Int} (j:Pot (ů b) p):∃f,Hist b f (p 0)/\∀g∈b.2.1,∀d∈Û b g,f g.1 d=p (i6 b g.1 d):=by
 obtain⟨k,n⟩:=(ahz h).1 j;obtain⟨f,l,e⟩:=ai7 h k;refine⟨f,⟨l,fun c a=>?_⟩,e⟩;have:=ajh e (c:=c) (fun x i=>ad8 h a i);have:=n c a;omega
def aly (h:ţ b) {f:Int->Int->Int} {z:Int} (a:Hist b f z):Pot (ů b) (ahx b f z):=by
 refine(ahz h).2 ⟨fun g d=>afg h d (a.gauge g d),fun c e=>?_⟩;have:=ahw (f:=f) (z:=z) h (c:=c) (fun x i=>ad8 h e i);have:=a.cmp c e;omega
def YK (h:ţ b):lC (ů b) ((Ò b).length+1)=true↔∃f z,Hist b f z:=by
 have:=h.sys.n60;rw[mJ h.sys.links (by omega)];constructor
 ·rintro⟨p,a⟩;obtain⟨f,e,_⟩:=ak7 h a;exact⟨f,_,e⟩
 ·rintro⟨f,z,d⟩;exact⟨_,aly h d⟩
end
def alG {m:Ň} (h:ţ m.1) (p:Cmp->Bool):(anY m p).1=less m.1 ((m.1.2.2.2.2.1.filter fun c=>!p c).map fun c=>c.1):=by
 unfold anY less;dsimp only;congr 5;refine List.filter_congr fun c k=>?_;rw[Bool.eq_iff_iff,Bool.not_eq_true',Bool.eq_false_iff,ne_eq,List.contains_iff_mem,List.mem_map];constructor
 ·rintro d ⟨c',f,e⟩;obtain⟨n,h2⟩:=dW.1 f
  have:c'=c:=by
   obtain⟨i,hi,rfl⟩:=dm.1 n;obtain⟨j,g,rfl⟩:=dm.1 k;have hd:=dL.1 h.distinct;rcases Nat.lt_trichotomy i j with a|a|a
   ·exact absurd e (hd i j hi g a)
   ·subst a; rfl
   ·exact absurd e.symm (hd j i g hi a)
  rw[this,d] at h2;cases h2
 ·intro l
  cases d:p c with
  |true=>rfl
  |false=>exact absurd ⟨c,dW.2 ⟨k,by simp[d]⟩,rfl⟩ l
def MOk.few {m:Ň} (h:MOk m) (p:Cmp->Bool):MOk (anY m p):=by
 refine⟨?_,h.n4,h.mixE,h.prod⟩;rw[alG h.good];exact h.good.less _
section
variable {m:Ň} {ρ:Type}
def SQ (h:MOk m) (ids:CK Int):Ć (vK m ids)=some (UJ (vK m ids)):=uW (h.few _)
def Br (b:ò) (id d:Int):Int:=if !Da d then 1 else if (í b id).isNone then 5 else 0
def WH (o:m.1.2.1.length<=1000) (id d:Int):wO m id d=some (Br m.1 id d):=by
 unfold wO Y8 Br
 by_cases h:Da d=true
 ·have h':=h;simp only[Da,inP,cW,decide_eq_true_eq] at h';rw[h,Ì (by simp[ilt]; omega),Ì (by simp[igt]; omega),if_neg (by simp)];refine dJ (ù m.1.2.1 (fun g=>g.1==id) (fun z=>ifb (!(ige z (0:Int))) (some 5) (some 0)) (some 0) (some 5) (fun j=>Ì (by simp[ige]) _ _) (fun i a hi ha k=>?_) (fun k=>?_)) ?_
  ·try dsimp only
   unfold tN;rw[Í hi,Ã ha,È hi (by omega),é]
  ·try dsimp only
   unfold tN;rw[Ô]
  ·unfold í
   cases f:m.1.2.1.find? (fun g=>g.1==id) with
   |none =>
    rw[if_neg]
    ·rfl
    rw[dv];rintro⟨g,n,e⟩;exact absurd e (by simpa using(ee.1 f) g n)
   |some g =>
    rw[if_pos]
    ·rfl
    have l:=fK f;exact dv.2 ⟨g,fJ f,l⟩
 ·have h':=h;simp only[Da,inP,cW,decide_eq_true_eq,not_and,Int.not_le] at h';rw[if_pos (by simp[h])];rw[é,é];simp only[ilt,igt,decide_eq_true_eq]
  split
  ·rfl
  ·rw[if_pos (by have:=h' (by omega); omega)]
def Q4 (label:Int) (c:Cmp):Bool:=(Þ c.2.2.1 c.2.2.2.1).contains label||(Þ c.2.2.2.1 c.2.2.1).contains label
def Kq (m:Ň) (label:Int):Bool×Int:=if Ĵ m≠0 then(false,Ĵ m) else if Br m.1 label 0≠0 then(false,Br m.1 label 0) else(!nA (anY m (Q4 label)),0)
def aaS (r:In m.1) (M:m.2.length<=1000) (label:Int):qN m label=some (Kq m label):=by
 unfold qN xH Kq;rw[oR r M,À]
 by_cases g:Ĵ m=0
 ·have h:=(Ŗ m).1 g;have V:=h.good.nC;rw[Ì (by simp[ine,g]),if_neg (by simp[g]),WH r.size.gauges,À]
  by_cases t:Br m.1 label 0=0
  ·rw[Ì (by simp[ine,t]),if_neg (by simp[t]),å (Ñ (by omega))]
   have f:∀c∈m.1.2.2.2.2.1,ro c.2.2.1 c.2.2.2.1=some (Þ c.2.2.1 c.2.2.2.1,Þ c.2.2.2.1 c.2.2.1,0)/\(Þ c.2.2.1 c.2.2.2.1).length<=1000000/\(Þ c.2.2.2.1 c.2.2.1).length<=1000000:=fun c g=>by
    obtain⟨S,R⟩:=h.good.size.piles c g;have e:=(Ŝ c).1 (h.good.nums g);have U:=sq c.2.2.1 c.2.2.2.1;have T:=sq c.2.2.2.1 c.2.2.1;refine⟨?_,by omega,by omega⟩;rw[akE (by omega) (by omega),acH,e.2.2.2.2.2.1,e.2.2.2.2.2.2]; rfl
   have Q:∀l,l=m.1.2.2.2.2.1.filter (Q4 label)->Å (Ć ((m.1.1,m.1.2.1,m.1.2.2.1,m.1.2.2.2.1,l,m.1.2.2.2.2.2),m.2)) (fun d=>some ((!d.2),(0:Int)))=some (!nA (anY m (Q4 label)),0):=fun l O=>by
    subst O;have:=uW (h.few (Q4 label));unfold anY at this ⊢;rw[this,À,yr]
   refine dJ (acd (a:=m.1.2.2.2.2.1) (Q4 label) (K:=fun l=>Å (Ć ((m.1.1,m.1.2.1,m.1.2.2.1,m.1.2.2.2.1,l,m.1.2.2.2.2.2),m.2)) fun d=>some ((!d.2),(0:Int))) (k0:=aji zC fun l=>Å (Ć ((m.1.1,m.1.2.1,m.1.2.2.1,m.1.2.2.2.1,l,m.1.2.2.2.2.2),m.2)) fun d=>some ((!d.2),(0:Int)))
    (kf:=fun v=>ifb (ieq v (-1:Int)) (Å (Ć m) fun n=>some ((!n.2),(0:Int))) (ck (v+(1:Int)) fun C=>Ë (fun(k:Int×Int×CK Cmp) p=>Δ label k.1 k.2.1 k.2.2 (fun B A y=>p (B,A,y)) (aji zC fun l=>Å (Ć ((m.1.1,m.1.2.1,m.1.2.2.1,m.1.2.2.2.1,l,m.1.2.2.2.2.2),m.2)) fun d=>some ((!d.2),(0:Int)))) (v,C,m.1.2.2.2.2.1)))
    (F:=fun a b c o=>Δ label a b c o (aji zC fun l=>Å (Ć ((m.1.1,m.1.2.1,m.1.2.2.1,m.1.2.2.2.1,l,m.1.2.2.2.2.2),m.2)) fun d=>some ((!d.2),(0:Int)))) (kend:=Å (Ć m) fun n=>some ((!n.2),(0:Int))) (fun i x hi q o=>?_) (fun o=>?_) rfl (fun z J=>?_) (fun i j s x r P u q D o=>?_) (fun i s o hi r=>?_) (fun i s hi=>ace _ _ hi)) (Q _ rfl)
   ·try dsimp only
    unfold lZ;obtain⟨I,H,G⟩:=f x (List.mem_of_getElem? q);rw[Í hi,Š hi,Ą q,I,À,Ţ H,À,Ţ G,À];unfold Q4
    cases(Þ x.2.2.1 x.2.2.2.1).contains label<;>cases(Þ x.2.2.2.1 x.2.2.1).contains label<;>simp only[kQ,æ,dP,fF,Bool.or_true,Bool.or_false,if_true,dp,if_false]<;>first|rfl|rw[È hi (by omega)]
   ·try dsimp only
    unfold lZ;rw[Ô]
   ·rw[Ì (by simp[ieq]),È J (by omega)]
   ·try dsimp only
    unfold Δ;obtain⟨I,H,G⟩:=f x D;have E:s[i]?=some s[i]:=List.getElem?_eq_getElem (by omega);rw[Í u,show î s=((s.length:Nat):Int) from rfl,Š u,Ą q,I,À,Ţ H,À,Ţ G,À];unfold Q4
    cases(Þ x.2.2.1 x.2.2.2.1).contains label<;>cases(Þ x.2.2.2.1 x.2.2.1).contains label<;>simp only[kQ,æ,dP,fF,Bool.or_true,Bool.or_false,if_true,dp,if_false]<;>first|rw[È u (by omega)]|rw[Š (by omega),Ą E,È (show i<s.length by omega) (by omega),È u (by omega),dj]
   ·try dsimp only
    unfold Δ;rw[Ô]
  ·rw[Ð (by simp[ine,t]),if_pos t]
 ·rw[Ð (by simp[ine,g]),if_pos g]
def ab1 (m:Ň):CK Int:=m.1.2.2.2.2.1.map fun c=>c.1
def ajp (m:Ň):Nat->CK Int->CK Int
 |0,l=>l
 |i+1,l=>ajp m i (if nA (vK m (l.take i++l.drop (i+1))) then l else l.take i++l.drop (i+1))
def aov (m:Ň):CK Int×Int:=if Ĵ m≠0 then([],Ĵ m) else if nA m then([],5) else(ajp m (ab1 m).length (ab1 m),0)
def aou (y:In m.1) (z:m.2.length<=1000):MN m=some (aov m):=by
 unfold MN adC aov;rw[oR y z,À]
 by_cases j:Ĵ m=0
 ·have h:=(Ŗ m).1 j;have E:=h.good.nC;have A:((((m.1.1.1,m.1.1.2),m.1.2.1,m.1.2.2.1,m.1.2.2.2.1,m.1.2.2.2.2.1,m.1.2.2.2.2.2),m.2):Ň)=m:=rfl;rw[Ì (by simp[ine,j]),if_neg (by simp[j]),uW h,À,yr]
  cases nA m with
  |true=>rfl
  |false =>
   simp only[æ,dp,if_false]
   have D:(ab1 m).length=m.1.2.2.2.2.1.length:=by unfold ab1; simp
   refine dJ (oM m.1.2.2.2.2.1 (fun c=>c.1) (fun r=>ck ((Õ r)-(1:Int)) fun n6=>Ë (fun(e:CK Int×Int) f=>rL m.1.1.1 m.1.1.2 m.1.2.1 m.1.2.2.1 m.1.2.2.2.1 m.1.2.2.2.2.1 m.1.2.2.2.2.2 m.2 e.1 e.2 (fun o n=>f (o,n)) (fun k=>some (k,(0:Int)))) (r,n6)) (fun i a hi ha v p C=>?_) (fun v p=>?_)) ?_
   ·try dsimp only
    unfold xI;rw[Í hi,Ã ha,å (Ñ (by simp; omega)),È hi (by omega)]
   ·try dsimp only
    unfold xI;rw[Ô]
   ·show(ck ((Õ (ab1 m))-(1:Int)) fun n6=>Ë _ (ab1 m,n6))=_;rw[Î,Ï (by omega) (by omega)];refine ï (fun x:CK Int×Int=>∃i:Nat,x.2=(i:Int)-1/\i<=x.1.length/\x.1.length<=40/\ajp m i x.1=ajp m (ab1 m).length (ab1 m)) (fun x=>(x.2+1).toNat) ?_ ⟨_,rfl,Nat.le_refl _,by dsimp only; omega,rfl⟩;rintro⟨l,B⟩ ⟨i,t,q,g,d⟩;simp only at t q g d;subst t
    cases i with
    |zero =>
     refine .inl fun p=>?_
     try dsimp only
     unfold rL;rw[Ì (by simp[ige]),<-d]; rfl
    |succ i =>
     have u:((i+1:Nat):Int)-1=i:=by omega
     have s:(l.take i++l.drop (i+1)).length=l.length-1:=by simp; omega
     rw[ajp] at d;refine .inr ⟨(if nA (vK m (l.take i++l.drop (i+1))) then l else l.take i++l.drop (i+1),(i:Int)-1),⟨i,rfl,?_,?_,d⟩,by simp only[u]; omega,fun p=>?_⟩
     ·dsimp only; split<;>omega
     ·dsimp only; split<;>omega
     ·try dsimp only
      unfold rL;rw[u,Ð (by simp[ige]),å (by simp[ile,î]; omega),Ï (by omega) (by omega),å (by simp[ile,î]; omega),Int.toNat_natCast,show Int.toNat ((i:Int)+1)=i+1 by omega,Rg (by simp; omega) (by simp; omega),À,A,abv (by omega) (by omega),À,SQ h,À,yr,é,Ï (by omega) (by omega),Ï (by omega) (by omega)]
      cases nA (vK m (l.take i++l.drop (i+1)))<;>rfl
 ·rw[Ð (by simp[ine,j]),if_pos j]
end
def Ĕ:CK Int->Nat->CK Int
 |[],_=>[]
 |x::l,s=>if s % 2=1 then x::Ĕ l (s / 2) else Ĕ l (s / 2)
def QL:∀{l:CK Int} {s i:Nat} {x:Int},l[i]?=some x->Ĕ (l.take (i+1)) s=Ĕ (l.take i) s++if s / 2 ^ i % 2=1 then[x] else[]
 |[],_,_,_,h=>by simp at h
 |y::l,s,0,x,h=>by
  simp at h; subst h;simp[Ĕ]
 |y::l,s,i+1,x,h=>by
  simp only[eQ] at h;have:=QL (s:=s / 2) h;simp only[gq,Ĕ,this,Nat.pow_succ',<-Nat.div_div_eq_div_mul]
  split<;>rfl
def rt:∀(l:CK Int) (s:Nat),(Ĕ l s).length<=l.length
 |[],_=>cX _
 |x::l,s=>by
  have:=rt l (s / 2);unfold Ĕ
  split<;>simp only[di]<;>omega
def bit_i {s i:Nat} (e:s<9223372036854775808) (hi:i<=60):ieq (andI .i64 (jd .i64 (s:Int) (i:Int)) (1:Int)) (1:Int)=decide (s / 2 ^ i % 2=1):=by
 have d:jd .i64 (s:Int) (i:Int)=((s / 2 ^ i:Nat):Int):=by
  unfold jd;have:IntKind.i64.bits=64:=rfl;rw[this,Int.toNat_natCast,Nat.min_eq_left (by omega),Int.fdiv_eq_ediv_of_nonneg _ (Int.le_of_lt (Int.pow_pos (by decide)))];push_cast; rfl
 rw[d];unfold andI akJ
 have hb:(BitVec.ofInt 64 ((s / 2 ^ i:Nat):Int) &&& BitVec.ofInt 64 1).toNat=s / 2 ^ i % 2:=by
  rw[BitVec.toNat_and,gK,show BitVec.ofInt 64 1=1#64 from rfl,BitVec.toNat_ofNat];rw[show(1#64).toNat=1 from rfl,Nat.and_one_is_mod,Nat.mod_mod_of_dvd _ (by decide)]
 show ieq (IntKind.i64.wrap ((BitVec.ofInt 64 ((s / 2 ^ i:Nat):Int) &&& BitVec.ofInt 64 1).toNat:Int)) 1=_;have a:s / 2 ^ i % 2<2:=Nat.mod_lt _ (by decide);rw[hb];generalize s / 2 ^ i % 2=q at a;rw[agT (by omega)];unfold ieq;rw[Bool.eq_iff_iff,beq_iff_eq,decide_eq_true_eq];omega
def ani (s x:Nat):Bool:=s &&& x==s
def sub_i {s x:Nat} (d:s<9223372036854775808) (f:x<9223372036854775808):ieq (Ko .i64 (s:Int) (x:Int)) (0:Int)=ani s x:=by
 unfold Ko akJ;show ieq (IntKind.i64.wrap ((BitVec.ofInt 64 (s:Int) &&& ~~~ BitVec.ofInt 64 (x:Int)).toNat:Int)) 0=_
 have e:(BitVec.ofInt 64 (s:Int) &&& ~~~ BitVec.ofInt 64 (x:Int)).toNat<9223372036854775808:=by
  rw[BitVec.toNat_and];refine Nat.lt_of_le_of_lt Nat.and_le_left ?_;rw[gK,BitVec.toNat_ofNat,Nat.mod_eq_of_lt (by omega)]; exact d
 rw[agT e];unfold ieq ani;rw[Bool.eq_iff_iff,beq_iff_eq,beq_iff_eq]
 have h2:(((BitVec.ofInt 64 (s:Int) &&& ~~~ BitVec.ofInt 64 (x:Int)).toNat:Nat):Int)=0↔∀i,i<64->s.testBit i=true->x.testBit i=true:=by
  rw[Int.natCast_eq_zero,<-BitVec.toNat_zero (w:=64),BitVec.toNat_inj];constructor
  ·intro h i hi a;have:=congrArg (fun b:BitVec 64=>b.getLsbD i) h;simp only[BitVec.getLsbD_and,BitVec.getLsbD_not,gK,BitVec.getLsbD_ofNat,BitVec.getLsbD_zero,hi,decide_true,eD,a] at this;simpa using this
  ·intro h;apply BitVec.eq_of_getLsbD_eq;intro i hi;simp only[BitVec.getLsbD_and,BitVec.getLsbD_not,gK,BitVec.getLsbD_ofNat,BitVec.getLsbD_zero,hi,decide_true,eD]
   cases a:s.testBit i with
   |false=>simp
   |true=>rw[h i hi a]; simp
 rw[h2];constructor
 ·intro h;refine Nat.eq_of_testBit_eq fun i=>?_;rw[Nat.testBit_and]
  cases a:s.testBit i with
  |false=>rfl
  |true =>
   rcases dl i 64 with hi|hi
   ·rw[h i hi a]; rfl
   ·have:s<2 ^ i:=dr d (du (by decide) (Nat.pow_le_pow_right (by decide) hi));rw[Nat.testBit_lt_two_pow this] at a; cases a
 ·intro h i _ a;rw[<-h,Nat.testBit_and,cW] at a;exact a.2
def agL:CK Int->CK Int->Int
 |[],[]=>0
 |[],_=>-1
 |_,[]=>1
 |x::l,y::m=>if x<y then -1 else if y<x then 1 else agL l m
def Li (m:Ň) (ids:CK Int) (st:CK Int×Nat×CK Nat) (s:Nat):CK Int×Nat×CK Nat :=
 if st.1.length<(Ĕ ids s).length\/((Ĕ ids s).length=st.1.length/\0<=agL (Ĕ ids s) st.1) then st else
 if st.2.2.any (ani s) then st else if nA (vK m (Ĕ ids s)) then(st.1,st.2.1,st.2.2++[s]) else(Ĕ ids s,s,st.2.2)
def Lj (m:Ň) (ids:CK Int) (n:Nat):CK Int×Nat×CK Nat:=(List.range n).foldl (Li m ids) (ids,2 ^ ids.length-1,[])
def akl (m:Ň) (ids:CK Int):CK Int×Int :=
 if Ĵ m≠0 then([],Ĵ m) else if 8<ids.length then([],2) else if !ids.all (fun i=>(ab1 m).contains i) then([],5) else if ¬ids.Pairwise (·<·) then([],6) else
 if nA (vK m (Ĕ ids (2 ^ ids.length-1))) then([],5) else(Ĕ ids (Lj m ids (2 ^ ids.length-1)).2.1,0)
section
variable {m:Ň} {ρ:Type}
def I1 {l:CK Int} (g:l.length<=60) {s:Nat} (e:s<9223372036854775808):jE l (s:Int)=some (Ĕ l s):=by
 unfold jE TV;refine ð l (fun i=>Ĕ (l.take i) s) _ rfl (fun i x hi a d=>?_) (fun d=>?_)
 ·try dsimp only
  unfold qv;have f:=rt (l.take i) s
  have:(l.take i).length=i:=by rw[dk]; omega
  rw[Í hi,Ã a,å (by simp[ile]),bit_i e (by omega),é,QL a]
  by_cases h:s / 2 ^ i % 2=1
  ·rw[if_pos (by simpa using h),if_pos h,å (Ñ (by simp; omega)),È hi (by omega)]
  ·rw[if_neg (by simpa using h),if_neg h,È hi (by omega),dt]
 ·try dsimp only
  unfold qv;rw[Ô,List.take_length]
def ak0 (o:m.1.2.2.2.2.1.length<=1000) {ids:CK Int} (hi:ids.length<=1000) (K:Int->BY ρ) (Z:BY ρ):Ë (fun(v:Int) g=>iJ ids (Õ ids) m.1.2.2.2.2.1 v (fun u=>g u) K (fun _=>Z)) 0=if ids.all (fun i=>(ab1 m).contains i) then Z else K 5:=by
 have:=ù ids (fun i=>!(ab1 m).contains i) (fun _=>K 5) (K 5) Z (f:=fun v g=>iJ ids (Õ ids) m.1.2.2.2.2.1 v (fun u=>g u) K (fun _=>Z)) (fun _=>rfl) (fun i x a l e=>?_) (fun e=>?_)
 ·rw[this,gy]
  cases ids.any (fun i=>!(ab1 m).contains i)<;>rfl
 ·try dsimp only
  unfold iJ;rw[Í a,Ã l];refine Eq.trans (ù m.1.2.2.2.2.1 (fun c=>c.1==x) (fun k=>ifb (!(ige k (0:Int))) (K (5:Int)) (ck ((i:Int)+(1:Int)) fun n6=>e n6)) (e ((i:Int)+1)) (K 5) (fun j=>by rw[Ì (by simp[ige]),È a (by omega)]) (fun j c h n d=>?_) (fun d=>?_)) ?_
  ·try dsimp only
   unfold mR;rw[Í h,Ã n,È h (by omega),é]
  ·try dsimp only
   unfold mR;rw[Ô]
  ·have:(ab1 m).contains x=m.1.2.2.2.2.1.any fun c=>c.1==x:=by
    unfold ab1;rw[Bool.eq_iff_iff,List.contains_iff_mem,List.mem_map,List.any_eq_true];simp
   rw[this]
   cases m.1.2.2.2.2.1.any (fun c=>c.1==x)<;>rfl
 ·try dsimp only
  unfold iJ;rw[Ô]
def akZ {l:CK Int} (j:l.length<=1000) (k0:Int->BY ρ) (k1:Unit->BY ρ):Ë (fun(v:Int) g=>jV l v (fun u=>g u) k0 k1) 1=if l.Pairwise (·<·) then k1 () else k0 6:=by
 refine Wz (fun i a c ha d f=>?_) (fun n h f=>?_)
 ·have hi:=(List.getElem?_eq_some_iff.1 d).1;unfold jV
  have e:((i:Int)+1)=((i+1:Nat):Int):=by omega
  rw[e,Í hi,Ã d,Ï (by omega) (by omega),<-e,Int.add_sub_cancel,Ã ha,é,Ï (by omega) (by omega)];simp
 ·unfold jV;rw[Ì (by simp[ilt,Î]; omega)]
def IV (h:MOk m) (ids:CK Int) {w:Way} (a:ĵ m.2 w):Χ (vK m ids) w=some (nq (vK m ids) w):=yG (h.few _) a
def akY (h:MOk m) {ids:CK Int} (hi:ids.length<=60) {s:Nat} (g:s<9223372036854775808) (X Z:BY ρ):Ë (fun(v:Int) f=>jU (Ğ m.2) (Õ (Ğ m.2)) m.1.1.1 m.1.1.2 m.1.2.1 m.1.2.2.1 m.1.2.2.2.1 m.1.2.2.2.2.1 m.1.2.2.2.2.2 m.2 ids (s:Int) v (fun u=>f u) (fun z=>ifb z.2 X Z) (fun _=>Z)) 0=if nA (vK m (Ĕ ids s)) then X else Z:=by
 have j:((((m.1.1.1,m.1.1.2),m.1.2.1,m.1.2.2.1,m.1.2.2.2.1,m.1.2.2.2.2.1,m.1.2.2.2.2.2),m.2):Ň)=m:=rfl;have k:=oA h;have l:=rt ids s;refine ù (Ğ m.2) (nq (vK m (Ĕ ids s))) (fun _=>X) X Z (fun _=>rfl) (fun i x a d e=>?_) (fun e=>?_)
 ·try dsimp only
  unfold jU;rw[Í a,Ã d,I1 hi g,À,j,abv h.good.size.compares (by omega),À,IV h _ (mF d),À,È a (by omega),é,Bool.not_not];rfl
 ·try dsimp only
  unfold jU;rw[Ô]
def akV (h:MOk m) {ids:CK Int} (hi:ids.length<=60) {s:Nat} (n:s<9223372036854775808) {op:CK Int} (r:op.length<=1000) (k0 k1:CK Int->BY ρ):Ë (fun(v:Int×CK Int) l=>ŝ (s:Int) (Ğ m.2) (Õ (Ğ m.2)) ids m.1.1.1 m.1.1.2 m.1.2.1 m.1.2.2.1 m.1.2.2.2.1 m.1.2.2.2.2.1 m.1.2.2.2.2.2 m.2 v.1 v.2 (fun a b=>l (a,b)) k0 k1) ((0:Int),op)=if nA (vK m (Ĕ ids s)) then k0 (op++[(s:Int)]) else k1 op:=by
 have o:((((m.1.1.1,m.1.1.2),m.1.2.1,m.1.2.2.1,m.1.2.2.2.1,m.1.2.2.2.2.1,m.1.2.2.2.2.2),m.2):Ň)=m:=rfl;have p:=oA h;have q:=rt ids s;refine Ig (Ğ m.2) (fun _=>op) _ (fun i=>∀w∈(Ğ m.2).take i,nq (vK m (Ĕ ids s)) w=false) rfl (fun w d=>by simp at d) (fun i x f g j k=>?_) (fun j k=>?_)
 ·try dsimp only
  unfold ŝ;rw[Í f,Ã g,I1 hi n,À,o,abv h.good.size.compares (by omega),À,IV h _ (mF g),À,È f (by omega),å (Ñ (by simp; omega)),é,Bool.not_not]
  cases e:nq (vK m (Ĕ ids s)) x with
  |true =>
   refine .inl ?_;have:nA (vK m (Ĕ ids s))=true:=dv.2 ⟨x,dc g,e⟩;rw[this]; rfl
  |false =>
   refine .inr ⟨fun w d=>?_,rfl⟩;rw[take_succ g] at d;rcases de.1 d with d|d
   ·exact j w d
   ·rw[dh.1 d]; exact e
 ·rw[fB] at j
  try dsimp only
  unfold ŝ
  have:nA (vK m (Ĕ ids s))=false:=dI.2 fun w d=>by rw[show nq (vK m (Ĕ ids s)) w=false from j w d]; simp
  rw[Ô,this]; rfl
def akW {s:Nat} (j:s<9223372036854775808) {op:CK Nat} (k:op.length<=1000) (e:∀x∈op,x<9223372036854775808) (X Z:BY ρ):Ë (fun(v:Int) h=>Ş (s:Int) (Õ (op.map fun(x:Nat)=>(x:Int))) (op.map fun(x:Nat)=>(x:Int)) v (fun u=>h u) (fun _=>X) (fun _=>Z)) 0=if op.any (ani s) then X else Z:=by
 refine ù op (ani s) (fun _=>X) X Z (fun _=>rfl) (fun i x hi f g=>?_) (fun g=>?_)
 ·try dsimp only
  unfold Ş
  have d:(op.map fun(x:Nat)=>(x:Int))[i]?=some (x:Int):=by rw[eP,f]; rfl
  have a:i<(op.map fun(x:Nat)=>(x:Int)).length:=by simpa using hi
  rw[Í a,Š a,Ą d,sub_i j (e x (dc f)),È hi (by omega),é]
 ·try dsimp only
  unfold Ş;rw[Î,Ì (by simp[ilt])]
def anL {l m:CK Int} (h:l.length=m.length) (d:∀(i:Nat) (x y:Int),l[i]?=some x->m[i]?=some y->x=y):agL l m=0:=by
 induction l generalizing m with
 |nil=>cases m with|nil=>rfl|cons _ _=>cases h
 |cons x l f =>
  cases m with
  |nil=>cases h
  |cons y m =>
   have e:=d 0 x y rfl rfl;subst e;rw[agL,if_neg (by omega),if_neg (by omega)];exact f (by simpa using h) fun i a b ha hb=>d (i+1) a b ha hb
def lex_at {l m:CK Int} {i:Nat} {x y:Int} (f:l[i]?=some x) (d:m[i]?=some y) (g:∀(j:Nat) (a b:Int),j<i->l[j]?=some a->m[j]?=some b->a=b) (k:x≠y):agL l m=if x<y then -1 else 1:=by
 induction l generalizing m i with
 |nil=>simp at f
 |cons a l h =>
  cases m with
  |nil=>simp at d
  |cons b m =>
   cases i with
   |zero =>
    simp at f d; subst f d;rw[agL]
    split
    ·rfl
    ·rw[if_pos (by omega)]
   |succ i =>
    have e:=g 0 a b (by omega) rfl rfl;subst e;rw[agL,if_neg (by omega),if_neg (by omega)];exact h (by simpa using f) (by simpa using d) fun j a b n ha hb=>g (j+1) a b (by omega) ha hb
def akX {l k:CK Int} (h:k.length=l.length) (B:l.length<=1000) (X Y:BY ρ):Ë (fun(v:Int) o=>ŷ l k (Õ k) v (fun u=>o u) (fun z=>ifb (ige z (0:Int)) X Y) (fun _=>X)) 0=if 0<=agL k l then X else Y:=by
 have:=ï (r:=if 0<=agL k l then X else Y) (f:=fun v o=>ŷ l k (Õ k) v (fun u=>o u) (fun z=>ifb (ige z (0:Int)) X Y) (fun _=>X)) (x:=(0:Int)) (fun x=>∃i:Nat,x=i/\i<=k.length/\∀(j:Nat) (a b:Int),j<i->k[j]?=some a->l[j]?=some b->a=b) (fun x=>k.length-x.toNat) ?_ ⟨0,rfl,dU _,fun j a b y=>by omega⟩
 ·exact this
 ·rintro x ⟨i,rfl,hi,s⟩;rcases dl i k.length with e|A
  ·have q:k[i]?=some k[i]:=cV e;have p:l[i]?=some l[i]:=cV (by omega)
   have t:∀g,ŷ l k (Õ k) (i:Int) g (fun z=>ifb (ige z (0:Int)) X Y) (fun _=>X)=if k[i]=l[i] then g ((i:Int)+1) else if k[i]<l[i] then Y else X:=fun g=>by
    unfold ŷ;rw[Í e,Ã q,Ì (by simp[ige,Î]; omega),Ã p,ajt,À,È e (by omega)]
    by_cases d:k[i]<l[i]
    ·rw[if_pos d,if_neg (by omega),if_pos d]; rfl
    ·rw[if_neg d]
     by_cases h2:l[i]<k[i]
     ·rw[if_pos h2,if_neg (by omega),if_neg d]; rfl
     ·rw[if_neg h2,if_pos (by omega)]; rfl
   by_cases n:k[i]=l[i]
   ·refine .inr ⟨(i:Int)+1,⟨i+1,by simp,e,fun j a b y ha hb=>?_⟩,by omega,fun g=>by rw[t,if_pos n]⟩;rcases dl j i with d|d
    ·exact s j a b d ha hb
    ·have:j=i:=by omega
     subst this;rw[q] at ha; rw[p] at hb;cases ha; cases hb;exact n
   ·refine .inl fun g=>?_;rw[t,if_neg n,lex_at q p s n]
    by_cases d:k[i]<l[i]
    ·rw[if_pos d,if_pos d]; rfl
    ·rw[if_neg d,if_neg d]; rfl
  ·refine .inl fun g=>?_
   have:i=k.length:=by omega
   subst this;unfold ŷ;rw[Ô,anL h fun j a b ha hb=>s j a b (List.getElem?_eq_some_iff.1 ha).1 ha hb];rfl
abbrev stI (st:CK Int×Nat×CK Nat) (n:Nat):CK Int×Int×Int×CK Int:=(st.1,(st.2.1:Int),(n:Int),st.2.2.map fun(x:Nat)=>(x:Int))
def ae8 (h:MOk m) {ids:CK Int} (hi:ids.length<=8) {n N:Nat} (H:n<N) (I:N<=256) {st:CK Int×Nat×CK Nat} (J:st.1.length<=8) (G:st.2.2.length<=n) (C:∀x∈st.2.2,x<n) (i:CK Int->Int->Int->CK Int->BY ρ) (k0:Int×CK Int->BY ρ) :
 Ÿ (Ğ m.2) (N:Int) ids m.1.1.1 m.1.1.2 m.1.2.1 m.1.2.2.1 m.1.2.2.2.1 m.1.2.2.2.2.1 m.1.2.2.2.2.2 m.2 (stI st n).1 (stI st n).2.1 (stI st n).2.2.1 (stI st n).2.2.2 i k0=i (stI (Li m ids st n) (n+1)).1 (stI (Li m ids st n) (n+1)).2.1 (stI (Li m ids st n) (n+1)).2.2.1 (stI (Li m ids st n) (n+1)).2.2.2:=by
 have F:=rt ids n;dsimp only;unfold Ÿ
 have o:∀x∈st.2.2,x<9223372036854775808:=fun x E=>by have:=C x E; omega
 have D:(st.2.2.map fun(x:Nat)=>(x:Int)).length<=1000:=by rw[dF]; omega
 have p:∀f:Int->BY ρ,ck ((n:Int)+(1:Int)) f=f ((n+1:Nat):Int):=fun f=>by rw[Ï (by omega) (by omega)]; simp
 rw[Ð (by simp[ilt]; omega),I1 (by omega) (by omega),À];unfold Li
 by_cases e:st.1.length<(Ĕ ids n).length
 ·rw[Ð (by simp[igt,Î]; omega),if_pos (.inl e),p]
 ·rw[Ì (by simp[igt,Î]; omega)]
  have d:∀K K2:BY ρ,Ë (fun(t:Int) k=>Ş (n:Int) (Õ (st.2.2.map fun(x:Nat)=>(x:Int))) (st.2.2.map fun(x:Nat)=>(x:Int)) t (fun u=>k u) (fun _=>ck ((n:Int)+(1:Int)) fun B=>i st.1 (st.2.1:Int) B (st.2.2.map fun(x:Nat)=>(x:Int))) (fun _=>Ë (fun(j:Int×CK Int) l=>ŝ (n:Int) (Ğ m.2) (Õ (Ğ m.2)) ids m.1.1.1 m.1.1.2 m.1.2.1 m.1.2.2.1 m.1.2.2.2.1 m.1.2.2.2.2.1 m.1.2.2.2.2.2 m.2 j.1 j.2 (fun y v=>l (y,v)) (fun s=>ck ((n:Int)+(1:Int)) fun A=>i st.1 (st.2.1:Int) A s) (fun r=>ck ((n:Int)+(1:Int)) fun z=>i (Ĕ ids n) (n:Int) z r)) ((0:Int),st.2.2.map fun(x:Nat)=>(x:Int)))) (0:Int) =
   (fun q=>i (stI q (n+1)).1 (stI q (n+1)).2.1 (stI q (n+1)).2.2.1 (stI q (n+1)).2.2.2) (if st.2.2.any (ani n) then st else if nA (vK m (Ĕ ids n)) then(st.1,st.2.1,st.2.2++[n]) else(Ĕ ids n,n,st.2.2)):=fun _ _=>by
   rw[akV h (by omega) (by omega) D,akW (by omega) (by omega) o,p,p,p]
   cases st.2.2.any (ani n) with
   |true=>rfl
   |false =>
    cases nA (vK m (Ĕ ids n)) with
    |true=>simp
    |false=>rfl
  by_cases g:(Ĕ ids n).length=st.1.length
  ·rw[Ð (by simp[ieq,Î]; omega),d none none,Ì (show ilt (Õ (Ĕ ids n)) (Õ st.1)=false by simp[ilt,Î]; omega),akX g (by omega),p]
   by_cases a:0<=agL (Ĕ ids n) st.1
   ·rw[if_pos a,if_pos (.inr ⟨g,a⟩)]
   ·rw[if_neg a,if_neg (show ¬(st.1.length<(Ĕ ids n).length\/((Ĕ ids n).length=st.1.length/\0<=agL (Ĕ ids n) st.1)) from fun h=>h.elim e fun h=>a h.2)]
  ·rw[Ì (by simp[ieq,Î]; omega),d none none,if_neg (show ¬(st.1.length<(Ĕ ids n).length\/((Ĕ ids n).length=st.1.length/\0<=agL (Ĕ ids n) st.1)) from fun h=>h.elim e fun h=>g h.1)]
def akR {ids:CK Int} {n:Nat} {st:CK Int×Nat×CK Nat} (hi:ids.length<=8) (e:st.1.length<=8) (h2:st.2.2.length<=n) (d:∀x∈st.2.2,x<n):(Li m ids st n).1.length<=8/\(Li m ids st n).2.2.length<=n+1/\∀x∈(Li m ids st n).2.2,x<n+1:=by
 have f:=rt ids n;unfold Li
 split
 ·exact⟨e,by omega,fun x a=>by have:=d x a; omega⟩
 split
 ·exact⟨e,by omega,fun x a=>by have:=d x a; omega⟩
 split
 ·refine⟨e,by simp; omega,fun x a=>?_⟩;rcases de.1 a with a|a
  ·have:=d x a; omega
  ·rw[dh.1 a]; omega
 ·exact⟨by dsimp only; omega,by dsimp only; omega,fun x a=>by have:=d x a; omega⟩
def acZ {ids:CK Int} (hi:ids.length<=8):∀n,(Lj m ids n).1.length<=8/\(Lj m ids n).2.2.length<=n/\∀x∈(Lj m ids n).2.2,x<n
 |0=>⟨hi,cX _,fun x a=>by cases a⟩
 |n+1=>by
  obtain⟨e,h2,d⟩:=acZ hi n;have:=akR (m:=m) hi e h2 d;unfold Lj at this ⊢;rw[List.range_succ,List.foldl_append];exact this
def pow8 {n:Nat} (h:n<=8):1<=2 ^ n/\2 ^ n<=256:=⟨Nat.one_le_pow _ _ (by decide),Nat.pow_le_pow_right (by decide) h⟩
def aek {ids:CK Int} (hi:ids.length<=8):∀n,n<=256->(Lj m ids n).2.1<=256
 |0,_=>by have:=(pow8 hi).2; show 2 ^ ids.length-1<=256; omega
 |n+1,d=>by
  have a:=aek hi n (by omega);unfold Lj at a ⊢;rw[List.range_succ,List.foldl_append];show(Li m ids _ n).2.1<=256;unfold Li
  split
  ·exact a
  split
  ·exact a
  split
  ·exact a
  ·dsimp only; omega
def acE (C:In m.1) (E:m.2.length<=1000) {ids:CK Int} (F:ids.length<=1000000):uS m ids=some (akl m ids):=by
 unfold uS As akl;rw[oR C E,À]
 by_cases l:Ĵ m=0
 ·have h:=(Ŗ m).1 l;rw[Ì (by simp[ine,l]),if_neg (by simp[l])]
  by_cases y:8<ids.length
  ·rw[Ð (by simp[igt,Î]; omega),if_pos y]
  ·have hi:ids.length<=8:=by omega
   obtain⟨K,J⟩:=pow8 hi;rw[Ì (by simp[igt,Î]; omega),if_neg y,ak0 h.good.size.compares (by omega)]
   cases ids.all (fun i=>(ab1 m).contains i) with
   |false=>rfl
   |true =>
    rw[if_pos rfl,if_neg (by simp),akZ (by omega)]
    by_cases o:ids.Pairwise (·<·)
    ·have u:shlI .i64 (1:Int) (Õ ids)=((2 ^ ids.length:Nat):Int):=by
      unfold shlI;rw[Î,Int.toNat_natCast,Nat.min_eq_left (by show ids.length<=64; omega),Int.one_mul,show((2:Int) ^ ids.length)=((2 ^ ids.length:Nat):Int) by simp,agT (by omega)]
     have I:((2 ^ ids.length:Nat):Int)-1=((2 ^ ids.length-1:Nat):Int):=by omega
     rw[if_pos o,if_neg (by simpa using o),Nb h,À,å (by simp[ile,Î]),u,Ï (by omega) (by omega),I]
     have loop:Ë (fun(e:CK Int×Int×Int×CK Int) j=>Ÿ (Ğ m.2) ((2 ^ ids.length-1:Nat):Int) ids m.1.1.1 m.1.1.2 m.1.2.1 m.1.2.2.1 m.1.2.2.2.1 m.1.2.2.2.2.1 m.1.2.2.2.2.2 m.2 e.1 e.2.1 e.2.2.1 e.2.2.2 (fun t r q p=>j (t,r,q,p)) (fun f=>Å (jE ids f.1) fun g=>some (g,(0:Int)))) (ids,((2 ^ ids.length-1:Nat):Int),(0:Int),[])=some (Ĕ ids (Lj m ids (2 ^ ids.length-1)).2.1,0):=by
      refine ï (fun x=>∃n:Nat,n<=2 ^ ids.length-1/\x=stI (Lj m ids n) n) (fun x=>2 ^ ids.length-1-x.2.2.1.toNat) ?_ ⟨0,dU _,rfl⟩;rintro x ⟨n,D,rfl⟩;obtain⟨B,A,z⟩:=acZ (m:=m) hi n;rcases dl n (2 ^ ids.length-1) with k|G
      ·refine .inr ⟨stI (Lj m ids (n+1)) (n+1),⟨n+1,k,rfl⟩,by dsimp only; omega,fun v=>?_⟩;have:=ae8 h hi k (by omega) B A z (fun a b c d=>v (a,b,c,d)) (fun f=>Å (jE ids f.1) fun g=>some (g,(0:Int)));rw[this];unfold Lj;rw[List.range_succ,List.foldl_append]; rfl
      ·have:n=2 ^ ids.length-1:=by omega
       subst this;refine .inl fun v=>?_;have M:=aek (m:=m) hi (2 ^ ids.length-1) (by omega);dsimp only;unfold Ÿ;rw[Ì (by simp[ilt])];dsimp only;rw[I1 (by omega) (by omega)]; rfl
     have H:=akY h (ids:=ids) (by omega) (s:=2 ^ ids.length-1) (by omega) (some ([],(5:Int))) (some (Ĕ ids (Lj m ids (2 ^ ids.length-1)).2.1,0));rw[loop,H]
     split<;>rfl
    ·rw[if_neg o,if_pos o]
 ·rw[Ð (by simp[ine,l]),if_pos l]
end
def Mi (b:ò) (x d:Int):Int:=match iG (Ò b) x d with|some j=>(j:Int)+1|none=>0
def Re (b:ò) (n:Int×Int):Int×Int:=if ō b≠0 then(0,ō b) else if Mi b n.1 n.2=0 then(0,5) else(Mi b n.1 n.2,0)
def Rf {b:ò} (h:In b) (n:Int×Int):sO b n=some (Re b n):=by
 have e:=Ju h.size;unfold sO ZZ Re;rw[yO h.size h.num,À]
 by_cases a:ō b=0
 ·rw[Ì (by simp[ine,a]),if_neg (show ¬(ō b≠0) from fun h=>h a),VL h.size,À,show ü (Ò b) n=ü (Ò b) (n.1,n.2) from rfl,aaZ (by omega),À];unfold Mi
  cases d:iG (Ò b) n.1 n.2 with
  |none=>rfl
  |some j =>
   have:=(ky d).1;simp only;rw[Ì (by simp[ilt]),Ï (by omega) (by omega),if_neg (by omega)]
 ·rw[Ð (by simp[ine,a]),if_pos a]
def vn (b:ò) (n:Int×Int):ò:=(b.1,b.2.1,b.2.2.1,b.2.2.2.1,b.2.2.2.2.1,b.2.2.2.2.2++[n])
def aiv {b:ò} (h:ţ b) (n:Int×Int):iX (vn b n):=by
 have a:=h.size;have:=h.nK;exact⟨a.gauges,a.uses,a.loans,a.compares,by simp[vn]; omega,a.piles⟩
def aoq (b:ò) (n:Int×Int):ò×Int:=if ō b≠0 then(ame,ō b) else if ō (vn b n)≠0 then(ame,ō (vn b n)) else(vn b n,0)
def aop {b:ò} (h:In b) (n:Int×Int):MU b n=some (aoq b n):=by
 have e:=h.size;have s:=e.gauges; have h2:=e.uses; have r:=e.loans; have q:=e.compares; have p:=e.looks;unfold MU ad0 aoq;rw[yO e h.num,À]
 by_cases f:ō b=0
 ·have k:=(ť b).1 f;rw[Ì (by simp[ine,f]),Ñ (by omega),Am.iff_true,Ñ (by omega),Am.iff_true,Ñ (by omega),Am.iff_true,Ñ (by omega),Am.iff_true,Ñ (by omega),Am.iff_true,if_neg (show ¬(ō b≠0) from fun h=>h f)];refine ð b.2.2.2.2.1 (fun _=>b.2.2.2.2.1) _ rfl (fun i d hi hd j=>?_) (fun j=>?_)
  ·dsimp only;unfold ym;obtain⟨o,l⟩:=e.piles d (List.mem_of_getElem? hd)
   have g:b.2.2.2.2.1.set i d=b.2.2.2.2.1:=by
    obtain⟨h,rfl⟩:=cY.1 hd;exact List.set_getElem_self h
   rw[Í hi,Š hi,Ą hd,Ñ (by omega),Am.iff_true,Ñ (by omega),Am.iff_true,Š hi,Ą hd,dj];rw[show(d.1,d.2.1,d.2.2.1,d.2.2.2)=d from rfl,g,Š hi,ž hd,È hi (by omega)];rw[show(d.1,d.2.1,d.2.2.1,d.2.2.2.1,d.2.2.2.2)=d from rfl,g]
  ·try dsimp only
   unfold ym;rw[Ô];dsimp only;rw[Ñ (by simp only[List.length_singleton]; omega),Am.iff_true];rw[show ż (b.1,b.2.1,b.2.2.1,b.2.2.2.1,b.2.2.2.2.1,b.2.2.2.2.2++[n])=ż (vn b n) from rfl,yO (aiv k n) h.num,À]
   by_cases a:ō (vn b n)=0
   ·rw[Ì (by simp[ine,a]),if_neg (show ¬(ō (vn b n)≠0) from fun h=>h a)];rfl
   ·rw[Ð (by simp[ine,a]),if_pos a];rfl
 ·rw[Ð (by simp[ine,f]),if_pos f];rfl
def CO (b:ò) (n:Int×Int):ò×Int:=if Mi b n.1 n.2≠0 then(b,0) else if ō (vn b n)≠0 then(ame,ō (vn b n)) else(vn b n,0)
structure Room (B:ò):Prop where
 good:ţ B
 op:lC (ů B) ((Ò B).length+1)=true
 num:∀g∈B.2.1,I64 g.2.2.2.2.1.1
def anO (B:ò) (n:Int×Int):0<=Mi B n.1 n.2/\Mi B n.1 n.2<((Ò B).length+1:Nat):=by
 unfold Mi
 cases h:iG (Ò B) n.1 n.2 with
 |none=>dsimp only; omega
 |some j=>have:=(ky h).1; dsimp only; omega
def dstR (B:ò) (s t:Int):Int:=dst (ů B) ((Ò B).length+1) s t
def ivR (B:ò) (n:Int×Int):Int×Int:=(-(dstR B (Mi B n.1 n.2) 0),dstR B 0 (Mi B n.1 n.2))
def oq {ρ α:Type} {l:CK α} {i:Int} (h0:0<=i) {a:α} (h:l[i.toNat]?=some a) (f:α->BY ρ):â l i f=f a:=by
 obtain⟨n,rfl⟩:=hZ h0;exact Ã (by simpa using h) f
def km (x:CK Int) (y:CK Int) (l:Lk):CK Int:=if gv x l.2.1=Ś then y else y.set l.1.toNat (min (gv y l.1) (l.2.2+gv x l.2.1))
def UQ (L:CK Lk) (N:Nat) (x:CK Int):CK Int:=L.foldl (km x) (List.replicate N Ś)
def exL (L:CK Lk) (N:Nat) (to:Int):Nat->CK Int
 |0=>(List.replicate N Ś).set to.toNat 0
 |k+1=>UQ L N (exL L N to k)
def nN (L:CK Lk) (N:Nat) (to:Int) (most:Nat):CK (CK Int):=(List.range (most+1)).map (exL L N to)
section
variable {L:CK Lk} {N:Nat}
def Ka (x y:CK Int) (l:Lk):(km x y l).length=y.length:=by unfold km; split<;>simp
def Kb (x:CK Int):∀(M:CK Lk) (y:CK Int),(M.foldl (km x) y).length=y.length
 |[],y=>rfl
 |l::M,y=>by rw[gA,Kb x M,Ka]
def afY (x:CK Int):(UQ L N x).length=N:=by unfold UQ; rw[Kb]; simp
def ab9 (to:Int) (k:Nat):(exL L N to k).length=N:=by
 cases k with
 |zero=>simp[exL]
 |succ k=>exact afY _
def Lim (B:Int) (x:CK Int):Prop:=∀v:Int,gv x v≠Ś->-B<=gv x v/\gv x v<=B
def gv_out {x:CK Int} {v:Int} (h:¬v.toNat<x.length):gv x v=0:=by
 unfold gv;rw[List.getElem?_eq_none (by omega)];rfl
def P7 {B:Int} (d:0<=B):Lim B (List.replicate N Ś):=by
 intro v a
 by_cases h:v.toNat<N
 ·exfalso; apply a;unfold gv;rw[List.getElem?_replicate,if_pos h];rfl
 ·rw[gv_out (by simpa using h)]; omega
def aiG {B:Int} {y:CK Int} (f:Lim B y) {u:Int} (i:0<=u) (g:u.toNat<y.length) {a:Int} (ha:a≠Ś->-B<=a/\a<=B):Lim B (y.set u.toNat a):=by
 intro v d
 by_cases h:v.toNat=u.toNat
 ·have:gv (y.set u.toNat a) v=a:=by
   unfold gv;rw[h,List.getElem?_set_self g];rfl
  rw[this] at d ⊢;exact ha d
 ·have:gv (y.set u.toNat a) v=gv y v:=by
   unfold gv;rw[List.getElem?_set_ne (fun e=>h e.symm)]
  rw[this] at d ⊢;exact f v d
def ad4 (e:jz L N) {B:Int} (n:0<=B) (i:B<=1000000000000000000) {x y:CK Int} (g:Lim B x) (a:Lim (B+4503599627370496) y) (k:y.length=N) {l:Lk} (d:l∈L):Lim (B+4503599627370496) (km x y l):=by
 unfold km
 split
 ·exact a
 ·rename_i h;have j:=e.inr l d;have h2:=e.most l d;have o:=g _ h;refine aiG a j.1.1 (by omega) fun ha=>?_
  by_cases f:gv y l.1=Ś
  ·rw[f] at ha ⊢
   have:min Ś (l.2.2+gv x l.2.1)=l.2.2+gv x l.2.1:=by unfold Ś; omega
   rw[this]; omega
  ·have:=a _ f;omega
def ad5 (g:jz L N) {B:Int} (i:0<=B) (a:B<=1000000000000000000) {x:CK Int} (e:Lim B x):∀(M:CK Lk),(∀l∈M,l∈L)->∀y:CK Int,y.length=N->Lim (B+4503599627370496) y->Lim (B+4503599627370496) (M.foldl (km x) y)
 |[],_,y,_,d=>d
 |l::M,h,y,f,d=>by
  rw[gA];exact ad5 g i a e M (fun m j=>h m (by simp[j])) _ (by rw[Ka,f]) (ad4 g i a e d f (h l (by simp)))
def FF (d:jz L N) {to:Int} (a:0<=to/\to<N):∀k:Nat,k<=200->Lim (k*4503599627370496) (exL L N to k)
 |0,_=>by
  unfold exL;exact aiG (P7 (by omega)) a.1 (by simp; omega) (fun _=>by omega)
 |k+1,f=>by
  have:=ad5 d (B:=k*4503599627370496) (by omega) (by omega) (FF d a k (by omega)) L (fun _ h=>h) (List.replicate N Ś) (by simp) (P7 (by omega));unfold exL UQ
  have e:(((k+1:Nat):Int)*4503599627370496)=(k:Int)*4503599627370496+4503599627370496:=by push_cast; omega
  rw[e];exact this
def aak {ρ:Type} (n:N<=1000) (K:CK Int->BY ρ) {f:Int×CK Int->(Int×CK Int->BY ρ)->BY ρ}
 (k:∀(v:Int×CK Int) j,f v j=Cd (N:Int) v.1 v.2 (fun g e=>j (g,e)) K):Ë f ((0:Int),List.replicate N (0:Int))=K (List.replicate N Ś):=by
 refine ð (List.replicate N (0:Int)) (fun i=>List.replicate i Ś++List.replicate (N-i) (0:Int)) _ (by simp) (fun i a hi ha l=>?_) (fun l=>?_)
 ·rw[k];dsimp only;unfold Cd;rw[List.length_replicate] at hi
  have d:(List.replicate i Ś++List.replicate (N-i) (0:Int)).length=N:=by simp; omega
  have h:ilt (i:Int) (N:Int)=true:=decide_eq_true (by omega);rw[Ð h,show î (List.replicate i Ś++List.replicate (N-i) (0:Int))=(N:Int) by unfold î; rw[d],ź (by omega) (by omega),lD (by rw[d]; omega),Ï (by omega) (by omega)];congr 2;rw[Int.toNat_natCast];rw[List.set_append_right _ _ (by simp),List.length_replicate,Nat.sub_self];rw[show N-i=(N-(i+1))+1 by omega,List.replicate_succ,List.set_cons_zero,List.replicate_succ'];simp
 ·rw[k];dsimp only;unfold Cd;rw[List.length_replicate];have h:ilt (N:Int) (N:Int)=false:=decide_eq_false (by omega);rw[Ì h];simp
def okN (a:N<=1000) {ρ:Type} (x:BY ρ):à ((ile (0:Int) (N:Int))&&(ä (Int.toNat (N:Int)))) x=x:=by
 rw[å];rw[dj,Ñ (by omega),Bool.and_true];exact decide_eq_true (by omega)
def aiF {ρ:Type} (n:jz L N) {B:Int} (u:0<=B) (t:B<=1000000000000000000) {x:CK Int} (r:Lim B x) (q:x.length=N) (K:CK Int->BY ρ) :
 Ë (fun(e:nn) f=>HE x L (Õ L) e.1 e.2 (fun j h=>f (j,h)) K) ((0:Int),List.replicate N Ś)=K (UQ L N x):=by
 have s:=n.len;refine ð L (fun i=>(L.take i).foldl (km x) (List.replicate N Ś)) _ rfl (fun i l hi k p=>?_) (fun p=>?_)
 ·try dsimp only
  unfold HE;have o:=List.mem_of_getElem? k;have d:=n.inr l o;have h2:=n.most l o;rw[Í hi,Ã k,lG d.2.1 (by omega),take_succ k,List.foldl_append,È hi (by omega)]
  have a:((L.take i).foldl (km x) (List.replicate N Ś)).length=N:=by rw[Kb]; simp
  generalize (L.take i).foldl (km x) (List.replicate N Ś)=y at a ⊢
  by_cases g:gv x l.2.1=Ś
  ·rw[Ì (by rw[g]; rfl)];simp only[List.foldl_cons,List.foldl_nil];unfold km;rw[if_pos g]
  ·have v:=r _ g;rw[Ð (bne_iff_ne.2 g),show î y=(N:Int) by unfold î; rw[a],ź d.1.1 d.1.2,lD (by omega),lG d.2.1 (by omega),Ï (by omega) (by omega),ź d.1.1 d.1.2,lD (by omega),È hi (by omega)];simp only[List.foldl_cons,List.foldl_nil];unfold km;rw[if_neg g,WN]
 ·try dsimp only
  unfold HE;rw[Ô,List.take_length];rfl
def alJ {ρ:Type}:@Wq ρ=@Cd ρ:=rfl
def J8 (to:Int) (m:Nat):(nN L N to m).length=m+1:=by simp[nN]
def J9 {to:Int} {m k:Nat} (a:k<=m):(nN L N to m)[k]?=some (exL L N to k):=by
 unfold nN;rw[List.getElem?_map,List.getElem?_range (by omega)];rfl
def alI (e:jz L N) {to:Int} (d:0<=to/\to<N) {most:Nat} (k:most<=100):IM ((N:Int),L) to (most:Int)=some (nN L N to most):=by
 have l:=e.n60
 unfold IM ZG
 dsimp only;rw[okN (by omega),Int.toNat_natCast];refine(aak (by omega) _ (fun v h=>by rw[Î,List.length_replicate])).trans ?_;rw[show î (List.replicate N Ś)=(N:Int) by simp[î],ź d.1 d.2,lD (by simp; omega)];refine ð (List.replicate most ()) (fun i=>nN L N to i) _ (by simp[nN,exL]) (fun i a hi ha g=>?_) (fun g=>?_)
 ·try dsimp only
  unfold MD;rw[List.length_replicate] at hi;have f:ilt (i:Int) (most:Int)=true:=decide_eq_true (by omega);rw[Ð f,Î,J8]
  have j:(((i+1:Nat):Int)-1)=(i:Int):=by omega
  rw[j,Ï (by omega) (by omega),show î (nN L N to i)=((i+1:Nat):Int) by unfold î; rw[J8],ź (by omega) (by omega),Int.toNat_natCast,ž (J9 (Nat.le_refl i)),okN (by omega),Int.toNat_natCast];rw[alJ];refine(aak (by omega) _ (fun v h=>by rw[Î,List.length_replicate])).trans ?_;refine(aiF e (B:=i*4503599627370496) (by omega) (by omega) (FF e d i (by omega)) (ab9 _ _) _).trans ?_;rw[å (Ñ (by simp only[J8,List.length_singleton]; omega)),Ï (by omega) (by omega)];congr 2;unfold nN;rw[List.range_succ (n:=i+1),List.map_append];rfl
 ·try dsimp only
  unfold MD;rw[List.length_replicate];have f:ilt (most:Int) (most:Int)=false:=decide_eq_false (by omega);rw[Ì f]
def VP (L:CK Lk) (x:CK Int) (good:Int->Bool) (u a:Int):BY Nat:=L.findIdx? fun l=>l.1==u&&(decide (gv x l.2.1≠Ś)&&good (a+l.2.2+gv x l.2.1))
def pZ (L:CK Lk) (rest:Nat->CK Int) (good:Int->Bool):Nat->Int->Int->CK Int->CK Int
 |0,_,_,out=>out
 |k+1,u,sum,out=>match VP L (rest k) good u sum with
  |some i=>pZ L rest good k (L[i]?.getD (0,0,0)).2.1 (sum+(L[i]?.getD (0,0,0)).2.2) (out++[(i:Int)])
  |none=>pZ L rest good k u sum out
def folL {ρ:Type} (good:Int->Bool) (c0:Int) (r:CK (CK Int)) (v:CK Lk) (u:Int) (e:Int) (v1:Int) (v2:Int) (a:CK Int) (n:Int->Int->Int->CK Int->BY ρ) (k0:Int×Int×CK Int->BY ρ):BY ρ :=
 ifb (ilt v2 u) (â v v2 fun d=>ifb (ieq d.1 e) (ck (c0-(1:Int)) fun s=>â r s fun t=>â t d.2.1 fun q=>ifb (ine q (1152921504606846976:Int)) (ck (v1+d.2.2) fun l=>ck (c0-(1:Int)) fun k=>â r k fun p=>â p d.2.1 fun o=>ck (l+o) fun j=>ifb (good j) (à (ä ((List.length a)+(List.length ([v2])))) (ck (v1+d.2.2) fun i=>k0 (d.2.1,i,(a++([v2]))))) (ck (v2+(1:Int)) fun h=>n e v1 h a)) (ck (v2+(1:Int)) fun g=>n e v1 g a)) (ck (v2+(1:Int)) fun f=>n e v1 f a)) (k0 (e,v1,a))
def anW {ρ:Type} (D:jz L N) (good:Int->Bool) {rest:CK (CK Int)} {k:Nat} {x:CK Int} (s:rest[k]?=some x) (S:k<=100) (G:Lim 1000000000000000000 x) (J:x.length=N) {u e:Int} (Q : -1000000000000000000<=e/\e<=1000000000000000000) {out:CK Int} (R:out.length<=1000)
 (K:Int×Int×CK Int->BY ρ):Ë (fun(v:Int×Int×Int×CK Int) I=>folL good ((k+1:Nat):Int) rest L (Õ L) v.1 v.2.1 v.2.2.1 v.2.2.2 (fun a b c d=>I (a,b,c,d)) K) (u,e,(0:Int),out) =
  match VP L x good u e with|some i=>K ((L[i]?.getD (0,0,0)).2.1,e+(L[i]?.getD (0,0,0)).2.2,out++[(i:Int)])|none=>K (u,e,out):=by
 have M:=D.len;refine ï (fun v=>∃i:Nat,i<=L.length/\v=(u,e,(i:Int),out)/\∀j l,j<i->L[j]?=some l->(l.1==u&&(decide (gv x l.2.1≠Ś)&&good (e+l.2.2+gv x l.2.1)))=false) (fun v=>L.length-v.2.2.1.toNat) ?_ ⟨0,by omega,rfl,fun j l h=>by omega⟩;rintro v ⟨i,hi,rfl,C⟩
 have H:(((k+1:Nat):Int)-1)=(k:Int):=by omega
 rcases dl i L.length with h2|h2
 ·have f:L[i]?=some L[i]:=cV h2;generalize L[i]=l at f;have p:=dc f;have t:=D.inr l p;have U:=D.most l p
  have n:(l.1==u&&(decide (gv x l.2.1≠Ś)&&good (e+l.2.2+gv x l.2.1)))=false->∃y,(∃i:Nat,i<=L.length/\y=(u,e,(i:Int),out)/\∀j l,j<i->L[j]?=some l->(l.1==u&&(decide (gv x l.2.1≠Ś)&&good (e+l.2.2+gv x l.2.1)))=false)/\(L.length-y.2.2.1.toNat<L.length-((u,e,(i:Int),out):Int×Int×Int×CK Int).2.2.1.toNat)/\y=(u,e,(i:Int)+1,out):=fun g =>
   ⟨_,⟨i+1,h2,by rw[show((i+1:Nat):Int)=(i:Int)+1 by push_cast; rfl],fun j m q p=>by
    rcases gY.1 q with h|rfl
    ·exact C j m h p
    ·rw[f] at p; cases p; exact g⟩,by simp; omega,rfl⟩
  by_cases g:(l.1==u&&(decide (gv x l.2.1≠Ś)&&good (e+l.2.2+gv x l.2.1)))=true
  ·refine .inl fun F=>?_
   have o:VP L x good u e=some i:=by
    unfold VP;rw[List.findIdx?_eq_some_iff_getElem];obtain⟨T,rfl⟩:=List.getElem?_eq_some_iff.1 f;exact⟨h2,g,fun j q=>by have:=C j _ q (List.getElem?_eq_getElem (by omega)); rw[this]; simp⟩
   rw[o];simp only[Bool.and_eq_true,beq_iff_eq,decide_eq_true_eq] at g;have O:=G _ g.2.1;dsimp only;unfold folL
   rw[Í h2,Ã f,Ð (by simp[g.1]),H,Ï (by omega) (by omega),Ã s,lG t.2.1 (by omega),Ð (bne_iff_ne.2 g.2.1),Ï (by omega) (by omega),Ï (by omega) (by omega),Ã s,lG t.2.1 (by omega),Ï (by omega) (by omega),Ð g.2.2,
    å (Ñ (by simp; omega)),Ï (by omega) (by omega),f]
   rfl
  ·have r:=Bool.not_eq_true _▸g;obtain⟨y,B,A,rfl⟩:=n r;refine .inr ⟨_,B,A,fun F=>?_⟩;dsimp only;unfold folL;rw[Í h2,Ã f,È h2 (by omega)]
   by_cases E:l.1=u
   ·rw[Ð (by simp[E]),H,Ï (by omega) (by omega),Ã s,lG t.2.1 (by omega)]
    by_cases z:gv x l.2.1=Ś
    ·rw[Ì (by rw[z]; rfl)]
    ·have O:=G _ z
     have P:good (e+l.2.2+gv x l.2.1)=false:=by simpa[E,z] using r
     rw[Ð (bne_iff_ne.2 z),Ï (by omega) (by omega),Ï (by omega) (by omega),Ã s,lG t.2.1 (by omega),Ï (by omega) (by omega),Ì P]
   ·rw[Ì (by simpa using E)]
 ·refine .inl fun F=>?_
  obtain rfl:i=L.length:=by omega
  have o:VP L x good u e=none:=by
   unfold VP;rw[List.findIdx?_eq_none_iff];intro l f;obtain⟨j,q,rfl⟩:=List.mem_iff_getElem.1 f;exact C j _ q (List.getElem?_eq_getElem q)
  rw[o];dsimp only;unfold folL;rw[Ô]
def folM {ρ:Type} (good:Int->Bool) (c0:CK (CK Int)) (l:CK Lk) (n:Int) (v1:Int) (v2:Int) (k:CK Int) (o:Int->Int->Int->CK Int->BY ρ) (k0:CK Int->BY ρ):BY ρ :=
 ifb (igt v1 (0:Int)) (Ë (fun(a:Int×Int×Int×CK Int) e=>folL good v1 c0 l (Õ l) a.1 a.2.1 a.2.2.1 a.2.2.2 (fun i h g f=>e (i,h,g,f)) (fun d=>ck (v1-(1:Int)) fun j=>o d.1 j d.2.1 d.2.2)) (n,v2,(0:Int),k)) (k0 k)
def anV {ρ:Type} (q:jz L N) (good:Int->Bool) {rest:CK (CK Int)} {R:Nat->CK Int} {k0:Nat} (h:k0<=100) (t:∀k,k<k0->rest[k]?=some (R k)) (s:∀k,k<k0->Lim 900000000000000000 (R k)/\(R k).length=N) (u:Int) (K:CK Int->BY ρ) :
 Ë (fun(v:Int×Int×Int×CK Int) l=>folM good rest L v.1 v.2.1 v.2.2.1 v.2.2.2 (fun a b c d=>l (a,b,c,d)) K) (u,(k0:Int),(0:Int),[])=K (pZ L R good k0 u 0 []):=by
 have key:=sm (f:=fun(v:Int×Int×Int×CK Int) l=>folM good rest L v.1 v.2.1 v.2.2.1 v.2.2.2 (fun a b c d=>l (a,b,c,d)) K) (F:=fun v=>K (pZ L R good v.2.1.toNat v.1 v.2.2.1 v.2.2.2))
  (fun v=>∃k:Nat,v.2.1=k/\k<=k0/\(-(((k0-k:Nat):Int)*4503599627370496)<=v.2.2.1/\v.2.2.1<=((k0-k:Nat):Int)*4503599627370496)/\v.2.2.2.length<=k0-k) (fun v=>v.2.1.toNat) (fun v n A h=>?_) (x:=(u,(k0:Int),0,[])) ⟨k0,rfl,cX _,by simp,by simp⟩
 ·rw[key]; simp
 ·obtain⟨u,B,j,out⟩:=v;obtain⟨k,e,D,h2,z⟩:=n;dsimp only at e h2 z h ⊢;subst e;rw[Int.toNat_natCast] at h ⊢;unfold folM
  cases k with
  |zero =>
   rw[Ì (by rfl)];rfl
  |succ k =>
   rw[Ð (decide_eq_true (by omega))];have p:=s k (by omega)
   have g:Lim 1000000000000000000 (R k):=fun v n=>by have:=p.1 v n; omega
   refine(anW q good (t k (by omega)) (by omega) g p.2 (by omega) (by omega) _).trans ?_;unfold pZ
   have r:(((k+1:Nat):Int)-1)=(k:Int):=by omega
   cases o:VP L (R k) good u j with
   |none =>
    dsimp only;rw[r,Ï (by omega) (by omega),h _ ⟨k,rfl,by omega,by dsimp only; omega,by dsimp only; omega⟩ (by simp)];simp
   |some i =>
    have hi:i<L.length:=by
     unfold VP at o;exact(List.findIdx?_eq_some_iff_getElem.1 o).1
    have y:L[i]?=some L[i]:=List.getElem?_eq_getElem hi;have C:=q.most L[i] (List.getElem_mem _);dsimp only;rw[y];simp only[Option.getD_some];rw[r,Ï (by omega) (by omega),h _ ⟨k,rfl,by omega,by dsimp only; omega,by simp; omega⟩ (by simp)];simp
end
def xq (L:CK Lk):Int->Int->CK Int->Int×Int×Bool
 |u,s,[]=>(u,s,true)
 |u,s,i::t=>if (L[i.toNat]?.getD (0,0,0)).1=u then xq L (L[i.toNat]?.getD (0,0,0)).2.1 (s+(L[i.toNat]?.getD (0,0,0)).2.2) t else(0,0,false)
def lz (L:CK Lk) (i:Int):Bool:=decide (i<0)||decide ((L.length:Int)<=i)
def jo (L:CK Lk) (l:CK Int):Int:=if 80<l.length then 2 else if l.any (lz L) then 1 else 0
def UV (u:Int) (w:Int×Int×Bool):Int:=if w.2.2=true/\w.1=u/\w.2.1<0 then 0 else 8
def ø (L:CK Lk) (l:CK Int):Int :=
 if jo L l≠0 then jo L l else match l with
 |[]=>8
 |i::_=>UV (L[i.toNat]?.getD (0,0,0)).1 (xq L (L[i.toNat]?.getD (0,0,0)).1 0 l)
section
variable {L:CK Lk} {N:Nat}
def afS (N:Int) (f:L.length<=1000) (l:CK Int):yC (N,L) l=some (jo L l):=by
 unfold yC PA jo;dsimp only;rw[Î]
 by_cases h:80<l.length
 ·rw[Ð (decide_eq_true (by omega)),if_pos h]
 ·rw[Ì (decide_eq_false (by omega)),if_neg h,<-Î l];refine(ù l (lz L) (fun z=>ifb (ige z 0) (some 1) (some 0)) (some 1) (some 0) (fun j=>by rw[show ige (j:Int) 0=true from decide_eq_true (by omega)]; rfl) (fun i a hi ha e=>?_) (fun e=>?_)).trans ?_
  ·try dsimp only
   unfold oK lz;rw[Í hi,Ã ha,È hi (by omega),Î,é,é]
   by_cases d:a<0
   ·simp[ilt,d]
   ·by_cases h2:(L.length:Int)<=a
    ·simp[ilt,ige,d,h2]
    ·simp[ilt,ige,d,h2]
  ·try dsimp only
   unfold oK;rw[Ô]
  ·cases l.any (lz L)<;>rfl
def ab0 {l:CK Int} (h:jo L l=0):l.length<=80/\∀i∈l,0<=i/\i.toNat<L.length:=by
 unfold jo at h
 split at h
 ·omega
 ·rename_i a
  split at h
  ·omega
  ·rename_i h2;refine⟨by omega,fun i hi=>?_⟩;have:=dI.1 (eE.2 h2) i hi;simp[lz] at this;omega
def am7 (C:jz L N) (u:Int) {l:CK Int} (h:jo L l=0):MR ((N:Int),L) u l=some (xq L u 0 l):=by
 obtain⟨E,hi⟩:=ab0 h;unfold MR adP;dsimp only
 have:=sm (f:=fun(p:Int×Int×Int) g=>xU l (Õ l) L p.1 p.2.1 p.2.2 (fun u8 z q=>g (u8,z,q)) (fun o=>some (o.1,o.2.1,o.2.2)) (fun y=>some (y.1,y.2,true)))
  (F:=fun v=>some (xq L v.1 v.2.1 (l.drop v.2.2.toNat))) (fun v=>∃i:Nat,v.2.2=i/\i<=l.length/\(-(i*4503599627370496)<=v.2.1/\v.2.1<=i*4503599627370496)) (fun v=>l.length-v.2.2.toNat) (fun v A D t=>?_) (x:=(u,(0:Int),(0:Int))) ⟨0,rfl,by omega,by simp⟩
 ·exact this
 ·obtain⟨w,s,n⟩:=v;obtain⟨i,e,G,h2⟩:=A;dsimp only at e h2 t ⊢;subst e;rw[Int.toNat_natCast] at t ⊢;unfold xU;rcases Nat.lt_or_ge i l.length with d|d
  ·have ha:l[i]?=some l[i]:=List.getElem?_eq_getElem d;have hd:l.drop i=l[i]::l.drop (i+1):=List.drop_eq_getElem_cons d;rw[hd];have r:=hi l[i] (List.getElem_mem _);generalize l[i]=a at ha r;have j:L[a.toNat]?=some L[a.toNat]:=List.getElem?_eq_getElem r.2;have B:=C.most _ (List.mem_of_getElem? j);generalize L[a.toNat]=x at j B;rw[Í d,Ã ha,oq r.1 j];unfold xq;rw[j];simp only[Option.getD_some]
   by_cases k:x.1=w
   ·rw[Ì (by rw[k]; exact bne_self_eq_false' _),if_pos k,Ï (by omega) (by omega),È d (by omega),t _ ⟨i+1,by push_cast; rfl,d,by dsimp only; push_cast; omega⟩ (by simp; omega)];simp
   ·rw[Ð (bne_iff_ne.2 k),if_neg k]
  ·obtain rfl:i=l.length:=by omega
   rw[Ô,ip];rfl
def aiT {ρ α:Type} (x:α) (t:CK α) (f:α->BY ρ):â (x::t) (0:Int) f=f x:=rfl
def S6 (f:jz L N) (l:CK Int):oO ((N:Int),L) l=some (ø L l):=by
 have k:=f.len;unfold oO Eo ø;rw[kY f,À,Ì (by rfl),afS _ (by omega),À]
 by_cases h:jo L l=0
 ·rw[Ì (by rw[h]; rfl),if_neg (by simp[h])]
  cases l with
  |nil=>rw[Î]; rfl
  |cons i t =>
   have g:=(ab0 h).2 i (by simp);have d:L[i.toNat]?=some L[i.toNat]:=List.getElem?_eq_getElem g.2;generalize L[i.toNat]=x at d;rw[Î,Ì (beq_eq_false_iff_ne.2 (by simp; omega)),aiT,oq g.1 d,am7 f x.1 h,À];dsimp only;rw[d];dsimp only[Option.getD_some];generalize xq L x.1 0 (i::t)=w;obtain⟨e,a,ok⟩:=w;unfold UV;dsimp only
   cases ok with
   |false=>rw[Ð (by rfl),if_neg (by simp)]
   |true =>
    rw[Ì (by rfl)]
    by_cases h2:e=x.1
    ·rw[Ì (by rw[h2]; exact bne_self_eq_false' _)]
     by_cases j:a<0
     ·rw[Ì (decide_eq_false (by omega)),if_pos ⟨rfl,h2,j⟩]
     ·rw[Ð (decide_eq_true (by omega)),if_neg (fun h=>j h.2.2)]
    ·rw[Ð (bne_iff_ne.2 h2),if_neg (fun h=>h2 h.2.1)]
 ·rw[Ð (bne_iff_ne.2 h),if_pos h]
end
def af8 {L:CK Lk} {N:Nat} (h:jz L N) (a:lC L N=true):nk ((N:Int),L)=some ([],5):=by
 have d:=h.n60;unfold nk PM;rw[kY h,À,Ì (by rfl),xu h.links h.n1 (by omega),À,if_pos a];rfl
def jR (b:ò) (c:Cmp) (x:CK Int):Int:=gv (0::x) (cx b c)-gv (0::x) (cy b c)
def gv_bd {x:CK Int} {m:Int} (e:0<=m) (h:∀a∈x,-m<=a/\a<=m) (v:Int) : -m<=gv x v/\gv x v<=m:=by
 unfold gv
 cases d:x[v.toNat]? with
 |none=>simp only[il]; omega
 |some a=>simp only[fc]; exact h a (dc d)
def amm {b:ò} {x:CK Int} (d:Ů b x=true) (c:Cmp):(∀v,-4503599627370496<=gv (0::x) v/\gv (0::x) v<=4503599627370496)/\-9007199254740992<=jR b c x/\jR b c x<=9007199254740992:=by
 have h:=(uN.1 d).2
 have hb:∀v,-4503599627370496<=gv (0::x) v/\gv (0::x) v<=4503599627370496:=gv_bd (by omega) fun a ha=>by
  rcases df.1 ha with rfl|ha
  ·omega
  ·exact h a ha
 refine⟨hb,?_⟩;have e:=hb (cx b c);have h2:=hb (cy b c);unfold jR;omega
def aeW (b:ò) (n:Int×Int):Prop:=∃g∈b.2.1,g.1=n.1/\n.2∈Û b g
def WP {b:ò} (h:ţ b) {n:Int×Int}:Mi b n.1 n.2≠0↔aeW b n:=by
 unfold Mi;constructor
 ·intro a
  cases l:iG (Ò b) n.1 n.2 with
  |none=>rw[l] at a; simp at a
  |some j =>
   have o:=List.mem_of_getElem? (ky l).2;unfold Ò at o;obtain⟨g,f,hd⟩:=List.mem_flatMap.1 o;obtain⟨d,hd,e⟩:=List.mem_map.1 hd;simp only[Prod.mk.injEq] at e;obtain⟨r,rfl⟩:=e;exact⟨g,f,r,hd⟩
 ·rintro⟨g,f,e,hd⟩;obtain⟨i,hi,rfl⟩:=List.mem_iff_getElem.1 f;obtain⟨k,p,q⟩:=List.mem_iff_getElem.1 hd;rw[<-e,VN h (List.getElem?_eq_getElem hi) (by rw[List.getElem?_eq_getElem p,q])];dsimp only;omega
def aiw {b:ò} (n:Int×Int) (h':ţ (vn b n)):aeW (vn b n) n:=by
 have a:=h'.looks n (by simp[vn]);unfold aba at a
 split at a
 ·omega
 obtain⟨g,f,_⟩:=Jy h' a;obtain⟨d,e⟩:=i9 f;refine⟨g,d,e,?_⟩;unfold Û;rw[xw];unfold aap vn;simp only[List.mem_append,List.mem_map,List.mem_filter];exact .inr ⟨n,⟨.inr (by simp),by simp[e]⟩,rfl⟩
def ahc {b:ò} {n:Int×Int} (e:(CO b n).2=0):(CO b n=(b,0)/\Mi b n.1 n.2≠0)\/(CO b n=(vn b n,0)/\ţ (vn b n)/\Mi b n.1 n.2=0):=by
 unfold CO at e ⊢
 split
 ·rename_i h; exact .inl ⟨rfl,h⟩
 ·rename_i a;rw[if_neg a] at e
  split
  ·rename_i h2; rw[if_pos h2] at e; exact absurd e h2
  ·rename_i h2; exact .inr ⟨rfl,(ť _).1 (by simpa using h2),by simpa using a⟩
def aix {b:ò} {n:Int×Int} {f:Int->Int->Int} {z:Int}:Hist (vn b n) f z↔Hist b f z :=
 ⟨fun h=>⟨fun g a=>by have:=h.gauge g a; exact⟨this.hi,this.lo,this.down,this.loss⟩,h.cmp⟩,fun h=>⟨fun g a=>by have:=h.gauge g a; exact⟨this.hi,this.lo,this.down,this.loss⟩,h.cmp⟩⟩
inductive Wk (L:List Lk) (to:Int):Nat->Int->Int->Prop
 |nil:Wk L to 0 to 0
 |step {k:Nat} {v w m d:Int}:(v,w,m)∈L->Wk L to k w d->Wk L to (k+1) v (m+d)
section
variable {L:CK Lk} {N:Nat}
def Wk.snoc {u v m:Int} (g:(u,v,m)∈L):∀{k:Nat} {s d:Int},Wk L u k s d->Wk L v (k+1) s (d+m):=by
 intro k s d h
 induction h with
 |nil =>
  have:=Wk.step g (Wk.nil (L:=L) (to:=v))
  have e:m+0=0+m:=by omega
  rw[e] at this;exact this
 | @step k a w f d i h2 ih =>
  have:=Wk.step i ih
  have e:f+(d+m)=f+d+m:=by omega
  rw[e] at this;exact this
def Wk.bd (a:jz L N) {t:Int} {k:Nat} {s d:Int} (h:Wk L t k s d) : -(k*4503599627370496)<=d/\d<=k*4503599627370496:=by
 induction h with
 |nil=>omega
 | @step k v w m d e h2 ih =>
  have:=a.most _ e;dsimp only at this;push_cast;omega
def ab2 {v:Int} (h0:0<=v) (a:v<N):gv (List.replicate N Ś) v=Ś:=by
 unfold gv;rw[List.getElem?_replicate,if_pos (by omega)];rfl
def alm {B:Int} (d:B<=1100000000000000000) {x:CK Int} (a:Lim B x) (v:Int):gv x v<=Ś:=by
 by_cases h:gv x v=Ś
 ·omega
 ·have:=a v h; unfold Ś; omega
def Iz (k:jz L N) {B:Int} (r:0<=B) (f:B<=1000000000000000000) {x:CK Int} (o:Lim B x) {v:Int} (h0:0<=v) (D:v<N) :
 ∀(M:CK Lk),(∀l∈M,l∈L)->∀y:CK Int,y.length=N->Lim (B+4503599627370496) y ->
  gv (M.foldl (km x) y) v<=gv y v/\(∀w m,(v,w,m)∈M->gv x w≠Ś->gv (M.foldl (km x) y) v<=m+gv x w) /\
  (gv (M.foldl (km x) y) v=gv y v\/∃w m,(v,w,m)∈M/\gv x w≠Ś/\gv (M.foldl (km x) y) v=m+gv x w)
 |[],_,y,_,_=>⟨dQ _,fun _ _ h=>by simp at h,.inl rfl⟩
 |l::M,q,y,p,n=>by
  rw[gA];have d:=q l (by simp);obtain⟨E,z,u⟩:=Iz k r f o h0 D M (fun m j=>q m (by simp[j])) (km x y l) (by rw[Ka,p]) (ad4 k r f o n p d);have C:=k.inr l d;have A:=alm (by omega) n
  -- the element behind one link
  have key:gv (km x y l) v<=gv y v/\(l.1=v->gv x l.2.1≠Ś->gv (km x y l) v<=l.2.2+gv x l.2.1)/\(gv (km x y l) v=gv y v\/(l.1=v/\gv x l.2.1≠Ś/\gv (km x y l) v=l.2.2+gv x l.2.1)):=by
   unfold km
   by_cases i:gv x l.2.1=Ś
   ·rw[if_pos i];exact⟨dQ _,fun _ h=>absurd i h,.inl rfl⟩
   ·rw[if_neg i,qj C.1.1 h0 (by omega)]
    by_cases g:v=l.1
    ·rw[if_pos g,g];refine⟨by omega,fun _ _=>by omega,?_⟩
     by_cases F:gv y l.1<=l.2.2+gv x l.2.1
     ·exact .inl (by omega)
     ·exact .inr ⟨rfl,i,by omega⟩
    ·rw[if_neg g];exact⟨dQ _,fun h=>absurd h.symm g,.inl rfl⟩
  obtain⟨k1,t,s⟩:=key;refine⟨by omega,fun w m j a=>?_,?_⟩
  ·rcases df.1 j with h|h
   ·subst h;have:=t rfl a;dsimp only at this;omega
   ·exact z w m h a
  ·rcases u with h|⟨w,m,h,a,e⟩
   ·rcases s with h'|⟨h',a,e⟩
    ·exact .inl (h.trans h')
    ·refine .inr ⟨l.2.1,l.2.2,?_,a,h.trans e⟩;rw[<-h']; simp
   ·exact .inr ⟨w,m,by simp[h],a,e⟩
def Xb (f:jz L N) {to:Int} (l:0<=to/\to<N):∀k:Nat,k<=200->∀v:Int,0<=v->v<N ->
 (gv (exL L N to k) v≠Ś->Wk L to k v (gv (exL L N to k) v))/\∀d,Wk L to k v d->gv (exL L N to k) v<=d/\gv (exL L N to k) v≠Ś
 |0,_,v,h0,i=>by
  unfold exL;rw[qj l.1 h0 (by simp; omega)]
  by_cases j:v=to
  ·subst j;rw[if_pos rfl];refine⟨fun _=>.nil,fun d hd=>?_⟩;cases hd;exact⟨dQ _,by decide⟩
  ·rw[if_neg j,ab2 h0 i];refine⟨fun h=>absurd rfl h,fun d hd=>?_⟩;cases hd;exact absurd rfl j
 |k+1,C,v,h0,i=>by
  have g:=FF f l k (by omega);obtain⟨z,q,p⟩:=Iz f (B:=k*4503599627370496) (by omega) (by omega) g h0 i L (fun _ h=>h) (List.replicate N Ś) (by simp) (P7 (by omega));have n:=Xb f l k (by omega);unfold exL UQ;refine⟨fun s=>?_,fun d hd=>?_⟩
  ·rcases p with h|⟨w,m,h,r,e⟩
   ·rw[ab2 h0 i] at h; exact absurd h s
   ·rw[e];have a:=(f.inr _ h).2;exact .step h ((n w a.1 a.2).1 r)
  ·have hb:=Wk.bd f hd
   cases hd with
   | @step x u w m d h h2 =>
    have a:=(f.inr _ h).2;obtain⟨y,o⟩:=(n w a.1 a.2).2 d h2;have:=q w m h o;refine⟨by omega,?_⟩
    have A:(m+d)<=1000000000000000000:=by push_cast at hb; omega
    intro t;rw[t] at this;unfold Ś at this;omega
def alK (g:jz L N) {to:Int} (j:0<=to/\to<N) {k:Nat} (l:k+1<=200) {u:Int} (d:0<=u/\u<N) (f:gv (exL L N to (k+1)) u≠Ś) :
 ∃w m,(u,w,m)∈L/\gv (exL L N to k) w≠Ś/\gv (exL L N to (k+1)) u=m+gv (exL L N to k) w:=by
 have a:=FF g j k (by omega);obtain⟨_,_,i⟩:=Iz g (B:=k*4503599627370496) (by omega) (by omega) a d.1 d.2 L (fun _ h=>h) (List.replicate N Ś) (by simp) (P7 (by omega));have e:exL L N to (k+1)=L.foldl (km (exL L N to k)) (List.replicate N Ś):=rfl;rw[e] at f ⊢;rcases i with h|h
 ·rw[ab2 d.1 d.2] at h; exact absurd h f
 ·exact h
def Qn (n:jz L N) {to:Int} (h:0<=to/\to<N) (good:Int->Bool):∀(k:Nat),k<=200->∀(u a:Int) (out:CK Int),0<=u->u<N->gv (exL L N to k) u≠Ś->good (a+gv (exL L N to k) u)=true ->
 ∃q,pZ L (exL L N to) good k u a out=out++q/\q.length=k/\(∀i∈q,lz L i=false)/\∃s,xq L u a q=(to,s,true)/\good s=true
 |0,_,u,a,out,h0,t,r,f=>by
  have J:u=to:=by
   have g:=((Xb n h 0 (by omega) u h0 t).1 r);generalize gv (exL L N to 0) u=y at g;cases g;rfl
  subst J
  have e:gv (exL L N u 0) u=0:=by
   unfold exL;rw[qj h.1 h0 (by simp; omega),if_pos rfl]
  rw[e,gH] at f;exact⟨[],by simp[pZ],rfl,by simp,a,rfl,f⟩
 |k+1,M,u,a,out,h0,t,r,f=>by
  obtain⟨w,m,K,g,e⟩:=alK n h M ⟨h0,t⟩ r;unfold pZ VP
  cases z:L.findIdx? (fun l=>l.1==u&&(decide (gv (exL L N to k) l.2.1≠Ś)&&good (a+l.2.2+gv (exL L N to k) l.2.1))) with
  |none =>
   have:=dX.1 z (u,w,m) K;rw[e,<-Int.add_assoc] at f;simp[g,f] at this
  |some i =>
   obtain⟨hi,o,_⟩:=List.findIdx?_eq_some_iff_getElem.1 z;have d:L[i]?=some L[i]:=List.getElem?_eq_getElem hi;have A:=List.mem_of_getElem? d;generalize L[i]=x at o d A;simp only[Bool.and_eq_true,beq_iff_eq,decide_eq_true_eq] at o;obtain⟨I,H,G⟩:=o;have v:=(n.inr x A).2;obtain⟨q,F,E,D,s,C,B⟩:=Qn n h good k (by omega) x.2.1 (a+x.2.2) (out++[(i:Int)]) v.1 v.2 H G;dsimp only;rw[d];simp only[Option.getD_some];refine⟨(i:Int)::q,by rw[F]; simp,by simp[E],fun j p=>?_,s,?_,B⟩
   ·rcases df.1 p with rfl|p
    ·simp[lz]; omega
    ·exact D j p
   ·unfold xq;rw[Int.toNat_natCast,d];simp only[Option.getD_some];rw[if_pos I];exact C
def alo {P:Int->Prop} {B:Int} (h:∃d,P d) (f:∀d,P d->B<=d):∃d,P d/\∀e,P e->d<=e:=by
 obtain⟨d0,h0⟩:=h
 have:∀(n:Nat) (d:Int),P d->(d-B).toNat<=n->∃d,P d/\∀e,P e->d<=e:=by
  intro n
  induction n with
  |zero=>intro d hd j; exact⟨d,hd,fun e a=>by have:=f e a; have:=f d hd; omega⟩
  |succ n i =>
   intro d hd j
   by_cases g:∃e,P e/\e<d
   ·obtain⟨e,a,k⟩:=g;exact i e a (by have:=f e a; omega)
   ·exact⟨d,hd,fun e a=>by
     rcases gW e d with q|q
     ·exact absurd ⟨e,a,q⟩ g
     ·exact q⟩
 exact this _ d0 h0 (cX _)
def Wl.cutK {S:Int->Prop} {vs:CK Int} {u d:Int} (h:Wl L S vs u d):∀x∈u::vs,∃a g k f,Wl L S a x g/\(x::a) <:+ (u::vs)/\Wk L u k x f/\d=g+f/\k<=vs.length:=by
 induction h with
 | @nil v l =>
  intro x e;simp at e;subst e;exact⟨[],0,0,0,.nil l,List.suffix_refl _,.nil,by omega,by simp⟩
 | @step vs u v m d j i ih =>
  intro x e;rcases df.1 e with rfl|e
  ·exact⟨u::vs,d+m,0,0,.step j i,List.suffix_refl _,.nil,by omega,by simp⟩
  ·obtain⟨a,g,k,f,p,o,n,r,q⟩:=ih x e;exact⟨a,g,k+1,f+m,p,o.trans (List.suffix_cons _ _),n.snoc i,by omega,by simp; omega⟩
def afp (n:jz L N) (x:lC L N=false):∃(k:Nat) (v d:Int),1<=k/\k<=N/\(0<=v/\v<N)/\Wk L v k v d/\d<0:=by
 have R:=n.n60;apply Classical.byContradiction;intro D
 have y:∀{k:Nat} {v d:Int},1<=k->k<=N->(0<=v/\v<N)->Wk L v k v d->0<=d:=fun {k v d} s h2 F E=>by
  rcases gW d 0 with q|q
  ·exact absurd ⟨k,v,d,s,h2,F,E,q⟩ D
  ·exact q
 have r:∀l∈L,-4503599627370496<=l.2.2:=fun l p=>(n.most l p).1
 let P:Int->Int->Prop:=fun v d=>∃vs,Wl L (fun u=>0<=u/\u<N) vs v d/\(v::vs).Nodup
 have h:∀v:Int,0<=v/\v<N->∃d,P v d/\∀e,P v e->d<=e:=fun v f=>alo (B:=-(60*4503599627370496)) ⟨0,[],.nil f,by simp⟩ (by
  rintro d ⟨vs,s,h2⟩;have Q:=s.lowM r;have O:=s.short n.inr (fun w i=>i) h2
  have:((vs.length:Nat):Int)*4503599627370496<=60*4503599627370496:=by omega
  omega)
 have z:lC L N=true:=by
  refine(mJ n.links (by omega)).2 ⟨fun v=>if f:0<=v/\v<(N:Int) then Classical.choose (h v f) else 0,fun u v m p=>?_⟩;have g:=n.inr _ p;dsimp only at g;obtain⟨⟨vs,i,j⟩,C⟩:=Classical.choose_spec (h u g.1);obtain⟨_,o⟩:=Classical.choose_spec (h v g.2);have K:(if f:0<=u/\u<(N:Int) then Classical.choose (h u f) else 0)=Classical.choose (h u g.1):=dif_pos g.1;have J:(if f:0<=v/\v<(N:Int) then Classical.choose (h v f) else 0)=Classical.choose (h v g.2):=dif_pos g.2;dsimp only;rw[K,J];generalize Classical.choose (h u g.1)=a at *;generalize Classical.choose (h v g.2)=b at *
  by_cases f:v∈u::vs
  ·obtain⟨t,M,k,U,I,H,G,T,S⟩:=i.cutK v f;have A:=i.short n.inr (fun w i=>i) j;have:=y (by omega) (by omega) g.2 (G.snoc p);have:=o M ⟨t,I,j.sublist H.sublist⟩;omega
  ·have:=o (a+m) ⟨u::vs,i.step p,fq.2 ⟨f,j⟩⟩;omega
 rw[x] at z;cases z
def ny (L:CK Lk) (N:Nat) (k:Nat) (l:Lk):Bool:=decide (gv (exL L N l.1 k) l.2.1≠Ś)&&decide (l.2.2+gv (exL L N l.1 k) l.2.1<0)
def agA (a:jz L N) (e:lC L N=false):∃k,k<N/\∃l∈L,ny L N k l=true:=by
 have o:=a.n60;obtain⟨k,v,d,q,h2,j,i,p⟩:=afp a e
 cases i with
 |nil=>omega
 | @step k v w m d g h =>
  have f:=a.inr _ g;obtain⟨r,n⟩:=(Xb a j k (by omega) w f.2.1 f.2.2).2 d h;refine⟨k,by omega,(v,w,m),g,?_⟩;simp only[ny,cW,decide_eq_true_eq];exact⟨n,by omega⟩
def aau (j:jz L N) {k:Nat} (E:k<N) {l:Lk} (z:l∈L) (hb:ny L N k l=true) :
 ∃q,pZ L (exL L N l.1) (fun n=>ilt n 0) (k+1) l.1 0 []=q/\q.length=k+1/\(∀i∈q,lz L i=false)/\ø L q=0/\∃u s,xq L u 0 q=(u,s,true)/\s<0:=by
 have D:=j.n60;have a:=j.inr _ z;simp only[ny,cW,decide_eq_true_eq] at hb;have e:=FF j a.1 k (by omega);obtain⟨_,C,_⟩:=Iz j (B:=k*4503599627370496) (by omega) (by omega) e a.1.1 a.1.2 L (fun _ h=>h) (List.replicate N Ś) (by simp) (P7 (by omega));have h2:gv (exL L N l.1 (k+1)) l.1<=l.2.2+gv (exL L N l.1 k) l.2.1:=C l.2.1 l.2.2 z hb.1
 have p:gv (exL L N l.1 (k+1)) l.1≠Ś:=fun h=>by rw[h] at h2; unfold Ś at h2; omega
 obtain⟨q,x,v,o,s,d,A⟩:=Qn j a.1 (fun n=>ilt n 0) (k+1) (by omega) l.1 0 [] a.1.1 a.1.2 p (by rw[Int.zero_add]; exact decide_eq_true (by omega));rw[d8] at x;have y:s<0:=of_decide_eq_true A;refine⟨q,x,v,o,?_,l.1,s,d,y⟩
 have g:q.any (lz L)=false:=by
  rw[dI]
  exact fun i hi=>by rw[o i hi]; simp
 cases q with
 |nil=>simp at v
 |cons i t =>
  have hi:=o i (by simp);simp only[lz,fL,decide_eq_false_iff_not] at hi;have F:L[i.toNat]?=some L[i.toNat]:=cV (by omega)
  have f:(L[i.toNat]?.getD (0,0,0)).1=l.1:=by
   unfold xq at d
   by_cases h:(L[i.toNat]?.getD (0,0,0)).1=l.1
   ·exact h
   ·rw[if_neg h] at d; simp at d
  have r:jo L (i::t)=0:=by
   unfold jo;rw[if_neg (by omega),g];rfl
  unfold ø;rw[r,if_neg (by simp)];dsimp only;rw[f,d];unfold UV;dsimp only;rw[if_pos ⟨rfl,rfl,y⟩]
end
def acN {L:CK Lk} {p:Int->Int} (e:Pot L p):∀(l:CK Int) (u s:Int),(∀i∈l,0<=i/\i.toNat<L.length)->(xq L u s l).2.2=true->p (xq L u s l).1-p u<=(xq L u s l).2.1-s
 |[],u,s,_,_=>by simp[xq]
 |i::t,u,s,hi,a=>by
  have h:=hi i (by simp);have d:L[i.toNat]?=some L[i.toNat]:=List.getElem?_eq_getElem h.2;have f:=List.mem_of_getElem? d;generalize L[i.toNat]=x at d f;unfold xq at a ⊢;rw[d] at a ⊢;simp only[Option.getD_some] at a ⊢
  split at a
  ·rename_i g;rw[if_pos g];have n:=e x.1 x.2.1 x.2.2 f;have h2:=acN e t x.2.1 (s+x.2.2) (fun j k=>hi j (by simp[k])) a;rw[g] at n;omega
  ·cases a
section
variable {L:CK Lk} {N:Nat}
def alR {ρ:Type} (c0:CK (CK Int)) (a:CK Lk):@Bi ρ c0 a=folM (fun n=>ilt n 0) c0 a:=rfl
def zA (L:CK Lk) (N:Nat):CK (CK (CK Int)):=(List.range N).map fun(n:Nat)=>nN L N n N
def ae4 {L:CK Lk} {N n:Nat} (h:n<N):(zA L N)[n]?=some (nN L N n N):=by
 unfold zA;rw[List.getElem?_map,List.getElem?_range h];rfl
def abc {ρ:Type} (l:jz L N) (K:CK (CK (CK Int))->BY ρ) :
 Ë (fun(d:Int×CK (CK (CK Int))) f=>pz (Õ (List.replicate N ([]:u7))) (N:Int) L d.1 d.2 (fun k j=>f (k,j)) K) ((0:Int),(List.replicate N ([]:u7)))=K (zA L N):=by
 have p:=l.n60;refine ð (List.replicate N ()) (fun i=>((List.range i).map fun(n:Nat)=>nN L N n N)++List.replicate (N-i) ([]:CK (CK Int))) _ (by simp) (fun i a hi ha o=>?_) (fun o=>?_)
 ·try dsimp only
  unfold pz;rw[List.length_replicate] at hi;rw[Î,List.length_replicate,Ð (decide_eq_true (by omega)),alI l ⟨by omega,by omega⟩ (by omega),À]
  have g:(((List.range i).map fun(n:Nat)=>nN L N n N)++List.replicate (N-i) ([]:CK (CK Int))).length=N:=by simp; omega
  rw[show î (((List.range i).map fun(n:Nat)=>nN L N n N)++List.replicate (N-i) ([]:CK (CK Int)))=(N:Int) by unfold î; rw[g],ź (by omega) (by omega),Int.toNat_natCast]
  have h:(((List.range i).map fun(n:Nat)=>nN L N n N)++List.replicate (N-i) ([]:CK (CK Int)))[i]?=some []:=by
   rw[gb (by simp),ic,if_pos (by simp; omega)]
  rw[ž h,Ï (by omega) (by omega)];congr 2;rw[gF _ _ (by simp),ft,fj]
  have e:N-i=(N-(i+1))+1:=by omega
  rw[e,gk];simp
 ·try dsimp only
  unfold pz;rw[Î,List.length_replicate,List.length_replicate,Ì (decide_eq_false (by omega))];unfold zA;simp
def X4 {ρ:Type} (d:jz L N) {k:Nat} (F:k<N) (k0:Unit->BY ρ) (k1:Int×CK Int->BY ρ) (o:Unit->BY ρ) :
 Ë (fun(p:Int) f=>pw ((k:Int)+1) L (Õ L) (N:Int) L (zA L N) p (fun q=>f q) k0 k1 o) (0:Int) =
  match L.find? (ny L N k) with|some l=>k1 (0,pZ L (exL L N l.1) (fun n=>ilt n 0) (k+1) l.1 0 [])|none=>o ():=by
 have G:=d.n60;have D:=d.len;rw[ML];refine(iR L (ny L N k) (fun j=>match L[j.toNat]? with|some l=>k1 (0,pZ L (exL L N l.1) (fun n=>ilt n 0) (k+1) l.1 0 [])|none=>o ()) (o ()) (fun i l hi t y=>?_) (fun y=>?_)).trans ?_
 ·try dsimp only
  unfold pw;have v:=List.mem_of_getElem? t;have a:=d.inr l v;have C:=d.most l v
  have r:((l.1.toNat:Nat):Int)=l.1:=by omega
  have x:(zA L N)[l.1.toNat]?=some (nN L N l.1 N):=by rw[ae4 (by omega),r]
  have s:î (zA L N)=(N:Int):=by simp[î,zA]
  have g:=FF d a.1 k (by omega) l.2.1;rw[Í hi,Ã t,s,ź a.1.1 a.1.2,ž x,show((k:Int)+1-1)=(k:Int) by omega,Ï (by omega) (by omega),Ã (J9 (by omega)),lG a.2.1 (by rw[ab9]; omega)];unfold ny
  by_cases e:gv (exL L N l.1 k) l.2.1=Ś
  ·rw[Ð (beq_iff_eq.2 e),È hi (by omega),if_neg (by simp[e])]
  ·have hb:=g e;rw[Ì (beq_eq_false_iff_ne.2 e),Ï (by omega) (by omega)]
   by_cases h2:l.2.2+gv (exL L N l.1 k) l.2.1<0
   ·rw[Ì (decide_eq_false (by omega)),Ì (decide_eq_false (by omega)),ź a.1.1 a.1.2,ž x,if_pos (by simp[e,h2]),alR,dj,t];have u:∀j,j<k+1->(nN L N l.1 N)[j]?=some (exL L N l.1 j):=fun j E=>J9 (by omega)
    have A:∀j,j<k+1->Lim 900000000000000000 (exL L N l.1 j)/\(exL L N l.1 j).length=N:=fun j E=>⟨fun w B=>by
     have:=FF d a.1 j (by omega) w B; omega,ab9 _ _⟩
    have:=anV d (fun n=>ilt n 0) (rest:=nN L N l.1 N) (R:=exL L N l.1) (k0:=k+1) (by omega) u A l.1 (fun z=>k1 (0,z));rw[show(((k+1:Nat):Int))=(k:Int)+1 by push_cast; rfl] at this;exact this
   ·rw[Ð (decide_eq_true (by omega)),È hi (by omega),if_neg (by simp[e,h2])]
 ·try dsimp only
  unfold pw;rw[Ô]
 ·cases h:L.findIdx? (ny L N k) with
  |none=>rfl
  |some j=>dsimp only; rw[Int.toNat_natCast]
def akF (d:jz L N) (i:lC L N=false):∃(K:Nat) (l:Lk),K<N/\(∀k,k<K->∀x∈L,ny L N k x=false)/\L.find? (ny L N K)=some l/\nk ((N:Int),L)=some (pZ L (exL L N l.1) (fun n=>ilt n 0) (K+1) l.1 0 [],0):=by
 have G:=d.n60;obtain⟨y,E,B,q,t⟩:=agA d i
 -- the first number of links
 have r:∃K,K<=y/\(∃l∈L,ny L N K l=true)/\∀k,k<K->∀x∈L,ny L N k x=false:=by
  have:∀n:Nat,(∀k,k<n->∀x∈L,ny L N k x=false)\/∃K,K<n/\(∃l∈L,ny L N K l=true)/\∀k,k<K->∀x∈L,ny L N k x=false:=by
   intro n
   induction n with
   |zero=>exact .inl fun k o=>by omega
   |succ n D =>
    rcases D with h|⟨K,u,h2⟩
    ·by_cases j:∃l∈L,ny L N n l=true
     ·exact .inr ⟨n,by omega,j,h⟩
     ·refine .inl fun k o x g=>?_;rcases gB (Nat.le_of_lt_succ o) with u|rfl
      ·exact h k u x g
      ·exact eE.2 fun e=>j ⟨x,g,e⟩
    ·exact .inr ⟨K,by omega,h2⟩
  rcases this (y+1) with h|⟨K,u,h2,F⟩
  ·have:=h y (by omega) B q;rw[t] at this; cases this
  ·exact⟨K,by omega,h2,F⟩
 obtain⟨K,H,⟨A,p,s⟩,a⟩:=r
 obtain⟨l,z⟩:∃l,L.find? (ny L N K)=some l:=by
  cases h:L.find? (ny L N K) with
  |none=>have:=ee.1 h A p; exact absurd s this
  |some l=>exact⟨l,rfl⟩
 refine⟨K,l,by omega,a,z,?_⟩;unfold nk PM;rw[kY d,À,Ì (by rfl),xu d.links d.n1 (by omega),À,if_neg (by simp[i]),Ì (by rfl),okN (by omega),Int.toNat_natCast];refine(abc d _).trans ?_;refine ï (fun v=>∃k:Nat,k<=K/\v=(k:Int)+1) (fun v=>(K+2)-v.toNat) ?_ ⟨0,by omega,rfl⟩;rintro v ⟨k,o,rfl⟩;rcases Nat.lt_or_eq_of_le o with h|rfl
 ·refine .inr ⟨((k+1:Nat):Int)+1,⟨k+1,h,rfl⟩,by omega,fun C=>?_⟩;unfold uF;refine(X4 d (by omega) _ _ _).trans ?_
  have f:L.find? (ny L N k)=none:=ee.2 fun x j=>by rw[a k h x j]; simp
  rw[f];dsimp only;rw[Ï (by omega) (by omega)];congr 1
 ·refine .inl fun C=>?_;unfold uF;refine(X4 d (by omega) _ _ _).trans ?_;rw[z]
end
def ahh (L:CK Lk) (N:Nat):CK (Int×Int):=(List.range N).map fun(n:Nat)=>(-(dst L N n 0),dst L N 0 n)
section
variable {L:CK Lk} {N:Nat}
def ae7 {n:Nat} (h:n<N):(ahh L N)[n]?=some (-(dst L N n 0),dst L N 0 n):=by
 unfold ahh;rw[List.getElem?_map,List.getElem?_range h];rfl
def amp (g:jz L N) (l:acD L N) (j:lC L N=true):wX ((N:Int),L)=some (ahh L N,0):=by
 have r:=g.n60;have p:=g.n1;unfold wX ZI;rw[amj g (fun n o=>by simp at o) (by simp),À,if_pos j,Ì (by rfl),aaK g.links g.n1 (by omega) j ⟨by omega,by omega⟩,À,okN (by omega),Int.toNat_natCast];have d:(BP L N 0).length=N:=Q3 0;refine ð (List.replicate N ()) (fun i=>((List.range i).map fun(n:Nat)=>dst L N n 0)++List.replicate (N-i) (0:Int)) _ (by simp) (fun i a hi ha k=>?_) (fun k=>?_)
 ·try dsimp only
  unfold uE;rw[List.length_replicate] at hi;rw[Î,List.length_replicate,Ð (decide_eq_true (by omega)),aaK g.links g.n1 (by omega) j ⟨by omega,by omega⟩,À,lG (by omega) (by rw[Q3]; simp; omega)]
  have h:(((List.range i).map fun(n:Nat)=>dst L N n 0)++List.replicate (N-i) (0:Int)).length=N:=by simp; omega
  rw[show î (((List.range i).map fun(n:Nat)=>dst L N n 0)++List.replicate (N-i) (0:Int))=(N:Int) by unfold î; rw[h],ź (by omega) (by omega),Int.toNat_natCast]
  have f:(((List.range i).map fun(n:Nat)=>dst L N n 0)++List.replicate (N-i) (0:Int))[i]?=some 0:=by
   rw[gb (by simp),ic,if_pos (by simp; omega)]
  rw[ž f,Ï (by omega) (by omega)];congr 2;rw[gF _ _ (by simp),ft,fj]
  have e:N-i=(N-(i+1))+1:=by omega
  rw[e,gk];simp[dst]
 ·try dsimp only
  unfold uE;rw[Î,List.length_replicate,List.length_replicate,Ì (decide_eq_false (by omega))]
  have q:((List.range N).map fun(n:Nat)=>dst L N n 0)++List.replicate (N-N) (0:Int)=(List.range N).map fun(n:Nat)=>dst L N n 0:=by simp
  rw[q];refine ð (List.replicate N ()) (fun i=>(List.range i).map fun(n:Nat)=>(-(dst L N n 0),dst L N 0 n)) _ (by simp) (fun i a hi ha k=>?_) (fun k=>?_)
  ·try dsimp only
   unfold uD;rw[List.length_replicate] at hi
   have f:((List.range N).map fun(n:Nat)=>dst L N n 0)[i]?=some (dst L N i 0):=by
    rw[eP,gu hi]; rfl
   have hb:=dst_bd g l j (s:=(i:Int)) (t:=0) ⟨by omega,by omega⟩ ⟨by omega,by omega⟩;rw[Î,d,Ð (decide_eq_true (by omega)),show î ((List.range N).map fun(n:Nat)=>dst L N n 0)=(N:Int) by simp[î],ź (by omega) (by omega),dj,ž f,Ï (by omega) (by omega),lG (by omega) (by rw[d]; simp; omega),å (Ñ (by simp only[dF,fh,dO]; omega)),Ï (by omega) (by omega),Int.zero_sub];congr 2;rw[ft,fj];rfl
  ·try dsimp only
   unfold uD;rw[Î,d,List.length_replicate,Ì (decide_eq_false (by omega))];rfl
end
abbrev nT (m:Ň) (w:Way):Nat:=(Ò (trP m w)).length+1
abbrev sT (m:Ň) (w:Way):CK Lk:=ů (trP m w)
def uX (L:CK Lk) (N:Nat):CK Int:=((nk ((N:Int),L)).getD ([],0)).1
def IZ {L:CK Lk} {N:Nat} (f:jz L N) (a:lC L N=false):nk ((N:Int),L)=some (uX L N,0)/\ø L (uX L N)=0/\(uX L N).length<=N:=by
 obtain⟨K,l,j,_,h,g⟩:=akF f a;obtain⟨q,d,k,_,i,_⟩:=aau f j (fJ h) (fK h)
 have e:uX L N=q:=by unfold uX; rw[g,d]; rfl
 rw[e];exact⟨by rw[g,d],i,by omega⟩
section
variable {m:Ň} {w:Way} {ρ:Type}
def Mv (n:Nat):(((n:Int)+1,ů (trP m w)):Sys)=(((n+1:Nat):Int),ů (trP m w)):=by simp
def ze (m:Ň):CK (CK Int)×Int:=if Ĵ m≠0 then([],Ĵ m) else if nA m then([],5) else((Ğ m.2).map fun w=>uX (sT m w) (nT m w),0)
def aeV (l:In m.1) (n:m.2.length<=1000):Bw m=some (ze m):=by
 unfold Bw Zb ze;rw[oR l n,À]
 by_cases e:Ĵ m=0
 ·have h:=(Ŗ m).1 e;have p:=oA h;have o:((((m.1.1.1,m.1.1.2),m.1.2.1,m.1.2.2.1,m.1.2.2.2.1,m.1.2.2.2.2.1,m.1.2.2.2.2.2),m.2):Ň)=m:=rfl;rw[Ì (by simp[ine,e]),if_neg (by simp[e]),Nb h,À];refine Ig (Ğ m.2) (fun i=>((Ğ m.2).take i).map fun w=>uX (sT m w) (nT m w)) _ (fun i=>∀w∈(Ğ m.2).take i,nq m w=false) rfl (fun w a=>by simp at a) (fun i x hi d f k=>?_) (fun f k=>?_)
  ·try dsimp only
   unfold tV;have j:=nP h (mF d);rw[Í hi,Ã d,o,oT h (mF d),À,Rb h (mF d),À];dsimp only;rw[Mv]
   cases g:nq m x with
   |true =>
    refine .inl ?_;rw[af8 j.sys g,À];have:nA m=true:=dv.2 ⟨x,dc d,g⟩;rw[this]; rfl
   |false =>
    refine .inr ⟨fun w a=>?_,?_⟩
    ·rw[take_succ d] at a;rcases de.1 a with a|a
     ·exact f w a
     ·rw[dh.1 a]; exact g
    ·rw[(IZ j.sys g).1,À,Ì (by rfl),å (Ñ (by simp; omega)),È hi (by omega),take_succ d,fj]; rfl
  ·rw[fB] at f
   try dsimp only
   unfold tV
   have:nA m=false:=dI.2 fun w a=>by rw[show nq m w=false from f w a]; simp
   rw[Ô,fB,this]; rfl
 ·rw[Ð (by simp[ine,e]),if_pos e]
def kp (m:Ň) (a:CK (CK Int)):Bool:=(List.range (Ğ m.2).length).all fun i=>match (Ğ m.2)[i]?,a[i]? with|some w,some c=>decide (ø (sT m w) c=0)|_,_=>false
def ju (m:Ň) (a:CK (CK Int)):Int:=if Ĵ m≠0 then Ĵ m else if a.length≠(Ğ m.2).length then 8 else if kp m a then 0 else 8
def yP (l:In m.1) (n:m.2.length<=1000) (a:CK (CK Int)):jF m a=some (ju m a):=by
 unfold jF DC ju;rw[oR l n,À]
 by_cases f:Ĵ m=0
 ·have h:=(Ŗ m).1 f;have p:=oA h;have o:((((m.1.1.1,m.1.1.2),m.1.2.1,m.1.2.2.1,m.1.2.2.2.1,m.1.2.2.2.2.1,m.1.2.2.2.2.2),m.2):Ň)=m:=rfl;rw[Ì (by simp[ine,f]),if_neg (by simp[f]),Nb h,À]
  by_cases j:a.length=(Ğ m.2).length
  ·rw[Ì (by simp[ine,Î]; omega),if_neg (by simp[j])];refine dJ (WB (Ğ m.2).length (fun i=>match (Ğ m.2)[i]?,a[i]? with|some w,some c=>decide (ø (sT m w) c=0)|_,_=>false) (some 8) (some 0) (fun i hi k=>?_) (fun k=>?_)) ?_
   ·have e:(Ğ m.2)[i]?=some (Ğ m.2)[i]:=cV hi;have d:a[i]?=some a[i]:=cV (by omega)
    try dsimp only
    unfold kE;rw[Í hi,Ã e,o,oT h (mF e),À,Rb h (mF e),À,Ã d];dsimp only;rw[Mv,S6 (nP h (mF e)).sys,À,e,d,é,È hi (by omega)];dsimp only
    by_cases g:ø (sT m (Ğ m.2)[i]) a[i]=0
    ·rw[if_neg (by simp[ine,g]),if_pos (by simpa using g)]
    ·rw[if_pos (by simp[ine,g]),if_neg (by simpa using g)]
   ·try dsimp only
    unfold kE;rw[Ô]
   ·unfold kp
    cases(List.range (Ğ m.2).length).all fun i=>match (Ğ m.2)[i]?,a[i]? with|some w,some c=>decide (ø (sT m w) c=0)|_,_=>false<;>rfl
  ·rw[Ð (by simp[ine,Î]; omega),if_pos j]
 ·rw[Ð (by simp[ine,f]),if_pos f]
def nz (m:Ň) (w:Way) (x:CK Int):Int:=if pN m w≠0 then pN m w else if (aa1 (trP m w) x).1 then 0 else 8
def acG (f:In m.1) (g:m.2.length<=1000) (e:∀l∈w,l.length<=100000) (x:CK Int):uT m w x=some (nz m w x):=by
 unfold uT KR nz;rw[aaO f g e,À]
 by_cases a:pN m w=0
 ·obtain⟨h,d⟩:=FN.1 a;rw[Ì (by simp[ine,a]),if_neg (by simp[a]),oT h d,À,aot (aor h d).size (aor h d).num,À]
  cases(aa1 (trP m w) x).1<;>rfl
 ·rw[Ð (by simp[ine,a]),if_pos a]
def WhoP (m:Ň) (w:Way) (x d:Int):Int×Int:=if pN m w≠0 then(0,pN m w) else if Br m.1 x d≠0 then(0,Br m.1 x d) else(iY m.2 w x d,0)
def aol (f:In m.1) (j:m.2.length<=1000) (g:∀l∈w,l.length<=100000) (x d:Int):W5 m w x d=some (WhoP m w x d):=by
 unfold W5 aia WhoP;rw[aaO f j g,À]
 by_cases a:pN m w=0
 ·obtain⟨h,i⟩:=FN.1 a;rw[Ì (by simp[ine,a]),if_neg (by simp[a]),WH f.size.gauges,À]
  by_cases e:Br m.1 x d=0
  ·rw[Ì (by simp[ine,e]),if_neg (by simp[e]),h.who i]; rfl
  ·rw[Ð (by simp[ine,e]),if_pos e]
 ·rw[Ð (by simp[ine,a]),if_pos a]
def P9 (b:ò) (n:Int×Int):(Int×Int)×Int:=if (CO b n).2≠0 then((0,0),(CO b n).2) else(ivR (CO b n).1 n,0)
def ahb {b:ò} (h:Room b) {n:Int×Int} (e:(CO b n).2=0):Room (CO b n).1/\aeW (CO b n).1 n:=by
 rcases ahc e with⟨a,h2⟩|⟨a,h2,_⟩
 ·rw[a];exact⟨h,(WP h.good).1 h2⟩
 ·rw[a];refine⟨⟨h2,?_,h.num⟩,aiw n h2⟩;obtain⟨f,z,d⟩:=(YK h.good).1 h.op;exact(YK h2).2 ⟨f,z,aix.2 d⟩
def P8 {B:ò} (h:Room B) {n:Int×Int} (j:aeW B n) (K:(Int×Int)×Int->BY ρ) :
 (Å (sO B n) fun i=>Å (jJ B) fun g=>Å (wX g.1) fun a=>ifb (ine a.2 (0:Int)) (K (((0:Int),(0:Int)),a.2)) (â a.1 i.1 fun l=>K (l,(0:Int))))=K (ivR B n,0):=by
 have f:In B:=⟨h.good.size,h.num⟩;have hi:=(WP h.good).2 j;have o:=anO B n;have d:=amp h.good.sys h.good.tied h.op;rw[Rf f,À,Re,if_neg (by simp[(ť _).2 h.good]),if_neg hi,aaT f,À,XA,if_neg (by simp[(ť _).2 h.good])];dsimp only;rw[show((((Ò B).length:Int)+1,ů B):Sys)=((((Ò B).length+1:Nat):Int),ů B) by simp,d,À,Ì (by rfl)];obtain⟨k,e⟩:∃k:Nat,Mi B n.1 n.2=k:=⟨(Mi B n.1 n.2).toNat,by omega⟩;rw[e,Ã (ae7 (by omega))];unfold ivR dstR;rw[e]
def aiH {b:ò} (h:Room b) (n:Int×Int):Cp b n=some (P9 b n):=by
 have d:In b:=⟨h.good.size,h.num⟩;have a:=(ť _).2 h.good;unfold Cp TU P9;rw[Rf d,À]
 by_cases hi:Mi b n.1 n.2=0
 ·have f:(Re b n).2=5:=by unfold Re; rw[if_neg (by simp[a]),if_pos hi]
  rw[Ð (by simp[ine,f]),aop d,À,aoq,if_neg (by simp[a])]
  by_cases h2:ō (vn b n)=0
  ·have e:CO b n=(vn b n,0):=by unfold CO; rw[if_neg (by simp[hi]),if_neg (by simp[h2])]
   obtain⟨r1,r2⟩:=ahb h (n:=n) (by rw[e]);rw[e] at r1 r2;rw[if_neg (by simp[h2]),Ì (by rfl),P8 r1 r2,e,if_neg (by simp)]
  ·have e:CO b n=(ame,ō (vn b n)):=by unfold CO; rw[if_neg (by simp[hi]),if_pos h2]
   rw[if_pos h2,Ð (by simp[ine,h2]),e,if_pos h2]
 ·have f:(Re b n).2=0:=by unfold Re; rw[if_neg (by simp[a]),if_neg hi]
  have e:CO b n=(b,0):=by unfold CO; rw[if_pos hi]
  rw[Ì (by simp[ine,f]),<-Rf d,P8 h ((WP h.good).1 hi),e,if_neg (by simp)]
def ai4 {α β:Type} {f:α->BY β}:∀{l:CK α} {i:Nat} {x:α} {e:β},l[i]?=some x->(∀w∈l.take i,f w=none)->f x=some e->l.findSome? f=some e
 |[],_,_,_,h,_,_=>by simp at h
 |y::l,0,x,e,h,_,a=>by simp at h; subst h; rw[gP,a]
 |y::l,i+1,x,e,h,d,a=>by
  rw[gP,d y (by simp)];exact ai4 (by simpa using h) (fun w g=>d w (by simp[g])) a
abbrev Fnd:=CK (Int×(Int×Int))
def hullP (s t:Int×Int):Int×Int:=(min s.1 t.1,max s.2 t.2)
def anX (m:Ň) (label d:Int) (M:Fnd) (w:Way):Fnd :=
 TM (k:=tI) (v:=Ç) (iY m.2 w label d) (match tv (k:=tI) (v:=Ç) (iY m.2 w label d) M with|some s=>hullP (P9 (trP m w) (iY m.2 w label d,d)).1 s|none=>(P9 (trP m w) (iY m.2 w label d,d)).1) M
def Iy (m:Ň) (label d:Int) (l:CK Way):Fnd:=l.foldl (anX m label d) []
def akN (m:Ň) (label d:Int) (w:Way):Int:=(P9 (trP m w) (iY m.2 w label d,d)).2
def acF (m:Ň) (label d:Int):CK (Int×Int×Int)×Int :=
 if Ĵ m≠0 then([],Ĵ m) else if Br m.1 label d≠0 then([],Br m.1 label d) else if vq m=[] then([],5) else
 match (vq m).findSome? fun w=>Kc (akN m label d w) with
 |some e=>([],e)
 |none=>(m.1.2.1.filterMap fun g=>(tv (k:=tI) (v:=Ç) g.1 (Iy m label d (vq m))).map fun s=>(g.1,s),0)
def aed (a:w∈vq m):ĵ m.2 w/\nq m w=true:=by
 obtain⟨d,h2⟩:=dW.1 a;exact⟨vw.1 d,h2⟩
def alA (h:MOk m):(vq m).length<=150:=du (eA _ _) (oA h)
def ans (h:MOk m) (a:ĵ m.2 w) (d:nq m w=true):Room (trP m w):=⟨nP h a,d,h.in_.num⟩
def akC (B:In m.1) (F:m.2.length<=1000) (label d:Int):Cq m label d=some (acF m label d):=by
 unfold Cq TW acF;rw[oR B F,À]
 by_cases r:Ĵ m=0
 ·have h:=(Ŗ m).1 r;have J:=B.size.gauges;have I:=alA h;rw[Ì (by simp[ine,r]),if_neg (by simp[r]),WH J,À]
  by_cases t:Br m.1 label d=0
  ·rw[Ì (by simp[ine,t]),if_neg (by simp[t]),aiW h,À]
   by_cases a:vq m=[]
   ·rw[Ð (by simp[ieq,Î,a]),if_pos a]
   ·have:(vq m).length≠0:=fun e=>a (dD.1 e);rw[Ì (by simp[ieq,Î,a]),if_neg a];have key:∀(l:CK Way),(∀w∈l,Kc (akN m label d w)=none)->l.findSome? (fun w=>Kc (akN m label d w))=none:=fun l H=>List.findSome?_eq_none_iff.2 H;refine Ig (vq m) (fun i=>Iy m label d ((vq m).take i)) _ (fun i=>∀w∈(vq m).take i,Kc (akN m label d w)=none) rfl (fun w f=>by simp at f) (fun i x hi o p E=>?_) (fun p E=>?_)
    ·obtain⟨u,D⟩:=aed (dc o);have j:=ans h u D
     try dsimp only
     unfold qx;rw[Í hi,Ã o,show((((m.1.1.1,m.1.1.2),m.1.2.1,m.1.2.2.1,m.1.2.2.2.1,m.1.2.2.2.2.1,m.1.2.2.2.2.2),m.2):Ň)=m from rfl,h.who u,À,oT h u,À,aiH j,À]
     by_cases n:akN m label d x=0
     ·refine .inr ⟨fun w f=>?_,?_⟩
      ·rw[take_succ o] at f;rcases de.1 f with f|f
       ·exact p w f
       ·rw[dh.1 f,n]; rfl
      ·unfold akN at n
       have z:Iy m label d ((vq m).take (i+1))=anX m label d (Iy m label d ((vq m).take i)) x:=by rw[take_succ o,Iy,List.foldl_append]; rfl
       rw[Ì (by simp[ine,n]),z];unfold anX Rh
       cases tv (k:=tI) (v:=Ç) (iY m.2 x label d) (Iy m label d ((vq m).take i)) with
       |none=>dsimp only; rw[È hi (by omega)]
       |some s =>
        dsimp only;rw[È hi (by omega),WN,aiS]; rfl
     ·refine .inl ?_
      have A:(vq m).findSome? (fun w=>Kc (akN m label d w))=some (akN m label d x):=by
       exact ai4 o p (by simp[Kc,n])
      rw[A];unfold akN at n ⊢;rw[Ð (by simp[ine,n])]
    ·rw[fB] at p
     try dsimp only
     unfold qx;rw[Ô,key _ p,List.take_length];dsimp only;refine ð m.1.2.1 (fun i=>(m.1.2.1.take i).filterMap fun g=>(tv (k:=tI) (v:=Ç) g.1 (Iy m label d (vq m))).map fun s=>(g.1,s)) _ rfl (fun i g hi C y=>?_) (fun y=>?_)
     ·try dsimp only
      unfold qw;have G:((m.1.2.1.take i).filterMap fun g=>(tv (k:=tI) (v:=Ç) g.1 (Iy m label d (vq m))).map fun s=>(g.1,s)).length<=1000:=Nat.le_trans (List.length_filterMap_le _ _) (by rw[List.length_take]; omega);rw[Í hi,Ã C,take_succ C,List.filterMap_append];unfold Rh
      cases q:tv (k:=tI) (v:=Ç) g.1 (Iy m label d (vq m)) with
      |none=>simp only[List.filterMap_cons,q,Option.map_none,List.filterMap_nil,dt]; rw[È hi (by omega)]
      |some s =>
       simp only[List.filterMap_cons,q,dZ,List.filterMap_nil];rw[å (Ñ (by rw[dO]; omega)),È hi (by omega)]
     ·try dsimp only
      unfold qw;rw[Ô,List.take_length]
  ·rw[Ð (by simp[ine,t]),if_pos t]
 ·rw[Ð (by simp[ine,r]),if_pos r]
end
end Go.Proofs.ZzM
end
