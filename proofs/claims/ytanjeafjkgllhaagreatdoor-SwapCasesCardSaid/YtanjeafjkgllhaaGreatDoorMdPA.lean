/- lemmas -/
import Derived.Test.YtanjeafjkgllhaaGreatDoorAmF
import Derived.Test.YtanjeafjkgllhaaGreatDoorMdTA
set_option linter.all false
noncomputable section
namespace Go.Am
section
variable {ρ:Type}
def Ć {α β:Type} (e:Nat->α->rF β):Nat->rT α->rF β
 |_,[]=>none
 |i,a::t=>match e i a with
  |some b=>some b
  |none=>Ć e (i+1) t
def jk {α β:Type} (l:rT α) (e:Nat->α->rF β) (d:β->rF ρ) (k1:rF ρ) {f:Int->(Int->rF ρ)->rF ρ}
 (h:∀(i:Nat) (a:α),i<l.length->l[i]?=some a->∀c,f i c=match e i a with|some b=>d b|none=>c ((i:Int)+1))
 (g:∀c,f l.length c=k1):Ê f 0=match Ć e 0 l with|some b=>d b|none=>k1:=by
 refine ah2 l (fun i t=>match Ć e i t with|some b=>d b|none=>k1) g fun i a t hd hi ha c j=>?_;rw[h i a hi ha c,j,Ć]
 cases e i a<;>rfl
def ŋ {α σ:Type} (l:rT α) (g:Nat->σ) (r:rF ρ) {f:Int×σ->(Int×σ->rF ρ)->rF ρ} {s0:σ} (h0:g 0=s0)
 (h:∀(i:Nat) (a:α),i<l.length->l[i]?=some a->∀b,f (i,g i) b=b ((i:Int)+1,g (i+1)))
 (d:∀b,f (l.length,g l.length) b=r):Ê f (0,s0)=r:=by
 subst h0
 have c:∀s,(s=g 0)->Ê f (0,s)=r:=fun s e=>We l (fun _ _ _=>r) (fun i s=>s=g i) (fun s c b=>by rw[c]; exact d b) (fun i a t s hd hi ha hI b j=>by
  rw[hI,h i a hi ha b]; exact j _ rfl) e
 exact c _ rfl
def ah1 {α σ:Type} (l:rT α) (g:Nat->σ) (r:rF ρ) {f:Int×σ->(Int×σ->rF ρ)->rF ρ} {s0:σ} (P:Nat->Prop) (h0:g 0=s0) (m:P 0)
 (h:∀(i:Nat) (a:α),i<l.length->l[i]?=some a->P i->∀b,f (i,g i) b=r\/(P (i+1)/\f (i,g i) b=b ((i:Int)+1,g (i+1))))
 (j:P l.length->∀b,f (l.length,g l.length) b=r):Ê f (0,s0)=r:=by
 subst h0
 have c:∀s,(s=g 0/\P 0)->Ê f (0,s)=r:=fun s e=>We l (fun _ _ _=>r) (fun i s=>s=g i/\P i) (fun s c b=>by rw[c.1]; exact j c.2 b) (fun i a t s hd hi ha hI b k=>by
  rcases h i a hi ha hI.2 b with d|⟨d,h2⟩
  ·rw[hI.1,d]
  ·rw[hI.1,h2]; exact k _ ⟨rfl,d⟩) e
 exact c _ ⟨rfl,m⟩
def Í {i n:Nat} (h:i<n) (a:n<=1000000000) (f:Int->rF ρ):ck ((i:Int)+1) f=f ((i:Int)+1):=ä (by omega) (by omega) f
def J6 {i n:Nat} (h:i<n) (x y:rF ρ):ifb (ilt (i:Int) (HC n)) x y=x:=by simp[ĕ,ln,h]
def ß (n:Nat) (x y:rF ρ):ifb (ilt (n:Int) (HC n)) x y=y:=by simp[ĕ,ln]
def Ñ {α:Type} {l:rT α} {i:Nat} (h:i<l.length) (x y:rF ρ):ifb (ilt (i:Int) (Ó l)) x y=x:=J6 h x y
def P4 {α:Type} (p:α->Bool):∀(i:Nat) (l:rT α),Ć (fun i a=>bif p a then some (i:Int) else none) i l=(l.findIdx? p).map fun j=>((i+j:Nat):Int)
 |_,[]=>rfl
 |i,a::t=>by
  simp only[Ć,List.findIdx?_cons]
  cases b:p a with
  |true=>simp
  |false =>
   simp only[cond_false,dN,if_false];rw[P4 p (i+1) t]
   cases t.findIdx? p with
   |none=>rfl
   |some j=>simp only[eJ]; congr 1; omega
def Ľ {α β:Type} {e:Nat->α->rF β}:∀{i:Nat} {l:rT α},Ć e i l=none↔∀j a,l[j]?=some a->e (i+j) a=none
 |_,[]=>by simp[Ć]
 |i,a::t=>by
  simp only[Ć];constructor
  ·intro h j b hb
   cases d:e i a with
   |some c=>rw[d] at h; cases h
   |none =>
    rw[d] at h
    cases j with
    |zero=>simp at hb; subst hb; simpa using d
    |succ j=>have:=(Ľ.1 h) j b (by simpa using hb); rw[<-this]; congr 1; omega
  ·intro h;have h0:=h 0 a (by simp);simp only[gq] at h0;rw[h0]
   exact Ľ.2 fun j b hb=>by have:=h (j+1) b (by simpa using hb); rw[<-this]; congr 1; omega
def take_succ {α:Type} {l:rT α} {i:Nat} {a:α} (h:l[i]?=some a):l.take (i+1)=l.take i++[a]:=by rw[List.take_succ,h]; rfl
end
end Go.Am
end

noncomputable section
namespace Go.Proofs.ZzM
open Go Go.Am
section
variable {ρ:Type}
def ķ {τ:Type} {f:τ->(τ->rF ρ)->rF ρ} {r:rF ρ} (I:τ->Prop) (μ:τ->Nat)
 (h:∀x,I x->(∀a,f x a=r)\/∃y,I y/\μ y<μ x/\∀a,f x a=a y) {x:τ} (b:I x):Ê f x=r :=
 GF (F:=fun _=>r) I μ (fun x b a d=>by
  rcases h x b with c|⟨y,c,h2,e⟩
  ·exact c a
  ·rw[e,d y c h2]) b
def lW {α:Type} (l:rT α) (p:α->Bool) (c:Int->rF ρ) (k1:rF ρ) {f:Int->(Int->rF ρ)->rF ρ}
 (h:∀(i:Nat) (a:α),i<l.length->l[i]?=some a->∀b,f i b=if p a then c i else b ((i:Int)+1))
 (d:∀b,f l.length b=k1):Ê f 0=match l.findIdx? p with|some j=>c j|none=>k1:=by
 rw[jk l (fun i a=>bif p a then some (i:Int) else none) c k1 (fun i a hi ha b=>by rw[h i a hi ha b]; cases p a<;>rfl) d,P4]
 cases l.findIdx? p with
 |none=>rfl
 |some j=>simp
def ġ {α:Type} (l:rT α) (p:α->Bool) (c:Int->rF ρ) (K k1:rF ρ) {f:Int->(Int->rF ρ)->rF ρ} (n:∀j:Nat,c j=K)
 (h:∀(i:Nat) (a:α),i<l.length->l[i]?=some a->∀b,f i b=if p a then c i else b ((i:Int)+1))
 (k:∀b,f l.length b=k1):Ê f 0=if l.any p then K else k1:=by
 rw[lW l p c k1 h k]
 cases d:l.findIdx? p with
 |none =>
  have:l.any p=false:=by
   rw[fB];intro x e;have:=fm.1 d x e;simp[this]
  simp[this]
 |some j =>
  have:l.any p=true:=by
   have:=ej.1 d;obtain⟨m,g,_⟩:=this;exact eP.2 ⟨_,List.getElem_mem m,g⟩
  simp[this,n]
end
abbrev ë:Type:=Int×Int×Int×(Int×Int)×((Int×Int)×Int)
abbrev HE:Type:=Int×((Int×Int)×Int)
abbrev Cmp:Type:=Int×Int×rT Int×rT Int×Int×(Int×(Int×Int))
abbrev æ:Type:=(Int×Int)×rT ë×rT (Int×Int)×rT HE×rT Cmp×rT (Int×Int)
section
variable {ρ:Type}
def Ù {b:Bool} (h:b=true) (x y:rF ρ):ifb b x y=x:=by rw[h]; rfl
def Ï {b:Bool} (h:b=false) (x y:rF ρ):ifb b x y=y:=by rw[h]; rfl
end
def I64 (n:Int):Prop:=-9223372036854775808<=n/\n<=9223372036854775807
def inP (n lo hi:Int):Bool:=decide (lo<=n)&&decide (n<=hi)
def IW (n:Int):Bool:=inP n 0 20000
def jP (s:Int×Int) (lo hi:Int):Bool:=decide (lo<=s.1)&&(decide (s.1<=s.2)&&decide (s.2<=hi))
def iq (n lo hi:Int):ć n lo hi=some (inP n lo hi):=by
 unfold ć Uc inP ile
 cases decide (lo<=n)<;>rfl
def L4 (n:Int):l5 n=some (IW n):=by
 unfold l5 Zg;rw[iq]; rfl
def GP (s:Int×Int) (lo hi:Int):Ū s lo hi=some (jP s lo hi):=by
 unfold Ū Uf jP ile
 cases decide (lo<=s.1)<;>cases decide (s.1<=s.2)<;>rfl
def agH {n:Int} (h:I64 n):sq n=some (n.natAbs:Int):=by
 obtain⟨b,h2⟩:=h;unfold sq ado
 by_cases a:n<0
 ·have:ilt n 0=true:=by simpa using a
  rw[Ù this];congr 1;simp only[IntKind.wrap,IntKind.bits,IntKind.signed];simp;omega
 ·have:ilt n 0=false:=by simpa using a
  rw[Ï this];congr 1;simp only[IntKind.wrap,IntKind.bits,IntKind.signed];simp;omega
def gcd_ok (a b:Nat):Qc a b=some ((Nat.gcd a b:Nat):Int):=by
 unfold Qc ahP;refine ķ (fun x:Int×Int=>∃c d:Nat,x=((c:Int),(d:Int))/\Nat.gcd c d=Nat.gcd a b) (fun x=>x.2.toNat) ?_ ⟨a,b,rfl,rfl⟩;rintro x ⟨c,d,rfl,e⟩
 cases d with
 |zero =>
  refine .inl fun f=>?_;rw[Nat.gcd_zero_right] at e;unfold Al;simp[e,ine]
 |succ d =>
  refine .inr ⟨(((d+1:Nat):Int),((c % (d+1):Nat):Int)),⟨d+1,c % (d+1),rfl,?_⟩,?_,fun f=>?_⟩
  ·rw[<-e,hZ c (d+1),Nat.gcd_rec (d+1) c,hZ]
  ·have:=gO c (gM d);simp only[dL];omega
  ·unfold Al
   have g:ine ((d+1:Nat):Int) 0=true:=by simp[ine]; omega
   have h2:iK ((d+1:Nat):Int) 0=false:=by simp[iK]; omega
   simp only[g,Ù Ï h2];congr 1
def aaC (r:Int×Int):Bool :=
 decide (1<=r.2)&&(decide (r.2<=2147483647)&&(decide ((r.1.natAbs:Int)<=2147483647)&&decide (Nat.gcd r.1.natAbs r.2.natAbs=1)))
def ama {r:Int×Int} (h:I64 r.1):uP r=some (aaC r):=by
 unfold uP Y9 aaC
 by_cases b:1<=r.2
 ·by_cases h2:r.2<=2147483647
  ·have f:I64 r.2:=⟨by omega,by omega⟩
   have a:ige r.2 1=true:=by simp[ige,b]
   have e:ile r.2 2147483647=true:=by simp[ile,h2]
   rw[Ù a,Ù e,agH h,Á]
   by_cases c:(r.1.natAbs:Int)<=2147483647
   ·have d:ile (r.1.natAbs:Int) 2147483647=true:=by simp[ile,c]
    rw[Ù d,Á,agH f,Á,gcd_ok,Á];congr 1;rw[eS];simp only[ieq,beq_iff_eq,b,h2,c,decide_true,fw,decide_eq_true_eq];omega
   ·have d:ile (r.1.natAbs:Int) 2147483647=false:=by simp[ile]; omega
    rw[Ï d];simp[c]
  ·have a:ige r.2 1=true:=by simp[ige,b]
   have e:ile r.2 2147483647=false:=by simp[ile]; omega
   rw[Ù a,Ï e];simp[h2]
 ·have a:ige r.2 1=false:=by simp[ige]; omega
  rw[Ï a];simp[b]
def nP (g:ë):Bool :=
 aaC g.2.2.2.2.1&&inP g.2.2.2.2.1.1 (-1000) 1000&&decide (g.2.2.2.2.1.2<=100)&&inP g.1 1 1099511627776&&IW g.2.1&&inP g.2.2.1 1 1125899906842624&&jP g.2.2.2.1 (-1073741824) 1073741824&&inP g.2.2.2.2.2 0 1048576
def afr {g:ë} (h:I64 g.2.2.2.2.1.1):vL g=some (nP g):=by
 unfold vL DS nP;rw[ama h,iq,iq,L4,iq,GP,iq];generalize aaC g.2.2.2.2.1=i;generalize inP g.2.2.2.2.1.1 (-1000) 1000=f;generalize inP g.1 1 1099511627776=e;generalize IW g.2.1=d;generalize inP g.2.2.1 1 1125899906842624=c;generalize jP g.2.2.2.1 (-1073741824) 1073741824=b;generalize inP g.2.2.2.2.2 0 1048576=j;unfold ile;generalize decide (g.2.2.2.2.1.2<=100)=a
 cases i<;>cases f<;>cases e<;>cases d<;>cases c<;>cases b<;>cases a<;>rfl
section
variable {ρ:Type}
def GR {α:Type} {l:rT α} {i:Nat} {a:α} (h0:0<i) (h:l[i-1]?=some a) (f:α->rF ρ):Þ l ((i:Int)-1) f=f a:=by
 have:((i:Int)-1)=((i-1:Nat):Int):=by omega
 rw[this,Ç h]
def Qm {i:Nat} (h:0<i) (a:i<=1000000000) (f:Int->rF ρ):ck ((i:Int)-1) f=f ((i:Int)-1):=ä (by omega) (by omega) f
def kr {i n:Nat} (h:i<n) (x:rF ρ):Ô ((ile 0 (i:Int))&&(ilt (i:Int) (n:Int))) x=x:=by
 have:((ile 0 (i:Int))&&(ilt (i:Int) (n:Int)))=true:=by simp[ile,ilt,h]
 rw[this,Am.iff_true]
def ė {α:Type} {l:rT α} {i:Nat} {a:α} (h:l[i]?=some a) (f:α->rF ρ):ě l (Int.toNat (i:Int)) f=f a:=by
 rw[dL]; exact ac2 h f
end
def ku {α:Type} (b:α->Int) (l:rT α) (i:Nat) (a:α):Bool :=
 decide (0<i)&&(l[i-1]?).any fun q=>decide (b a<=b q)
def tc {α:Type} {l:rT α} {i:Nat} (hi:i<l.length) (h0:0<i):∃q,l[i-1]?=some q :=
 ⟨l[i-1],dv (by omega)⟩
def Ml {α:Type} (c:α->Int) (l:rT α):(∀i a,l[i]?=some a->ku c l i a=false)↔l.Pairwise (fun a b=>c a<c b):=by
 rw[fL];constructor
 ·intro h
  have step:∀i (e:i+1<l.length),c l[i]<c l[i+1]:=by
   intro i e;have:=h (i+1) l[i+1] (dv e);simp only[ku,Nat.add_sub_cancel,gM,decide_true,fw,dv (show i<l.length by omega),Option.any_some,decide_eq_false_iff_not] at this;omega
  intro i j hi g k
  induction j with
  |zero=>omega
  |succ j f =>
   have:=step j g;rcases dV i j with d|m
   ·have:=f (by omega) d; omega
   ·have:i=j:=by omega
    subst this; assumption
 ·intro h i a ha;obtain⟨hi,rfl⟩:=List.getElem?_eq_some_iff.1 ha;unfold ku
  cases i with
  |zero=>rfl
  |succ i =>
   have:=h i (i+1) (by omega) hi (by omega);simp only[Nat.add_sub_cancel,gM,decide_true,fw,dv (show i<l.length by omega),Option.any_some,decide_eq_false_iff_not];omega
def ox (l:rT ë) (i:Nat) (g:ë):rF Int :=
 if !nP g then some 1 else if ku (fun g=>g.1) l i g then some 6 else none
def iT (b:æ):Int:=(Ć (ox b.2.1) 0 b.2.1).getD 0
def SE {b:æ} (e:∀g∈b.2.1,I64 g.2.2.2.2.1.1) (h:b.2.1.length<=1000):Ś b=some (iT b):=by
 unfold Ś zy;refine Eq.trans (jk b.2.1 (ox b.2.1) some (some 0) (fun i a hi ha d=>?_) (fun d=>?_)) ?_
 ·try dsimp only
  unfold iJ;rw[Ñ hi,Ç ha,afr (e a (List.mem_of_getElem? ha)),Á];unfold ox
  cases j:nP a with
  |false=>simp
  |true =>
   simp only[eo,Ř,dN,if_false];rcases fV i with h0|h0
   ·subst h0
    have:igt ((0:Nat):Int) 0=false:=by simp[igt]
    rw[Ï this,Í hi (by omega)];simp[ku]
   ·obtain⟨q,c⟩:=tc hi h0
    have f:igt (i:Int) 0=true:=by simp[igt]; omega
    rw[Ù f,Qm h0 (by omega),GR h0 c];simp only[ku,h0,decide_true,Bool.true_and,c,Option.any_some];unfold ile
    cases h2:decide (a.1<=q.1) with
    |true=>simp
    |false =>
     rw[Ř,Í hi (by omega)];simp
 ·try dsimp only
  unfold iJ;rw[ß]
 ·unfold iT
  cases Ć (ox b.2.1) 0 b.2.1<;>rfl
def Xv (l:rT ë):rT (Int×ë):=l.foldl (fun m g=>Vx (k:=tI) (v:=Ú) g.1 g m) []
def ū (b:æ):rT (Int×ë):=Xv b.2.1
def SZ {b:æ} (d:b.2.1.length<=1000):ģ b=some (ū b):=by
 unfold ģ O6;refine ŋ b.2.1 (fun i=>Xv (b.2.1.take i)) _ rfl (fun i a hi ha c=>?_) (fun c=>?_)
 ·try dsimp only
  unfold mL;rw[Ñ hi,Ç ha,Í hi (by omega),take_succ ha];simp only[Xv,List.foldl_append,List.foldl_cons,List.foldl_nil]
 ·try dsimp only
  unfold mL;rw[ß,List.take_length];rfl
def Yo (x y:Int) (g:ë):∀m:rT (Int×ë),wZ (k:=tI) (v:=Ú) x (Vx (k:=tI) (v:=Ú) y g m)=if x=y then some g else wZ (k:=tI) (v:=Ú) x m
 |[]=>by
  unfold Vx wZ jl wZ
  by_cases h:x=y<;>simp[h]
 |e::m=>by
  unfold Vx
  by_cases h:y=e.1
  ·have:jl tI y e.1=true:=by simp[jl,h]
   rw[this]
   try dsimp only
   unfold wZ jl
   by_cases h2:x=y
   ·simp[h2]
   ·have:¬x=e.1:=fun a=>h2 (a.trans h.symm);simp[h2,this]
  ·have:jl tI y e.1=false:=by simp[jl,h]
   rw[this]
   try dsimp only
   have b:=Yo x y g m;unfold wZ
   by_cases h2:x=e.1
   ·have:jl tI x e.1=true:=by simp[jl,h2]
    rw[this];have:¬x=y:=fun a=>h (a.symm.trans h2);simp[this]
   ·have:jl tI x e.1=false:=by simp[jl,h2]
    rw[this];exact b
def ą (b:æ) (id:Int):rF ë:=b.2.1.find? fun g=>g.1==id
def aba (x:Int) (l:rT ë):wZ (k:=tI) (v:=Ú) x (Xv l)=l.reverse.find? fun g=>g.1==x:=by
 unfold Xv;rw[<-List.foldr_reverse]
 induction l.reverse with
 |nil=>rfl
 |cons g t a =>
  rw[List.foldr_cons,Yo,a,gb]
  by_cases h:x=g.1
  ·simp[h]
  ·have:(g.1==x)=false:=by simp; exact fun h2=>h h2.symm
   simp[h,this]
def J8 {l:rT ë} (h:l.Pairwise fun a b=>a.1<b.1) (x:Int):l.reverse.find? (fun g=>g.1==x)=l.find? fun g=>g.1==x:=by
 induction l with
 |nil=>rfl
 |cons g t d =>
  rw[dU] at h;rw[List.reverse_cons,List.find?_append,d h.2,gb]
  by_cases c:g.1=x
  ·have:t.find? (fun g=>g.1==x)=none:=fc.2 fun y e=>by have:g.1<y.1:=h.1 y e; simp; omega
   rw[this]; simp[c]
  ·have:(g.1==x)=false:=by simp[c]
   simp[this]
def tp {b:æ} (h:b.2.1.Pairwise fun a b=>a.1<b.1) (x:Int):wZ (k:=tI) (v:=Ú) x (ū b)=ą b x:=by
 unfold ū ą;rw[aba,J8 h]
def mn (s:rT (Int×ë)) (id day:Int):Int :=
 match wZ (k:=tI) (v:=Ú) id s with
 |some g=>if day<g.2.1 then 4 else 0
 |none=>5
def abb (s:rT (Int×ë)) (id day:Int):iG s id day=some (mn s id day):=by
 unfold iG Cz mn
 cases h:wZ (k:=tI) (v:=Ú) id s with
 |none=>simp only[Zr,h]
 |some g =>
  simp only[Zr,h];rw[ĕ]
  by_cases h2:day<g.2.1<;>simp[h2]
def aen (s:rT (Int×ë)) (id day:Int):Int:=if !IW day then 1 else mn s id day
def XK (s:rT (Int×ë)) (id day:Int):Ĥ id day s=some (aen s id day):=by
 unfold Ĥ Pb aen;rw[L4,Á,abb,Á]
 cases IW day<;>rfl
def PF (b:æ) (s:rT (Int×ë)) (i:Nat) (l:HE):Int :=
 if !jP l.2.1 0 20000 then 1 else if !inP l.2.2 0 1048576 then 1 else if mn s l.1 l.2.1.1 != 0 then mn s l.1 l.2.1.1 else
 if (b.2.2.2.1.take i).any (fun x=>x.1==l.1&&(decide (x.2.1.1<=l.2.1.2)&&decide (l.2.1.1<=x.2.1.2))) then 9 else
 if b.2.2.1.any (fun u=>u.1==l.1&&inP u.2 l.2.1.1 l.2.1.2) then 9 else 0
def Z5 {b:æ} (t:b.2.2.2.1.length<=1000) (r:b.2.2.1.length<=1000) (s:rT (Int×ë)) {i:Nat} {l:HE} (m:b.2.2.2.1[i]?=some l):Ų b s i=some (PF b s i l):=by
 unfold Ų vD PF;have hi:i<b.2.2.2.1.length:=(List.getElem?_eq_some_iff.1 m).1;rw[Ç m,GP,Á,iq,Á,abb,Á]
 cases jP l.2.1 0 20000 with
 |false=>rfl
 |true =>
 cases inP l.2.2 0 1048576 with
 |false=>rfl
 |true =>
 cases h:(mn s l.1 l.2.1.1 != 0) with
 |true =>
  have:ine (mn s l.1 l.2.1.1) 0=true:=h;simp[this]
 |false =>
 have g:ine (mn s l.1 l.2.1.1) 0=false:=h
 have p:((ile (0:Int) (i:Int))&&(ile (i:Int) (ê b.2.2.2.1)))=true:=by simp[ile,ê]; omega
 simp only[eo,Ř,g,dN,if_false];rw[Β p,dL]
 have c:∀(k:Int->rF Int),Ê (fun(v:Int) n=>Ũ b.2.2.1 (Ó b.2.2.1) l.1 l.2.1.1 l.2.1.2 v (fun u=>n u) (fun z=>ifb (ige z 0) (k 9) (k 0)) (fun _=>k 0)) (0:Int)=if b.2.2.1.any (fun u=>u.1==l.1&&inP u.2 l.2.1.1 l.2.1.2) then k 9 else k 0:=by
  intro k;refine ġ b.2.2.1 _ (fun z=>ifb (ige z 0) (k 9) (k 0)) (k 9) (k 0) (fun j=>?_) (fun j a d ha f=>?_) (fun f=>?_)
  ·have:ige (j:Int) 0=true:=by simp[ige]
   rw[Ù this]
  ·try dsimp only
   unfold Ũ;rw[Ñ d,Ç ha,iq,Á,Í d (by omega)]
   cases e:(a.1==l.1) with
   |false =>
    have:ieq a.1 l.1=false:=e;simp[this]
   |true =>
    have:ieq a.1 l.1=true:=e;rw[this]
    cases inP a.2 l.2.1.1 l.2.1.2<;>simp
  ·try dsimp only
   unfold Ũ;rw[ß]
 rw[c];refine fg (ġ (b.2.2.2.1.take i) (fun x=>x.1==l.1&&(decide (x.2.1.1<=l.2.1.2)&&decide (l.2.1.1<=x.2.1.2))) (fun z=>ifb (ige z 0) (some 9) (if b.2.2.1.any (fun u=>u.1==l.1&&inP u.2 l.2.1.1 l.2.1.2) then some 9 else some 0)) (some 9) (if b.2.2.1.any (fun u=>u.1==l.1&&inP u.2 l.2.1.1 l.2.1.2) then some 9 else some 0) (fun j=>?_) (fun j a d ha f=>?_) (fun f=>?_)) ?_
 ·have:ige (j:Int) 0=true:=by simp[ige]
  rw[Ù this]
 ·try dsimp only
  unfold j9
  have o:j<=1000:=by rw[dK] at d; omega
  rw[Ñ d,Ç ha,Í d (by rw[dK]; omega)]
  cases e:(a.1==l.1) with
  |false =>
   have:ieq a.1 l.1=false:=e;simp[this]
  |true =>
   have:ieq a.1 l.1=true:=e;rw[this]
   cases h2:decide (a.2.1.1<=l.2.1.2)<;>cases q:decide (l.2.1.1<=a.2.1.2)<;>simp[ile,h2,q,ĕ]<;>simp_all
 ·try dsimp only
  unfold j9;rw[ß]
 ·cases List.any (b.2.2.2.1.take i) _<;>cases b.2.2.1.any _<;>rfl
def akc {l:rT Int} (c:l.length<=1000000) (x:Int):Ξ l x=some (match l.findIdx? (·==x) with|some j=>(j:Int)|none=>-1):=by
 unfold Ξ tY;refine Eq.trans (lW l (·==x) some (some (-1)) (fun i a hi ha b=>?_) (fun b=>?_)) ?_
 ·try dsimp only
  unfold Δ;rw[Ñ hi,Ç ha,Í hi (by omega),ĕ]
  by_cases h:x=a
  ·subst h; simp[ieq]
  ·have h2:¬a=x:=fun e=>h e.symm;simp[ieq,h,h2]
 ·try dsimp only
  unfold Δ;rw[ß]
 ·cases l.findIdx? (·==x)<;>rfl
def η {l:rT Int} (b:l.length<=1000000) (x:Int):á l x=some (l.contains x):=by
 unfold á ot;rw[akc b,Á];congr 1
 cases h:l.findIdx? (·==x) with
 |none =>
  have:l.contains x=false:=by
   rw[fC];intro c;have:=fm.1 h x (by simpa using c);simp at this
  rw[this]; rfl
 |some j =>
  obtain⟨d,a,_⟩:=ej.1 h
  have:l.contains x=true:=by
   have h2:l[j]=x:=by simpa using a
   rw[<-h2]; simp
  rw[this];simp[ige]
def í (a b:rT Int):rT Int:=a.filter fun x=>!b.contains x
def aim {a b:rT Int} (ha:a.length<=1000000) (hb:b.length<=1000000):ű a b=some (í a b):=by
 unfold ű adq;rw[Ë (by omega),Am.iff_true]
 have g:∀z:Nat,z<a.length->í (a.take z) b=a.take z->b.contains (a[z]?.getD 0)=true ->
  Ê (fun(d:(Val (.pair tI (.pair tI (.slice tI))))) f=>kp b d.1 d.2.1 d.2.2 (fun n m l=>f (n,m,l)) (fun c=>Ô ((ile (0:Int) c.1)&&(ile c.1 (ê c.2))) (Ô ((ile (0:Int) c.1)&&(ile c.1 (ê (List.take (Int.toNat c.1) c.2++List.replicate (List.length c.2-(Int.toNat c.1)) (0:Int)++List.drop ((Int.toNat c.1)+(List.length c.2-(Int.toNat c.1))) c.2)))) (some (List.take (Int.toNat c.1) (List.drop 0 (List.take (Int.toNat c.1) c.2++List.replicate (List.length c.2-(Int.toNat c.1)) (0:Int)++List.drop ((Int.toNat c.1)+(List.length c.2-(Int.toNat c.1))) c.2))))))) ((z:Int),((z:Int)+1),a)=some (í a b):=by
  intro z p H v
  refine ķ (fun x:Int×Int×rT Int=>∃i j:Nat,x.1=i/\x.2.1=j/\i<j/\j<=a.length/\x.2.2.length=a.length/\x.2.2.take i=í (a.take j) b/\x.2.2.drop j=a.drop j) (fun x=>a.length-x.2.1.toNat) ?_
   ⟨z,z+1,rfl,by simp,by omega,by omega,rfl,?_,rfl⟩
  ·rintro⟨N,M,s⟩ ⟨i,j,A,h2,J,I,D,y,hd⟩;simp only at A h2 D y hd;subst A h2;rcases dV j a.length with u|u
   ·refine .inr ?_
    have t:s[j]?=some a[j]:=by
     have F:(s.drop j)[0]?=(a.drop j)[0]?:=by rw[hd]
     rw[fh,fh] at F;simpa[dv u] using F
    have e:j<s.length:=by omega
    have r:í (a.take (j+1)) b=í (a.take j) b++if b.contains a[j] then[] else[a[j]]:=by
     rw[take_succ (dv u),í,í,f9];congr 1
     cases h:b.contains a[j] with
     |true=>simp only[fu,h,eo,dN,if_false,fE,if_true]
     |false=>simp only[fu,h,Bool.not_false,dN,if_false,fE,if_true]
    cases h:b.contains a[j] with
    |true =>
     refine⟨(i,(j:Int)+1,s),⟨i,j+1,rfl,by simp,by omega,by omega,D,?_,?_⟩,by simp; omega,fun w=>?_⟩
     ·rw[r,h]; simpa using y
     ·have:=congrArg (List.drop 1) hd;simpa[fR,Nat.add_comm] using this
     ·try dsimp only
      unfold kp;rw[Ñ e,kr e,ė t,η hb,Á,h];simp only[Bool.not_true,Ř];rw[Í e (by omega)]
    |false =>
     have k:i<s.length:=by omega
     refine⟨((i:Int)+1,(j:Int)+1,s.set i a[j]),⟨i+1,j+1,by simp,by simp,by omega,by omega,by simpa using D,?_,?_⟩,by simp; omega,fun w=>?_⟩
     ·show List.take (i+1) (s.set i a[j])=_;rw[r,h,List.take_succ,gS,List.take_set_of_le (du i),y];simp[k]
     ·show List.drop (j+1) (s.set i a[j])=_;rw[List.drop_set_of_lt (by omega)];have:=congrArg (List.drop 1) hd;simpa[fR,Nat.add_comm] using this
     ·try dsimp only
      unfold kp;rw[Ñ e,kr e,ė t,η hb,Á,h];simp only[Bool.not_false,mP];rw[kr k,ė (List.getElem?_eq_getElem k),Í k (by omega),Í e (by omega),Int.toNat_natCast]
   ·refine .inl fun w=>?_
    have E:j=s.length:=by omega
    try dsimp only
    unfold kp;rw[E,ß];dsimp only
    have L:((ile (0:Int) (i:Int))&&(ile (i:Int) (ê s)))=true:=by simp[ile,ê]; omega
    rw[Β L]
    have K:((ile (0:Int) (i:Int))&&(ile (i:Int) (ê (List.take (Int.toNat (i:Int)) s++List.replicate (List.length s-(Int.toNat (i:Int))) (0:Int)++List.drop ((Int.toNat (i:Int))+(List.length s-(Int.toNat (i:Int)))) s))))=true:=by
     simp[ile,ê]; omega
    rw[Β K,dL,gP,dH,fq (by simp; omega),List.take_take,Nat.min_self,y];rw[eh (by omega)]
  ·show List.take z a=í (a.take (z+1)) b;have o:a[z]?=some a[z]:=dv p;rw[take_succ o,í,f9];rw[o] at v;simp only[gZ] at v
   have:List.filter (fun x=>!b.contains x) [a[z]]=[]:=by simp only[fu,v,eo,dN,if_false,fE]
   rw[this,dO];exact H.symm
 refine fg (lW a (fun x=>b.contains x) (fun B=>ifb (ieq B (-1:Int)) (some a) (ck (B+(1:Int)) fun G=>Ê (fun(d:(Val (.pair tI (.pair tI (.slice tI))))) f=>kp b d.1 d.2.1 d.2.2 (fun n m l=>f (n,m,l)) (fun c=>Ô ((ile (0:Int) c.1)&&(ile c.1 (ê c.2))) (Ô ((ile (0:Int) c.1)&&(ile c.1 (ê (List.take (Int.toNat c.1) c.2++List.replicate (List.length c.2-(Int.toNat c.1)) (0:Int)++List.drop ((Int.toNat c.1)+(List.length c.2-(Int.toNat c.1))) c.2)))) (some (List.take (Int.toNat c.1) (List.drop 0 (List.take (Int.toNat c.1) c.2++List.replicate (List.length c.2-(Int.toNat c.1)) (0:Int)++List.drop ((Int.toNat c.1)+(List.length c.2-(Int.toNat c.1))) c.2))))))) (B,G,a))) (some a) (fun i x hi q w=>?_) (fun w=>?_)) ?_
 ·try dsimp only
  unfold vA;rw[Ñ hi,kr hi,ė q,η hb,Á,Í hi (by omega),ĕ]
 ·try dsimp only
  unfold vA;rw[ß]
 ·cases h:a.findIdx? (fun x=>b.contains x) with
  |none =>
   have:í a b=a:=by
    rw[í,f6];intro x q;have:=fm.1 h x q;simpa using this
   rw[this]
  |some z =>
   obtain⟨p,v,C⟩:=ej.1 h
   have A:ieq (z:Int) (-1)=false:=by simp[ieq]
   try dsimp only
   rw[Ï A,Í p (by omega)];refine g z p ?_ ?_
   ·rw[í,f6];intro x q;obtain⟨j,u,rfl⟩:=dQ.1 q;rw[dK] at u;rw[fk];have:=C j (by omega);simpa using this
   ·rw[dv p]; exact v
def uZ (l:rT Int) (i:Nat) (a:Int):rF Bool:=if !inP a 1 1099511627776 then some false else if ku (fun x=>x) l i a then some false else none
def wX (l:rT Int):Bool:=match Ć (uZ l) 0 l with|some _=>false|none=>decide (l.length<=6)
def Zu {l:rT Int} (g:l.length<=1000000):mF l=some (wX l):=by
 unfold mF Ue;refine Eq.trans (jk l (uZ l) some (some (decide (l.length<=6))) (fun i a hi ha d=>?_) (fun d=>?_)) ?_
 ·try dsimp only
  unfold oV;rw[Ñ hi,Ç ha,iq,Á];unfold uZ
  cases inP a 1 1099511627776 with
  |false=>rfl
  |true =>
   simp only[eo,Ř,dN,if_false];rcases fV i with h0|h0
   ·subst h0
    have:igt ((0:Nat):Int) 0=false:=by simp[igt]
    rw[Ï this,Í hi (by omega)];simp[ku]
   ·obtain⟨q,c⟩:=tc hi h0
    have f:igt (i:Int) 0=true:=by simp[igt]; omega
    rw[Ù f,Qm h0 (by omega),GR h0 c];simp only[ku,h0,decide_true,Bool.true_and,c,Option.any_some];unfold ile
    cases h2:decide (a<=q) with
    |true=>rfl
    |false =>
     rw[Ř,Í hi (by omega)];rfl
 ·try dsimp only
  unfold oV;rw[ß,â];simp[ile];omega
 ·have hb:∀x,Ć (uZ l) 0 l=some x->x=false:=by
   have:∀(m:rT Int) (j:Nat) (x:Bool),Ć (uZ l) j m=some x->x=false:=by
    intro m
    induction m with
    |nil=>intro j x h; cases h
    |cons a m e =>
     intro j x h;unfold Ć at h
     cases b:uZ l j a with
     |none=>rw[b] at h; exact e _ _ h
     |some y =>
      rw[b] at h;cases h;unfold uZ at b
      split at b
      ·cases b; rfl
      ·split at b
       ·cases b; rfl
       ·cases b
   exact this l 0
  unfold wX
  cases h:Ć (uZ l) 0 l with
  |none=>rfl
  |some x=>rw[hb x h]
def XI (l:rT Int):wX l=true↔(∀x∈l,1<=x/\x<=1099511627776)/\l.Pairwise (·<·)/\l.length<=6:=by
 have h0:Ć (uZ l) 0 l=none↔(∀x∈l,1<=x/\x<=1099511627776)/\l.Pairwise (·<·):=by
  rw[Ľ,<-Ml (fun x=>x) l];constructor
  ·intro h
   have b:∀(j:Nat) (a:Int),l[j]?=some a->inP a 1 1099511627776=true/\ku (fun x=>x) l j a=false:=by
    intro j a ha;have:=h j a ha;rw[Nat.zero_add] at this;unfold uZ at this
    split at this
    ·cases this
    ·split at this
     ·cases this
     ·rename_i b h2;exact⟨by simpa using b,by simpa using h2⟩
   refine⟨fun x d=>?_,fun i a ha=>(b i a ha).2⟩;obtain⟨j,e,rfl⟩:=dQ.1 d;have:=(b j l[j] (dv e)).1;simpa[inP] using this
  ·rintro⟨b,h2⟩ j a ha;rw[dW];have c:=b a (dJ ha)
   have:inP a 1 1099511627776=true:=by simpa[inP] using c
   simp[uZ,this,h2 j a ha]
 unfold wX
 cases h:Ć (uZ l) 0 l with
 |none =>
  obtain⟨b,h2⟩:=h0.1 h;simp only[decide_eq_true_eq];exact⟨fun c=>⟨b,h2,c⟩,fun c=>c.2.2⟩
 |some x =>
  constructor
  ·intro h2; cases h2
  ·rintro⟨b,h2,c⟩;rw[h0.2 ⟨b,h2⟩] at h; cases h
def aav {a b:rT Int} (ha:a.length<=1000000) (hb:b.length<=1000000):Ė [a,b]=some (a++b):=by
 have q:∀n:Nat,n<=4000000->∀(f:Int->rF (rT Int)),ck (n:Int) f=f n:=fun n h f=>ä (by omega) (by omega) f
 have c:Ê (fun(l:(Val (.pair tI (.slice tI)))) d=>Ď [a,b] (Ó [a,b]) l.1 l.2 (fun g e=>d (g,e)) (fun m=>some m)) ((0:Int),([]:rT Int))=some (a++b):=by
  refine ŋ [a,b] (fun i=>([a,b].take i).flatten) (some (a++b)) (f:=fun(l:(Val (.pair tI (.slice tI)))) d=>Ď [a,b] (Ó [a,b]) l.1 l.2 (fun g e=>d (g,e)) (fun m=>some m)) rfl (fun i x hi j o=>?_) (fun o=>?_)
  ·try dsimp only
   unfold Ď;rw[Ñ hi,Ç j,Í hi (by simp),take_succ j,List.flatten_append]
   have:Î ((List.take i [a,b]).flatten.length+x.length)=true:=by
    refine Ë ?_
    have u:x.length<=1000000:=by
     have:=dJ j;simp at this
     rcases this with rfl|rfl<;>assumption
    have h2:(List.take i [a,b]).flatten.length<=2000000:=by
     have:i=0\/i=1:=by simp at hi; omega
     rcases this with rfl|rfl<;>simp<;>omega
    omega
   rw[Β this];simp
  ·try dsimp only
   unfold Ď;rw[ß];simp
 unfold Ė rA;refine ķ (fun x:Int×Int=>∃i:Nat,i<=2/\x=((([a,b].take i).flatten.length:Int),(i:Int))) (fun x=>2-x.2.toNat) ?_ ⟨0,by omega,rfl⟩;rintro x ⟨i,hi,rfl⟩;rcases Nat.lt_or_ge i 2 with h2|h2
 ·refine .inr ⟨((([a,b].take (i+1)).flatten.length:Int),(i:Int)+1),⟨i+1,h2,by simp⟩,by simp; omega,fun o=>?_⟩;have k:i<[a,b].length:=h2;obtain⟨x,j⟩:∃x,[a,b][i]?=some x:=⟨_,dv k⟩
  have r:x.length<=1000000:=by
   have:=dJ j;simp at this
   rcases this with rfl|rfl<;>assumption
  have t:(List.take i [a,b]).flatten.length<=2000000:=by
   have:i=0\/i=1:=by omega
   rcases this with rfl|rfl<;>simp<;>omega
  try dsimp only
  unfold Ű;rw[Ñ k,Ç j,â]
  have p:(((List.take i [a,b]).flatten.length:Int)+(x.length:Int))=((List.take i [a,b]).flatten.length+x.length:Nat):=by omega
  rw[p,q _ (by omega)]
  have:ilt ((((List.take i [a,b]).flatten.length+x.length:Nat)):Int) 0=false:=by simp[ilt]; omega
  rw[Ï this,Í k (by simp),take_succ j];simp
 ·refine .inl fun o=>?_
  obtain rfl:i=2:=by omega
  try dsimp only
  unfold Ű;rw[show((2:Nat):Int)=(([a,b].length:Nat):Int) from rfl,ß]
  have p:((List.take 2 [a,b]).flatten.length:Int)=((a.length+b.length:Nat):Int):=by simp
  have s:ilt (((a.length+b.length:Nat)):Int) 0=false:=by simp[ilt]; omega
  rw[p];dsimp only;rw[Ï s,Int.sub_zero,q _ (by omega)];rcases Nat.eq_zero_or_pos (a.length+b.length) with h0|h0
  ·have:igt (((a.length+b.length:Nat)):Int) 0=false:=by simp[igt]; omega
   rw[Ï this];exact c
  ·have:igt (((a.length+b.length:Nat)):Int) 0=true:=by simp[igt]; omega
   rw[Ù this]
   have:((ilt (0:Int) (((a.length+b.length:Nat)):Int))&&(Î (Int.toNat (((a.length+b.length:Nat)):Int))))=true:=by
    rw[dL,Ë (by omega)];simp[ilt]; omega
   rw[Β this]
   have:ile 0 (ê (List.replicate (Int.toNat (((a.length+b.length:Nat)):Int)) (0:Int)))=true:=by simp[ile]
   rw[Β this];exact c
def Ń (b:æ) (id day:Int):rF HE:=b.2.2.2.1.find? fun l=>l.1==id&&inP day l.2.1.1 l.2.1.2
def Wv {α:Type} (p:α->Bool):∀l:rT α,l.find? p=(match l.findIdx? p with|some j=>l[j]?|none=>none)
 |[]=>rfl
 |a::l=>by
  rw[gb,List.findIdx?_cons]
  cases h:p a with
  |true=>simp
  |false =>
   simp only[dN,if_false];rw[Wv p l]
   cases l.findIdx? p<;>simp
def ajK {b:æ} (k:b.2.2.2.1.length<=1000) (id day:Int):vN b id day=some (match Ń b id day with|some l=>(l,true)|none=>((0,(0,0),0),false)):=by
 unfold vN ads;refine Eq.trans (lW b.2.2.2.1 (fun l=>l.1==id&&inP day l.2.1.1 l.2.1.2) (fun c=>ifb (ilt c (0:Int)) (some (((0:Int),((0:Int),(0:Int)),(0:Int)),false)) (Þ b.2.2.2.1 c fun g=>some (g,true))) (some ((0,(0,0),0),false)) (fun i a hi ha f=>?_) (fun f=>?_)) ?_
 ·try dsimp only
  unfold vE;rw[Ñ hi,Ç ha,iq,Á,Í hi (by omega)]
  cases e:(a.1==id) with
  |false =>
   have:ieq a.1 id=false:=e;simp[this]
  |true =>
   have:ieq a.1 id=true:=e;rw[this]
   cases inP day a.2.1.1 a.2.1.2<;>simp
 ·try dsimp only
  unfold vE;rw[ß]
 ·unfold Ń;rw[Wv]
  cases h:b.2.2.2.1.findIdx? (fun l=>l.1==id&&inP day l.2.1.1 l.2.1.2) with
  |none=>rfl
  |some j =>
   obtain⟨d,_,_⟩:=ej.1 h
   have:ilt (j:Int) 0=false:=by simp[ilt]
   try dsimp only
   rw[Ï this,Ç (dv d),dv d]
section
variable {ρ:Type}
def agp {α:Type} {all l:rT α} (k:rF ρ) (h:l <+: all):yg all l k=k:=by unfold yg; rw[if_pos h]
def Wt {α β:Type} {f:rT α->β->(rT α->rF ρ)->rF ρ} {g:β->rT α} {al:rT α}:∀{xs:rT β} {v:rT α} {K:rT α->rF ρ},
 (∀v y a,y∈xs->(v++g y) <+: al->f v y a=a (v++g y))->(v++xs.flatMap g) <+: al->GZ f xs v K=K (v++xs.flatMap g)
 |[],v,K,_,_=>by simp[GZ]
 |x::xs,v,K,h,b=>by
  rw[dR,<-dH] at b ⊢;rw[GZ,h v x _ (by simp) ((eG _ _).trans b),Wt (fun v y a c=>h v y a (gw _ c)) b]
end
def agr {b:rT Int->rF (rT Int)} {l xs:rT Int} (h:GK l=some xs):jI xs b l some=some (xs,l):=by
 unfold GK at h
 have c:Î l.length=true:=by cases e:Î l.length with|true=>rfl|false=>rw[e] at h; cases h
 rw[Β c] at h;cases h
 have f:l.length<=4294967296:=by simpa[Î] using c
 unfold jI
 refine ŋ l (fun i=>l.take i) _ rfl (fun i a hi ha d=>?_) (fun d=>?_)<;>(try dsimp only)<;>unfold χ
 ·rw[Ñ hi,Ç ha,<-take_succ ha,agp _ (List.take_prefix _ _),ä (by omega) (by omega)]
 ·rw[ß,gz]
def ack:∀(n:Nat) {l y:rT Int},l.length=n->y∈Vp n l->y.length=n
 |0,l,y,_,h=>by simp[Vp] at h; simp[h]
 |n+1,l,y,c,h=>by
  have a:¬l.length=0:=by omega
  simp only[Vp,if_neg a,dY,List.mem_range,eN] at h;obtain⟨i,hi,z,b,rfl⟩:=h;have:=ack n (l:=l.take i++l.drop (i+1)) (by simp; omega) b;simp[this]
def Xa:∀{l:rT (Int×rT Int)} {y:rT (rT Int)},y∈Bl l->y.length=l.length
 |[],y,h=>by simp[Bl] at h; simp[h]
 |m::r,y,h=>by
  simp only[Bl,dY,eN] at h;obtain⟨x,_,z,a,rfl⟩:=h;simp[Xa a]
def am1 {α:Type} {n i:Nat} (h:i<n) (g:Nat->rT α):((List.range i).flatMap g++g i) <+: (List.range n).flatMap g:=by
 have:List.range n=List.range i++i::(List.range (n-i-1)).map (i+1+·):=by
  rw[show n=(i+1)+(n-i-1) by omega,List.range_add,g9,dH];simp[show i+1+(n-i-1)-i-1=n-i-1 by omega]
 rw[this,fF,dR,<-dH];exact eG _ _
def aaA (n:Nat) (l:rT Int):rF (rT (rT Int)):=Ô (decide (l.length<n)&&decide (l.length<=9)) (some (Vp l.length l))
def agS {n:Nat} {l:rT Int} (h:l.length<n) (a:l.length<=9):aaA n l=some (Vp l.length l):=by unfold aaA; rw[Β (by simp[h,a])]
def acE {n:Nat} {l:rT Int} {xs:rT (rT Int)} (h:aaA n l=some xs):l.length<n/\l.length<=9/\xs=Vp l.length l:=by
 unfold aaA at h
 cases hb:(decide (l.length<n)&&decide (l.length<=9)) with
 |false=>rw[hb] at h; cases h
 |true =>
  rw[hb] at h; cases h;simp only[dt,decide_eq_true_eq] at hb;exact⟨hb.1,hb.2,rfl⟩
def ag8 {n:Nat} {l:rT Int} {xs:rT (rT Int)} (h:aaA (n+1) l=some xs):xX xs (aaA n) l some=some (xs,l):=by
 obtain⟨t,h2,rfl⟩:=acE h;unfold xX
 by_cases h0:l.length=0
 ·obtain rfl:l=[]:=List.eq_nil_of_length_eq_zero h0;rw[show ifb (ieq (Ó ([]:rT Int)) (0:Int))=fun(x y:rF (rT (rT Int)×rT Int))=>x from by funext x y; simp[â,ieq,ĕ]];exact agp _ (by simp[Vp])
 ·obtain⟨k,m⟩:∃k,l.length=k+1:=⟨l.length-1,by omega⟩
  have s:Vp l.length l=(List.range l.length).flatMap fun i=>(Vp k (l.take i++l.drop (i+1))).map (l.getD i 0::·):=by
   rw[m];show(if l.length=0 then[[]] else _)=_;rw[if_neg h0,m]
  have b:ieq (Ó l) (0:Int)=false:=by rw[â]; exact decide_eq_false (by omega)
  rw[Ï b];rw[s]
  refine ŋ l (fun i=>(List.range i).flatMap fun i=>(Vp k (l.take i++l.drop (i+1))).map (l.getD i 0::·)) _ rfl (fun i a hi ha d=>?_) (fun d=>?_)<;>(try dsimp only)<;>unfold pO
  ·have e:(l.take i++l.drop (i+1)).length=k:=by simp; omega
   rw[Ñ hi,Ç ha,Β (by simp[ile,ê]; omega),ä (by omega) (by omega),Β (by simp[ile,ê]; omega),dL,show Int.toNat ((i:Int)+1)=i+1 by omega,
    aav (by simp; omega) (by simp; omega),Á,agS (by omega) (by omega),Á,e]
   have c:l.getD i 0=a:=by rw[gC,ha]; rfl
   have j:∀xs:rT (rT Int),xs.map (l.getD i 0::·)=xs.flatMap fun y=>[a::y]:=fun xs=>by
    rw[c]; induction xs with|nil=>rfl|cons x xs o=>simp[o]
   have f:=am1 hi fun i=>(Vp k (l.take i++l.drop (i+1))).map (l.getD i 0::·)
   have r:(List.range (i+1)).flatMap (fun i=>(Vp k (l.take i++l.drop (i+1))).map (l.getD i 0::·))=(List.range i).flatMap (fun i=>(Vp k (l.take i++l.drop (i+1))).map (l.getD i 0::·))++(Vp k (l.take i++l.drop (i+1))).flatMap fun y=>[a::y]:=by
    rw[g9,fF,dR,gX,dO,j]
   rw[r];rw[j] at f;refine(Wt (g:=fun y=>[a::y]) (fun v y d p q=>?_) f).trans ?_
   ·unfold pN;have:=ack k e p;rw[Β (Ë (by simp; omega))];exact agp _ q
   ·dsimp only;rw[ä (by omega) (by omega)]
  ·rw[ß]
def aaB (n:Nat) (l:rT (Int×rT Int)):rF (rT (rT (rT Int))):=Ô (decide (l.length<n)&&(decide (l.length<=9)&&l.all fun m=>decide (m.2.length<=9))) (some (Bl l))
def acF {n:Nat} {l:rT (Int×rT Int)} {xs:rT (rT (rT Int))} (h:aaB n l=some xs):l.length<n/\l.length<=9/\(∀m∈l,m.2.length<=9)/\xs=Bl l:=by
 unfold aaB at h
 cases hb:(decide (l.length<n)&&(decide (l.length<=9)&&l.all fun m=>decide (m.2.length<=9))) with
 |false=>rw[hb] at h; cases h
 |true =>
  rw[hb] at h; cases h;simp only[dt,decide_eq_true_eq,dM] at hb;exact⟨hb.1,hb.2.1,hb.2.2,rfl⟩
def agT {n:Nat} {l:rT (Int×rT Int)} (h:l.length<n) (a:l.length<=9) (ha:∀m∈l,m.2.length<=9):aaB n l=some (Bl l):=by
 unfold aaB; rw[Β (by simp only[Bool.and_eq_true,decide_eq_true_eq,List.all_eq_true]; exact⟨h,a,ha⟩)]
def abT {n:Nat} {l:rT (Int×rT Int)} {xs:rT (rT (rT Int))} (h:aaB (n+1) l=some xs):sI xs (aaB n) l some=some (xs,l):=by
 obtain⟨q,h2,i,rfl⟩:=acF h;unfold sI
 cases l with
 |nil =>
  rw[show ifb (ieq (Ó ([]:rT (Int×rT Int))) (0:Int))=fun(x y:rF (rT (rT (rT Int))×rT (Int×rT Int)))=>x from by funext x y; simp[â,ieq,ĕ]];exact agp _ (by simp[Bl])
 |cons e r =>
  have b:ieq (Ó (e::r)) (0:Int)=false:=by rw[â]; exact decide_eq_false (by simp only[dz]; omega)
  rw[Ï b];have p:=i e (by simp);rw[show Þ (e::r) (0:Int)=fun f=>f e from by funext f; rfl];dsimp only;rw[show Au e.2=some (Vp e.2.length e.2) from by unfold Au; rw[Β (by simp[p])],Á];have d:Bl (e::r)=(Vp e.2.length e.2).flatMap fun x=>(Bl r).map (x::·):=rfl
  have c:∀(x:rT Int),(Bl r).map (x::·)=(Bl r).flatMap fun y=>[x::y]:=fun x=>by
   generalize Bl r=ys
   induction ys with|nil=>rfl|cons y ys k=>simp[k]
  refine(Wt (g:=fun x=>(Bl r).map (x::·)) (al:=Bl (e::r)) (fun v x j s a=>?_) (by rw[eA,<-d]; exact eO)).trans ?_
  ·unfold mr;simp only[List.length_cons] at q h2;rw[Β (by simp[ile,ê]; omega),show List.drop 1 (e::r)=r from rfl,agT (by omega) (by omega) (fun m c=>i m (by simp[c])),Á];rw[c] at a ⊢;refine Wt (g:=fun y=>[x::y]) (fun v y j o a=>?_) a;unfold mq;have:=Xa o;rw[Β (Ë (by simp; omega))];exact agp _ a
  ·rw[eA,<-d]
def aeI {l:rT Int} {xs:rT (rT Int)} (h:Au l=some xs):aaA 10 l=some xs:=by
 unfold Au at h
 cases hb:decide (l.length<=9) with
 |false=>rw[hb] at h; cases h
 |true =>
  rw[hb] at h; cases h;have:=of_decide_eq_true hb;exact agS (by omega) this
def Z4 {l:rT (Int×rT Int)} {xs:rT (rT (rT Int))} (h:uD l=some xs):aaB 10 l=some xs:=by
 unfold uD at h
 cases hb:(decide (l.length<=9)&&l.all fun m=>decide (m.2.length<=9)) with
 |false=>rw[hb] at h; cases h
 |true =>
  rw[hb] at h; cases h;simp only[dt,decide_eq_true_eq,dM] at hb;exact agT (by omega) hb.1 hb.2
end Go.Proofs.ZzM
end
