/- lemmas -/
import Derived.Test.YtdmegkgjpgcfgaaGreatPlB
import Derived.Test.YtdmegkgjpgcfgaaGreatMdTA
import Derived.Test.YtdmegkgjpgcfgaaGreatPlA
set_option linter.all false
set_option linter.unusedSectionVars false
set_option linter.unusedVariables false
set_option linter.unusedSimpArgs false
noncomputable section
namespace Go.Proofs.ZzM
open Go Go.Am
section
variable {b:ë}
def BP (b:ë) (x:List Int) (k:Nat) (n:Int×Int):Bool :=
 match ø b n.1 with
 | some g => if n.2 = g.2.1 then inP (gv x k) (g.2.2.1 + g.2.2.2.1.1) (g.2.2.1 + g.2.2.2.1.2) else
   decide (0≤gv x ((k:Int)-1)-gv x k)&&decide (gv x ((k:Int)-1)-gv x k≤kL b g ((Ê b)[k-1]?.getD (0,0)).2 n.2)
 |none=>true
def ai9 (b:ë) (x:List Int) (i:Nat) (g:ò) (j:Nat) (d:Int):Bool:=match j with
 |0=>inP (gv x (off b i)) (g.2.2.1+g.2.2.2.1.1) (g.2.2.1+g.2.2.2.1.2)
 |j+1=>decide (0≤gv x ((off b i:Int)+j)-gv x ((off b i:Int)+j+1))&&decide (gv x ((off b i:Int)+j)-gv x ((off b i:Int)+j+1)≤kL b g (afi b g j) d)
def xO (h:Ł b) (x:List Int) {i:Nat} {g:ò} (hg:b.2.1[i]?=some g) {j:Nat} {d:Int} (hd:(ß b g)[j]?=some d):BP b x (off b i+j) (g.1,d)=ai9 b x i g j d:=by
 have hgm:=List.mem_of_getElem? hg;obtain⟨tl,htl⟩:=Nd h hgm;unfold BP ai9;rw[qA h.ids hgm]
 cases j with
 |zero =>
  have:d=g.2.1:=by rw[htl] at hd; simpa using hd.symm
  simp only;rw[if_pos this,fG]
 |succ j =>
  have hjl:=(cI.1 hd).1
  have hne:d≠g.2.1:=by
   have hp1:=tj b g;rw[htl] at hd hp1;rw[fi] at hd;have:=(dt.1 hp1).1 d (cO hd);omega
  have hprev:=JC hg (uV (b:=b) (g:=g) (k:=j) (by omega));simp only;rw[if_neg hne,show off b i+(j+1)-1=off b i+j by omega,hprev];simp only[f6]
  have e1:(((off b i+(j+1):Nat):Int)-1)=(off b i:Int)+j:=by omega
  have e2:((off b i+(j+1):Nat):Int)=(off b i:Int)+j+1:=by omega
  rw[e1,e2]
def aa1 (h:Ł b) {x:List Int}:Pf b x=true↔(∀k n,(Ê b)[k]?=some n→BP b x k n=true)∧∀c∈b.2.2.2.2.1,oS b c x+aen b c≤c.2.2.2.2.1∧c.2.2.2.2.1≤oS b c x+MM b c:=by
 show Pg _ _=true↔_;rw[MY]
 have hnode:∀(i:Nat) (g:ò),b.2.1[i]?=some g→((∀l∈ň b g,gv (0::x) l.2.1≤gv (0::x) l.1+l.2.2)↔∀j d,(ß b g)[j]?=some d→BP b x (off b i+j) (g.1,d)=true):=by
  intro i g hg;have hgm:=cO hg;have hp:=gS (pu (b:=b) g);have e0:gv (0::x) 0=0:=rfl
  have e1:gv (0::x) ((off b i:Int)+1)=gv x (off b i):=by
   rw[Tr _ _ (by omega),if_neg (by omega)];congr 1;omega
  have e2:∀j:Nat,gv (0::x) ((off b i:Int)+j+1)=gv x ((off b i:Int)+j):=fun j=>by
   rw[Tr _ _ (by omega),if_neg (by omega)];congr 1;omega
  have e3:∀j:Nat,gv (0::x) ((off b i:Int)+j+2)=gv x ((off b i:Int)+j+1):=fun j=>by
   rw[Tr _ _ (by omega),if_neg (by omega)];congr 1;omega
  constructor
  ·intro hl j d hd;rw[xO h x hg hd];unfold ai9
   cases j with
   |zero =>
    have a1:=hl _ ((ă h hg).2 (.inl rfl));have a2:=hl _ ((ă h hg).2 (.inr (.inl rfl)));simp only at a1 a2 ⊢;rw[e0,e1] at a1 a2;simp only[inP,cH,decide_eq_true_eq];omega
   |succ j =>
    have hjl:=(cI.1 hd).1;have hj:=uV (b:=b) (g:=g) (k:=j) (by omega);have a1:=hl _ ((ă h hg).2 (.inr (.inr ⟨j,_,_,hj,hd,.inl rfl⟩)));have a2:=hl _ ((ă h hg).2 (.inr (.inr ⟨j,_,_,hj,hd,.inr rfl⟩)));simp only at a1 a2 ⊢;rw[e2,e3] at a1 a2;simp only[cH,decide_eq_true_eq];omega
  ·intro hn l hl;rcases(ă h hg).1 hl with rfl|rfl|⟨j,d,e,hd,he,rfl|rfl⟩
   ·have:=hn 0 _ (uV hp);rw[xO h x hg (uV hp)] at this;unfold ai9 at this;simp only[inP,Bool.and_eq_true,decide_eq_true_eq] at this;simp only;rw[e0,e1];omega
   ·have:=hn 0 _ (uV hp);rw[xO h x hg (uV hp)] at this;unfold ai9 at this;simp only[inP,Bool.and_eq_true,decide_eq_true_eq] at this;simp only;rw[e0,e1];omega
   ·have:=hn (j+1) _ he;rw[xO h x hg he] at this;unfold ai9 at this;simp only[Bool.and_eq_true,decide_eq_true_eq] at this;simp only;rw[e2,e3];omega
   ·have:=hn (j+1) _ he
    have hjd:afi b g j=d:=by unfold afi; rw[hd]; rfl
    rw[xO h x hg he] at this;unfold ai9 at this;simp only at this;rw[hjd] at this;simp only[Bool.and_eq_true,decide_eq_true_eq] at this;simp only;rw[e2,e3];omega
 have hlow:∀c,(qH b c).1=c.2.2.2.2.1-MM b c∧(qH b c).2=c.2.2.2.2.1-aen b c:=by
  intro c;unfold qH MM aen;constructor
  ·simp only; omega
  ·simp only; omega
 constructor
 ·intro hp;refine⟨fun k n hn=>?_,fun c hc=>?_⟩
  ·obtain⟨i,g,j,d,h1,h2,h3,h4⟩:=ag1 (cI.1 hn).1;rw[hn] at h4;cases h4;rw[h3];exact(hnode i g h1).1 (fun l hl=>hp l.1 l.2.1 l.2.2 (iT.2 (.inl ⟨i,g,h1,hl⟩))) j d h2
  ·have a1:=hp _ _ _ (iT.2 (.inr ⟨c,hc,.inl rfl⟩));have a2:=hp _ _ _ (iT.2 (.inr ⟨c,hc,.inr rfl⟩));have:=hlow c;unfold oS;omega
 ·rintro⟨hn,hc⟩ u v m hl;rcases iT.1 hl with⟨i,g,hig,hl⟩|⟨c,hcm,hl⟩
  ·exact(hnode i g hig).2 (fun j d hd=>hn _ _ (JC hig hd)) (u,v,m) hl
  ·have:=hc c hcm;have:=hlow c;unfold oS at *;rcases hl with hl|hl
   ·obtain⟨rfl,rfl,rfl⟩:u=cy b c∧v=cx b c∧m=(qH b c).2:=by simpa using hl
    omega
   ·obtain⟨rfl,rfl,rfl⟩:u=cx b c∧v=cy b c∧m = -(qH b c).1:=by simpa using hl
    omega
end
section
variable {b:ë}
def acX (h:Ł b) (x:List Int):Js b x=if Ŭ b x then(Pf b x,0) else(false,1):=by
 unfold Js;rw[if_neg (by simp[(ö b).2 h])]
def abF (h:Ł b) (i:Int):ů b i=if i<0∨(b.2.2.2.2.1.length:Int)≤i then(cmp0,1) else(b.2.2.2.2.1[i.toNat]?.getD cmp0,0):=by
 unfold ů;rw[if_neg (by simp[(ö b).2 h])]
end
def ajd (b:ë) (ex:List (Int×Int)):ë:=(b.1,b.2.1,b.2.2.1,b.2.2.2.1,b.2.2.2.2.1,b.2.2.2.2.2++ex)
def Ka:∀(ns:List (Int×Int)) (b:ë),(oV b ns).2=0→∃ex,(∀n∈ex,n∈ns)∧(oV b ns).1=ajd b ex
 |[],b,_=>⟨[],by simp,by unfold oV ajd; simp⟩
 |n::t,b,e=>by
  unfold oV at e ⊢
  split
  ·rename_i h; rw[if_pos h] at e; exact absurd e h
  ·rename_i h;rw[if_neg h] at e;obtain⟨ex,h1,h2⟩:=Ka t _ e;rcases C4 (by simpa using h) with⟨h3,_⟩|⟨h3,_,_⟩
   ·rw[h3] at h2 ⊢;exact⟨ex,fun m hm=>by simp[h1 m hm],h2⟩
   ·rw[h3] at h2 ⊢;refine⟨n::ex,fun m hm=>?_,?_⟩
    ·rcases cN.1 hm with rfl|hm
     ·simp
     ·simp[h1 m hm]
    ·rw[h2]; unfold ajd Ő; simp
def Zi {b:ë} (h:Ł b) {g g':ò} (h1:g∈b.2.1) (h2:g'∈b.2.1) (e:g.1=g'.1):g=g':=by
 obtain⟨i,hi,rfl⟩:=cS.1 h1;obtain⟨j,hj,rfl⟩:=cS.1 h2;have hp:=dm.1 h.ids;rcases Nat.lt_trichotomy i j with h3|h3|h3
 ·have:=hp i j hi hj h3; omega
 ·subst h3; rfl
 ·have:=hp j i hj hi h3; omega
def MX {α β:Type} {f g:α→List β}:∀{l:List α},(∀a∈l,f a=g a)→l.flatMap f=l.flatMap g
 |[],_=>rfl
 |a::l,h=>by rw[dz,dz,h a (by simp),MX fun x hx=>h x (by simp[hx])]
def acS {T B:ë} {ex:List (Int×Int)} (hT:Ł T) (hB:Ł B) (hb:B=(T.1,T.2.1,T.2.2.1,T.2.2.2.1,[],T.2.2.2.2.2++ex)) (hex:∀n∈ex,n∈Ê T) (hall:∀n∈Ê T,FI B n):Ê B=Ê T:=by
 have hg:B.2.1=T.2.1:=by rw[hb]
 unfold Ê;rw[hg];refine MX fun g hgm=>?_;have uniq:∀g'∈T.2.1,g'.1=g.1→g'=g:=fun g' h1 h2=>Zi hT h1 hgm h2
 have:ß B g=ß T g:=by
  refine af7 (J5 _) (J5 _) fun d=>?_;refine⟨fun hd=>?_,fun hd=>?_⟩
  ·have hd:d∈T7 (Fu B g):=hd;show d∈T7 (Fu T g);rw[oU,hb] at hd;simp only[Fu,cM,df,dH,eG,fp,f7,or_false,cP] at hd;rcases hd with hd|⟨n,⟨hn,hn1⟩,rfl⟩
   ·rw[oU]; simp[Fu,hd]
   ·rcases hn with hn|hn
    ·rw[oU];simp only[Fu,cM,df,dH];exact .inr ⟨n,⟨hn,hn1⟩,rfl⟩
    ·obtain⟨g',h1,d,h2,h3⟩:∃g'∈T.2.1,∃d∈ß T g',((g'.1,d):Int×Int)=n:=by
      have:=hex n hn;simp only[Ê,dk,df] at this;obtain⟨g',h1,d,h2,h3⟩:=this;exact⟨g',h1,d,h2,h3⟩
     subst h3
     have hn1':g'.1=g.1:=by simpa using hn1
     rw[uniq g' h1 hn1'] at h2;exact h2
  ·have hm:((g.1,d):Int×Int)∈Ê T:=by
    simp only[Ê,dk,df];exact⟨g,hgm,d,hd,rfl⟩
   obtain⟨g',h1,h2,h3⟩:=hall _ hm;rw[hg] at h1;rw[uniq g' h1 h2] at h3;exact h3
 rw[this]
def ajM {T B:ë} {ex:List (Int×Int)} (hb:B=(T.1,T.2.1,T.2.2.1,T.2.2.2.1,[],T.2.2.2.2.2++ex)) (hN:Ê B=Ê T) (x:List Int) (k:Nat) (n:Int×Int):BP B x k n=BP T x k n:=by
 unfold BP;rw[hN];subst hb;rfl
def Xq {T B:ë} (hN:Ê B=Ê T) (x:List Int):Ŭ B x=Ŭ T x:=by unfold Ŭ; rw[hN]
def afZ {T B:ë} {ex:List (Int×Int)} (hT:Ł T) (hB:Ł B) (hb:B=(T.1,T.2.1,T.2.2.1,T.2.2.2.1,[],T.2.2.2.2.2++ex)) (hN:Ê B=Ê T) {x:List Int} (hx:Pf B x=true)
 (hc:∀c∈T.2.2.2.2.1,oS T c x+aen T c≤c.2.2.2.2.1∧c.2.2.2.2.1≤oS T c x+MM T c):Pf T x=true:=by
 refine(aa1 hT).2 ⟨fun k n hk=>?_,hc⟩;rw[←ajM hb hN];exact((aa1 hB).1 hx).1 k n (by rw[hN]; exact hk)
def ajk {b:ë} (h:b.2.2.2.2.1.length≤1000):JO b=some (b.2.2.2.2.1.map (·.1)):=by
 unfold JO Rp
 refine wn b.2.2.2.2.1 (fun c:Cmp=>c.1) (fun z=>some z) (fun i a hi ha v kn hv=>?_) (fun v kn=>?_)<;>(try dsimp only)<;>unfold BU
 ·rw[Ð hi,È ha,ċ (Õ (by simp; omega)),Ì hi (by omega)]
 ·rw[Þ]
def ajN (T:ë) (x:List Int) (c:Cmp):Bool:=!Ŭ T x||(decide (MM T c<aen T c)||(decide (c.2.2.2.2.1<oS T c x+aen T c)||decide (oS T c x+MM T c<c.2.2.2.2.1)))
def aiI {T:ë} (hT:Ł T) (hI:In T) (x:List Int) (Z:Option Bool):Ë (fun(v:Int) kk=>kp x T.1.1 T.1.2 T.2.1 T.2.2.1 T.2.2.2.1 T.2.2.2.2.1 T.2.2.2.2.2 v (fun u=>kk u) (fun z=>some z) (fun _=>Z)) 0=if T.2.2.2.2.1.any (ajN T x) then some true else Z:=by
 have hC:=hT.nC
 refine Ĺ T.2.2.2.2.1 (ajN T x) (fun _=>some true) (some true) Z (fun _=>rfl) (fun i a hi ha kn=>?_) (fun kn=>?_)<;>(try dsimp only)<;>unfold kp
 ·have hw:ů T (i:Int)=(a,0):=by
   rw[abF hT,if_neg (by omega),cT,ha]; rfl
  rw[Ð hi,show uT ((T.1.1,T.1.2),T.2.1,T.2.2.1,T.2.2.2.1,T.2.2.2.2.1,T.2.2.2.2.2) i x=uT T i x from rfl,ah1 hI,À,zr];unfold agc ajN;rw[hw,if_neg (by simp)]
  cases hl:Ŭ T x with
  |false=>rfl
  |true =>
   dsimp only;rw[if_neg (by simp)];unfold aab
   by_cases h1:MM T a<aen T a
   ·rw[if_pos h1]; simp[h1,ine,Ď]
   ·rw[if_neg h1,Í (by rfl),È ha,È ha,Ì hi (by omega)]
    by_cases h2:a.2.2.2.2.1<oS T a x+aen T a
    ·rw[Ø (by simpa[ilt] using h2)]; simp[h1,h2]
    ·rw[Í (by simpa[ilt] using h2)]
     by_cases h3:oS T a x+MM T a<a.2.2.2.2.1
     ·rw[Ø (by simpa[igt] using h3)]; simp[h1,h2,h3]
     ·rw[Í (by simpa[igt] using h3)]; simp[h1,h2,h3]
 ·rw[Þ]
abbrev agl:Type:=Int×Int×List ò×List (Int×Int)×List NH×List Cmp×List (Int×Int)
def bkF (s:agl):ë:=((s.1,s.2.1),s.2.2.1,s.2.2.2.1,s.2.2.2.2.1,s.2.2.2.2.2.1,s.2.2.2.2.2.2)
def flB (b:ë):agl:=(b.1.1,b.1.2,b.2.1,b.2.2.1,b.2.2.2.1,b.2.2.2.2.1,b.2.2.2.2.2)
def aiH {b:ë} (hg:Ł b) (hn:∀g∈b.2.1,I64 g.2.2.2.2.1.1) {ns:List (Int×Int)} (hl:ns.length≤1000) (K:agl→Option Bool) :
 Ë (fun(v:Int×agl) kk=>iQ ns v.1 v.2.1 v.2.2.1 v.2.2.2.1 v.2.2.2.2.1 v.2.2.2.2.2.1 v.2.2.2.2.2.2.1 v.2.2.2.2.2.2.2 (fun u63 u64 u65 u66 u67 u68 u69 u70=>kk (u63,u64,u65,u66,u67,u68,u69,u70)) (fun z=>some z.1) K) ((0:Int),flB b) =
  if (oV b ns).2=0 then K (flB (oV b ns).1) else some true:=by
 refine JJ ns (fun(i:Nat) (s:agl) (t:List (Int×Int))=>if (oV (bkF s) t).2=0 then K (flB (oV (bkF s) t).1) else some true) (fun i s=>Ł (bkF s)∧∀g∈(bkF s).2.1,I64 g.2.2.2.2.1.1) (fun s hs kn=>?_) (fun i n t s hd hi ha hs kn hk=>?_) (s:=flB b) ⟨hg,hn⟩
 ·dsimp only;unfold iQ;rw[Þ];rfl
 ·dsimp only;unfold iQ;obtain⟨hs1,hs2⟩:=hs;have hin:In (bkF s):=hs1.inn hs2;rw[Ð hi,È ha,È ha,zr];rw[show ka ((s.1,s.2.1),s.2.2.1,s.2.2.2.1,s.2.2.2.2.1,s.2.2.2.2.2.1,s.2.2.2.2.2.2) n=ka (bkF s) n from rfl,FK hin,À];rw[show wB ((s.1,s.2.1),s.2.2.1,s.2.2.2.1,s.2.2.2.2.1,s.2.2.2.2.2.1,s.2.2.2.2.2.2) n=wB (bkF s) n from rfl,agi hin,À,ZO hs1]
  have hu:oV (bkF s) (n::t)=if (iB (bkF s) n).2≠0 then(Jr,(iB (bkF s) n).2) else oV (iB (bkF s) n).1 t:=rfl
  rw[hu]
  by_cases h0:Jm (bkF s) n.1 n.2=0
  ·rw[if_pos h0,Í (by rfl)]
   by_cases h2:ñ (Ő (bkF s) n)=0
   ·have e:iB (bkF s) n=(Ő (bkF s) n,0):=by unfold iB; rw[if_neg (by simp[h0]),if_neg (by simp[h2])]
    have e2:ZN (bkF s) n=(Ő (bkF s) n,0):=by unfold ZN; rw[if_neg (by simp[(ö (bkF s)).2 hs1]),if_neg (by simp[h2])]
    rw[e2,e,Í (by rfl),Ì hi (by omega),if_neg (show ¬((0:Int)≠0) by simp)];exact hk (s.1,s.2.1,s.2.2.1,s.2.2.2.1,s.2.2.2.2.1,s.2.2.2.2.2.1,s.2.2.2.2.2.2++[n]) ⟨(ö _).1 h2,hs2⟩
   ·have e:iB (bkF s) n=(Jr,ñ (Ő (bkF s) n)):=by unfold iB; rw[if_neg (by simp[h0]),if_pos h2]
    have e2:ZN (bkF s) n=(Jr,ñ (Ő (bkF s) n)):=by unfold ZN; rw[if_neg (by simp[(ö (bkF s)).2 hs1]),if_pos h2]
    rw[e2,e,Ø (bne_iff_ne.2 h2),if_pos h2,if_neg h2];rfl
  ·have e:iB (bkF s) n=(bkF s,0):=by unfold iB; rw[if_pos h0]
   rw[if_neg h0,Ø (by rfl),Ì hi (by omega),e,if_neg (show ¬((0:Int)≠0) by simp)];exact hk s ⟨hs1,hs2⟩
def ajj {b:ë} (h:Ł b) {k:Nat} {n:Int×Int} (hk:(Ê b)[k]?=some n):Jm b n.1 n.2=(k:Int)+1:=by
 have hn:Jm b n.1 n.2≠0:=fun e=>(Tn h).1 e (List.mem_of_getElem? hk);unfold Jm at hn ⊢
 cases hx:jg (Ê b) n.1 n.2 with
 |none=>rw[hx] at hn; exact absurd rfl hn
 |some j =>
  obtain⟨h1,h2⟩:=jD hx;have hkl:=(cI.1 hk).1
  have e:(Ê b)[j]?=(Ê b)[k]?:=by rw[h2,hk]
  have:=(List.getElem?_inj h1 (pU h.ids)).1 e;rw[this]
def aiF {x:List Int} {nodes:List (Int×Int)} {could:List (Int×Int×Int)} {who d:Int} {i:Nat} {c:Int×Int×Int} (hc:could[i]?=some c) (hx:x.length=nodes.length) (hl:nodes.length≤1000)
 (hok:∀k:Nat,nodes[k]?=some (who,d)→∀y,x[k]?=some y→c.2.1≤y∧y≤c.2.2) (k0:Bool→Option Bool) (Z:Option Bool):Ë (fun(v:Int) kk=>km x d nodes could who i v (fun u=>kk u) k0 (fun _=>Z)) 0=Z:=by
 refine aeq nodes Z (fun k n hk hn kn=>?_) (fun kn=>?_)<;>(try dsimp only)<;>unfold km
 ·have hxk:x[k]?=some x[k]:=cF (by omega);rw[Ð hk,È hn]
  by_cases hb:n=(who,d)
  ·obtain⟨h1,h2⟩:=hok k (by rw[hn,hb]) _ hxk;rw[Ø (by rw[hb]; simp[xc]),È hxk,È hc,Í (decide_eq_false (by omega)),È hxk,È hc,Í (decide_eq_false (by omega)),Ì hk (by omega)]
  ·rw[Í (by
    cases he:(xc n.1 who&&(xc n.2 d&&true)) with
    |false=>rfl
    |true =>
     simp only[xc,Bool.and_true,cH,decide_eq_true_eq] at he
     exact absurd (Prod.ext he.1 he.2) hb),Ì hk (by omega)]
 ·rw[Þ]
def aiG {x:List Int} {nodes:List (Int×Int)} {could:List (Int×Int×Int)} {who d:Int} (hcl:could.length≤1000) (hx:x.length=nodes.length) (hl:nodes.length≤1000) (he:∃c∈could,c.1=who)
 (hok:∀c∈could,c.1=who→∀k:Nat,nodes[k]?=some (who,d)→∀y,x[k]?=some y→c.2.1≤y∧y≤c.2.2):Ë (fun(v:Int) kk=>iP x d nodes could who v (fun u=>kk u) (fun z=>some z) (fun _=>some false)) 0=some true:=by
 refine(Ĺ could (fun c=>c.1==who) (fun _=>some true) (some true) (some false) (fun _=>rfl) (fun i a hi ha kn=>?_) (fun kn=>?_)).trans ?_
 ·try dsimp only
  unfold iP;rw[Ð hi,È ha]
  by_cases h1:a.1=who
  ·rw[Í (by simp[ine,h1]),if_pos (by simp[h1]),aiF ha hx hl (hok a (cO ha) h1),zr]; rfl
  ·rw[Ø (by simp[ine,h1]),if_neg (by simp[h1]),Ì hi (by omega)]
 ·try dsimp only
  unfold iP;rw[Þ]
 ·obtain⟨c,h1,h2⟩:=he;rw[if_pos (dj.2 ⟨c,h1,by simp[h2]⟩)]
def adl {m:ŕ} (h:MOk m) {w:Way} (hw:w∈iZ m) {x:List Int} (hx:Js (trP m w) x=(true,0)) {label d:Int} (hk:lN m.1 label d=0) (hs:QT m (label,d)=0) :
 (∃c∈(oN m label d).1,c.1=η m.2 w label d)∧∀c∈(oN m label d).1,c.1=η m.2 w label d→∀k:Nat,(Ê (trP m w))[k]?=some (η m.2 w label d,d)→∀y,x[k]?=some y→c.2.1≤y∧y≤c.2.2:=by
 obtain⟨ho,hex⟩:=JM hw;have hR:=adJ h ho hex
 have hne:iZ m≠[]:=fun e=>by rw[e] at hw; cases hw
 have hc:(oN m label d).1=m.1.2.1.filterMap fun g=>(l5 (k:=tI) (v:=Ã) g.1 (kS m label d (iZ m))).map fun s=>(g.1,s):=by
  rw[zb h,if_neg (by simp[hk]),if_neg hne,if_neg (by simp[hs])]
 rw[hc];have hkn:=(MD.1 hk).2;have hall:aiz m label d (iZ m) (η m.2 w label d) (l5 (k:=tI) (v:=Ã) (η m.2 w label d) (kS m label d (iZ m))):=Qr _ _ _ rfl;constructor
 ·obtain⟨g,hg⟩:=h.whoK (d:=d) ho hkn;obtain⟨h1,h2⟩:=Τ hg
  cases hm:l5 (k:=tI) (v:=Ã) (η m.2 w label d) (kS m label d (iZ m)) with
  |none=>rw[hm] at hall; exact absurd rfl (hall w hw)
  |some s=>exact⟨(g.1,s),List.mem_filterMap.2 ⟨g,h1,by rw[h2,hm]; rfl⟩,h2⟩
 ·intro c hcm hcw k hn y hy;obtain⟨g,h1,h2⟩:=List.mem_filterMap.1 hcm
  cases hm:l5 (k:=tI) (v:=Ã) g.1 (kS m label d (iZ m)) with
  |none=>rw[hm] at h2; cases h2
  |some s =>
   rw[hm] at h2;cases h2;have hcw:g.1=η m.2 w label d:=hcw;rw[hcw] at hm;rw[hm] at hall;obtain⟨_,_,h3⟩:=hall;obtain⟨h4,h5⟩:=h3 w hw rfl;have hI:=ajj hR.good hn
   have hwl:abH m label d w=ivR (trP m w) (η m.2 w label d,d):=by
    have e:iB (trP m w) (η m.2 w label d,d)=(trP m w,0):=by
     unfold iB; rw[if_pos (by rw[hI]; omega)]
    unfold abH wp;rw[e,if_neg (by simp)]
   have h6:=ajr hR hx (η m.2 w label d,d);rw[hI,ahl (by omega),show((k:Int)+1-1)=(k:Int) by omega] at h6
   have hgv:gv x (k:Int)=y:=by unfold gv; rw[Int.toNat_natCast,hy]; rfl
   rw[hgv] at h6;rw[hwl] at h4 h5;exact⟨Int.le_trans h4 h6.1,Int.le_trans h6.2 h5⟩
def adm {m:ŕ} (h:MOk m) {w:Way} (ho:Ħ m.2 w) {T:ë} (hT:T=trP m w) {x:List Int} (hbad:¬T.2.2.2.2.1.any (ajN T x)=true) (hr:(oV (less T (T.2.2.2.2.1.map (·.1))) (Ê T)).2=0) (hf:Js (oV (less T (T.2.2.2.2.1.map (·.1))) (Ê T)).1 x=(true,0)):Js T x=(true,0)∧mZ m w=true:=by
 have hTg:Ł T:=by rw[hT]; exact oA h ho
 have hless:less T (T.2.2.2.2.1.map (·.1))=(T.1,T.2.1,T.2.2.1,T.2.2.2.1,[],T.2.2.2.2.2):=by
  unfold less;rw[List.filter_eq_nil_iff.2 fun c hc=>by simp only[Bool.not_eq_true,Bool.not_eq_false',List.contains_iff_mem]; exact List.mem_map.2 ⟨c,hc,rfl⟩]
 have hLg:Ł (less T (T.2.2.2.2.1.map (·.1))):=hTg.less _;obtain⟨ex,h1,h2⟩:=Ka _ _ hr
 have hb:(oV (less T (T.2.2.2.2.1.map (·.1))) (Ê T)).1=(T.1,T.2.1,T.2.2.1,T.2.2.2.1,[],T.2.2.2.2.2++ex):=by
  rw[h2,hless]; rfl
 have hBg:=J9 hLg hr;have hN:=acS hTg hBg hb h1 (UC hLg hr);obtain⟨_,h3,h4⟩:=XA.1 hf
 have h3':Ŭ T x=true:=by rw[←Xq hN]; exact h3
 have hfT:Pf T x=true:=afZ hTg hBg hb hN h4 fun c hc=>by
  have h5:ajN T x c=false:=by
   cases e:ajN T x c with
   |false=>rfl
   |true=>exact absurd (dj.2 ⟨c,hc,e⟩) hbad
  unfold ajN at h5;simp only[Bool.or_eq_false_iff,decide_eq_false_iff_not] at h5;obtain⟨_,_,h6,h7⟩:=h5;omega
 refine⟨?_,?_⟩
 ·rw[acX hTg,if_pos h3',hfT]
 ·have:=aeY hTg hfT;rw[hT] at this;exact this
def agz {m:ŕ} (hn:∀g∈m.1.2.1,I64 g.2.2.2.2.1.1) (which:Int) (x:List Int) (label d:Int):wu m which x label d=some true:=by
 unfold wu vt;rw[adB,À,zr]
 by_cases hs:Us m=true
 case neg=>rw[eh.2 hs]; rfl
 have h7:=adC hs hn;have hl6:=h7.n6;rw[hs,Í (by rfl),Ò]
 by_cases hx70:(70:Int)<x.length
 case pos=>rw[Ø (by simpa[igt] using hx70)]; rfl
 rw[Í (by simpa[igt] using hx70)]
 by_cases hwh:which<0
 case pos=>rw[Ø (by simpa[ilt] using hwh)]; rfl
 rw[Í (by simpa[ilt] using hwh),agb h7.inn (by omega),À]
 by_cases hc:ļ m=0
 case neg=>rw[if_pos hc,Ø (by simp[ine,hc]),À,lQ]; simp[ine,hc]
 have h:=(Ŋ m).1 hc;have hl2:=qS h;obtain⟨t,ht,_⟩:=abG h.nd
 have hpos:0<(ĥ m.2).length:=by rw[ht]; simp
 rw[if_neg (by simp[hc]),Í (by rfl)];dsimp only
 have hne:¬((ĥ m.2).length:Int)=0:=by omega
 rw[Ò,Í (beq_eq_false_iff_ne.2 hne),Í (decide_eq_false hne)];obtain⟨i,hi⟩:=fJ (Int.tmod_nonneg ((ĥ m.2).length:Int) (show 0≤which by omega))
 have hil:i<(ĥ m.2).length:=by
  have:=Int.tmod_lt_of_pos which (show(0:Int)<((ĥ m.2).length:Int) by omega);rw[hi] at this;omega
 have hx:(ĥ m.2)[i]?=some (ĥ m.2)[i]:=List.getElem?_eq_getElem hil;have ho:=pP hx;have hmw:=List.mem_of_getElem? hx;have hsh:=ade h ho;have hask:sK m (ĥ m.2)[i]=0:=wI.2 ⟨h,ho⟩;rw[hi,È hx,Xw h7.inn (by omega) hsh,À,HB,if_neg (by simp[hask])];generalize (ĥ m.2)[i]=w at ho hmw hsh hask;have hTI:In (trP m w):=In_tr h ho;have hTg:Ł (trP m w):=oA h ho;have hTl:=adp h ho;have hN:=hTg.nodes;have hC:=hTg.nC;generalize hT:trP m w=T at hTI hTg hTl hN hC;dsimp only;have hcT:ñ T=0:=(ö T).2 hTg;have hcM:ñ m.1=0:=(ö m.1).2 h.good;rw[aby hTI,À,aby h7.inn,À,Í (by rfl),kE hTI.size hTI.num,À,hcT,Í (by rfl)];unfold agf;rw[if_neg (by simp[hcT]),if_neg (by simp[hcM]),Í (by rfl),Í (by rfl)];dsimp only;rw[Ò,Ò,hTl,Í (by simp[ine])]
 by_cases hxl:x.length=(Ê T).length
 case neg=>rw[Ø (by rw[←hTl]; simp[ine]; omega)]; rfl
 rw[Í (by rw[←hTl]; simp[ine]; omega),aiI hTg hTI x]
 split
 ·rfl
 rename_i hbad;have hLg:Ł (less T (T.2.2.2.2.1.map (·.1))):=hTg.less _;rw[ajk (by omega),À,acT hTI (by simp; omega),À,T2,if_neg (by simp[hcT]),Í (by rfl)];dsimp only
 rw[show((0:Int),(less T (T.2.2.2.2.1.map (·.1))).1.1,(less T (T.2.2.2.2.1.map (·.1))).1.2,(less T (T.2.2.2.2.1.map (·.1))).2.1,(less T (T.2.2.2.2.1.map (·.1))).2.2.1,(less T (T.2.2.2.2.1.map (·.1))).2.2.2.1,(less T (T.2.2.2.2.1.map (·.1))).2.2.2.2.1,(less T (T.2.2.2.2.1.map (·.1))).2.2.2.2.2)=((0:Int),flB (less T (T.2.2.2.2.1.map (·.1)))) from rfl,
  aiH hLg hTI.num (by omega)]
 split
 case isFalse=>rfl
 rename_i hr;generalize hB:(oV (less T (T.2.2.2.2.1.map (·.1))) (Ê T)).1=B
 have hBg:Ł B:=by rw[←hB]; exact J9 hLg hr
 have hBn:∀g∈B.2.1,I64 g.2.2.2.2.1.1:=by
  obtain⟨ex,_,h2⟩:=Ka _ _ hr;rw[←hB,h2]; exact hTI.num
 dsimp only[flB];rw[show(((B.1.1,B.1.2),B.2.1,B.2.2.1,B.2.2.2.1,B.2.2.2.2.1,B.2.2.2.2.2):ë)=B from rfl,ajR hBg.size hBn,À]
 by_cases hf2:(Js B x).2=0
 case neg=>rw[Ø (by simp[ine,hf2])]; rfl
 rw[Í (by simp[ine,hf2])]
 by_cases hf1:(Js B x).1=true
 case neg=>rw[Ø (by simp[hf1])]; rfl
 rw[Í (by simp[hf1])];obtain⟨hfT,hex⟩:=adm h ho hT.symm hbad hr (by rw[hB]; exact Prod.ext hf1 hf2);rw[ZQ h7.inn (by omega) hsh,À,NI,if_neg (by simp[hask]),hex,Í (by rfl),Í (by rfl),XB h7.inn (by omega),À,aga h7.inn (by omega) hsh,À]
 by_cases hk:lN m.1 label d=0
 case neg =>
  have:(oN m label d).2≠0:=by rw[zb h,if_pos hk]; exact hk
  rw[Ø (by simp[ine,this])]; rfl
 by_cases hse:QT m (label,d)=0
 case neg =>
  have:(oN m label d).2≠0:=by
   rw[zb h,if_neg (by simp[hk])]
   split
   ·simp
   ·first|exact hse|(rw[if_pos hse]; exact hse)
  rw[Ø (by simp[ine,this])]; rfl
 have hw:w∈iZ m:=dH.2 ⟨hmw,hex⟩
 have hgne:iZ m≠[]:=fun e=>by rw[e] at hw; cases hw
 have hc0:(oN m label d).2=0:=by rw[zb h,if_neg (by simp[hk]),if_neg hgne,if_neg (by simp[hse])]
 have hcl:(oN m label d).1.length≤1000:=by
  have hG:=h.good.nG;rw[zb h,if_neg (by simp[hk]),if_neg hgne,if_neg (by simp[hse])];exact cY (List.length_filterMap_le _ _) (by omega)
 rw[Í (by simp[ine,hc0]),WhoP,if_neg (by simp[hask]),if_neg (by simp[hk]),Í (by rfl)];obtain⟨q1,q2⟩:=adl h hw (by rw[hT]; exact hfT) hk hse;rw[hT] at q2;exact aiG hcl hxl (by omega) q1 q2
end Go.Proofs.ZzM
end
